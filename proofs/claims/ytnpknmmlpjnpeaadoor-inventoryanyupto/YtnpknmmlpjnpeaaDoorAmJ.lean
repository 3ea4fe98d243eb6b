/- What a law's walk and its plain proof need, part 10: no condition of its own. -/
import Derived.Shelf.Strings.Count
import Derived.Test.YtnpknmmlpjnpeaaDoorProg
import Derived.Test.YtnpknmmlpjnpeaaDoorAmC
import Derived.Test.YtnpknmmlpjnpeaaDoorAmD
import Derived.Test.YtnpknmmlpjnpeaaDoorAmE
import Derived.Test.YtnpknmmlpjnpeaaDoorAmI
set_option linter.unusedSimpArgs false
set_option linter.unusedVariables false
set_option linter.unusedSectionVars false
namespace Go.Proofs
open Go.Shelf
def Tryd.lays138_ren : Go.Shelf.Ren := ⟨fun | 138 => 83 | 195 => 90 | 218 => 91 | 143 => 84 | 219 => 92 | 217 => 79 | 225 => 96 | 224 => 97 | 267 => 98 | 266 => 89 | 314 => 99 | n => n, fun | 9 => 9 | 3 => 3 | 4 => 4 | 5 => 5 | 0 => 0 | 46 => 124 | 146 => 129 | 51 => 29 | n => n, fun | 1 => 0 | n => n⟩
theorem Tryd.lays138 : Go.Proofs.Lays.n138 Tryd.prog Tryd.lays138_ren := {
  mixed := by kernel_rfl
  f138 := Tryd.func83.trans (congrArg some (by kernel_rfl))
  f143 := Tryd.func84.trans (congrArg some (by kernel_rfl))
  f195 := Tryd.func90.trans (congrArg some (by kernel_rfl))
  f217 := Tryd.func79.trans (congrArg some (by kernel_rfl))
  f218 := Tryd.func91.trans (congrArg some (by kernel_rfl))
  f219 := Tryd.func92.trans (congrArg some (by kernel_rfl))
  f224 := Tryd.func97.trans (congrArg some (by kernel_rfl))
  f225 := Tryd.func96.trans (congrArg some (by kernel_rfl))
  f266 := Tryd.func89.trans (congrArg some (by kernel_rfl))
  f267 := Tryd.func98.trans (congrArg some (by kernel_rfl))
  f314 := Tryd.func99.trans (congrArg some (by kernel_rfl))
  t0 := Tryd.underlying0
  a0 := Tryd.isAgg0
  z0 := Tryd.sizeOf0
  v0 := Tryd.zeroValue0
  t3 := Tryd.underlying3
  a3 := Tryd.isAgg3
  z3 := Tryd.sizeOf3
  v3 := Tryd.zeroValue3
  t4 := Tryd.underlying4
  a4 := Tryd.isAgg4
  z4 := Tryd.sizeOf4
  v4 := Tryd.zeroValue4
  t5 := Tryd.underlying5
  a5 := Tryd.isAgg5
  z5 := Tryd.sizeOf5
  v5 := Tryd.zeroValue5
  t9 := Tryd.underlying9
  a9 := Tryd.isAgg9
  z9 := Tryd.sizeOf9
  v9 := Tryd.zeroValue9
  t46 := Tryd.underlying124
  a46 := Tryd.isAgg124
  z46 := Tryd.sizeOf124
  v46 := Tryd.zeroValue124
  t51 := Tryd.underlying29
  a51 := Tryd.isAgg29
  z51 := Tryd.sizeOf29
  v51 := Tryd.zeroValue29
  t146 := Tryd.underlying129
  a146 := Tryd.isAgg129
  z146 := Tryd.sizeOf129
  v146 := Tryd.zeroValue129
  g1 := by kernel_rfl }
open Go.RowKit Go.Lib in
theorem Tryd.strings_Count_one (s : ByteArray) (c : UInt8) (w : World) :
    Calls Tryd.prog 83 #[.string s, .string ⟨#[c]⟩] w fun e w' => e = .returned (.int .i64 (Lib.countByte s.data.toList c)) ∧ w' = w := Any.strings_Count_one Tryd.lays138 s c w
end Go.Proofs
set_option linter.unusedVariables false
namespace Go.AM
open Go.RowKit Go.ChangeShapes
theorem callF_of_pure {P : Program} {f : FuncId} {args : List PV} {r : PV} (h : Pure (sems P) f (args.map .p) (.p r))
    {W : World} {vs : Array Value} (hsz : vs.size = args.length) (hr : ∀ i, i < args.length → RepP W (fun _ _ => False) (vs.getD i undef) (args.getD i default)) :
    CallF P f vs W fun e w' => ∃ v, e = .returned v ∧ RepP w' (fun _ _ => False) v r ∧ Kept W w' := by
  refine (h (Prot.triv P (outC W) fun _ _ h => h) (outC W) W vs _ rfl (sat_out hsz hr) (by simpa using hsz)).mono ?_
  rintro e w' ⟨C', r', objs', ks, rho', rfl, ⟨rfl, rfl, rfl⟩, hE, ⟨v, rfl, hv⟩, _⟩
  refine ⟨v, rfl, ?_, hE.ext.1, hE.ext.2, hE.size, fun b hb => hE.same b hb fun h => h⟩
  have hno : ∀ j, rget (objRegs []) j = none := fun j => by simp [objRegs, objRegs.go, rget]
  exact hv.toP.keeps fun b o v hp hc => ⟨hc, fun h => h⟩
theorem ro_slice {P : Program} {f : FuncId} {e : TypeId} {k n : Nat} {g : Nat → List PV} {rest : List PV} {r : PV} (hp : Pure (sems P) f ((.sl false k n g :: rest).map .p) (.p r))
    (hr : ∀ {w w' : World} {Pi Pi' : Nat → Nat → Prop} {v : Value}, RepP w Pi v r → RepP w' Pi' v r) :
    FunO (sems P) f (.vec 0 :: rest.map .p) [.vec e k n g false] (.p r) [.vec e k n g false] [true] := by
  intro 𝒢 C w vs rho hG hs hsz
  have hR : ∀ j o, rget (objRegs [Obj.vec e k n g false]) j = some o → j = 0 ∧ o = .vec e k n g false := fun j o hj => by
    simp only [objRegs, objRegs.go, rget] at hj
    split at hj
    · rename_i hj0; cases hj; exact ⟨hj0.symm, rfl⟩
    · cases hj
  have hR0 : rget (objRegs [Obj.vec e k n g false]) 0 = some (.vec e k n g false) := rfl
  have hkF : ∀ {v : Value} {x : PV}, RepP w (Prv C.X (rget (objRegs [Obj.vec e k n g false])) rho) v x → RepP w (fun _ _ => False) v x := fun h => h.keeps fun b o v hp hc => ⟨hc, fun h => h⟩
  have hh := hs.hp.holds 0 _ hR0
  have h0 : RepA w _ _ rho (vs.getD 0 undef) (get (argEnv (.vec 0 :: rest.map .p)) 0) := hs.env 0
  rw [argEnv_get] at h0
  have h0 : RepA w _ _ rho (vs.getD 0 undef) (.vec 0) := h0
  have hv0 : RepP w (fun _ _ => False) (vs.getD 0 undef) (.sl false k n g) := by
    generalize vs.getD 0 undef = v at h0
    cases h0 with
    | vec _ base n' cap hl hrho =>
      rw [hrho] at hh
      rcases hh with ⟨hn, rfl⟩ | ⟨b, cap', c, hb, h1, h2, h3, h4, h5, h6⟩
      · cases hn; exact .slnil k g
      · cases hb
        refine .sl false b 0 cap k n g (fun i j => c.getD (i * k + j) undef) h2 h5 (fun i j hi hj => ?_) (fun i j hi hj => hkF (h6 i j hi hj).1) none (fun _ => rfl)
        have hlt := mul_add_lt hi hj
        have hle : n * k ≤ c.size := by rw [h3]; exact Nat.mul_le_mul_right k h2
        rw [Nat.zero_add]
        exact ⟨cell_of_heap h1 (by omega), fun h => h, (h6 i j hi hj).2⟩
  have hvs : ∀ i, i < (PV.sl false k n g :: rest).length → RepP w (fun _ _ => False) (vs.getD i undef) ((PV.sl false k n g :: rest).getD i default) := fun i hi => by
    cases i with
    | zero => exact hv0
    | succ i =>
      have h1 := hs.env (i + 1)
      rw [argEnv_get] at h1
      have hi' : i < rest.length := by simpa using hi
      have e1 : (AV.vec 0 :: rest.map .p).getD (i + 1) .top = .p (rest.getD i default) := by simp [List.getD_eq_getElem?_getD, hi']
      rw [e1] at h1
      exact hkF h1.toP
  have hsz' : vs.size = (PV.sl false k n g :: rest).length := by simpa using hsz
  refine (callF_of_pure hp hsz' hvs).mono ?_
  rintro e' w' ⟨v, rfl, hv, hk⟩
  have hcell : ∀ b o u, w.cell? ⟨b, o, none⟩ = some u → w'.cell? ⟨b, o, none⟩ = some u := fun b o u hc => by
    rw [← hc]; exact World.cell?_of_block (hk.block b (World.block_lt_of_cell? w ⟨b, o, none⟩ hc))
  have hK : Keeps w (Prv C.X (rget (objRegs [Obj.vec e k n g false])) rho) w' (Prv C.X (rget (objRegs [Obj.vec e k n g false])) rho) := fun b o u hp hc => ⟨hcell b o u hc, hp⟩
  refine ⟨C, .ret (.p r), [.vec e k n g false], [true], rho, hG, ⟨rfl, rfl, rfl⟩, ?_, ⟨v, rfl, .p _ _ (hr hv)⟩, fun i hi => ?_⟩
  · refine ⟨⟨fun j o hj => ?_, hs.hp.sep, hs.hp.out, fun b off hx => Nat.lt_of_lt_of_le (hs.hp.bound b off hx) hk.size⟩, hs.ext.trans ⟨hk.os, hk.output⟩, Nat.le_trans hs.size hk.size, fun b hlt hE => ?_, hs.keep.trans hK, hs.own, hs.yld⟩
    · exact (hs.hp.holds j o hj).keeps hK (fun i hi => ⟨hi, rfl⟩) fun b hb => hk.block b ((hs.hp.holds j o hj).lt hb)
    · rw [hk.block b (Nat.lt_of_lt_of_le hlt hs.size)]; exact hs.same b hlt hE
  · cases i with
    | zero => exact ⟨by simp, rfl⟩
    | succ i => simp at hi
end Go.AM
set_option linter.unusedVariables false
set_option linter.unusedSectionVars false
namespace Go.AM
open Go.Proofs
structure LibD (S : Sems) : Prop where
  count1 : ∀ (s : List UInt8) (c : UInt8), Pure S k_strings_Count [.p (.str s), .p (.str [c])] (.p (.v (.int .i64 (Lib.countByte s c))))
  joinM : ∀ (n : Nat) (g : Nat → List UInt8) (sep : List UInt8), n ≤ 140737488355328 → (Lib.join ((List.range n).map g) sep).length ≤ 140737488355328 →
    FunO S k_strings_Join [.vec 0, .p (.str sep)] [.vec t_string 1 n (fun i => cS (g i)) false] (.p (.str (Lib.join ((List.range n).map g) sep))) [.vec t_string 1 n (fun i => cS (g i)) false] [true]
theorem libD : LibD (sems Tryd.prog) where
  count1 s c := by
    refine pure_of_calls (args := [.str s, .str [c]]) (enters_of f_strings_Count (by decide +kernel) rfl) fun w Pi vs hb hs hr => ?_
    obtain ⟨a, b, rfl, ha, hb'⟩ := vs2 hs hr
    cases str_inv ha; cases str_inv hb'
    exact calls_str (Tryd.strings_Count_one ⟨s.toArray⟩ c w) fun _ _ => .p _ _ (.v _)
  joinM n g sep h1 h2 := ro_slice (k := 1) (rest := [.str sep]) (libC.join false n g sep h1 h2) fun h => by cases h; exact .str _
section
variable {S : Sems} (hS : Good S Tryd.prog) (hL : LibC S) (hD : LibD S)
include hS hL
def m_Uslices_Clone_sl_string_string (N : Nat) (s : Sl Str) : Option (Sl Str) := if (0 + s.n) * 16 ≤ 140737488355328 ∧ 0 + s.n ≤ 140737488355328 then some s else none
theorem w_Uslices_Clone_sl_string_string {N : Nat} {s y : Sl Str} (h : m_Uslices_Clone_sl_string_string N s = some y) : FunO S k_slices_Clone_sl_string_string [.p (vSl 1 cS s)] [] (.vec 0) [.vec t_string 1 y.n (fun i => cS (y.g i)) false] [] := by
  unfold m_Uslices_Clone_sl_string_string at h
  obtain ⟨c1, h⟩ := chkE h
  obtain rfl := someI h
  refine K_start hS f_slices_Clone_sl_string_string ?_
  refine K_nil hS trivial 3 (k := 1) (n := s.n) (f := fun i => cS (s.g i)) (fun h0 => ?_) ?_
  · obtain ⟨n, g⟩ := s
    obtain rfl : n = 0 := h0
    exact K_retO hS trivial ⟨[(2, .vec 3700)], [(3700, .vec t_string 1 0 (fun i => cS (g i)) false)]⟩ [3700] (ids := []) ⟨rfl, rfl, rfl⟩
  · exact K_retO hS (And.intro (rfl : true = true) c1) ⟨[(2, .vec 8000)], [(8000, .vec t_string 1 s.n (fun i => cS (s.g i)) false)]⟩ [8000] (ids := [(8000, 8000)]) ⟨rfl, rfl, rfl⟩
      (hle := klR [(0, .fn (0 + s.n) s.n (appF 0 (lookF [.str []] []) (fun i => cS (s.g i))) (fun i => cS (s.g i)))] (al1 ⟨Nat.zero_add _, fun i _ => by simp [appF]⟩ al0))
include hD
def m_strings_Count (N : Nat) (s t : Str) : Option Int := match t with
  | [c] => some ((Lib.countByte s c : Nat) : Int)
  | _ => none
theorem w_strings_Count {N : Nat} {s t : Str} {y : Int} (h : m_strings_Count N s t = some y) : FunO S k_strings_Count [.p (.str s), .p (.str t)] [] (.p (pI .i64 y)) [] [] := by
  unfold m_strings_Count at h
  split at h
  · cases h; exact hD.count1 s _
  · cases h
theorem w_strings_JoinM {N : Nat} {s : Sl Str} {t : Str} {y : Str} (h : m_strings_Join N s t = some y) : FunO S k_strings_Join [.vec 0, .p (.str t)] [.vec t_string 1 s.n (fun i => cS (s.g i)) false] (.p (.str y)) [.vec t_string 1 s.n (fun i => cS (s.g i)) false] [true] := by
  simp only [m_strings_Join, Option.ite_none_right_eq_some, Option.some.injEq] at h
  obtain ⟨⟨h1, h2⟩, rfl⟩ := h
  exact hD.joinM s.n s.g t h1 h2
end
end Go.AM