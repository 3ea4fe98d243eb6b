/- What a law's walk and its plain proof need, part 12: no condition of its own. -/
import Derived.Test.YtnpknmmlpjnpeaaDoorAmH
import Derived.Test.YtnpknmmlpjnpeaaDoorAmK
import Derived.Lay
set_option linter.unusedSimpArgs false
set_option linter.unusedVariables false
set_option linter.unusedSectionVars false
set_option linter.unusedVariables false
namespace Go.AM
open Go.RowKit Go.ChangeShapes Go.WideShapes Go.ChangeAt Go.Deep Go.Proofs Go.Proofs.YtnpknmmlpjnpeaaDoor
namespace InvFinds
set_option maxRecDepth 100000
theorem contract (H : Type) (enc : TypeId × Value → H) (W : World) (base : Nat) (args : Array Value) (ds gs : List (DataW H)) (before : List MemPlace)
    (hval : ∀ (j : Nat) t v, Tryd.f11.params[j]? = some t → args[j]? = some v → Value.okWide Tryd.prog W .any base t v)
    (hW : DataW.Whole enc Tryd.prog Tryd.f11.params.toList Rows.inventoryFindsSpec.vars false W args.toList ds gs before) (hk : Rows.uptoSmall H (ds ++ gs) = true) :
    Calls Tryd.prog 11 args W fun e W' => ∃ v, e = .returned v ∧ Rows.inventoryFindsSpec.post enc Tryd.prog Tryd.f11 false true false false W args v W' := by
  have hW' := hW
  obtain ⟨p, q, hA0, hV, rfl, hfz, hnd⟩ := hW
  have hA : DataW.TrodAll enc Tryd.prog W 0 (fun _ => true) true Tryd.f11.params.toList args.toList ds p := hA0
  rw [Tryd.params11] at hA hval
  obtain ⟨v0, vs0, d0, ds0, p0, q0, hargs, rfl, rfl, h0, r0⟩ := trodAll_cons hA
  obtain ⟨v1, vs1, d1, ds1, p1, q1, rfl, rfl, rfl, h1, r1⟩ := trodAll_cons r0
  obtain ⟨v2, vs2, d2, ds2, p2, q2, rfl, rfl, rfl, h2, r2⟩ := trodAll_cons r1
  obtain ⟨rfl, rfl, rfl⟩ := trodAll_nil r2
  obtain rfl : args = #[v0, v1, v2] := by cases args; simp_all
  obtain ⟨rfl, rfl⟩ := trodVars_none hV
  have hb := of_decide_eq_true hk
  simp only [List.append_nil, Rows.uptoBulkAll] at hb
  obtain ⟨a0, len0, cap0, hv0⟩ := okWide_slice Tryd.underlying49 (hval 0 49 v0 rfl rfl)
  obtain ⟨_, hv1⟩ := okWide_string Tryd.underlying9 (hval 1 9 v1 rfl rfl)
  obtain ⟨cs2, hv2, _⟩ := okWide_struct Tryd.underlying31 (hval 2 31 v2 rfl rfl)
  obtain ⟨fu0, g0⟩ := h0
  obtain ⟨fu1, g1⟩ := h1
  obtain ⟨fu2, g2⟩ := h2
  have hT : plainB Tryd.prog [49, 72, 9, 31, 29] = true := by kernel_rfl
  have hTl : ∀ t ∈ ([49, 72, 9, 31, 29] : List Nat), t < Tryd.prog.types.size := by decide +kernel
  obtain ⟨pv0, c0, sh0⟩ := open_cells kids1 bulkU hT hTl fu0 49 _ _ (by simp) g0
  obtain ⟨x0, l0, w0, s0⟩ := (opens_slice Tryd.underlying49 (by kernel_rfl) opens_Step) _ _ sh0
  have s0 : (sumF (fun i => sz_Step (x0.g i)) x0.n + 1) ≤ Rows.uptoBulk d0 := s0
  have e0 := rep_one (by rw [hv0]; rfl) (c0.leD l0)
  obtain ⟨pv1, c1, sh1⟩ := open_cells kids1 bulkU hT hTl fu1 9 _ _ (by simp) g1
  obtain ⟨x1, l1, w1, s1⟩ := (opens_str Tryd.underlying9) _ _ sh1
  have s1 : (x1.length + 1) ≤ Rows.uptoBulk d1 := s1
  have e1 := rep_one (by rw [hv1]; rfl) (c1.leD l1)
  obtain ⟨pv2, c2, sh2⟩ := open_cells kids1 bulkU hT hTl fu2 31 _ _ (by simp) g2
  obtain ⟨x2, l2, w2, s2⟩ := opens_Sound _ _ sh2
  have s2 : sz_Sound x2 ≤ Rows.uptoBulk d2 := s2
  have e2 := c2.leD l2
  rw [hv2] at e2
  have e2 := rep_agg e2
  rw [← hv2] at e2
  have hz := sz_steps s0
  have hP : FunO (sems Tryd.prog) k_ablautlaw03_InventoryFinds [(.p (vSl 3 c_Step x0)), (.p (.str x1)), (.p (.agg (c_Sound x2)))] [] (.p (.bb true)) [] [] :=
    w_ablautlaw03_InventoryFinds (good _) libC (Finds_eq x0 x1 x2 (fun i hi => okS_of (wf_sOf (w0 i hi).2)) (okS_of (wf_sOf w2)) (fun i hi => by have := hz.2 i hi; omega) (by omega) (by omega))
  have hc := calls_of_pure (args := [vSl 3 c_Step x0, .str x1, .agg (c_Sound x2)]) (enters_of f_ablautlaw03_InventoryFinds (by decide +kernel) rfl) hP (W := W) (vs := #[v0, v1, v2]) rfl (fun i hi => by
    match i, hi with
    | 0, _ => exact e0
    | 1, _ => exact e1
    | 2, _ => exact e2
    )
  refine hc.mono fun e W' ⟨he, hkp⟩ => ?_
  subst he
  exact ⟨_, rfl, post_law rfl (by kernel_rfl) Tryd.underlying4 (by kernel_rfl) (by rw [Tryd.params11]; decide +kernel) hW' rfl hkp⟩
theorem own : ownKnob Tryd.prog.godebug = none := by kernel_rfl
theorem reads (os : Os) {H : Type} (enc : TypeId × Value → H) : ∃ places, DataW.whole enc Tryd.prog ((World.laidAll Tryd.prog os Rows.inventoryFindsUptoRow.laid).forCall (fun _ _ => 0) ⟨#[], #[.slice none 0 0, .string ⟨#[]⟩, .agg #[.int .u32 0, .int .u32 0]], []⟩).memory Tryd.f11.params.toList Rows.inventoryFindsSpec.vars false (#[.slice none 0 0, .string ⟨#[]⟩, .agg #[.int .u32 0, .int .u32 0]] : Array Value).toList 16 = some ([.nil, .lit (.string []), .agg [.lit (.int .u32 0), .lit (.int .u32 0)]], [], places) :=
  ⟨[], by kernel_rfl⟩
theorem laid_met (os : Os) : laidMet Tryd.prog Rows.inventoryFindsUptoRow.laid ((World.laidAll Tryd.prog os Rows.inventoryFindsUptoRow.laid).forCall (fun _ _ => 0) ⟨#[], #[.slice none 0 0, .string ⟨#[]⟩, .agg #[.int .u32 0, .int .u32 0]], []⟩).memory :=
  laidMet_laidAll _ (by kernel_rfl) (by kernel_rfl)
theorem liftedUpto (os : Os) (started : os.Started) (H : Type) (enc : TypeId × Value → H) (F : Stop.Interp) :
    ReturnsInHanded {} Tryd.checked os 11 .any ((Rows.OpenSpec.upto Rows.inventoryFindsSpec).preRow enc Tryd.prog Tryd.f11 Rows.inventoryFindsUptoRow.domain false Rows.inventoryFindsUptoRow.laid) (((Rows.OpenSpec.upto Rows.inventoryFindsSpec).at F).post enc Tryd.prog Tryd.f11 false true false false) := by
  obtain ⟨places, hx⟩ := reads os enc
  refine returnsInHanded_of_row (C := Tryd.checked) (s := Rows.OpenSpec.upto Rows.inventoryFindsSpec) own started (by kernel_rfl) Tryd.func11
    (witness_row_at (enc := enc) (C := Tryd.checked) false (World.laidAll Tryd.prog os Rows.inventoryFindsUptoRow.laid) #[.slice none 0 0, .string ⟨#[]⟩, .agg #[.int .u32 0, .int .u32 0]] (World.laidAll_os _ _ _) (by kernel_rfl) (by kernel_rfl) (by kernel_rfl)
      (OpenSpec.preRow_of_cond 16 hx (by kernel_rfl) (fun k hk => by cases hk; kernel_rfl) (by kernel_rfl) (laid_met os))) ?_
  intro W base args ds gs before hval hW _ hcond _ hL _ _
  exact contract H enc W base args ds gs before hval hW (hcond _ rfl)
theorem saidUpto : Rows.InventoryFindsUptoSaid :=
  OpenClaim.holds_of_cond 11 Tryd.f11 rfl rfl rfl rfl rfl rfl rfl ⟨rfl, rfl, rfl, rfl, rfl⟩ rfl rfl rfl rfl rfl (by kernel_rfl) Tryd.func11 (by kernel_rfl)
    (of_decide_eq_true (by kernel_rfl)) (by unfold Func.isWrapper; first | (rw [if_pos (by decide +kernel)]; kernel_rfl) | (rw [if_neg (by decide +kernel)]; exact ⟨rfl, rfl⟩))
    (fun os started H enc _ F => by rw [OpenClaim.pre_eq_preRow]; exact liftedUpto os started H enc F)
theorem plain (f : FuncId) (fn : Func) (hf : Tryd.pinned.checked.prog.funcNamed "ablaut/ablautlaw03.InventoryFinds" = some f) (hfn : Tryd.pinned.checked.prog.funcs[f]? = some fn) :
    false = Tryd.pinned.checked.prog.looks [] ∧ ∀ (j : Nat) t, fn.params[j]? = some t → Tryd.pinned.checked.prog.wantsStandIn t = false := by
  obtain rfl : f = 11 := Option.some.inj ((show Tryd.prog.funcNamed "ablaut/ablautlaw03.InventoryFinds" = some 11 by kernel_rfl).symm.trans hf) |>.symm
  obtain rfl : fn = Tryd.f11 := (Option.some.inj (Tryd.func11.symm.trans hfn)).symm
  refine ⟨by kernel_rfl, fun j t ht => ?_⟩
  rw [Tryd.params11] at ht
  have hm := Array.mem_of_getElem? ht
  simp only [List.mem_toArray, List.mem_cons, List.not_mem_nil, or_false] at hm
  rcases hm with rfl | rfl | rfl
  · exact (show Tryd.prog.wantsStandIn 49 = false by kernel_rfl)
  · exact (show Tryd.prog.wantsStandIn 9 = false by kernel_rfl)
  · exact (show Tryd.prog.wantsStandIn 31 = false by kernel_rfl)
theorem cardUpto : Rows.InventoryFindsUptoCardSaid :=
  Claim7.holds_tied_plain_at .later [] _ _ _ _ saidUpto (fun _ h => by cases h) (by kernel_rfl) (fun _ h => by cases h) inventoryFindsUpto_row_tie rfl ⟨rfl, rfl⟩ (by kernel_rfl) rfl plain (by kernel_rfl)
end InvFinds
end Go.AM