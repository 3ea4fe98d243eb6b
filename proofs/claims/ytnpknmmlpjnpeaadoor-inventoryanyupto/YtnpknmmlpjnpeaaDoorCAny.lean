/- What a law's walk and its plain proof need, part 12: no condition of its own. -/
import Derived.Test.YtnpknmmlpjnpeaaDoorAmH
import Derived.Test.YtnpknmmlpjnpeaaDoorAmK
import Derived.Lay
set_option linter.unusedSimpArgs false
set_option linter.unusedVariables false
set_option linter.unusedSectionVars false
set_option linter.unusedVariables false
namespace Go.AM
open Go.RowKit Go.ChangeShapes Go.WideShapes Go.ChangeAt Go.Deep Go.Proofs Go.Proofs.YtnpknmmlpjnpeaaDoor
namespace InvAny
set_option maxRecDepth 100000
theorem contract (H : Type) (enc : TypeId × Value → H) (W : World) (base : Nat) (args : Array Value) (ds gs : List (DataW H)) (before : List MemPlace)
    (hval : ∀ (j : Nat) t v, Tryd.f13.params[j]? = some t → args[j]? = some v → Value.okWide Tryd.prog W .any base t v)
    (hW : DataW.Whole enc Tryd.prog Tryd.f13.params.toList Rows.inventoryAnySpec.vars false W args.toList ds gs before) (hk : Rows.uptoSmall H (ds ++ gs) = true) :
    Calls Tryd.prog 13 args W fun e W' => ∃ v, e = .returned v ∧ Rows.inventoryAnySpec.post enc Tryd.prog Tryd.f13 false true false false W args v W' := by
  have hW' := hW
  obtain ⟨p, q, hA0, hV, rfl, hfz, hnd⟩ := hW
  have hA : DataW.TrodAll enc Tryd.prog W 0 (fun _ => true) true Tryd.f13.params.toList args.toList ds p := hA0
  rw [Tryd.params13] at hA hval
  obtain ⟨v0, vs0, d0, ds0, p0, q0, hargs, rfl, rfl, h0, r0⟩ := trodAll_cons hA
  obtain ⟨v1, vs1, d1, ds1, p1, q1, rfl, rfl, rfl, h1, r1⟩ := trodAll_cons r0
  obtain ⟨v2, vs2, d2, ds2, p2, q2, rfl, rfl, rfl, h2, r2⟩ := trodAll_cons r1
  obtain ⟨rfl, rfl, rfl⟩ := trodAll_nil r2
  obtain rfl : args = #[v0, v1, v2] := by cases args; simp_all
  obtain ⟨rfl, rfl⟩ := trodVars_none hV
  have hb := of_decide_eq_true hk
  simp only [List.append_nil, Rows.uptoBulkAll] at hb
  obtain ⟨_, hv0⟩ := okWide_int Tryd.underlying5 (hval 0 5 v0 rfl rfl)
  obtain ⟨cs1, hv1, _⟩ := okWide_struct Tryd.underlying31 (hval 1 31 v1 rfl rfl)
  obtain ⟨_, hv2⟩ := okWide_int Tryd.underlying5 (hval 2 5 v2 rfl rfl)
  obtain ⟨fu0, g0⟩ := h0
  obtain ⟨fu1, g1⟩ := h1
  obtain ⟨fu2, g2⟩ := h2
  have hT : plainB Tryd.prog [5, 31, 29] = true := by kernel_rfl
  have hTl : ∀ t ∈ ([5, 31, 29] : List Nat), t < Tryd.prog.types.size := by decide +kernel
  obtain ⟨pv0, c0, sh0⟩ := open_cells kids1 bulkU hT hTl fu0 5 _ _ (by simp) g0
  obtain ⟨x0, l0, w0, s0⟩ := (opens_int Tryd.underlying5) _ _ sh0
  have s0 : 1 ≤ Rows.uptoBulk d0 := s0
  have e0 := rep_one (by rw [hv0]; rfl) (c0.leD l0)
  obtain ⟨pv1, c1, sh1⟩ := open_cells kids1 bulkU hT hTl fu1 31 _ _ (by simp) g1
  obtain ⟨x1, l1, w1, s1⟩ := opens_Sound _ _ sh1
  have s1 : sz_Sound x1 ≤ Rows.uptoBulk d1 := s1
  have e1 := c1.leD l1
  rw [hv1] at e1
  have e1 := rep_agg e1
  rw [← hv1] at e1
  obtain ⟨pv2, c2, sh2⟩ := open_cells kids1 bulkU hT hTl fu2 5 _ _ (by simp) g2
  obtain ⟨x2, l2, w2, s2⟩ := (opens_int Tryd.underlying5) _ _ sh2
  have s2 : 1 ≤ Rows.uptoBulk d2 := s2
  have e2 := rep_one (by rw [hv2]; rfl) (c2.leD l2)
  obtain ⟨k, hk0, hk⟩ := wf_u8 w0
  obtain ⟨P, M, hs⟩ := wf_sOf w1
  obtain ⟨j, hj0, hj⟩ := wf_u8 w2
  have hP : FunO (sems Tryd.prog) k_ablautlaw03_InventoryAny [(.p (pI .u8 x0)), (.p (.agg (c_Sound x1))), (.p (pI .u8 x2))] [] (.p (.bb true)) [] [] :=
    w_ablautlaw03_InventoryAny (good _) libC libD (show m_ablautlaw03_InventoryAny NN x0 x1 x2 = some true by rw [hk0, hs, hj0]; exact Any_eq k P M j hk hj)
  have hc := calls_of_pure (args := [pI .u8 x0, .agg (c_Sound x1), pI .u8 x2]) (enters_of f_ablautlaw03_InventoryAny (by decide +kernel) rfl) hP (W := W) (vs := #[v0, v1, v2]) rfl (fun i hi => by
    match i, hi with
    | 0, _ => exact e0
    | 1, _ => exact e1
    | 2, _ => exact e2
    )
  refine hc.mono fun e W' ⟨he, hkp⟩ => ?_
  subst he
  exact ⟨_, rfl, post_law rfl (by kernel_rfl) Tryd.underlying4 (by kernel_rfl) (by rw [Tryd.params13]; decide +kernel) hW' rfl hkp⟩
theorem own : ownKnob Tryd.prog.godebug = none := by kernel_rfl
theorem reads (os : Os) {H : Type} (enc : TypeId × Value → H) : ∃ places, DataW.whole enc Tryd.prog ((World.laidAll Tryd.prog os Rows.inventoryAnyUptoRow.laid).forCall (fun _ _ => 0) ⟨#[], #[.int .u8 0, .agg #[.int .u32 0, .int .u32 0], .int .u8 0], []⟩).memory Tryd.f13.params.toList Rows.inventoryAnySpec.vars false (#[.int .u8 0, .agg #[.int .u32 0, .int .u32 0], .int .u8 0] : Array Value).toList 16 = some ([.lit (.int .u8 0), .agg [.lit (.int .u32 0), .lit (.int .u32 0)], .lit (.int .u8 0)], [], places) :=
  ⟨[], by kernel_rfl⟩
theorem laid_met (os : Os) : laidMet Tryd.prog Rows.inventoryAnyUptoRow.laid ((World.laidAll Tryd.prog os Rows.inventoryAnyUptoRow.laid).forCall (fun _ _ => 0) ⟨#[], #[.int .u8 0, .agg #[.int .u32 0, .int .u32 0], .int .u8 0], []⟩).memory :=
  laidMet_laidAll _ (by kernel_rfl) (by kernel_rfl)
theorem liftedUpto (os : Os) (started : os.Started) (H : Type) (enc : TypeId × Value → H) (F : Stop.Interp) :
    ReturnsInHanded {} Tryd.checked os 13 .any ((Rows.OpenSpec.upto Rows.inventoryAnySpec).preRow enc Tryd.prog Tryd.f13 Rows.inventoryAnyUptoRow.domain false Rows.inventoryAnyUptoRow.laid) (((Rows.OpenSpec.upto Rows.inventoryAnySpec).at F).post enc Tryd.prog Tryd.f13 false true false false) := by
  obtain ⟨places, hx⟩ := reads os enc
  refine returnsInHanded_of_row (C := Tryd.checked) (s := Rows.OpenSpec.upto Rows.inventoryAnySpec) own started (by kernel_rfl) Tryd.func13
    (witness_row_at (enc := enc) (C := Tryd.checked) false (World.laidAll Tryd.prog os Rows.inventoryAnyUptoRow.laid) #[.int .u8 0, .agg #[.int .u32 0, .int .u32 0], .int .u8 0] (World.laidAll_os _ _ _) (by kernel_rfl) (by kernel_rfl) (by kernel_rfl)
      (OpenSpec.preRow_of_cond 16 hx (by kernel_rfl) (fun k hk => by cases hk; kernel_rfl) (by kernel_rfl) (laid_met os))) ?_
  intro W base args ds gs before hval hW _ hcond _ hL _ _
  exact contract H enc W base args ds gs before hval hW (hcond _ rfl)
theorem saidUpto : Rows.InventoryAnyUptoSaid :=
  OpenClaim.holds_of_cond 13 Tryd.f13 rfl rfl rfl rfl rfl rfl rfl ⟨rfl, rfl, rfl, rfl, rfl⟩ rfl rfl rfl rfl rfl (by kernel_rfl) Tryd.func13 (by kernel_rfl)
    (of_decide_eq_true (by kernel_rfl)) (by unfold Func.isWrapper; first | (rw [if_pos (by decide +kernel)]; kernel_rfl) | (rw [if_neg (by decide +kernel)]; exact ⟨rfl, rfl⟩))
    (fun os started H enc _ F => by rw [OpenClaim.pre_eq_preRow]; exact liftedUpto os started H enc F)
theorem plain (f : FuncId) (fn : Func) (hf : Tryd.pinned.checked.prog.funcNamed "ablaut/ablautlaw03.InventoryAny" = some f) (hfn : Tryd.pinned.checked.prog.funcs[f]? = some fn) :
    false = Tryd.pinned.checked.prog.looks [] ∧ ∀ (j : Nat) t, fn.params[j]? = some t → Tryd.pinned.checked.prog.wantsStandIn t = false := by
  obtain rfl : f = 13 := Option.some.inj ((show Tryd.prog.funcNamed "ablaut/ablautlaw03.InventoryAny" = some 13 by kernel_rfl).symm.trans hf) |>.symm
  obtain rfl : fn = Tryd.f13 := (Option.some.inj (Tryd.func13.symm.trans hfn)).symm
  refine ⟨by kernel_rfl, fun j t ht => ?_⟩
  rw [Tryd.params13] at ht
  have hm := Array.mem_of_getElem? ht
  simp only [List.mem_toArray, List.mem_cons, List.not_mem_nil, or_false] at hm
  rcases hm with rfl | rfl | rfl
  · exact (show Tryd.prog.wantsStandIn 5 = false by kernel_rfl)
  · exact (show Tryd.prog.wantsStandIn 31 = false by kernel_rfl)
  · exact (show Tryd.prog.wantsStandIn 5 = false by kernel_rfl)
theorem cardUpto : Rows.InventoryAnyUptoCardSaid :=
  Claim7.holds_tied_plain_at .later [] _ _ _ _ saidUpto (fun _ h => by cases h) (by kernel_rfl) (fun _ h => by cases h) inventoryAnyUpto_row_tie rfl ⟨rfl, rfl⟩ (by kernel_rfl) rfl plain (by kernel_rfl)
end InvAny
end Go.AM