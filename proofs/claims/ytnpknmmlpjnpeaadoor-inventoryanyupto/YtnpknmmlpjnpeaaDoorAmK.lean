/- What a law's walk and its plain proof need, part 11: no condition of its own. -/
import Derived.Test.YtnpknmmlpjnpeaaDoorAmG
import Derived.Test.YtnpknmmlpjnpeaaDoorAmJ
import Derived.Test.YtnpknmmlpjnpeaaDoorAmI
set_option linter.unusedSimpArgs false
set_option linter.unusedVariables false
set_option linter.unusedSectionVars false
set_option linter.unusedVariables false
set_option linter.unusedSectionVars false
namespace Go.AM
open Go.Proofs
set_option maxRecDepth 10000
set_option maxHeartbeats 2000000
variable {S : Sems} (hS : Good S Tryd.prog) (hL : LibC S) (hD : LibD S)
include hS hL hD
def m_strings_genSplit (N : Nat) (p_s : Str) (p_sep : Str) (p_sepSave : Int) (p_n : Int) : Option (Sl Str) :=
  if (p_n == 0) = true then
    some (Sl.nil : Sl Str)
  else
    if ((p_sep == []) != false) = true then
      none
    else
      lt (fun (z1 : Int) =>
          if ((0 : Int) ≤ (if (IntKind.wrap .i64 (((p_s.length : Nat) : Int) + 1)) < z1 then (IntKind.wrap .i64 (((p_s.length : Nat) : Int) + 1)) else z1) ∧ (if (IntKind.wrap .i64 (((p_s.length : Nat) : Int) + 1)) < z1 then (IntKind.wrap .i64 (((p_s.length : Nat) : Int) + 1)) else z1) ≤ (if (IntKind.wrap .i64 (((p_s.length : Nat) : Int) + 1)) < z1 then (IntKind.wrap .i64 (((p_s.length : Nat) : Int) + 1)) else z1) ∧ (if (IntKind.wrap .i64 (((p_s.length : Nat) : Int) + 1)) < z1 then (IntKind.wrap .i64 (((p_s.length : Nat) : Int) + 1)) else z1) * 16 ≤ 140737488355328 ∧ (if (IntKind.wrap .i64 (((p_s.length : Nat) : Int) + 1)) < z1 then (IntKind.wrap .i64 (((p_s.length : Nat) : Int) + 1)) else z1) ≤ 140737488355328) then
            fix3 N (fun self1 (x2 : Str) (x3 : Sl Str) (x4 : Int) =>
                if (decide (x4 < (IntKind.wrap .i64 ((if (IntKind.wrap .i64 (((p_s.length : Nat) : Int) + 1)) < z1 then (IntKind.wrap .i64 (((p_s.length : Nat) : Int) + 1)) else z1) - 1)))) = true then
                  (m_strings_Index N x2 p_sep).bind fun y5 =>
                  if (decide (y5 < 0)) = true then
                    if ((((0 : Int) ≤ x4 ∧ x4 < ((x3.n : Nat) : Int)) ∧ x4.toNat < x3.n) ∧ ((0 : Int) ≤ (IntKind.wrap .i64 (x4 + 1)) ∧ (IntKind.wrap .i64 (x4 + 1)) ≤ (((x3.upd x4.toNat x2).n : Nat) : Int))) then
                      some ((x3.upd x4.toNat x2).take (IntKind.wrap .i64 (x4 + 1)).toNat)
                    else none
                  else
                    if (((((0 : Int) ≤ (IntKind.wrap .i64 (y5 + p_sepSave)) ∧ (IntKind.wrap .i64 (y5 + p_sepSave)) ≤ ((x2.length : Nat) : Int)) ∧ ((0 : Int) ≤ x4 ∧ x4 < ((x3.n : Nat) : Int))) ∧ x4.toNat < x3.n) ∧ ((0 : Int) ≤ (IntKind.wrap .i64 (y5 + ((p_sep.length : Nat) : Int))) ∧ (IntKind.wrap .i64 (y5 + ((p_sep.length : Nat) : Int))) ≤ ((x2.length : Nat) : Int))) then
                      self1 (x2.drop (IntKind.wrap .i64 (y5 + ((p_sep.length : Nat) : Int))).toNat) (x3.upd x4.toNat (x2.take (IntKind.wrap .i64 (y5 + p_sepSave)).toNat)) (IntKind.wrap .i64 (x4 + 1))
                    else none
                else
                  if ((((0 : Int) ≤ x4 ∧ x4 < ((x3.n : Nat) : Int)) ∧ x4.toNat < x3.n) ∧ ((0 : Int) ≤ (IntKind.wrap .i64 (x4 + 1)) ∧ (IntKind.wrap .i64 (x4 + 1)) ≤ (((x3.upd x4.toNat x2).n : Nat) : Int))) then
                    some ((x3.upd x4.toNat x2).take (IntKind.wrap .i64 (x4 + 1)).toNat)
                  else none
              ) p_s (Sl.rep (if (IntKind.wrap .i64 (((p_s.length : Nat) : Int) + 1)) < z1 then (IntKind.wrap .i64 (((p_s.length : Nat) : Int) + 1)) else z1).toNat [] : Sl Str) 0
          else none
        ) fun k1 =>
        if (decide (p_n < 0)) = true then
          (m_strings_Count N p_s p_sep).bind fun y2 =>
          k1 (IntKind.wrap .i64 (y2 + 1))
        else
          k1 p_n
theorem w_strings_genSplit {N : Nat} {p_s : Str} {p_sep : Str} {p_sepSave : Int} {p_n : Int}   {y : (Sl Str)} (h : m_strings_genSplit N p_s p_sep p_sepSave p_n = some y) :
    FunO S k_strings_genSplit [(.p (.str p_s)), (.p (.str p_sep)), (.p (pI .i64 p_sepSave)), (.p (pI .i64 p_n))] [] (.p (vSl 1 cS y)) ([]) [] := by
  unfold m_strings_genSplit at h
  refine K_start hS f_strings_genSplit ?_
  refine K_cond hS trivial (b := p_n == 0) (fun c1 => ?_) (fun c1 => ?_)
  · replace h := itT c1 h
    obtain rfl := someI h
    exact K_retO hS trivial ⟨[(8, (.p (vSl 1 cS (Sl.nil : Sl Str))))], []⟩ [] (ids := []) ⟨rfl, rfl, rfl⟩
  · replace h := itF c1 h
    refine K_cond hS trivial (b := ((p_sep == []) != false)) (fun c2 => ?_) (fun c2 => ?_)
    · replace h := itT c2 h
      cases h
    · replace h := itF c2 h
      refine K_lt hS trivial (fnPost_up hS) h 0 (fun z1 => ⟨[(3, (.p (pI .i64 z1))), (2, (.p (pI .i64 p_sepSave))), (1, (.p (.str p_sep))), (0, (.p (.str p_s)))], []⟩) (fun M1 k1 hb1 h => ?_) (fun z1 h => ?_)
      · refine K_cond hS trivial (b := decide (p_n < 0)) (fun c5 => ?_) (fun c5 => ?_)
        · replace h := itT c5 h
          obtain ⟨y2, e2, h⟩ := bindE h
          refine K_call hS [] trivial (w_strings_Count hS hL hD e2) ?_
          exact hb1 _ [] _ (IntKind.wrap .i64 (y2 + 1)) trivial h
        · replace h := itF c5 h
          exact hb1 _ [] _ p_n trivial h
      · obtain ⟨c6, h⟩ := chkE h
        refine K_fix3 hS c6 h (fun x2 x3 x4 => ⟨[(10, (.p (pI .i64 x4))), (9, (.vec 32000)), (3, (.p (pI .i64 (IntKind.wrap .i64 ((if (IntKind.wrap .i64 (((p_s.length : Nat) : Int) + 1)) < z1 then (IntKind.wrap .i64 (((p_s.length : Nat) : Int) + 1)) else z1) - 1))))), (2, (.p (pI .i64 p_sepSave))), (1, (.p (.str p_sep))), (0, (.p (.str x2)))], [(32000, (.vec t_string 1 x3.n (fun i => cS (x3.g i)) false))]⟩) (ids := [(32000, 32000)]) (fun _ _ _ _ _ self1 x2 x3 x4 hb2 h => ?_)
        refine K_cond hS trivial (b := decide (x4 < (IntKind.wrap .i64 ((if (IntKind.wrap .i64 (((p_s.length : Nat) : Int) + 1)) < z1 then (IntKind.wrap .i64 (((p_s.length : Nat) : Int) + 1)) else z1) - 1)))) (fun c11 => ?_) (fun c11 => ?_)
        · replace h := itT c11 h
          obtain ⟨y5, e5, h⟩ := bindE h
          refine K_call hS [] trivial (w_strings_Index hS hL e5) ?_
          refine K_cond hS trivial (b := decide (y5 < 0)) (fun c12 => ?_) (fun c12 => ?_)
          · replace h := itT c12 h
            obtain ⟨c13, h⟩ := chkE h
            obtain rfl := someI h
            exact K_retO hS (And.intro (And.intro c13.1.1 (And.intro (rfl : (1 : Nat) = 1) (And.intro c13.1.2 (by decide : (1 : Nat) ≤ 1)))) c13.2) ⟨[(8, (.p (vSl 1 cS ((x3.upd x4.toNat x2).take (IntKind.wrap .i64 (x4 + 1)).toNat))))], []⟩ [] (ids := []) ⟨rfl, rfl, rfl⟩ (hle := (klR [(0, .fn (min (IntKind.wrap .i64 (x4 + 1)).toNat x3.n) ((x3.upd x4.toNat x2).take (IntKind.wrap .i64 (x4 + 1)).toNat).n (fun l => if l = x4.toNat then splice ((fun i => cS (x3.g i)) l) 0 [(.str x2)] else (fun i => cS (x3.g i)) l) (fun i => cS (((x3.upd x4.toNat x2).take (IntKind.wrap .i64 (x4 + 1)).toNat).g i)))] (al1 ⟨Nat.min_eq_left (by have hq : (0 : Int) ≤ (IntKind.wrap .i64 (x4 + 1)) ∧ (IntKind.wrap .i64 (x4 + 1)) ≤ (((x3.n) : Nat) : Int) := c13.2; omega), fun i hi => (show ∀ i, i < x3.n → (fun l => if l = x4.toNat then splice ((fun i => cS (x3.g i)) l) 0 [(.str x2)] else (fun i => cS (x3.g i)) l) i = cS ((x3.upd x4.toNat x2).g i) from (setS (c := cS) (v := x3) (x := x2) same (fun _ => by first | rfl | (dsimp only; split <;> rfl)))) i (Nat.lt_of_lt_of_le hi (Nat.min_le_right _ _))⟩ al0)))
          · replace h := itF c12 h
            obtain ⟨c14, h⟩ := chkE h
            exact hb2 _ [(32000, 32000)] _ (x2.drop (IntKind.wrap .i64 (y5 + ((p_sep.length : Nat) : Int))).toNat) (x3.upd x4.toNat (x2.take (IntKind.wrap .i64 (y5 + p_sepSave)).toNat)) (IntKind.wrap .i64 (x4 + 1)) (And.intro (And.intro (And.intro c14.1.1.1 c14.1.1.2) (And.intro (rfl : (1 : Nat) = 1) (And.intro c14.1.2 (by decide : (1 : Nat) ≤ 1)))) c14.2) h (by kernel_rfl) (by kernel_rfl) (klR [(5, .fn x3.n (x3.upd x4.toNat (x2.take (IntKind.wrap .i64 (y5 + p_sepSave)).toNat)).n (fun l => if l = x4.toNat then splice ((fun i => cS (x3.g i)) l) 0 [(.str (x2.take (IntKind.wrap .i64 (y5 + p_sepSave)).toNat))] else (fun i => cS (x3.g i)) l) (fun i => cS ((x3.upd x4.toNat (x2.take (IntKind.wrap .i64 (y5 + p_sepSave)).toNat)).g i)))] (al1 ⟨rfl, (setS (c := cS) (v := x3) (x := (x2.take (IntKind.wrap .i64 (y5 + p_sepSave)).toNat)) same (fun _ => by first | rfl | (dsimp only; split <;> rfl)))⟩ al0))
        · replace h := itF c11 h
          obtain ⟨c15, h⟩ := chkE h
          obtain rfl := someI h
          exact K_retO hS (And.intro (And.intro c15.1.1 (And.intro (rfl : (1 : Nat) = 1) (And.intro c15.1.2 (by decide : (1 : Nat) ≤ 1)))) c15.2) ⟨[(8, (.p (vSl 1 cS ((x3.upd x4.toNat x2).take (IntKind.wrap .i64 (x4 + 1)).toNat))))], []⟩ [] (ids := []) ⟨rfl, rfl, rfl⟩ (hle := (klR [(0, .fn (min (IntKind.wrap .i64 (x4 + 1)).toNat x3.n) ((x3.upd x4.toNat x2).take (IntKind.wrap .i64 (x4 + 1)).toNat).n (fun l => if l = x4.toNat then splice ((fun i => cS (x3.g i)) l) 0 [(.str x2)] else (fun i => cS (x3.g i)) l) (fun i => cS (((x3.upd x4.toNat x2).take (IntKind.wrap .i64 (x4 + 1)).toNat).g i)))] (al1 ⟨Nat.min_eq_left (by have hq : (0 : Int) ≤ (IntKind.wrap .i64 (x4 + 1)) ∧ (IntKind.wrap .i64 (x4 + 1)) ≤ (((x3.n) : Nat) : Int) := c15.2; omega), fun i hi => (show ∀ i, i < x3.n → (fun l => if l = x4.toNat then splice ((fun i => cS (x3.g i)) l) 0 [(.str x2)] else (fun i => cS (x3.g i)) l) i = cS ((x3.upd x4.toNat x2).g i) from (setS (c := cS) (v := x3) (x := x2) same (fun _ => by first | rfl | (dsimp only; split <;> rfl)))) i (Nat.lt_of_lt_of_le hi (Nat.min_le_right _ _))⟩ al0)))
def m_strings_Split (N : Nat) (p_s : Str) (p_sep : Str) : Option (Sl Str) :=
  (m_strings_genSplit N p_s p_sep 0 (-1)).bind fun y1 =>
  some y1
theorem w_strings_Split {N : Nat} {p_s : Str} {p_sep : Str}   {y : (Sl Str)} (h : m_strings_Split N p_s p_sep = some y) :
    FunO S k_strings_Split [(.p (.str p_s)), (.p (.str p_sep))] [] (.p (vSl 1 cS y)) ([]) [] := by
  unfold m_strings_Split at h
  refine K_start hS f_strings_Split ?_
  obtain ⟨y1, e1, h⟩ := bindE h
  refine K_call hS [] trivial (w_strings_genSplit hS hL hD e1) ?_
  obtain rfl := someI h
  exact K_ret hS trivial [] ⟨rfl, rfl, rfl⟩
def m_slices_Reverse_sl_string_string (N : Nat) (p_s : (Sl Str)) : Option (Sl Str) :=
  fix3 N (fun self1 (x1 : Sl Str) (x2 : Int) (x3 : Int) =>
      if (decide (x2 < x3)) = true then
        if (((((((((0 : Int) ≤ x3 ∧ x3 < ((x1.n : Nat) : Int)) ∧ x3.toNat < x1.n) ∧ ((0 : Int) ≤ x2 ∧ x2 < ((x1.n : Nat) : Int))) ∧ x2.toNat < x1.n) ∧ ((0 : Int) ≤ x2 ∧ x2 < ((x1.n : Nat) : Int))) ∧ x2.toNat < x1.n) ∧ ((0 : Int) ≤ x3 ∧ x3 < (((x1.upd x2.toNat (x1.g x3.toNat)).n : Nat) : Int))) ∧ x3.toNat < (x1.upd x2.toNat (x1.g x3.toNat)).n) then
          self1 ((x1.upd x2.toNat (x1.g x3.toNat)).upd x3.toNat (x1.g x2.toNat)) (IntKind.wrap .i64 (x2 + 1)) (IntKind.wrap .i64 (x3 - 1))
        else none
      else
        some x1
    ) p_s 0 (IntKind.wrap .i64 (((p_s.n : Nat) : Int) - 1))
theorem w_slices_Reverse_sl_string_string {N : Nat} {p_s : (Sl Str)}   {y : (Sl Str)} (h : m_slices_Reverse_sl_string_string N p_s = some y) :
    FunO S k_slices_Reverse_sl_string_string [(.vec 0)] [(.vec t_string 1 p_s.n (fun i => cS (p_s.g i)) false)] (.tup []) ([(.vec t_string 1 y.n (fun i => cS (y.g i)) false)]) [true] := by
  unfold m_slices_Reverse_sl_string_string at h
  refine K_start hS f_slices_Reverse_sl_string_string ?_
  refine K_fix3 hS trivial h (fun x1 x2 x3 => ⟨[(3, (.p (pI .i64 x3))), (2, (.p (pI .i64 x2))), (0, (.vec 0))], [(0, (.vec t_string 1 x1.n (fun i => cS (x1.g i)) false))]⟩) (ids := [(0, 0)]) (fun _ _ _ _ _ self1 x1 x2 x3 hb1 h => ?_)
  refine K_cond hS trivial (b := decide (x2 < x3)) (fun c5 => ?_) (fun c5 => ?_)
  · replace h := itT c5 h
    refine K_drawn hS trivial ?_
    obtain ⟨c6, h⟩ := chkE h
    refine D_end (And.intro (And.intro (And.intro (And.intro (And.intro (And.intro (And.intro c6.1.1.1.1.1.1.1 c6.1.1.1.1.1.1.2) c6.1.1.1.1.1.2) c6.1.1.1.1.2) c6.1.1.1.2) (And.intro (rfl : (1 : Nat) = 1) (And.intro c6.1.1.2 (by decide : (1 : Nat) ≤ 1)))) c6.1.2) (And.intro (rfl : (1 : Nat) = 1) (And.intro c6.2 (by decide : (1 : Nat) ≤ 1)))) ?_
    exact hb1 _ [(0, 0)] _ ((x1.upd x2.toNat (x1.g x3.toNat)).upd x3.toNat (x1.g x2.toNat)) (IntKind.wrap .i64 (x2 + 1)) (IntKind.wrap .i64 (x3 - 1)) trivial h (by kernel_rfl) (by kernel_rfl) (klR [(2, .fn x1.n ((x1.upd x2.toNat (x1.g x3.toNat)).upd x3.toNat (x1.g x2.toNat)).n (fun l => if l = x3.toNat then splice ((fun l => if l = x2.toNat then splice ((fun i => cS (x1.g i)) l) 0 [(.str (x1.g x3.toNat))] else (fun i => cS (x1.g i)) l) l) 0 [(.str (x1.g x2.toNat))] else (fun l => if l = x2.toNat then splice ((fun i => cS (x1.g i)) l) 0 [(.str (x1.g x3.toNat))] else (fun i => cS (x1.g i)) l) l) (fun i => cS (((x1.upd x2.toNat (x1.g x3.toNat)).upd x3.toNat (x1.g x2.toNat)).g i)))] (al1 ⟨rfl, (setS (c := cS) (v := (x1.upd x2.toNat (x1.g x3.toNat))) (x := (x1.g x2.toNat)) (setS (c := cS) (v := x1) (x := (x1.g x3.toNat)) same (fun _ => by first | rfl | (dsimp only; split <;> rfl))) (fun _ => by first | rfl | (dsimp only; split <;> rfl)))⟩ al0))
  · replace h := itF c5 h
    obtain rfl := someI h
    exact K_retO hS trivial ⟨[], [(0, (.vec t_string 1 x1.n (fun i => cS (x1.g i)) false))]⟩ [0] (ids := [(0, 0)]) ⟨rfl, rfl, rfl⟩
def m_ablautlaw03_InventoryAny (N : Nat) (p_count : Int) (p_s : Sound) (p_turn : Int) : Option Bool :=
  (m_ablautlaw03_numbered N ((IntKind.wrap .i64 p_count).tmod 25)).bind fun y1 =>
  optE y1.1 (
      some false
    ) fun z1 =>
    (m_ablautlaw03_clean N p_s ((IntKind.wrap .i64 p_count).tmod 25)).bind fun y2 =>
    (m_inventory_Inv_Text N z1 y2).bind fun y3 =>
    if (y3.2 != 0) = true then
      some false
    else
      if ((y3.1 == []) != false) = true then
        (m_inventory_Inv_Bundle N z1 [32]).bind fun y4 =>
        lt (fun (z2 : Bool) =>
            some z2
          ) fun k1 =>
          if (((y2.Plus == 0) && (y2.Minus == 0)) != false) = true then
            if (y4.2 == 10) = true then
              (m_ablautlaw03_works N ).bind fun y6 =>
              k1 y6
            else
              k1 false
          else
            k1 false
      else
        (m_strings_Split N y3.1 [32]).bind fun y7 =>
        if ((y7.n : Nat) : Int) ≠ 0 then
          if ((0 : Int) ≤ ((IntKind.wrap .i64 p_turn).tmod ((y7.n : Nat) : Int)) ∧ ((IntKind.wrap .i64 p_turn).tmod ((y7.n : Nat) : Int)) ≤ ((y7.n : Nat) : Int)) then
            (m_Uslices_Clone_sl_string_string N (y7.drop ((IntKind.wrap .i64 p_turn).tmod ((y7.n : Nat) : Int)).toNat)).bind fun y8 =>
            if (((0 : Int) ≤ ((IntKind.wrap .i64 p_turn).tmod ((y7.n : Nat) : Int)) ∧ ((IntKind.wrap .i64 p_turn).tmod ((y7.n : Nat) : Int)) ≤ ((y7.n : Nat) : Int)) ∧ ((y8.n + (y7.take ((IntKind.wrap .i64 p_turn).tmod ((y7.n : Nat) : Int)).toNat).n) * 16 ≤ 140737488355328 ∧ y8.n + (y7.take ((IntKind.wrap .i64 p_turn).tmod ((y7.n : Nat) : Int)).toNat).n ≤ 140737488355328)) then
              (m_strings_Join N (y8.app (y7.take ((IntKind.wrap .i64 p_turn).tmod ((y7.n : Nat) : Int)).toNat)) [32]).bind fun y9 =>
              (m_inventory_Inv_Bundle N z1 y9).bind fun y10 =>
              if ((y10.2 != 0) || (((y10.1.Plus == y2.Plus) && (y10.1.Minus == y2.Minus)) != true)) = true then
                some false
              else
                (m_slices_Reverse_sl_string_string N (y8.app (y7.take ((IntKind.wrap .i64 p_turn).tmod ((y7.n : Nat) : Int)).toNat))).bind fun y11 =>
                (m_strings_Join N y11 [32]).bind fun y12 =>
                (m_inventory_Inv_Bundle N z1 y12).bind fun y13 =>
                if ((y13.2 != 0) || (((y13.1.Plus == y2.Plus) && (y13.1.Minus == y2.Minus)) != true)) = true then
                  some false
                else
                  if (((0 : Int) ≤ ((IntKind.wrap .i64 p_turn).tmod ((y7.n : Nat) : Int)) ∧ ((IntKind.wrap .i64 p_turn).tmod ((y7.n : Nat) : Int)) < ((y7.n : Nat) : Int)) ∧ ((0 : Int) ≤ 0 ∧ 0 < (((y7.g ((IntKind.wrap .i64 p_turn).tmod ((y7.n : Nat) : Int)).toNat).length : Nat) : Int))) then
                    if ((((([32].length + y3.1.length : Nat) : Int) ≤ 9223372036854775807) ∧ (((y3.1.length + [32].length : Nat) : Int) ≤ 9223372036854775807)) ∧ ((0 : Int) ≤ ((IntKind.wrap .i64 p_turn).tmod ((y7.n : Nat) : Int)) ∧ ((IntKind.wrap .i64 p_turn).tmod ((y7.n : Nat) : Int)) ≤ ((y7.n : Nat) : Int))) then
                      (m_strings_Join N (y7.take ((IntKind.wrap .i64 p_turn).tmod ((y7.n : Nat) : Int)).toNat) [32]).bind fun y14 =>
                      if ((((y14.length + [32, 32].length : Nat) : Int) ≤ 9223372036854775807) ∧ ((0 : Int) ≤ ((IntKind.wrap .i64 p_turn).tmod ((y7.n : Nat) : Int)) ∧ ((IntKind.wrap .i64 p_turn).tmod ((y7.n : Nat) : Int)) ≤ ((y7.n : Nat) : Int))) then
                        (m_strings_Join N (y7.drop ((IntKind.wrap .i64 p_turn).tmod ((y7.n : Nat) : Int)).toNat) [32]).bind fun y15 =>
                        if (((((((((((((((((y14 ++ [32, 32]).length + y15.length : Nat) : Int) ≤ 9223372036854775807) ∧ (((y3.1.length + [32].length : Nat) : Int) ≤ 9223372036854775807)) ∧ ((0 : Int) ≤ ((IntKind.wrap .i64 p_turn).tmod ((y7.n : Nat) : Int)) ∧ ((IntKind.wrap .i64 p_turn).tmod ((y7.n : Nat) : Int)) < ((y7.n : Nat) : Int))) ∧ ((((y3.1 ++ [32]).length + (y7.g ((IntKind.wrap .i64 p_turn).tmod ((y7.n : Nat) : Int)).toNat).length : Nat) : Int) ≤ 9223372036854775807)) ∧ (((y3.1.length + [32].length : Nat) : Int) ≤ 9223372036854775807)) ∧ ((((y3.1 ++ [32]).length + ((if ((byteAt (y7.g ((IntKind.wrap .i64 p_turn).tmod ((y7.n : Nat) : Int)).toNat) 0) == 43) = true then [45] else [43]) : Str).length : Nat) : Int) ≤ 9223372036854775807)) ∧ ((0 : Int) ≤ ((IntKind.wrap .i64 p_turn).tmod ((y7.n : Nat) : Int)) ∧ ((IntKind.wrap .i64 p_turn).tmod ((y7.n : Nat) : Int)) < ((y7.n : Nat) : Int))) ∧ ((0 : Int) ≤ 1 ∧ 1 ≤ (((y7.g ((IntKind.wrap .i64 p_turn).tmod ((y7.n : Nat) : Int)).toNat).length : Nat) : Int))) ∧ (((((y3.1 ++ [32]) ++ ((if ((byteAt (y7.g ((IntKind.wrap .i64 p_turn).tmod ((y7.n : Nat) : Int)).toNat) 0) == 43) = true then [45] else [43]) : Str)).length + ((y7.g ((IntKind.wrap .i64 p_turn).tmod ((y7.n : Nat) : Int)).toNat).drop 1).length : Nat) : Int) ≤ 9223372036854775807)) ∧ ((0 : Int) ≤ ((IntKind.wrap .i64 p_turn).tmod ((y7.n : Nat) : Int)) ∧ ((IntKind.wrap .i64 p_turn).tmod ((y7.n : Nat) : Int)) < ((y7.n : Nat) : Int))) ∧ ((0 : Int) ≤ 1 ∧ 1 ≤ (((y7.g ((IntKind.wrap .i64 p_turn).tmod ((y7.n : Nat) : Int)).toNat).length : Nat) : Int))) ∧ (((y3.1.length + [120].length : Nat) : Int) ≤ 9223372036854775807)) ∧ (((y3.1.length + [32, 43].length : Nat) : Int) ≤ 9223372036854775807)) ∧ (((y3.1.length + [32, 45, 122, 57].length : Nat) : Int) ≤ 9223372036854775807)) then
                          fix1 N (fun self1 (x2 : Int) =>
                              if (decide (x2 < (((Sl.of [([32] ++ y3.1), (y3.1 ++ [32]), ((y14 ++ [32, 32]) ++ y15), ((y3.1 ++ [32]) ++ (y7.g ((IntKind.wrap .i64 p_turn).tmod ((y7.n : Nat) : Int)).toNat)), (((y3.1 ++ [32]) ++ ((if ((byteAt (y7.g ((IntKind.wrap .i64 p_turn).tmod ((y7.n : Nat) : Int)).toNat) 0) == 43) = true then [45] else [43]) : Str)) ++ ((y7.g ((IntKind.wrap .i64 p_turn).tmod ((y7.n : Nat) : Int)).toNat).drop 1)), ((y7.g ((IntKind.wrap .i64 p_turn).tmod ((y7.n : Nat) : Int)).toNat).drop 1), (y3.1 ++ [120]), (y3.1 ++ [32, 43]), (y3.1 ++ [32, 45, 122, 57])] : Sl Str).n : Nat) : Int))) = true then
                                if ((0 : Int) ≤ x2 ∧ x2 < (((Sl.of [([32] ++ y3.1), (y3.1 ++ [32]), ((y14 ++ [32, 32]) ++ y15), ((y3.1 ++ [32]) ++ (y7.g ((IntKind.wrap .i64 p_turn).tmod ((y7.n : Nat) : Int)).toNat)), (((y3.1 ++ [32]) ++ ((if ((byteAt (y7.g ((IntKind.wrap .i64 p_turn).tmod ((y7.n : Nat) : Int)).toNat) 0) == 43) = true then [45] else [43]) : Str)) ++ ((y7.g ((IntKind.wrap .i64 p_turn).tmod ((y7.n : Nat) : Int)).toNat).drop 1)), ((y7.g ((IntKind.wrap .i64 p_turn).tmod ((y7.n : Nat) : Int)).toNat).drop 1), (y3.1 ++ [120]), (y3.1 ++ [32, 43]), (y3.1 ++ [32, 45, 122, 57])] : Sl Str).n : Nat) : Int)) then
                                  (m_inventory_Inv_Bundle N z1 ((Sl.of [([32] ++ y3.1), (y3.1 ++ [32]), ((y14 ++ [32, 32]) ++ y15), ((y3.1 ++ [32]) ++ (y7.g ((IntKind.wrap .i64 p_turn).tmod ((y7.n : Nat) : Int)).toNat)), (((y3.1 ++ [32]) ++ ((if ((byteAt (y7.g ((IntKind.wrap .i64 p_turn).tmod ((y7.n : Nat) : Int)).toNat) 0) == 43) = true then [45] else [43]) : Str)) ++ ((y7.g ((IntKind.wrap .i64 p_turn).tmod ((y7.n : Nat) : Int)).toNat).drop 1)), ((y7.g ((IntKind.wrap .i64 p_turn).tmod ((y7.n : Nat) : Int)).toNat).drop 1), (y3.1 ++ [120]), (y3.1 ++ [32, 43]), (y3.1 ++ [32, 45, 122, 57])] : Sl Str).g x2.toNat)).bind fun y18 =>
                                  if ((y18.2 != 10) || (((y18.1.Plus == 0) && (y18.1.Minus == 0)) != true)) = true then
                                    some false
                                  else
                                    self1 (IntKind.wrap .i64 (x2 + 1))
                                else none
                              else
                                (m_ablautlaw03_works N ).bind fun y19 =>
                                some y19
                            ) 0
                        else none
                      else none
                    else none
                  else none
            else none
          else none
        else none
theorem w_ablautlaw03_InventoryAny {N : Nat} {p_count : Int} {p_s : Sound} {p_turn : Int}   {y : Bool} (h : m_ablautlaw03_InventoryAny N p_count p_s p_turn = some y) :
    FunO S k_ablautlaw03_InventoryAny [(.p (pI .u8 p_count)), (.p (.agg (c_Sound p_s))), (.p (pI .u8 p_turn))] [] (.p (.bb y)) ([]) [] := by
  unfold m_ablautlaw03_InventoryAny at h
  refine K_start hS f_ablautlaw03_InventoryAny ?_
  obtain ⟨y1, e1, h⟩ := bindE h
  rcases o1 : y1.1 with _ | z1
  · replace h := optN o1 h
    have w1 := (w_ablautlaw03_numbered hS hL e1)
    simp only [o1, optE_none, optE_some, List.append_nil, List.cons_append, List.nil_append] at w1
    refine K_call hS [] (by decide : (25 : Int) ≠ 0) w1 ?_
    obtain rfl := someI h
    exact K_ret hS trivial [] ⟨rfl, rfl, rfl⟩
  · replace h := optS o1 h
    have w2 := (w_ablautlaw03_numbered hS hL e1)
    simp only [o1, optE_none, optE_some, List.append_nil, List.cons_append, List.nil_append] at w2
    refine K_call hS [] (by decide : (25 : Int) ≠ 0) w2 ?_
    obtain ⟨y2, e2, h⟩ := bindE h
    refine K_call hS [] trivial (w_ablautlaw03_clean hS hL e2) ?_
    obtain ⟨y3, e3, h⟩ := bindE h
    refine K_call hS [30001, 30002, 30003, 30004, 30005] trivial (w_inventory_Inv_Text hS hL e3) ?_
    refine K_cond hS trivial (b := y3.2 != 0) (fun c1 => ?_) (fun c1 => ?_)
    · replace h := itT c1 h
      obtain rfl := someI h
      exact K_ret hS trivial [] ⟨rfl, rfl, rfl⟩
    · replace h := itF c1 h
      refine K_cond hS trivial (b := ((y3.1 == []) != false)) (fun c2 => ?_) (fun c2 => ?_)
      · replace h := itT c2 h
        obtain ⟨y4, e4, h⟩ := bindE h
        refine K_call hS [30001, 30002, 30003, 30004, 30005] trivial (w_inventory_Inv_Bundle hS hL e4) ?_
        refine K_lt hS (by decide +kernel : eqOk Tryd.prog t_api_Sound = true) (fnPost_up hS) h 0 (fun z2 => ⟨[(6, (.p (.bb z2)))], []⟩) (fun M1 k1 hb1 h => ?_) (fun z2 h => ?_)
        · refine K_guard hS trivial (b := (((y2.Plus == 0) && (y2.Minus == 0)) != false)) (fun c7 => ?_) (fun c7 => ?_)
          · replace h := itT c7 h
            refine K_guard hS trivial (b := y4.2 == 10) (fun c8 => ?_) (fun c8 => ?_)
            · replace h := itT c8 h
              obtain ⟨y6, e6, h⟩ := bindE h
              refine K_call hS [] trivial (w_ablautlaw03_works hS hL e6) ?_
              exact hb1 _ [] _ y6 trivial h
            · replace h := itF c8 h
              exact hb1 _ [] _ false trivial h
          · replace h := itF c7 h
            exact hb1 _ [] _ false trivial h
        · obtain rfl := someI h
          exact K_ret hS trivial [] ⟨rfl, rfl, rfl⟩
      · replace h := itF c2 h
        obtain ⟨y7, e7, h⟩ := bindE h
        refine K_call hS [] trivial (w_strings_Split hS hL hD e7) ?_
        obtain ⟨c9, h⟩ := chkE h
        refine K_drawn hS c9 ?_
        obtain ⟨c10, h⟩ := chkE h
        obtain ⟨y8, e8, h⟩ := bindE h
        refine D_call [] c10 (w_Uslices_Clone_sl_string_string hS hL e8) ?_
        obtain ⟨c11, h⟩ := chkE h
        refine D_end c11 ?_
        refine K_weak hS trivial ⟨[(79, (.vec 77000)), (78, (.reg 30001 0)), (16, (.vec 77000)), (15, (.p (pI .i64 ((IntKind.wrap .i64 p_turn).tmod ((y7.n : Nat) : Int))))), (14, (.p (vSl 1 cS y7))), (10, (.p (.str y3.1))), (8, (.reg 30001 0)), (4, (.reg 5000 0))], [(77000, (.vec t_string 1 (y8.app (y7.take ((IntKind.wrap .i64 p_turn).tmod ((y7.n : Nat) : Int)).toNat)).n (fun i => cS ((y8.app (y7.take ((IntKind.wrap .i64 p_turn).tmod ((y7.n : Nat) : Int)).toNat)).g i)) false)), (30005, (.map (encM (fun x => .agg (c_Sound x)) (pI .i64) z1.values))), (30004, (.map (encM PV.str (pI .i64) z1.symbols))), (30003, (.vec t_api_Named 3 z1.sounds.n (fun i => c_Named (z1.sounds.g i)) true)), (30002, (.map (encM PV.str (pI .i64) z1.number))), (30001, (.cells [(.p (vSl 1 cS z1.feats)), (.mref 30002), (.vec 30003), (.mref 30004), (.mref 30005)])), (5000, (.cells [(.p (pI .u32 y2.Plus)), (.p (pI .u32 y2.Minus))]))]⟩ (ids := [(5000, 5000), (30001, 30001), (30002, 30002), (30003, 30003), (30004, 30004), (30005, 30005), (77000, 77000)]) ?_ (hle := (klR [(3, .fn (y8.n + (y7.take ((IntKind.wrap .i64 p_turn).tmod ((y7.n : Nat) : Int)).toNat).n) (y8.app (y7.take ((IntKind.wrap .i64 p_turn).tmod ((y7.n : Nat) : Int)).toNat)).n (appF y8.n (fun i => cS (y8.g i)) (fun i => cS ((y7.take ((IntKind.wrap .i64 p_turn).tmod ((y7.n : Nat) : Int)).toNat).g i))) (fun i => cS ((y8.app (y7.take ((IntKind.wrap .i64 p_turn).tmod ((y7.n : Nat) : Int)).toNat)).g i)))] (al1 ⟨rfl, (appL (c := cS) (v := y8) (w := (y7.take ((IntKind.wrap .i64 p_turn).tmod ((y7.n : Nat) : Int)).toNat)) same rfl same rfl)⟩ al0)))
        obtain ⟨y9, e9, h⟩ := bindE h
        refine K_callM hS [77000] trivial (w_strings_JoinM hS hL hD e9) ?_
        obtain ⟨y10, e10, h⟩ := bindE h
        refine K_call hS [30001, 30002, 30003, 30004, 30005] trivial (w_inventory_Inv_Bundle hS hL e10) ?_
        obtain ⟨t1, ht1⟩ : ∃ x : Bool, x = ((y10.2 != 0) || (((y10.1.Plus == y2.Plus) && (y10.1.Minus == y2.Minus)) != true)) := ⟨_, rfl⟩
        refine K_cut hS trivial (fnPost_up hS) 0 ⟨[(90, (.p (.bb t1))), (17, (.reg 18000 0)), (16, (.vec 77000)), (15, (.p (pI .i64 ((IntKind.wrap .i64 p_turn).tmod ((y7.n : Nat) : Int))))), (14, (.p (vSl 1 cS y7))), (10, (.p (.str y3.1))), (8, (.reg 30001 0)), (4, (.reg 5000 0))], [(77000, (.vec t_string 1 (y8.app (y7.take ((IntKind.wrap .i64 p_turn).tmod ((y7.n : Nat) : Int)).toNat)).n (fun i => cS ((y8.app (y7.take ((IntKind.wrap .i64 p_turn).tmod ((y7.n : Nat) : Int)).toNat)).g i)) false)), (30005, (.map (encM (fun x => .agg (c_Sound x)) (pI .i64) z1.values))), (30004, (.map (encM PV.str (pI .i64) z1.symbols))), (30003, (.vec t_api_Named 3 z1.sounds.n (fun i => c_Named (z1.sounds.g i)) true)), (30002, (.map (encM PV.str (pI .i64) z1.number))), (30001, (.cells [(.p (vSl 1 cS z1.feats)), (.mref 30002), (.vec 30003), (.mref 30004), (.mref 30005)])), (18000, (.cells [(.p (pI .u32 y10.1.Plus)), (.p (pI .u32 y10.1.Minus))])), (5000, (.cells [(.p (pI .u32 y2.Plus)), (.p (pI .u32 y2.Minus))]))]⟩ (fun M2 hb2 => ?_) ?_
        · refine K_guard hS trivial (b := y10.2 != 0) (fun c13 => ?_) (fun c13 => ?_)
          · exact hb2 _ [(5000, 5000), (18000, 18000), (30001, 30001), (30002, 30002), (30003, 30003), (30004, 30004), (30005, 30005), (77000, 77000)] _ trivial (by kernel_rfl) (by kernel_rfl) (klR [(0, .eq (.bb true) (.bb t1))] (al1 (by simp only [ht1, c13, Leaf.ok, pm, if_true, if_false]) al0))
          · exact hb2 _ [(5000, 5000), (18000, 18000), (30001, 30001), (30002, 30002), (30003, 30003), (30004, 30004), (30005, 30005), (77000, 77000)] _ (by decide +kernel : eqOk Tryd.prog t_api_Sound = true) (by kernel_rfl) (by kernel_rfl) (klR [(0, .eq (.bb (((y10.1.Plus == y2.Plus) && (y10.1.Minus == y2.Minus)) != true)) (.bb t1))] (al1 (by simp only [ht1, c13, Leaf.ok, pm, if_true, if_false]) al0))
        · subst ht1
          refine K_cond hS trivial (b := ((y10.2 != 0) || (((y10.1.Plus == y2.Plus) && (y10.1.Minus == y2.Minus)) != true))) (fun c14 => ?_) (fun c14 => ?_)
          · replace h := itT c14 h
            obtain rfl := someI h
            exact K_ret hS trivial [] ⟨rfl, rfl, rfl⟩
          · replace h := itF c14 h
            obtain ⟨y11, e11, h⟩ := bindE h
            refine K_callM hS [77000] trivial (w_slices_Reverse_sl_string_string hS hL hD e11) ?_
            obtain ⟨y12, e12, h⟩ := bindE h
            refine K_callM hS [77000] trivial (w_strings_JoinM hS hL hD e12) ?_
            obtain ⟨y13, e13, h⟩ := bindE h
            refine K_call hS [30001, 30002, 30003, 30004, 30005] trivial (w_inventory_Inv_Bundle hS hL e13) ?_
            obtain ⟨t2, ht2⟩ : ∃ x : Bool, x = ((y13.2 != 0) || (((y13.1.Plus == y2.Plus) && (y13.1.Minus == y2.Minus)) != true)) := ⟨_, rfl⟩
            refine K_cut hS trivial (fnPost_up hS) 0 ⟨[(106, (.p (.bb t2))), (15, (.p (pI .i64 ((IntKind.wrap .i64 p_turn).tmod ((y7.n : Nat) : Int))))), (14, (.p (vSl 1 cS y7))), (10, (.p (.str y3.1))), (8, (.reg 30001 0))], [(30005, (.map (encM (fun x => .agg (c_Sound x)) (pI .i64) z1.values))), (30004, (.map (encM PV.str (pI .i64) z1.symbols))), (30003, (.vec t_api_Named 3 z1.sounds.n (fun i => c_Named (z1.sounds.g i)) true)), (30002, (.map (encM PV.str (pI .i64) z1.number))), (30001, (.cells [(.p (vSl 1 cS z1.feats)), (.mref 30002), (.vec 30003), (.mref 30004), (.mref 30005)]))]⟩ (fun M3 hb3 => ?_) ?_
            · refine K_guard hS trivial (b := y13.2 != 0) (fun c16 => ?_) (fun c16 => ?_)
              · exact hb3 _ [(30001, 30001), (30002, 30002), (30003, 30003), (30004, 30004), (30005, 30005)] _ trivial (by kernel_rfl) (by kernel_rfl) (klR [(0, .eq (.bb true) (.bb t2))] (al1 (by simp only [ht2, c16, Leaf.ok, pm, if_true, if_false]) al0))
              · exact hb3 _ [(30001, 30001), (30002, 30002), (30003, 30003), (30004, 30004), (30005, 30005)] _ (by decide +kernel : eqOk Tryd.prog t_api_Sound = true) (by kernel_rfl) (by kernel_rfl) (klR [(0, .eq (.bb (((y13.1.Plus == y2.Plus) && (y13.1.Minus == y2.Minus)) != true)) (.bb t2))] (al1 (by simp only [ht2, c16, Leaf.ok, pm, if_true, if_false]) al0))
            · subst ht2
              refine K_cond hS trivial (b := ((y13.2 != 0) || (((y13.1.Plus == y2.Plus) && (y13.1.Minus == y2.Minus)) != true))) (fun c17 => ?_) (fun c17 => ?_)
              · replace h := itT c17 h
                obtain rfl := someI h
                exact K_ret hS trivial [] ⟨rfl, rfl, rfl⟩
              · replace h := itF c17 h
                obtain ⟨c18, h⟩ := chkE h
                obtain ⟨t3, ht3⟩ : ∃ x : Str, x = ((if ((byteAt (y7.g ((IntKind.wrap .i64 p_turn).tmod ((y7.n : Nat) : Int)).toNat) 0) == 43) = true then [45] else [43]) : Str) := ⟨_, rfl⟩
                refine K_cut hS c18 (fnPost_up hS) 0 ⟨[(19, (.p (.str t3))), (15, (.p (pI .i64 ((IntKind.wrap .i64 p_turn).tmod ((y7.n : Nat) : Int))))), (14, (.p (vSl 1 cS y7))), (10, (.p (.str y3.1))), (8, (.reg 30001 0))], [(30005, (.map (encM (fun x => .agg (c_Sound x)) (pI .i64) z1.values))), (30004, (.map (encM PV.str (pI .i64) z1.symbols))), (30003, (.vec t_api_Named 3 z1.sounds.n (fun i => c_Named (z1.sounds.g i)) true)), (30002, (.map (encM PV.str (pI .i64) z1.number))), (30001, (.cells [(.p (vSl 1 cS z1.feats)), (.mref 30002), (.vec 30003), (.mref 30004), (.mref 30005)]))]⟩ (fun M4 hb4 => ?_) ?_
                · refine K_cond hS trivial (b := (byteAt (y7.g ((IntKind.wrap .i64 p_turn).tmod ((y7.n : Nat) : Int)).toNat) 0) == 43) (fun c20 => ?_) (fun c20 => ?_)
                  · exact hb4 _ [(30001, 30001), (30002, 30002), (30003, 30003), (30004, 30004), (30005, 30005)] _ trivial (by kernel_rfl) (by kernel_rfl) (klR [(0, .eq (.str [45]) (.str t3))] (al1 (by simp only [ht3, c20, Leaf.ok, pm, if_true, if_false]) al0))
                  · exact hb4 _ [(30001, 30001), (30002, 30002), (30003, 30003), (30004, 30004), (30005, 30005)] _ trivial (by kernel_rfl) (by kernel_rfl) (klR [(0, .eq (.str [43]) (.str t3))] (al1 (by simp only [ht3, c20, Leaf.ok, pm, if_true, if_false]) al0))
                · subst ht3
                  refine K_drawnN hS trivial [18, 19, 27, 28, 33, 34] ?_
                  obtain ⟨c21, h⟩ := chkE h
                  obtain ⟨y14, e14, h⟩ := bindE h
                  refine D_pure c21 (w_strings_Join hS hL e14) ?_
                  obtain ⟨c22, h⟩ := chkE h
                  obtain ⟨y15, e15, h⟩ := bindE h
                  refine D_pure c22 (w_strings_Join hS hL e15) ?_
                  obtain ⟨c23, h⟩ := chkE h
                  refine D_build c23 (x := (.sl true 1 9 (lookF [(.str [])] [(0, cS ([32] ++ y3.1)), (1, cS (y3.1 ++ [32])), (2, cS ((y14 ++ [32, 32]) ++ y15)), (3, cS ((y3.1 ++ [32]) ++ (y7.g ((IntKind.wrap .i64 p_turn).tmod ((y7.n : Nat) : Int)).toNat))), (4, cS (((y3.1 ++ [32]) ++ ((if ((byteAt (y7.g ((IntKind.wrap .i64 p_turn).tmod ((y7.n : Nat) : Int)).toNat) 0) == 43) = true then [45] else [43]) : Str)) ++ ((y7.g ((IntKind.wrap .i64 p_turn).tmod ((y7.n : Nat) : Int)).toNat).drop 1))), (5, cS ((y7.g ((IntKind.wrap .i64 p_turn).tmod ((y7.n : Nat) : Int)).toNat).drop 1)), (6, cS (y3.1 ++ [120])), (7, cS (y3.1 ++ [32, 43])), (8, cS (y3.1 ++ [32, 45, 122, 57]))]))) ?_
                  refine D_end trivial ?_
                  refine K_fix1 hS trivial h (fun x2 => ⟨[(157, (.p (pI .i64 x2))), (156, (.p (pI .i64 (((Sl.of [([32] ++ y3.1), (y3.1 ++ [32]), ((y14 ++ [32, 32]) ++ y15), ((y3.1 ++ [32]) ++ (y7.g ((IntKind.wrap .i64 p_turn).tmod ((y7.n : Nat) : Int)).toNat)), (((y3.1 ++ [32]) ++ ((if ((byteAt (y7.g ((IntKind.wrap .i64 p_turn).tmod ((y7.n : Nat) : Int)).toNat) 0) == 43) = true then [45] else [43]) : Str)) ++ ((y7.g ((IntKind.wrap .i64 p_turn).tmod ((y7.n : Nat) : Int)).toNat).drop 1)), ((y7.g ((IntKind.wrap .i64 p_turn).tmod ((y7.n : Nat) : Int)).toNat).drop 1), (y3.1 ++ [120]), (y3.1 ++ [32, 43]), (y3.1 ++ [32, 45, 122, 57])] : Sl Str).n : Nat) : Int)))), (155, (.p (vSl 1 cS (Sl.of [([32] ++ y3.1), (y3.1 ++ [32]), ((y14 ++ [32, 32]) ++ y15), ((y3.1 ++ [32]) ++ (y7.g ((IntKind.wrap .i64 p_turn).tmod ((y7.n : Nat) : Int)).toNat)), (((y3.1 ++ [32]) ++ ((if ((byteAt (y7.g ((IntKind.wrap .i64 p_turn).tmod ((y7.n : Nat) : Int)).toNat) 0) == 43) = true then [45] else [43]) : Str)) ++ ((y7.g ((IntKind.wrap .i64 p_turn).tmod ((y7.n : Nat) : Int)).toNat).drop 1)), ((y7.g ((IntKind.wrap .i64 p_turn).tmod ((y7.n : Nat) : Int)).toNat).drop 1), (y3.1 ++ [120]), (y3.1 ++ [32, 43]), (y3.1 ++ [32, 45, 122, 57])] : Sl Str)))), (8, (.reg 30001 0))], [(30005, (.map (encM (fun x => .agg (c_Sound x)) (pI .i64) z1.values))), (30004, (.map (encM PV.str (pI .i64) z1.symbols))), (30003, (.vec t_api_Named 3 z1.sounds.n (fun i => c_Named (z1.sounds.g i)) true)), (30002, (.map (encM PV.str (pI .i64) z1.number))), (30001, (.cells [(.p (vSl 1 cS z1.feats)), (.mref 30002), (.vec 30003), (.mref 30004), (.mref 30005)]))]⟩) (ids := [(30001, 30001), (30002, 30002), (30003, 30003), (30004, 30004), (30005, 30005)]) (fun _ _ _ _ _ self1 x2 hb7 h => ?_) (hle := (klR [(2, .fn 9 (Sl.of [([32] ++ y3.1), (y3.1 ++ [32]), ((y14 ++ [32, 32]) ++ y15), ((y3.1 ++ [32]) ++ (y7.g ((IntKind.wrap .i64 p_turn).tmod ((y7.n : Nat) : Int)).toNat)), (((y3.1 ++ [32]) ++ ((if ((byteAt (y7.g ((IntKind.wrap .i64 p_turn).tmod ((y7.n : Nat) : Int)).toNat) 0) == 43) = true then [45] else [43]) : Str)) ++ ((y7.g ((IntKind.wrap .i64 p_turn).tmod ((y7.n : Nat) : Int)).toNat).drop 1)), ((y7.g ((IntKind.wrap .i64 p_turn).tmod ((y7.n : Nat) : Int)).toNat).drop 1), (y3.1 ++ [120]), (y3.1 ++ [32, 43]), (y3.1 ++ [32, 45, 122, 57])] : Sl Str).n (lookF [(.str [])] [(0, cS ([32] ++ y3.1)), (1, cS (y3.1 ++ [32])), (2, cS ((y14 ++ [32, 32]) ++ y15)), (3, cS ((y3.1 ++ [32]) ++ (y7.g ((IntKind.wrap .i64 p_turn).tmod ((y7.n : Nat) : Int)).toNat))), (4, cS (((y3.1 ++ [32]) ++ ((if ((byteAt (y7.g ((IntKind.wrap .i64 p_turn).tmod ((y7.n : Nat) : Int)).toNat) 0) == 43) = true then [45] else [43]) : Str)) ++ ((y7.g ((IntKind.wrap .i64 p_turn).tmod ((y7.n : Nat) : Int)).toNat).drop 1))), (5, cS ((y7.g ((IntKind.wrap .i64 p_turn).tmod ((y7.n : Nat) : Int)).toNat).drop 1)), (6, cS (y3.1 ++ [120])), (7, cS (y3.1 ++ [32, 43])), (8, cS (y3.1 ++ [32, 45, 122, 57]))]) (fun i => cS ((Sl.of [([32] ++ y3.1), (y3.1 ++ [32]), ((y14 ++ [32, 32]) ++ y15), ((y3.1 ++ [32]) ++ (y7.g ((IntKind.wrap .i64 p_turn).tmod ((y7.n : Nat) : Int)).toNat)), (((y3.1 ++ [32]) ++ ((if ((byteAt (y7.g ((IntKind.wrap .i64 p_turn).tmod ((y7.n : Nat) : Int)).toNat) 0) == 43) = true then [45] else [43]) : Str)) ++ ((y7.g ((IntKind.wrap .i64 p_turn).tmod ((y7.n : Nat) : Int)).toNat).drop 1)), ((y7.g ((IntKind.wrap .i64 p_turn).tmod ((y7.n : Nat) : Int)).toNat).drop 1), (y3.1 ++ [120]), (y3.1 ++ [32, 43]), (y3.1 ++ [32, 45, 122, 57])] : Sl Str).g i)))] (al1 ⟨rfl, (fun i hi => match i, hi with | 0, _ => rfl | 1, _ => rfl | 2, _ => rfl | 3, _ => rfl | 4, _ => rfl | 5, _ => rfl | 6, _ => rfl | 7, _ => rfl | 8, _ => rfl | _ + 9, hi => absurd hi (by omega))⟩ al0)))
                  refine K_cond hS trivial (b := decide (x2 < (((Sl.of [([32] ++ y3.1), (y3.1 ++ [32]), ((y14 ++ [32, 32]) ++ y15), ((y3.1 ++ [32]) ++ (y7.g ((IntKind.wrap .i64 p_turn).tmod ((y7.n : Nat) : Int)).toNat)), (((y3.1 ++ [32]) ++ ((if ((byteAt (y7.g ((IntKind.wrap .i64 p_turn).tmod ((y7.n : Nat) : Int)).toNat) 0) == 43) = true then [45] else [43]) : Str)) ++ ((y7.g ((IntKind.wrap .i64 p_turn).tmod ((y7.n : Nat) : Int)).toNat).drop 1)), ((y7.g ((IntKind.wrap .i64 p_turn).tmod ((y7.n : Nat) : Int)).toNat).drop 1), (y3.1 ++ [120]), (y3.1 ++ [32, 43]), (y3.1 ++ [32, 45, 122, 57])] : Sl Str).n : Nat) : Int))) (fun c34 => ?_) (fun c34 => ?_)
                  · replace h := itT c34 h
                    obtain ⟨c35, h⟩ := chkE h
                    obtain ⟨y18, e18, h⟩ := bindE h
                    refine K_call hS [30001, 30002, 30003, 30004, 30005] c35 (w_inventory_Inv_Bundle hS hL e18) ?_
                    obtain ⟨t6, ht6⟩ : ∃ x : Bool, x = ((y18.2 != 10) || (((y18.1.Plus == 0) && (y18.1.Minus == 0)) != true)) := ⟨_, rfl⟩
                    refine K_cut hS trivial (fnPost_up hS) 0 ⟨[(173, (.p (.bb t6))), (157, (.p (pI .i64 x2))), (156, (.p (pI .i64 (((Sl.of [([32] ++ y3.1), (y3.1 ++ [32]), ((y14 ++ [32, 32]) ++ y15), ((y3.1 ++ [32]) ++ (y7.g ((IntKind.wrap .i64 p_turn).tmod ((y7.n : Nat) : Int)).toNat)), (((y3.1 ++ [32]) ++ ((if ((byteAt (y7.g ((IntKind.wrap .i64 p_turn).tmod ((y7.n : Nat) : Int)).toNat) 0) == 43) = true then [45] else [43]) : Str)) ++ ((y7.g ((IntKind.wrap .i64 p_turn).tmod ((y7.n : Nat) : Int)).toNat).drop 1)), ((y7.g ((IntKind.wrap .i64 p_turn).tmod ((y7.n : Nat) : Int)).toNat).drop 1), (y3.1 ++ [120]), (y3.1 ++ [32, 43]), (y3.1 ++ [32, 45, 122, 57])] : Sl Str).n : Nat) : Int)))), (155, (.p (vSl 1 cS (Sl.of [([32] ++ y3.1), (y3.1 ++ [32]), ((y14 ++ [32, 32]) ++ y15), ((y3.1 ++ [32]) ++ (y7.g ((IntKind.wrap .i64 p_turn).tmod ((y7.n : Nat) : Int)).toNat)), (((y3.1 ++ [32]) ++ ((if ((byteAt (y7.g ((IntKind.wrap .i64 p_turn).tmod ((y7.n : Nat) : Int)).toNat) 0) == 43) = true then [45] else [43]) : Str)) ++ ((y7.g ((IntKind.wrap .i64 p_turn).tmod ((y7.n : Nat) : Int)).toNat).drop 1)), ((y7.g ((IntKind.wrap .i64 p_turn).tmod ((y7.n : Nat) : Int)).toNat).drop 1), (y3.1 ++ [120]), (y3.1 ++ [32, 43]), (y3.1 ++ [32, 45, 122, 57])] : Sl Str)))), (8, (.reg 30001 0))], [(30005, (.map (encM (fun x => .agg (c_Sound x)) (pI .i64) z1.values))), (30004, (.map (encM PV.str (pI .i64) z1.symbols))), (30003, (.vec t_api_Named 3 z1.sounds.n (fun i => c_Named (z1.sounds.g i)) true)), (30002, (.map (encM PV.str (pI .i64) z1.number))), (30001, (.cells [(.p (vSl 1 cS z1.feats)), (.mref 30002), (.vec 30003), (.mref 30004), (.mref 30005)]))]⟩ (fun M7 hb8 => ?_) ?_
                    · refine K_guard hS trivial (b := y18.2 != 10) (fun c37 => ?_) (fun c37 => ?_)
                      · exact hb8 _ [(30001, 30001), (30002, 30002), (30003, 30003), (30004, 30004), (30005, 30005)] _ trivial (by kernel_rfl) (by kernel_rfl) (klR [(0, .eq (.bb true) (.bb t6))] (al1 (by simp only [ht6, c37, Leaf.ok, pm, if_true, if_false]) al0))
                      · exact hb8 _ [(30001, 30001), (30002, 30002), (30003, 30003), (30004, 30004), (30005, 30005)] _ (by decide +kernel : eqOk Tryd.prog t_api_Sound = true) (by kernel_rfl) (by kernel_rfl) (klR [(0, .eq (.bb (((y18.1.Plus == 0) && (y18.1.Minus == 0)) != true)) (.bb t6))] (al1 (by simp only [ht6, c37, Leaf.ok, pm, if_true, if_false]) al0))
                    · subst ht6
                      refine K_cond hS trivial (b := ((y18.2 != 10) || (((y18.1.Plus == 0) && (y18.1.Minus == 0)) != true))) (fun c38 => ?_) (fun c38 => ?_)
                      · replace h := itT c38 h
                        obtain rfl := someI h
                        exact K_ret hS trivial [] ⟨rfl, rfl, rfl⟩
                      · replace h := itF c38 h
                        exact hb7 _ [(30001, 30001), (30002, 30002), (30003, 30003), (30004, 30004), (30005, 30005)] _ (IntKind.wrap .i64 (x2 + 1)) trivial h
                  · replace h := itF c34 h
                    obtain ⟨y19, e19, h⟩ := bindE h
                    refine K_call hS [] trivial (w_ablautlaw03_works hS hL e19) ?_
                    obtain rfl := someI h
                    exact K_ret hS trivial [] ⟨rfl, rfl, rfl⟩
end Go.AM
set_option linter.unusedVariables false
namespace Go.AM
open Go.Proofs
theorem count_no {x : Str} (h : ∀ c ∈ x, c ≠ 32) : Lib.countByte x 32 = 0 := by
  unfold Lib.countByte
  rw [List.count_eq_zero]
  intro hm; exact h 32 hm rfl
theorem count_jn : ∀ (x : Str) (L : List Str), (∀ y ∈ x :: L, ∀ c ∈ y, c ≠ 32) → Lib.countByte (jn (x :: L)) 32 = L.length
  | x, [], h => by rw [jn_one, count_no (h x (by simp))]; rfl
  | x, y :: L, h => by
    have e1 := count_no (h x (by simp))
    have ih := count_jn y L (fun z hz => h z (by simp [hz]))
    unfold Lib.countByte at *
    rw [jn_cons, List.count_append, e1, List.count_cons_self, ih]; simp
theorem index_app {x y : Str} (h : ∀ c ∈ x, c ≠ 32) : Lib.indexByte (x ++ 32 :: y) 32 = (x.length : Int) := by
  induction x with
  | nil => rfl
  | cons c r ih =>
    have e := ih fun d hd => h d (by simp [hd])
    have hc : (c == 32) = false := by simpa using h c (by simp)
    simp only [List.cons_append, Lib.indexByte, hc, e]
    rw [if_neg (by simp), if_neg (by simp), List.length_cons]
    omega
theorem Split_eq {N : Nat} (x : Str) (L : List Str) (h : ∀ y ∈ x :: L, ∀ c ∈ y, c ≠ 32) (hN : L.length + 1 < N) (hl : (jn (x :: L)).length < 1000000000) :
    m_strings_Split N (jn (x :: L)) [32] = some ⟨L.length + 1, fun j => if j < L.length + 1 then (x :: L).getD j [] else []⟩ := by
  have hc : L.length ≤ (jn (x :: L)).length := by rw [← count_jn x L h]; exact List.count_le_length
  unfold m_strings_Split m_strings_genSplit
  rw [if_neg (by decide), if_neg (by decide)]
  simp only [lt, m_strings_Count, Option.bind_some]
  rw [if_pos (by decide), count_jn x L h, wrap64_succ (by omega), wrap64_succ (by omega)]
  have hlt : ¬ ((((jn (x :: L)).length + 1 : Nat) : Int) < ((L.length + 1 : Nat) : Int)) := by omega
  simp only [if_neg hlt]
  rw [if_pos (by omega), wrap64_in (by omega) (by omega)]
  unfold fix3
  have key : ∀ good, good = some (⟨L.length + 1, fun j => if j < L.length + 1 then (x :: L).getD j [] else []⟩ : Sl Str) →
      (good.bind fun y1 => some y1) = some (⟨L.length + 1, fun j => if j < L.length + 1 then (x :: L).getD j [] else []⟩ : Sl Str) := fun _ e => by rw [e]; rfl
  refine key _ ?_
  refine (congrArg _ (show (jn (x :: L), (Sl.rep (((L.length + 1 : Nat) : Int)).toNat [] : Sl Str), (0 : Int)) = (jn ((x :: L).drop 0), (⟨L.length + 1, fun j => if j < 0 then (x :: L).getD j [] else []⟩ : Sl Str), ((0 : Nat) : Int)) by simp)).trans ?_
  refine loop_end (fun i : Nat => (jn ((x :: L).drop i), (⟨L.length + 1, fun j => if j < i then (x :: L).getD j [] else []⟩ : Sl Str), (i : Int))) L.length _ (by omega) fun self i hi => ?_
  dsimp only
  have hL : (x :: L).length = L.length + 1 := rfl
  by_cases hlt' : i < L.length
  · have e1 : (x :: L).drop i = (x :: L)[i] :: (x :: L).drop (i + 1) := List.drop_eq_getElem_cons (by omega)
    have e2 : (x :: L).drop (i + 1) = (x :: L)[i + 1] :: (x :: L).drop (i + 1 + 1) := List.drop_eq_getElem_cons (by omega)
    have hu : jn ((x :: L).drop i) = (x :: L)[i] ++ 32 :: jn ((x :: L).drop (i + 1)) := by rw [e1, e2, jn_cons]
    have hno : ∀ c ∈ (x :: L)[i], c ≠ 32 := h _ (List.getElem_mem _)
    have hg : (x :: L).getD i [] = (x :: L)[i] := by rw [List.getD_eq_getElem?_getD, List.getElem?_eq_getElem (by omega)]; rfl
    have hlen : ∀ k, (jn ((x :: L).drop k)).length ≤ (jn (x :: L)).length := by
      intro k
      induction k with
      | zero => exact Nat.le_refl _
      | succ k ih =>
        by_cases hk : k < (x :: L).length
        · refine Nat.le_trans ?_ ih
          rw [List.drop_eq_getElem_cons hk]
          cases (x :: L).drop (k + 1) with
          | nil => simp [jn, Lib.join]
          | cons y R => rw [jn_cons]; simp; omega
        · rw [List.drop_eq_nil_of_le (by omega)]; simp [jn, Lib.join]
    have hli := hlen i
    rw [hu] at hli
    generalize (x :: L)[i] = u at hu hno hg hli ⊢
    rw [List.length_append, List.length_cons] at hli
    rw [if_pos (by simp only [decide_eq_true_eq]; omega), if_pos hlt', hu]
    simp only [m_strings_Index, Option.bind_some, index_app hno]
    rw [if_neg (by simp only [decide_eq_true_eq]; omega)]
    have w1 : IntKind.wrap .i64 ((u.length : Int) + 0) = (u.length : Int) := by rw [Int.add_zero]; exact wrap64_in (by omega) (by omega)
    have w2 : IntKind.wrap .i64 ((u.length : Int) + ((([32] : Str).length : Nat) : Int)) = ((u.length + 1 : Nat) : Int) := wrap64_in (by show _ ≤ _ + (1 : Int); omega) (by show _ + (1 : Int) ≤ _; omega)
    simp only [w1, w2]
    rw [wrap64_succ (by omega), if_pos (by rw [List.length_append, List.length_cons]; omega)]
    congr 1
    simp only [Int.toNat_natCast, Prod.mk.injEq, and_true, List.take_left]
    refine ⟨by rw [← List.drop_drop, List.drop_left]; rfl, ?_⟩
    simp only [Sl.mk.injEq, true_and]
    funext j
    by_cases h1 : j = i
    · subst h1; rw [if_pos rfl, if_pos (by omega), hg]
    · rw [if_neg h1]
      by_cases h2 : j < i
      · rw [if_pos h2, if_pos (by omega)]
      · rw [if_neg h2, if_neg (by omega)]
  · have : i = L.length := by omega
    subst this
    have hg : (x :: L).getD L.length [] = (x :: L)[L.length] := by rw [List.getD_eq_getElem?_getD, List.getElem?_eq_getElem (by simp)]; rfl
    have e1 : (x :: L).drop L.length = [(x :: L)[L.length]] := by
      rw [List.drop_eq_getElem_cons (by simp), List.drop_eq_nil_of_le (by simp)]
    rw [if_neg (by simp only [decide_eq_true_eq]; omega), if_neg hlt', e1, jn_one, wrap64_succ (by omega), if_pos (by omega)]
    simp only [Int.toNat_natCast, Option.some.injEq, Sl.mk.injEq, true_and]
    funext j
    by_cases h1 : j = L.length
    · subst h1; rw [if_pos rfl, if_pos (by omega), hg]
    · rw [if_neg h1]
      by_cases h2 : j < L.length
      · rw [if_pos h2, if_pos (by omega)]
      · rw [if_neg h2, if_neg (by omega)]
theorem Reverse_eq {N : Nat} (s : Sl Str) (hN : s.n < N) (hn : s.n < 1000000000) : ∃ t, m_slices_Reverse_sl_string_string N s = some t ∧ t.n = s.n ∧ ∀ i, i < s.n → t.g i = s.g (s.n - 1 - i) := by
  obtain ⟨n, g⟩ := s
  dsimp only at hN hn ⊢
  refine ⟨⟨n, fun l => if l < n / 2 ∨ (n ≤ l + n / 2 ∧ l < n) then g (n - 1 - l) else g l⟩, ?_, rfl, fun i hi => ?_⟩
  · unfold m_slices_Reverse_sl_string_string fix3
    dsimp only
    rw [wrap64_in (by omega) (by omega)]
    refine (congrArg _ (show ((⟨n, g⟩ : Sl Str), (0 : Int), (n : Int) - 1) = ((⟨n, fun l => if l < 0 ∨ (n ≤ l + 0 ∧ l < n) then g (n - 1 - l) else g l⟩ : Sl Str), ((0 : Nat) : Int), (n : Int) - 1 - ((0 : Nat) : Int)) by
      simp only [Prod.mk.injEq, Sl.mk.injEq, true_and]
      refine ⟨?_, rfl, by omega⟩
      funext l; rw [if_neg (by omega)])).trans ?_
    refine loop_end (fun i : Nat => ((⟨n, fun l => if l < i ∨ (n ≤ l + i ∧ l < n) then g (n - 1 - l) else g l⟩ : Sl Str), (i : Int), (n : Int) - 1 - (i : Int))) (n / 2) _ (by omega) fun self i hi => ?_
    dsimp only
    by_cases h : i < n / 2
    · have e1 : ((n : Int) - 1 - (i : Int)).toNat = n - 1 - i := by omega
      rw [if_pos (by simp only [decide_eq_true_eq]; omega), if_pos h, e1, wrap64_succ (by omega), wrap64_in (by omega) (by omega), if_pos (by omega)]
      congr 1
      simp only [Int.toNat_natCast, Prod.mk.injEq, Sl.mk.injEq, true_and]
      refine ⟨?_, by omega⟩
      funext l
      by_cases h1 : l = n - 1 - i
      · rw [if_pos h1, if_neg (by omega), if_pos (by omega)]; congr 1; omega
      · rw [if_neg h1]
        by_cases h2 : l = i
        · rw [if_pos h2, if_neg (by omega), if_pos (by omega), h2]
        · rw [if_neg h2]
          by_cases h3 : l < i ∨ (n ≤ l + i ∧ l < n)
          · rw [if_pos h3, if_pos (by omega)]
          · rw [if_neg h3, if_neg (by omega)]
    · have : i = n / 2 := by omega
      subst this
      rw [if_neg (by simp only [decide_eq_true_eq]; omega), if_neg h]
  · dsimp only
    split
    · rfl
    · congr 1; omega
def decX (s : Sl Str) (x : Str) : Option (Bool × Nat) := match x with
  | [] => none
  | c :: z => if c = 45 then (fpos s z).map fun i => (false, i) else if c = 43 then (fpos s z).map fun i => (true, i) else none
theorem decX_lt {s : Sl Str} {x : Str} {b : Bool} {i : Nat} (h : decX s x = some (b, i)) : i < s.n := by
  unfold decX at h
  split at h
  · cases h
  · split at h
    · obtain ⟨j, hj, e⟩ := Option.map_eq_some_iff.1 h
      cases e; exact fpos_lt hj
    · split at h
      · obtain ⟨j, hj, e⟩ := Option.map_eq_some_iff.1 h
        cases e; exact fpos_lt hj
      · cases h
def stepD (d : Option (Bool × Nat)) (p m : BitVec 32) : Option (BitVec 32 × BitVec 32) := match d with
  | none => none
  | some (b, i) => if (p.getLsbD i || m.getLsbD i) = true then none else if b = true then some (setB p i, m) else some (p, setB m i)
theorem stepB_dec (s : Sl Str) (x : Str) (p m : BitVec 32) : stepB s x p m = stepD (decX s x) p m := by
  cases x with
  | nil => rfl
  | cons c z =>
    simp only [stepB, decX]
    by_cases h1 : c = 45
    · rw [if_pos h1, if_pos h1]; cases fpos s z <;> simp [stepD]
    · rw [if_neg h1, if_neg h1]
      by_cases h2 : c = 43
      · rw [if_pos h2, if_pos h2]; cases fpos s z <;> simp [stepD]
      · rw [if_neg h2, if_neg h2]; rfl
theorem setB_comm (x : BitVec 32) (i j : Nat) : setB (setB x i) j = setB (setB x j) i := by
  unfold setB
  rw [BitVec.or_assoc, BitVec.or_comm (1#32 <<< i), ← BitVec.or_assoc]
theorem step_swap {s : Sl Str} (hn : s.n ≤ 24) (x y : Str) (p m : BitVec 32) : (stepB s x p m).bind (fun q => stepB s y q.1 q.2) = (stepB s y p m).bind (fun q => stepB s x q.1 q.2) := by
  simp only [stepB_dec]
  cases hx : decX s x with
  | none => cases stepD (decX s y) p m <;> rfl
  | some q =>
    obtain ⟨b, i⟩ := q
    have hi := decX_lt hx
    cases hy : decX s y with
    | none => cases stepD (some (b, i)) p m <;> rfl
    | some r =>
      obtain ⟨c, j⟩ := r
      have hj := decX_lt hy
      have g := fun (z : BitVec 32) (k l : Nat) (hl : l < 24) => get_setB (x := z) (i := k) (j := l) (by omega)
      simp only [stepD]
      by_cases h1 : (p.getLsbD i || m.getLsbD i) = true
      · rw [if_pos h1]
        by_cases h2 : (p.getLsbD j || m.getLsbD j) = true
        · rw [if_pos h2]; rfl
        · rw [if_neg h2]
          cases c <;> simp only [Option.bind_none, Option.bind_some, if_true, if_false, Bool.false_eq_true] <;> rw [if_pos] <;> rw [g _ _ _ (by omega)] <;> simp only [Bool.or_eq_true] at h1 ⊢ <;> rcases h1 with h1 | h1 <;> simp [h1]
      · rw [if_neg h1]
        by_cases h2 : (p.getLsbD j || m.getLsbD j) = true
        · rw [if_pos h2]
          cases b <;> simp only [Option.bind_none, Option.bind_some, if_true, if_false, Bool.false_eq_true] <;> rw [if_pos] <;> rw [g _ _ _ (by omega)] <;> simp only [Bool.or_eq_true] at h2 ⊢ <;> rcases h2 with h2 | h2 <;> simp [h2]
        · rw [if_neg h2]
          simp only [Bool.or_eq_true, not_or, Bool.not_eq_true] at h1 h2
          by_cases e : i = j
          · subst e
            cases b <;> cases c <;> simp [g _ _ _ (show i < 24 by omega), h1.1, h1.2]
          · have e' : ¬ j = i := fun h => e h.symm
            cases b <;> cases c <;> simp [g _ _ _ (show i < 24 by omega), g _ _ _ (show j < 24 by omega), h1.1, h1.2, h2.1, h2.2, e, e', setB_comm _ i j]
theorem foldB_cons (s : Sl Str) (x : Str) (L : List Str) (p m : BitVec 32) : foldB s (x :: L) p m = (stepB s x p m).bind fun q => foldB s L q.1 q.2 := by
  simp only [foldB]; cases stepB s x p m <;> rfl
theorem foldB_perm {s : Sl Str} (hn : s.n ≤ 24) {A B : List Str} (h : A.Perm B) : ∀ p m, foldB s A p m = foldB s B p m := by
  induction h with
  | nil => intro p m; rfl
  | cons x _ ih => intro p m; rw [foldB_cons, foldB_cons]; congr 1; funext q; exact ih q.1 q.2
  | swap x y l =>
    intro p m
    have := step_swap hn y x p m
    simp only [foldB_cons]
    rw [← Option.bind_assoc, ← Option.bind_assoc, this]
  | trans _ _ h1 h2 => intro p m; rw [h1, h2]
theorem fold_bad {s : Sl Str} {x : Str} (h : ∀ p m, stepB s x p m = none) : ∀ (L : List Str), x ∈ L → ∀ p m, foldB s L p m = none
  | [], hx, _, _ => by cases hx
  | y :: L, hx, p, m => by
    rw [foldB_cons]
    rcases List.mem_cons.1 hx with rfl | hx
    · rw [h]; rfl
    · cases stepB s y p m with
      | none => rfl
      | some q => exact fold_bad h L hx q.1 q.2
end Go.AM
set_option linter.unusedVariables false
namespace Go.AM
open Go.Proofs
theorem bindS {α β : Type} {o : Option α} {a : α} {f : α → Option β} {r : Option β} (h : o = some a) (k : f a = r) : o.bind f = r := by rw [h]; exact k
theorem ifS {β : Type} {c : Prop} [Decidable c] {x y r : β} (h : c) (k : x = r) : (if c then x else y) = r := by rw [if_pos h]; exact k
theorem lst_of {n : Nat} {g : Nat → Str} {X : List Str} (h1 : X.length = n) (h2 : ∀ i, i < n → g i = X.getD i []) : (List.range n).map g = X := by
  apply List.ext_getElem
  · simp [h1]
  · intro i hi hi'
    simp only [List.getElem_map, List.getElem_range]
    rw [h2 i (by omega), List.getD_eq_getElem?_getD, List.getElem?_eq_getElem hi']; rfl
theorem Split_ex {N : Nat} (x : Str) (L : List Str) (h : ∀ y ∈ x :: L, ∀ c ∈ y, c ≠ 32) (hN : L.length + 1 < N) (hl : (jn (x :: L)).length < 1000000000) :
    ∃ y : Sl Str, m_strings_Split N (jn (x :: L)) [32] = some y ∧ y.n = L.length + 1 ∧ ∀ i, i < L.length + 1 → y.g i = (x :: L).getD i [] :=
  ⟨_, Split_eq x L h hN hl, rfl, fun i hi => by dsimp only; rw [if_pos hi]⟩
theorem splitR_snoc (t : Str) : ∀ (x : Str) (L : List Str), (∀ y ∈ x :: L, ∀ c ∈ y, c ≠ 32) → splitR (jn (x :: L) ++ 32 :: t) = (x :: L) ++ splitR t
  | x, [], h => by rw [jn_one, splitR_app (h x (by simp))]; rfl
  | x, y :: L, h => by
    rw [jn_cons, List.append_assoc, List.cons_append, splitR_app (h x (by simp)), splitR_snoc t y L fun z hz => h z (by simp [hz])]; rfl
theorem fold_last (s : Sl Str) {t : Str} (ht : ∀ c ∈ t, c ≠ 32) : ∀ (x : Str) (L : List Str), (∀ y ∈ x :: L, (∀ c ∈ y, c ≠ 32) ∧ ∀ p m, stepB s (y ++ t) p m = none) → ∀ p m, foldB s (splitR (jn (x :: L) ++ t)) p m = none
  | x, [], h, p, m => by
    have hx := h x (by simp)
    rw [jn_one, splitR_no (fun c hc => (List.mem_append.1 hc).elim (hx.1 c) (ht c)), foldB_cons, hx.2]; rfl
  | x, y :: L, h, p, m => by
    rw [jn_cons, List.append_assoc, List.cons_append, splitR_app (h x (by simp)).1, foldB_cons]
    cases stepB s x p m with
    | none => rfl
    | some q => exact fold_last s ht y L (fun z hz => h z (by simp [hz])) q.1 q.2
theorem jn_len : ∀ (A : List Str), (∀ y ∈ A, y.length = 3) → (jn A).length ≤ 4 * A.length
  | [], _ => by simp [jn, Lib.join]
  | [x], h => by rw [jn_one, h x (by simp)]; simp
  | x :: y :: L, h => by
    have := jn_len (y :: L) fun z hz => h z (by simp [hz])
    rw [jn_cons, List.length_append, List.length_cons, h x (by simp)]
    simp only [List.length_cons] at this ⊢; omega
theorem num_head : ∀ j, j < 24 → ∃ c, numN j = [c, 48] ∧ c ≠ 45 ∧ c ≠ 43 := by
  have h : ∀ j : Fin 24, (numN j.val).getD 0 0 ≠ 45 ∧ (numN j.val).getD 0 0 ≠ 43 := by decide +kernel
  exact fun j hj => ⟨_, rfl, h ⟨j, hj⟩⟩
theorem fpos_z9 (n : Nat) : fpos (numS n) [122, 57] = none := by
  unfold fpos
  rw [List.find?_eq_none]
  intro i hi
  rw [numS_n] at hi
  rw [numS_g n i (List.mem_range.1 hi)]
  intro e
  have := eq_of_beq e
  unfold numN at this
  simp at this
def ItemOf (n : Nat) (p m : BitVec 32) (y : Str) : Prop := ∃ j c, j < n ∧ y = c :: numN j ∧ (c = 43 ∨ c = 45) ∧ (p.getLsbD j || m.getLsbD j) = true
theorem itL_of {n : Nat} {p m : BitVec 32} (hn : n ≤ 24) : ∀ k, k ≤ n → (itL (numS n) p m k).length ≤ k ∧ ∀ y ∈ itL (numS n) p m k, ItemOf n p m y
  | 0, _ => ⟨Nat.le_refl _, fun y hy => by cases hy⟩
  | k + 1, hk => by
    obtain ⟨h1, h2⟩ := itL_of (p := p) (m := m) hn k (by omega)
    rw [itL_succ]
    have hg : (itG n p m k).length ≤ 1 ∧ ∀ y ∈ itG n p m k, ItemOf n p m y := by
      unfold itG
      rw [numS_g n k (by omega)]
      split
      · rename_i hp
        exact ⟨Nat.le_refl _, fun y hy => ⟨k, 43, by omega, List.mem_singleton.1 hy, .inl rfl, by simp [hp]⟩⟩
      · split
        · rename_i hm
          exact ⟨Nat.le_refl _, fun y hy => ⟨k, 45, by omega, List.mem_singleton.1 hy, .inr rfl, by simp [hm]⟩⟩
        · exact ⟨Nat.zero_le _, fun y hy => by cases hy⟩
    refine ⟨by rw [List.length_append]; omega, fun y hy => ?_⟩
    rcases List.mem_append.1 hy with hy | hy
    · exact h2 y hy
    · exact hg.2 y hy
theorem step_again {n : Nat} (hn : n ≤ 24) {p m : BitVec 32} {j : Nat} (hj : j < n) (h : (p.getLsbD j || m.getLsbD j) = true) (c : UInt8) : stepB (numS n) (c :: numN j) p m = none := by
  simp only [stepB, fpos_num n j hn hj, h, if_true]
  split
  · rfl
  · split <;> rfl
theorem step_short {n : Nat} (c : UInt8) {z : Str} (hz : fpos (numS n) z = none) (p m : BitVec 32) : stepB (numS n) (c :: z) p m = none := by
  simp only [stepB, hz]
  split
  · rfl
  · split <;> rfl
theorem bad_loop {N : Nat} (v : O_inventory_Inv) (Ls : List Str) (h : ∀ t ∈ Ls, m_inventory_Inv_Bundle N v t = some (⟨0, 0⟩, 10)) (hN : Ls.length < N) (hn : Ls.length < 1000000) (hw : m_ablautlaw03_works N = some true) :
    fix1 N (fun self1 (x2 : Int) =>
      if (decide (x2 < (((Sl.of Ls : Sl Str).n : Nat) : Int))) = true then
        if ((0 : Int) ≤ x2 ∧ x2 < (((Sl.of Ls : Sl Str).n : Nat) : Int)) then
          (m_inventory_Inv_Bundle N v ((Sl.of Ls : Sl Str).g x2.toNat)).bind fun y18 =>
          if ((y18.2 != 10) || (((y18.1.Plus == 0) && (y18.1.Minus == 0)) != true)) = true then
            some false
          else
            self1 (IntKind.wrap .i64 (x2 + 1))
        else none
      else
        (m_ablautlaw03_works N ).bind fun y19 =>
        some y19) 0 = some true := by
  refine loop_end (fun i : Nat => (i : Int)) Ls.length _ hN fun self i hi => ?_
  by_cases hlt : i < Ls.length
  · have hm : (Sl.of Ls : Sl Str).g i ∈ Ls := by
      show Ls.getD i default ∈ Ls
      rw [List.getD_eq_getElem?_getD, List.getElem?_eq_getElem hlt]; exact List.getElem_mem hlt
    rw [if_pos (by simp only [decide_eq_true_eq]; show (i : Int) < ((Ls.length : Nat) : Int); omega), if_pos ⟨by omega, by show (i : Int) < ((Ls.length : Nat) : Int); omega⟩, if_pos hlt]
    rw [show ((i : Int)).toNat = i from rfl, h _ hm, wrap64_succ (by omega)]
    rfl
  · rw [if_neg (by simp only [decide_eq_true_eq]; show ¬ (i : Int) < ((Ls.length : Nat) : Int); omega), if_neg hlt, hw]
    rfl
theorem Any_eq (c : Nat) (P M : BitVec 32) (tn : Nat) (hc : c < 256) (ht : tn < 256) : m_ablautlaw03_InventoryAny NN (c : Int) (sOf P M) (tn : Int) = some true := by
  have hNN : NN = 4194304 := rfl
  unfold m_ablautlaw03_InventoryAny
  have e0 : IntKind.wrap .i64 (c : Int) = (c : Int) := wrap64_in (by omega) (by omega)
  have e1 : ((c : Int)).tmod 25 = ((c % 25 : Nat) : Int) := by
    rw [show (25 : Int) = ((25 : Nat) : Int) from rfl, ← Int.ofNat_tmod]
  have e2 : IntKind.wrap .i64 (tn : Int) = (tn : Int) := wrap64_in (by omega) (by omega)
  rw [e0, e1, e2]
  have hn : c % 25 ≤ 24 := by omega
  generalize c % 25 = n at hn
  rw [numbered_eq n hn (by omega), clean_eq n hn]
  simp only [Option.bind_some, optE_some]
  have hdj := cl_disj n P M
  have hhi := cl_high n P M
  generalize clP n P = p at hdj hhi
  generalize clM n P M = m at hdj hhi
  have hb : belB n p m = true := belB_of hn hdj hhi
  have hT : m_inventory_Inv_Text NN (invN n) (sOf p m) = some (jn (itL (numS n) p m n), 0) := by
    rw [iText_eq (invN n) p m (by show (numS n).n ≤ 24; rw [numS_n]; exact hn) (fun i hi => by
      have hi : i < n := by have := hi; rw [show (invN n).feats = numS n from rfl, numS_n] at this; exact this
      show ((numS n).g i).length ≤ 16
      rw [num_len n hi]; omega) (by omega)]
    show some (if belB (numS n).n p m = true then (txR (numS n) p m (numS n).n, 0) else ([], 14)) = _
    rw [numS_n, if_pos hb, (txR_join (numS n) p m n).1]
  have hf := fold_it n p m hn hdj n (Nat.le_refl _)
  rw [lowB_all fun j hj h => (hhi j hj h).1, lowB_all fun j hj h => (hhi j hj h).2] at hf
  obtain ⟨hIl, hIo⟩ := itL_of (p := p) (m := m) hn n (Nat.le_refl _)
  have hit := itL_item n p m hn n (Nat.le_refl _)
  have hB : ∀ t : Str, t.length ≤ 1000 → t ≠ [] → m_inventory_Inv_Bundle NN (invN n) t = some (bunR (foldB (numS n) (splitR t) 0#32 0#32)) := fun t ht h0 => by
    rw [iBundle_eq (invN n) (numS n) (IOk_num hn).number (by rw [numS_n]; exact hn) t (by omega) (by omega), if_neg h0]
  rw [hT]
  simp only [Option.bind_some]
  rw [if_neg (by simp)]
  cases e : itL (numS n) p m n with
  | nil =>
    rw [e] at hf
    simp only [foldB, Option.some.injEq, Prod.mk.injEq] at hf
    obtain ⟨rfl, rfl⟩ := hf
    rw [if_pos (by decide), hB [32] (by decide) (by decide)]
    simp only [Option.bind_some, lt]
    rw [if_pos (by decide), if_pos (by rfl), works_N]
    rfl
  | cons x L =>
    rw [e] at hf hIl hIo hit
    have hno : ∀ y ∈ x :: L, ∀ c ∈ y, c ≠ 32 := fun y hy => (hit y hy).no
    have h3 : ∀ y ∈ x :: L, y.length = 3 := fun y hy => by
      obtain ⟨j, ch, hj, rfl, _⟩ := hIo y hy; rfl
    have hL : L.length + 1 ≤ 24 := Nat.le_trans hIl hn
    have hTl : (jn (x :: L)).length ≤ 96 := Nat.le_trans (jn_len _ h3) (by rw [List.length_cons]; omega)
    have hjne : ∀ (y : Str) (A : List Str), y.length = 3 → jn (y :: A) ≠ [] := fun y A hy e => by
      have := len_jn y A; rw [e, hy] at this; simp at this
    have hTne := hjne x L (h3 x (by simp))
    have hPm : ∀ A : List Str, A.Perm (x :: L) → (jn A).length ≤ 96 ∧ m_inventory_Inv_Bundle NN (invN n) (jn A) = some (sOf p m, 0) := by
      intro A hA
      have hA3 : ∀ y ∈ A, y.length = 3 := fun y hy => h3 y (hA.mem_iff.1 hy)
      have hAl : (jn A).length ≤ 96 := Nat.le_trans (jn_len _ hA3) (by rw [hA.length_eq, List.length_cons]; omega)
      refine ⟨hAl, ?_⟩
      cases A with
      | nil => have := hA.length_eq; simp at this
      | cons a A =>
        rw [hB _ (by omega) (hjne a A (hA3 a (by simp))), splitR_jn a A fun y hy => hno y (hA.mem_iff.1 hy), foldB_perm (by rw [numS_n]; exact hn) hA, hf]
        rfl
    rw [if_neg (by simpa using hTne)]
    obtain ⟨y7, h7, h7n, h7g⟩ := Split_ex (N := NN) x L hno (by omega) (by omega)
    rw [h7]
    simp only [Option.bind_some]
    have e3 : ((tn : Int)).tmod ((y7.n : Nat) : Int) = ((tn % y7.n : Nat) : Int) := by rw [← Int.ofNat_tmod]
    rw [e3]
    have hk : tn % y7.n < y7.n := Nat.mod_lt _ (by omega)
    generalize tn % y7.n = k at hk
    rw [if_pos (by omega), if_pos (by omega)]
    simp only [Int.toNat_natCast]
    have hdrop : (List.range (y7.drop k).n).map (y7.drop k).g = (x :: L).drop k := lst_of (by show _ = y7.n - k; rw [List.length_drop, List.length_cons, h7n]) fun i hi => by
      show y7.g (k + i) = _
      have hi : i < y7.n - k := hi
      rw [h7g _ (by omega)]; simp [List.getD_eq_getElem?_getD, List.getElem?_drop]
    have htake : (List.range (y7.take k).n).map (y7.take k).g = (x :: L).take k := lst_of (by show _ = k; rw [List.length_take, List.length_cons]; omega) fun i hi => by
      show y7.g i = _
      have hi : i < k := hi
      rw [h7g _ (by omega)]; simp [List.getD_eq_getElem?_getD, List.getElem?_take, hi]
    have hap : (List.range ((y7.drop k).app (y7.take k)).n).map ((y7.drop k).app (y7.take k)).g = (x :: L).drop k ++ (x :: L).take k := lst_of (by show _ = y7.n - k + k; rw [List.length_append, List.length_drop, List.length_take, List.length_cons]; omega) fun i hi => by
      show (if i < y7.n - k then y7.g (k + i) else y7.g (i - (y7.n - k))) = _
      have hi : i < y7.n - k + k := hi
      by_cases h : i < y7.n - k
      · rw [if_pos h, h7g _ (by omega)]
        simp [List.getD_eq_getElem?_getD, List.getElem?_append_left (l₁ := (x :: L).drop k) (show i < ((x :: L).drop k).length by rw [List.length_drop, List.length_cons]; omega), List.getElem?_drop]
      · rw [if_neg h, h7g _ (by omega)]
        have hl : ((x :: L).drop k).length = y7.n - k := by rw [List.length_drop, List.length_cons, h7n]
        rw [List.getD_eq_getElem?_getD, List.getD_eq_getElem?_getD, List.getElem?_append_right (by omega), hl, List.getElem?_take, if_pos (by omega)]
    have hTn : ((y7.drop k).app (y7.take k)).n = y7.n := by show y7.n - k + k = _; omega
    have hperm : ((x :: L).drop k ++ (x :: L).take k).Perm (x :: L) := (List.perm_append_comm).trans (by rw [List.take_append_drop])
    have hclone : m_Uslices_Clone_sl_string_string NN (y7.drop k) = some (y7.drop k) := by
      unfold m_Uslices_Clone_sl_string_string
      exact if_pos (by show (0 + (y7.n - k)) * 16 ≤ _ ∧ 0 + (y7.n - k) ≤ _; omega)
    rw [hclone]
    simp only [Option.bind_some]
    rw [if_pos (by show _ ∧ (y7.n - k + k) * 16 ≤ _ ∧ y7.n - k + k ≤ _; omega)]
    generalize hS : (y7.drop k).app (y7.take k) = S at hap hTn
    obtain ⟨hl1, hB1⟩ := hPm _ hperm
    have hJ1 : m_strings_Join NN S [32] = some (jn ((x :: L).drop k ++ (x :: L).take k)) := by
      unfold m_strings_Join
      rw [hap]
      exact if_pos ⟨by omega, by show (jn _).length ≤ _; omega⟩
    rw [hJ1]
    simp only [Option.bind_some]
    rw [hB1]
    simp only [Option.bind_some]
    rw [if_neg (by simp)]
    obtain ⟨t, hR, hRn, hRg⟩ := Reverse_eq (N := NN) S (by omega) (by omega)
    rw [hR]
    simp only [Option.bind_some]
    have hrev : (List.range t.n).map t.g = ((x :: L).drop k ++ (x :: L).take k).reverse := by
      rw [← hap]
      refine lst_of (by simp [hRn]) fun i hi => ?_
      rw [hRg i (by omega), List.getD_eq_getElem?_getD, List.getElem?_reverse (by simp; omega)]
      simp only [List.length_map, List.length_range, List.getElem?_map]
      rw [List.getElem?_range (by omega)]; rfl
    obtain ⟨hl2, hB2⟩ := hPm _ ((List.reverse_perm _).trans hperm)
    have hJ2 : m_strings_Join NN t [32] = some (jn ((x :: L).drop k ++ (x :: L).take k).reverse) := by
      unfold m_strings_Join
      rw [hrev]
      exact if_pos ⟨by omega, by show (jn _).length ≤ _; omega⟩
    rw [hJ2]
    simp only [Option.bind_some]
    rw [hB2]
    simp only [Option.bind_some]
    rw [if_neg (by simp)]
    have hkL : k < (x :: L).length := by rw [List.length_cons]; omega
    have hwm : y7.g k ∈ x :: L := by
      rw [h7g k (by omega), List.getD_eq_getElem?_getD, List.getElem?_eq_getElem hkL]; exact List.getElem_mem hkL
    have hwo := hIo _ hwm
    obtain ⟨j, ch, hj, hw, hch, hpm⟩ := hwo
    rw [hw] at hwm
    simp only [hw]
    have hnl : (numN j).length = 2 := rfl
    have hnn := num_no j (by omega)
    rw [if_pos (by simp only [List.length_cons, hnl]; omega)]
    rw [if_pos (by simp only [List.length_cons, List.length_nil]; omega)]
    have hlt3 : ∀ A : List Str, (∀ y ∈ A, y ∈ x :: L) → A.length ≤ 24 → (jn A).length ≤ 96 := fun A hA hAl => Nat.le_trans (jn_len A fun y hy => h3 y (hA y hy)) (by omega)
    have hlT := hlt3 ((x :: L).take k) (fun y hy => List.mem_of_mem_take hy) (by rw [List.length_take, List.length_cons]; omega)
    have hlD := hlt3 ((x :: L).drop k) (fun y hy => List.mem_of_mem_drop hy) (by rw [List.length_drop, List.length_cons]; omega)
    have hJ3 : m_strings_Join NN (y7.take k) [32] = some (jn ((x :: L).take k)) := by
      unfold m_strings_Join
      rw [htake]
      exact if_pos ⟨by show k ≤ _; omega, by show (jn _).length ≤ _; omega⟩
    have hJ4 : m_strings_Join NN (y7.drop k) [32] = some (jn ((x :: L).drop k)) := by
      unfold m_strings_Join
      rw [hdrop]
      exact if_pos ⟨by show y7.n - k ≤ _; omega, by show (jn _).length ≤ _; omega⟩
    refine bindS hJ3 ?_
    refine ifS (by simp only [List.length_cons, List.length_nil]; omega) ?_
    refine bindS hJ4 ?_
    have hsg : ∃ sg : UInt8, (if ((byteAt (ch :: numN j) 0) == 43) = true then [45] else [43] : Str) = [sg] ∧ sg ≠ 32 := by
      split
      · exact ⟨45, rfl, by decide⟩
      · exact ⟨43, rfl, by decide⟩
    obtain ⟨sg, hsg, hsg2⟩ := hsg
    rw [hsg]
    rw [if_pos (by simp only [List.length_append, List.length_cons, List.length_nil, List.length_drop, hnl]; omega)]
    have bad : ∀ t : Str, t.length ≤ 1000 → t ≠ [] → foldB (numS n) (splitR t) 0#32 0#32 = none → m_inventory_Inv_Bundle NN (invN n) t = some (⟨0, 0⟩, 10) := fun t h1 h2 h3 => by rw [hB t h1 h2, h3]; rfl
    have nil0 : ∀ p m, stepB (numS n) [] p m = none := fun _ _ => rfl
    have snoc : ∀ z : Str, (∀ c ∈ z, c ≠ 32) → stepB (numS n) z p m = none → foldB (numS n) (splitR (jn (x :: L) ++ 32 :: z)) 0#32 0#32 = none := fun z hz h => by
      rw [splitR_snoc z x L hno, splitR_no hz, foldB_app, hf]
      simp only [Option.bind_some, foldB_cons, h, Option.bind_none]
    refine bad_loop (invN n) [[32] ++ jn (x :: L), jn (x :: L) ++ [32], (jn ((x :: L).take k) ++ [32, 32]) ++ jn ((x :: L).drop k), (jn (x :: L) ++ [32]) ++ (ch :: numN j), ((jn (x :: L) ++ [32]) ++ [sg]) ++ (ch :: numN j).drop 1, (ch :: numN j).drop 1, jn (x :: L) ++ [120], jn (x :: L) ++ [32, 43], jn (x :: L) ++ [32, 45, 122, 57]] (fun t ht => ?_) ?_ ?_ works_N
    case refine_2 => show (9 : Nat) < NN; omega
    case refine_3 => show (9 : Nat) < 1000000; omega
    simp only [List.mem_cons, List.not_mem_nil, or_false] at ht
    rcases ht with rfl | rfl | rfl | rfl | rfl | rfl | rfl | rfl | rfl
    · refine bad _ (by simp only [List.length_append, List.length_cons, List.length_nil]; omega) (by simp) ?_
      rw [show [32] ++ jn (x :: L) = ([] : Str) ++ 32 :: jn (x :: L) from rfl, splitR_app (by simp)]
      exact fold_bad nil0 _ (by simp) _ _
    · refine bad _ (by simp only [List.length_append, List.length_cons, List.length_nil]; omega) (by simp) ?_
      exact snoc [] (by simp) rfl
    · refine bad _ (by simp only [List.length_append, List.length_cons, List.length_nil]; omega) (by simp) ?_
      have e4 : (jn ((x :: L).take k) ++ [32, 32]) ++ jn ((x :: L).drop k) = jn ((x :: L).take k) ++ 32 :: (([] : Str) ++ 32 :: jn ((x :: L).drop k)) := by simp
      rw [e4]
      cases ek : (x :: L).take k with
      | nil =>
        rw [show jn ([] : List Str) = [] from rfl, splitR_app (x := []) (by simp)]
        exact fold_bad nil0 _ (by simp) _ _
      | cons a A =>
        rw [splitR_snoc _ a A (fun y hy => hno y (List.mem_of_mem_take (by rw [ek]; exact hy))), splitR_app (x := []) (by simp)]
        exact fold_bad nil0 _ (by simp) _ _
    · refine bad _ (by simp only [List.length_append, List.length_cons, List.length_nil, hnl]; omega) (by simp) ?_
      rw [show (jn (x :: L) ++ [32]) ++ (ch :: numN j) = jn (x :: L) ++ 32 :: (ch :: numN j) by simp]
      exact snoc _ (hno _ hwm) (step_again hn hj hpm ch)
    · refine bad _ (by simp only [List.length_append, List.length_cons, List.length_nil, List.length_drop, hnl]; omega) (by simp) ?_
      rw [show ((jn (x :: L) ++ [32]) ++ [sg]) ++ (ch :: numN j).drop 1 = jn (x :: L) ++ 32 :: (sg :: numN j) by simp]
      exact snoc _ (fun d hd => by
        rcases List.mem_cons.1 hd with rfl | hd
        · exact hsg2
        · exact hnn d hd) (step_again hn hj hpm sg)
    · obtain ⟨d, hd, hd1, hd2⟩ := num_head j (by omega)
      refine bad _ (by simp only [List.drop_succ_cons, List.drop_zero, hnl]; omega) (by rw [List.drop_succ_cons, List.drop_zero, hd]; simp) ?_
      rw [List.drop_succ_cons, List.drop_zero, splitR_no hnn, foldB_cons]
      have : stepB (numS n) (numN j) 0#32 0#32 = none := by
        rw [hd]; simp only [stepB, if_neg hd1, if_neg hd2]
      rw [this]; rfl
    · refine bad _ (by simp only [List.length_append, List.length_cons, List.length_nil]; omega) (by simp) ?_
      refine fold_last (numS n) (by decide) x L (fun y hy => ⟨hno y hy, fun p m => ?_⟩) _ _
      obtain ⟨j', c', _, rfl, _⟩ := hIo y hy
      exact step_short c' (fpos_short n (by show (numN j' ++ [120]).length ≠ 2; rw [List.length_append]; show 2 + 1 ≠ 2; decide)) p m
    · refine bad _ (by simp only [List.length_append, List.length_cons, List.length_nil]; omega) (by simp) ?_
      exact snoc [43] (by decide) (step_short 43 (fpos_short n (by decide)) p m)
    · refine bad _ (by simp only [List.length_append, List.length_cons, List.length_nil]; omega) (by simp) ?_
      exact snoc [45, 122, 57] (by decide) (step_short 45 (fpos_z9 n) p m)
end Go.AM