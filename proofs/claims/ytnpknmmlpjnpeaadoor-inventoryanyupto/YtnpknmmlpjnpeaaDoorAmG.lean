/- What a law's walk and its plain proof need, part 7: no condition of its own. -/
import Derived.Test.YtnpknmmlpjnpeaaDoorAmF
import Derived.Test.YtnpknmmlpjnpeaaDoorAmC
set_option linter.unusedSimpArgs false
set_option linter.unusedVariables false
set_option linter.unusedSectionVars false
set_option linter.unusedVariables false
set_option linter.unusedSectionVars false
namespace Go.AM
open Go.Proofs
set_option maxRecDepth 10000
set_option maxHeartbeats 2000000
variable {S : Sems} (hS : Good S Tryd.prog) (hL : LibC S)
include hS hL
def m_ablautref03_Inv_Add (N : Nat) (p_v : O_ablautref03_Inv) (p_symbol : Str) (p_s : Sound) : Option (Int × O_ablautref03_Inv) :=
  (m_ablautref03_Inv_made N p_v).bind fun y1 =>
  if (!y1) = true then
    some (1, p_v)
  else
    (m_ablautref03_IsSymbol N p_symbol).bind fun y2 =>
    if (!y2) = true then
      some (15, p_v)
    else
      (m_ablautref03_Inv_Belongs N p_v p_s).bind fun y3 =>
      if (!y3) = true then
        some (14, p_v)
      else
        fix1 N (fun self1 (x1 : Int) =>
            if (decide (x1 < ((p_v.S.n : Nat) : Int))) = true then
              if (((0 : Int) ≤ x1 ∧ x1 < ((p_v.S.n : Nat) : Int)) ∧ x1.toNat < p_v.S.n) then
                if (((p_v.S.g x1.toNat).Symbol == p_symbol) != false) = true then
                  some (6, p_v)
                else
                  if (((0 : Int) ≤ x1 ∧ x1 < ((p_v.S.n : Nat) : Int)) ∧ x1.toNat < p_v.S.n) then
                    if ((((p_v.S.g x1.toNat).S.Plus == p_s.Plus) && ((p_v.S.g x1.toNat).S.Minus == p_s.Minus)) != false) = true then
                      some (6, p_v)
                    else
                      self1 (IntKind.wrap .i64 (x1 + 1))
                  else none
              else none
            else
              if (decide (256 ≤ ((p_v.S.n : Nat) : Int))) = true then
                some (4, p_v)
              else
                if ((p_v.S.n + (Sl.of [(⟨p_symbol, p_s⟩ : Named)] : Sl Named).n) * 24 ≤ 140737488355328 ∧ p_v.S.n + (Sl.of [(⟨p_symbol, p_s⟩ : Named)] : Sl Named).n ≤ 140737488355328) then
                  some (0, (⟨p_v.Made, p_v.F, (p_v.S.push (⟨p_symbol, p_s⟩ : Named))⟩ : O_ablautref03_Inv))
                else none
          ) 0
theorem w_ablautref03_Inv_Add {N : Nat} {p_v : O_ablautref03_Inv} {p_symbol : Str} {p_s : Sound}   {y : (Int × O_ablautref03_Inv)} (h : m_ablautref03_Inv_Add N p_v p_symbol p_s = some y) :
    FunO S k_ablautref03_Inv_Add [(.reg 0 0), (.p (.str p_symbol)), (.p (.agg (c_Sound p_s)))] [(.cells [(.p (.bb p_v.Made)), (.p (vSl 1 cS p_v.F)), (.vec 1)]), (.vec t_api_Named 3 p_v.S.n (fun i => c_Named (p_v.S.g i)) true)] (.p (pI .i64 y.1)) ([(.cells [(.p (.bb y.2.Made)), (.p (vSl 1 cS y.2.F)), (.vec 1)]), (.vec t_api_Named 3 y.2.S.n (fun i => c_Named (y.2.S.g i)) true)]) [true, false] := by
  unfold m_ablautref03_Inv_Add at h
  refine K_start hS f_ablautref03_Inv_Add ?_
  obtain ⟨y1, e1, h⟩ := bindE h
  refine K_call hS [0, 1] trivial (w_ablautref03_Inv_made hS hL e1) ?_
  refine K_cond hS trivial (b := !y1) (fun c1 => ?_) (fun c1 => ?_)
  · replace h := itT c1 h
    obtain rfl := someI h
    exact K_retO hS trivial ⟨[(6, (.p (pI .i64 1)))], [(990001, (.vec t_api_Named 3 p_v.S.n (fun i => c_Named (p_v.S.g i)) true)), (0, (.cells [(.p (.bb p_v.Made)), (.p (vSl 1 cS p_v.F)), (.vec 990001)]))]⟩ [0, 990001] (ids := [(0, 0), (990001, 1)]) ⟨rfl, rfl, rfl⟩
  · replace h := itF c1 h
    obtain ⟨y2, e2, h⟩ := bindE h
    refine K_call hS [] trivial (w_ablautref03_IsSymbol hS hL e2) ?_
    refine K_cond hS trivial (b := !y2) (fun c2 => ?_) (fun c2 => ?_)
    · replace h := itT c2 h
      obtain rfl := someI h
      exact K_retO hS trivial ⟨[(6, (.p (pI .i64 15)))], [(990001, (.vec t_api_Named 3 p_v.S.n (fun i => c_Named (p_v.S.g i)) true)), (0, (.cells [(.p (.bb p_v.Made)), (.p (vSl 1 cS p_v.F)), (.vec 990001)]))]⟩ [0, 990001] (ids := [(0, 0), (990001, 1)]) ⟨rfl, rfl, rfl⟩
    · replace h := itF c2 h
      obtain ⟨y3, e3, h⟩ := bindE h
      refine K_call hS [0, 1] trivial (w_ablautref03_Inv_Belongs hS hL e3) ?_
      refine K_cond hS trivial (b := !y3) (fun c3 => ?_) (fun c3 => ?_)
      · replace h := itT c3 h
        obtain rfl := someI h
        exact K_retO hS trivial ⟨[(6, (.p (pI .i64 14)))], [(990001, (.vec t_api_Named 3 p_v.S.n (fun i => c_Named (p_v.S.g i)) true)), (0, (.cells [(.p (.bb p_v.Made)), (.p (vSl 1 cS p_v.F)), (.vec 990001)]))]⟩ [0, 990001] (ids := [(0, 0), (990001, 1)]) ⟨rfl, rfl, rfl⟩
      · replace h := itF c3 h
        refine K_fix1 hS trivial h (fun x1 => ⟨[(7, (.p (pI .i64 x1))), (5, (.reg 6000 0)), (1, (.p (.str p_symbol))), (0, (.reg 0 0))], [(6000, (.cells [(.p (pI .u32 p_s.Plus)), (.p (pI .u32 p_s.Minus))])), (1, (.vec t_api_Named 3 p_v.S.n (fun i => c_Named (p_v.S.g i)) true)), (0, (.cells [(.p (.bb p_v.Made)), (.p (vSl 1 cS p_v.F)), (.vec 1)]))]⟩) (ids := [(0, 0), (1, 1), (6000, 6000)]) (fun _ _ _ _ _ self1 x1 hb1 h => ?_)
        refine K_cond hS trivial (b := decide (x1 < ((p_v.S.n : Nat) : Int))) (fun c14 => ?_) (fun c14 => ?_)
        · replace h := itT c14 h
          refine K_drawn hS trivial ?_
          obtain ⟨c15, h⟩ := chkE h
          refine D_guard c15 (b := (((p_v.S.g x1.toNat).Symbol == p_symbol) != false)) (fun c16 => ?_) (fun c16 => ?_)
          · replace h := itT c16 h
            refine D_end trivial ?_
            obtain rfl := someI h
            exact K_retO hS trivial ⟨[(6, (.p (pI .i64 6)))], [(990001, (.vec t_api_Named 3 p_v.S.n (fun i => c_Named (p_v.S.g i)) true)), (0, (.cells [(.p (.bb p_v.Made)), (.p (vSl 1 cS p_v.F)), (.vec 990001)]))]⟩ [0, 990001] (ids := [(0, 0), (990001, 1)]) ⟨rfl, rfl, rfl⟩
          · replace h := itF c16 h
            obtain ⟨c17, h⟩ := chkE h
            refine D_end (And.intro (And.intro (And.intro c17.1 (by decide : (2 : Nat) ≤ 2)) c17.2) (by decide +kernel : eqOk Tryd.prog t_api_Sound = true)) ?_
            refine K_cond hS trivial (b := ((((p_v.S.g x1.toNat).S.Plus == p_s.Plus) && ((p_v.S.g x1.toNat).S.Minus == p_s.Minus)) != false)) (fun c18 => ?_) (fun c18 => ?_)
            · replace h := itT c18 h
              obtain rfl := someI h
              exact K_retO hS trivial ⟨[(6, (.p (pI .i64 6)))], [(990001, (.vec t_api_Named 3 p_v.S.n (fun i => c_Named (p_v.S.g i)) true)), (0, (.cells [(.p (.bb p_v.Made)), (.p (vSl 1 cS p_v.F)), (.vec 990001)]))]⟩ [0, 990001] (ids := [(0, 0), (990001, 1)]) ⟨rfl, rfl, rfl⟩
            · replace h := itF c18 h
              exact hb1 _ [(0, 0), (1, 1), (6000, 6000)] _ (IntKind.wrap .i64 (x1 + 1)) trivial h
        · replace h := itF c14 h
          refine K_cond hS trivial (b := decide (256 ≤ ((p_v.S.n : Nat) : Int))) (fun c19 => ?_) (fun c19 => ?_)
          · replace h := itT c19 h
            obtain rfl := someI h
            exact K_retO hS trivial ⟨[(6, (.p (pI .i64 4)))], [(990001, (.vec t_api_Named 3 p_v.S.n (fun i => c_Named (p_v.S.g i)) true)), (0, (.cells [(.p (.bb p_v.Made)), (.p (vSl 1 cS p_v.F)), (.vec 990001)]))]⟩ [0, 990001] (ids := [(0, 0), (990001, 1)]) ⟨rfl, rfl, rfl⟩
          · replace h := itF c19 h
            refine K_drawn hS trivial ?_
            refine D_build trivial (x := (.sl true 3 1 (lookF [(.str []), (pI .u32 0), (pI .u32 0)] [(0, c_Named (⟨p_symbol, p_s⟩ : Named))]))) ?_
            obtain ⟨c20, h⟩ := chkE h
            refine D_end c20 ?_
            obtain rfl := someI h
            exact K_retO hS trivial ⟨[(6, (.p (pI .i64 0)))], [(65000, (.vec t_api_Named 3 (p_v.S.push (⟨p_symbol, p_s⟩ : Named)).n (fun i => c_Named ((p_v.S.push (⟨p_symbol, p_s⟩ : Named)).g i)) true)), (0, (.cells [(.p (.bb p_v.Made)), (.p (vSl 1 cS p_v.F)), (.vec 65000)]))]⟩ [0, 65000] (ids := [(0, 0), (65000, 65000)]) ⟨rfl, rfl, rfl⟩ (hle := (klR [(1, .fn (p_v.S.n + 1) (p_v.S.push (⟨p_symbol, p_s⟩ : Named)).n (appF p_v.S.n (fun i => c_Named (p_v.S.g i)) (lookF [(.str []), (pI .u32 0), (pI .u32 0)] [(0, c_Named (⟨p_symbol, p_s⟩ : Named))])) (fun i => c_Named ((p_v.S.push (⟨p_symbol, p_s⟩ : Named)).g i)))] (al1 ⟨rfl, (app1 (c := c_Named) (v := p_v.S) (x := (⟨p_symbol, p_s⟩ : Named)) (z := [(.str []), (pI .u32 0), (pI .u32 0)]) same rfl rfl)⟩ al0)))
end Go.AM
set_option linter.unusedVariables false
set_option linter.unusedSectionVars false
namespace Go.AM
open Go.Proofs
set_option maxRecDepth 10000
set_option maxHeartbeats 2000000
variable {S : Sems} (hS : Good S Tryd.prog) (hL : LibC S)
include hS hL
def m_inventory_Inv_Sound_nil (N : Nat) (p_symbol : Str) : Option (Sound × Bool) :=
  (m_inventory_Inv_made_nil N ).bind fun y1 =>
  if (!y1) = true then
    some ((⟨0, 0⟩ : Sound), false)
  else
    none
theorem w_inventory_Inv_Sound_nil {N : Nat} {p_symbol : Str}   {y : (Sound × Bool)} (h : m_inventory_Inv_Sound_nil N p_symbol = some y) :
    FunO S k_inventory_Inv_Sound [(.p nilP), (.p (.str p_symbol))] [] (.tup [(.p (.agg (c_Sound y.1))), (.p (.bb y.2))]) ([]) [] := by
  unfold m_inventory_Inv_Sound_nil at h
  refine K_start hS f_inventory_Inv_Sound ?_
  obtain ⟨y1, e1, h⟩ := bindE h
  refine K_call hS [] trivial (w_inventory_Inv_made_nil hS hL e1) ?_
  refine K_cond hS trivial (b := !y1) (fun c1 => ?_) (fun c1 => ?_)
  · replace h := itT c1 h
    obtain rfl := someI h
    exact K_ret hS trivial [] ⟨rfl, rfl, rfl⟩
  · replace h := itF c1 h
    cases h
def m_inventory_Inv_Symbol_nil (N : Nat) (p_s : Sound) : Option (Str × Bool) :=
  (m_inventory_Inv_made_nil N ).bind fun y1 =>
  if (!y1) = true then
    some ([], false)
  else
    none
theorem w_inventory_Inv_Symbol_nil {N : Nat} {p_s : Sound}   {y : (Str × Bool)} (h : m_inventory_Inv_Symbol_nil N p_s = some y) :
    FunO S k_inventory_Inv_Symbol [(.p nilP), (.p (.agg (c_Sound p_s)))] [] (.tup [(.p (.str y.1)), (.p (.bb y.2))]) ([]) [] := by
  unfold m_inventory_Inv_Symbol_nil at h
  refine K_start hS f_inventory_Inv_Symbol ?_
  obtain ⟨y1, e1, h⟩ := bindE h
  refine K_call hS [] trivial (w_inventory_Inv_made_nil hS hL e1) ?_
  refine K_cond hS trivial (b := !y1) (fun c1 => ?_) (fun c1 => ?_)
  · replace h := itT c1 h
    obtain rfl := someI h
    exact K_ret hS trivial [] ⟨rfl, rfl, rfl⟩
  · replace h := itF c1 h
    cases h
def m_inventory_Inv_Feat_nil (N : Nat) (p_name : Str) : Option (Int × Bool) :=
  (m_inventory_Inv_made_nil N ).bind fun y1 =>
  if (!y1) = true then
    some (0, false)
  else
    none
theorem w_inventory_Inv_Feat_nil {N : Nat} {p_name : Str}   {y : (Int × Bool)} (h : m_inventory_Inv_Feat_nil N p_name = some y) :
    FunO S k_inventory_Inv_Feat [(.p nilP), (.p (.str p_name))] [] (.tup [(.p (pI .i64 y.1)), (.p (.bb y.2))]) ([]) [] := by
  unfold m_inventory_Inv_Feat_nil at h
  refine K_start hS f_inventory_Inv_Feat ?_
  obtain ⟨y1, e1, h⟩ := bindE h
  refine K_call hS [] trivial (w_inventory_Inv_made_nil hS hL e1) ?_
  refine K_cond hS trivial (b := !y1) (fun c1 => ?_) (fun c1 => ?_)
  · replace h := itT c1 h
    obtain rfl := someI h
    exact K_ret hS trivial [] ⟨rfl, rfl, rfl⟩
  · replace h := itF c1 h
    cases h
def m_inventory_Inv_Feats_nil (N : Nat)  : Option (Sl Str) :=
  (m_inventory_Inv_made_nil N ).bind fun y1 =>
  if (!y1) = true then
    some (Sl.nil : Sl Str)
  else
    none
theorem w_inventory_Inv_Feats_nil {N : Nat}    {y : (Sl Str)} (h : m_inventory_Inv_Feats_nil N  = some y) :
    FunO S k_inventory_Inv_Feats [(.p nilP)] [] (.p (vSl 1 cS y)) ([]) [] := by
  unfold m_inventory_Inv_Feats_nil at h
  refine K_start hS f_inventory_Inv_Feats ?_
  obtain ⟨y1, e1, h⟩ := bindE h
  refine K_call hS [] trivial (w_inventory_Inv_made_nil hS hL e1) ?_
  refine K_cond hS trivial (b := !y1) (fun c1 => ?_) (fun c1 => ?_)
  · replace h := itT c1 h
    obtain rfl := someI h
    exact K_retO hS trivial ⟨[(2, (.p (vSl 1 cS (Sl.nil : Sl Str))))], []⟩ [] (ids := []) ⟨rfl, rfl, rfl⟩
  · replace h := itF c1 h
    cases h
def m_inventory_Inv_Sounds_nil (N : Nat)  : Option (Sl Named) :=
  (m_inventory_Inv_made_nil N ).bind fun y1 =>
  if (!y1) = true then
    some (Sl.nil : Sl Named)
  else
    none
theorem w_inventory_Inv_Sounds_nil {N : Nat}    {y : (Sl Named)} (h : m_inventory_Inv_Sounds_nil N  = some y) :
    FunO S k_inventory_Inv_Sounds [(.p nilP)] [] (.p (vSl 3 c_Named y)) ([]) [] := by
  unfold m_inventory_Inv_Sounds_nil at h
  refine K_start hS f_inventory_Inv_Sounds ?_
  obtain ⟨y1, e1, h⟩ := bindE h
  refine K_call hS [] trivial (w_inventory_Inv_made_nil hS hL e1) ?_
  refine K_cond hS trivial (b := !y1) (fun c1 => ?_) (fun c1 => ?_)
  · replace h := itT c1 h
    obtain rfl := someI h
    exact K_retO hS trivial ⟨[(2, (.p (vSl 3 c_Named (Sl.nil : Sl Named))))], []⟩ [] (ids := []) ⟨rfl, rfl, rfl⟩
  · replace h := itF c1 h
    cases h
def m_inventory_Inv_Len_nil (N : Nat)  : Option Int :=
  (m_inventory_Inv_made_nil N ).bind fun y1 =>
  if (!y1) = true then
    some 0
  else
    none
theorem w_inventory_Inv_Len_nil {N : Nat}    {y : Int} (h : m_inventory_Inv_Len_nil N  = some y) :
    FunO S k_inventory_Inv_Len [(.p nilP)] [] (.p (pI .i64 y)) ([]) [] := by
  unfold m_inventory_Inv_Len_nil at h
  refine K_start hS f_inventory_Inv_Len ?_
  obtain ⟨y1, e1, h⟩ := bindE h
  refine K_call hS [] trivial (w_inventory_Inv_made_nil hS hL e1) ?_
  refine K_cond hS trivial (b := !y1) (fun c1 => ?_) (fun c1 => ?_)
  · replace h := itT c1 h
    obtain rfl := someI h
    exact K_ret hS trivial [] ⟨rfl, rfl, rfl⟩
  · replace h := itF c1 h
    cases h
def m_inventory_Inv_Longest_nil (N : Nat) (p_text : Str) : Option (Str × Bool) :=
  (m_inventory_Inv_made_nil N ).bind fun y1 =>
  if (!y1) = true then
    some ([], false)
  else
    fix1 N (fun self1 (x1 : Int) =>
        if (decide (x1 < 4)) = true then
          if (decide (((p_text.length : Nat) : Int) < (IntKind.wrap .i64 (4 - x1)))) = true then
            self1 (IntKind.wrap .i64 (x1 + 1))
          else
            none
        else
          some ([], false)
      ) 0
theorem w_inventory_Inv_Longest_nil {N : Nat} {p_text : Str}   {y : (Str × Bool)} (h : m_inventory_Inv_Longest_nil N p_text = some y) :
    FunO S k_inventory_Inv_Longest [(.p nilP), (.p (.str p_text))] [] (.tup [(.p (.str y.1)), (.p (.bb y.2))]) ([]) [] := by
  unfold m_inventory_Inv_Longest_nil at h
  refine K_start hS f_inventory_Inv_Longest ?_
  obtain ⟨y1, e1, h⟩ := bindE h
  refine K_call hS [] trivial (w_inventory_Inv_made_nil hS hL e1) ?_
  refine K_cond hS trivial (b := !y1) (fun c1 => ?_) (fun c1 => ?_)
  · replace h := itT c1 h
    obtain rfl := someI h
    exact K_ret hS trivial [] ⟨rfl, rfl, rfl⟩
  · replace h := itF c1 h
    refine K_fix1 hS trivial h (fun x1 => ⟨[(13, (.p (pI .i64 x1))), (1, (.p (.str p_text))), (0, (.p nilP))], []⟩) (ids := []) (fun _ _ _ _ _ self1 x1 hb1 h => ?_)
    refine K_cond hS trivial (b := decide (x1 < 4)) (fun c6 => ?_) (fun c6 => ?_)
    · replace h := itT c6 h
      refine K_cond hS trivial (b := decide (((p_text.length : Nat) : Int) < (IntKind.wrap .i64 (4 - x1)))) (fun c7 => ?_) (fun c7 => ?_)
      · replace h := itT c7 h
        exact hb1 _ [] _ (IntKind.wrap .i64 (x1 + 1)) trivial h
      · replace h := itF c7 h
        cases h
    · replace h := itF c6 h
      obtain rfl := someI h
      exact K_ret hS trivial [] ⟨rfl, rfl, rfl⟩
def m_inventory_Inv_Add_nil (N : Nat) (p_symbol : Str) (p_s : Sound) : Option Int :=
  (m_inventory_Inv_made_nil N ).bind fun y1 =>
  if (!y1) = true then
    some 1
  else
    (m_inventory_consists N p_symbol 4 (fun (u1 : Int) => m_inventory_Inv_Add_1 N u1)).bind fun y2 =>
    if (!y2) = true then
      some 15
    else
      none
theorem w_inventory_Inv_Add_nil {N : Nat} {p_symbol : Str} {p_s : Sound}   {y : Int} (h : m_inventory_Inv_Add_nil N p_symbol p_s = some y) :
    FunO S k_inventory_Inv_Add [(.p nilP), (.p (.str p_symbol)), (.p (.agg (c_Sound p_s)))] [] (.p (pI .i64 y)) ([]) [] := by
  unfold m_inventory_Inv_Add_nil at h
  refine K_start hS f_inventory_Inv_Add ?_
  obtain ⟨y1, e1, h⟩ := bindE h
  refine K_call hS [] trivial (w_inventory_Inv_made_nil hS hL e1) ?_
  refine K_cond hS trivial (b := !y1) (fun c1 => ?_) (fun c1 => ?_)
  · replace h := itT c1 h
    obtain rfl := someI h
    exact K_ret hS trivial [] ⟨rfl, rfl, rfl⟩
  · replace h := itF c1 h
    obtain ⟨y2, e2, h⟩ := bindE h
    refine K_call hS [] trivial (w_inventory_consists hS hL (fun e => w_inventory_Inv_Add_1 hS hL e) e2) ?_
    refine K_cond hS trivial (b := !y2) (fun c2 => ?_) (fun c2 => ?_)
    · replace h := itT c2 h
      obtain rfl := someI h
      exact K_ret hS trivial [] ⟨rfl, rfl, rfl⟩
    · replace h := itF c2 h
      cases h
def m_inventory_Inv_Copy_nil (N : Nat)  : Option Unit :=
  (m_inventory_Inv_made_nil N ).bind fun y1 =>
  if (!y1) = true then
    some ()
  else
    none
theorem w_inventory_Inv_Copy_nil {N : Nat}    {y : Unit} (h : m_inventory_Inv_Copy_nil N  = some y) :
    FunO S k_inventory_Inv_Copy [(.p nilP)] [] (.p nilP) ([]) [] := by
  unfold m_inventory_Inv_Copy_nil at h
  refine K_start hS f_inventory_Inv_Copy ?_
  obtain ⟨y1, e1, h⟩ := bindE h
  refine K_call hS [] trivial (w_inventory_Inv_made_nil hS hL e1) ?_
  refine K_cond hS trivial (b := !y1) (fun c1 => ?_) (fun c1 => ?_)
  · replace h := itT c1 h
    obtain rfl := someI h
    exact K_retO hS trivial ⟨[(2, (.p nilP))], []⟩ [] (ids := []) ⟨rfl, rfl, rfl⟩
  · replace h := itF c1 h
    cases h
def m_ablautref03_Inv_Sound_nil (N : Nat) (p_symbol : Str) : Option (Sound × Bool) :=
  (m_ablautref03_Inv_made_nil N ).bind fun y1 =>
  if (!y1) = true then
    some ((⟨0, 0⟩ : Sound), false)
  else
    none
theorem w_ablautref03_Inv_Sound_nil {N : Nat} {p_symbol : Str}   {y : (Sound × Bool)} (h : m_ablautref03_Inv_Sound_nil N p_symbol = some y) :
    FunO S k_ablautref03_Inv_Sound [(.p nilP), (.p (.str p_symbol))] [] (.tup [(.p (.agg (c_Sound y.1))), (.p (.bb y.2))]) ([]) [] := by
  unfold m_ablautref03_Inv_Sound_nil at h
  refine K_start hS f_ablautref03_Inv_Sound ?_
  obtain ⟨y1, e1, h⟩ := bindE h
  refine K_call hS [] trivial (w_ablautref03_Inv_made_nil hS hL e1) ?_
  refine K_cond hS trivial (b := !y1) (fun c1 => ?_) (fun c1 => ?_)
  · replace h := itT c1 h
    obtain rfl := someI h
    exact K_ret hS trivial [] ⟨rfl, rfl, rfl⟩
  · replace h := itF c1 h
    cases h
def m_ablautref03_Inv_Symbol_nil (N : Nat) (p_s : Sound) : Option (Str × Bool) :=
  (m_ablautref03_Inv_made_nil N ).bind fun y1 =>
  if (!y1) = true then
    some ([], false)
  else
    none
theorem w_ablautref03_Inv_Symbol_nil {N : Nat} {p_s : Sound}   {y : (Str × Bool)} (h : m_ablautref03_Inv_Symbol_nil N p_s = some y) :
    FunO S k_ablautref03_Inv_Symbol [(.p nilP), (.p (.agg (c_Sound p_s)))] [] (.tup [(.p (.str y.1)), (.p (.bb y.2))]) ([]) [] := by
  unfold m_ablautref03_Inv_Symbol_nil at h
  refine K_start hS f_ablautref03_Inv_Symbol ?_
  obtain ⟨y1, e1, h⟩ := bindE h
  refine K_call hS [] trivial (w_ablautref03_Inv_made_nil hS hL e1) ?_
  refine K_cond hS trivial (b := !y1) (fun c1 => ?_) (fun c1 => ?_)
  · replace h := itT c1 h
    obtain rfl := someI h
    exact K_ret hS trivial [] ⟨rfl, rfl, rfl⟩
  · replace h := itF c1 h
    cases h
def m_ablautref03_Inv_Feat_nil (N : Nat) (p_name : Str) : Option (Int × Bool) :=
  (m_ablautref03_Inv_made_nil N ).bind fun y1 =>
  if (!y1) = true then
    some (0, false)
  else
    none
theorem w_ablautref03_Inv_Feat_nil {N : Nat} {p_name : Str}   {y : (Int × Bool)} (h : m_ablautref03_Inv_Feat_nil N p_name = some y) :
    FunO S k_ablautref03_Inv_Feat [(.p nilP), (.p (.str p_name))] [] (.tup [(.p (pI .i64 y.1)), (.p (.bb y.2))]) ([]) [] := by
  unfold m_ablautref03_Inv_Feat_nil at h
  refine K_start hS f_ablautref03_Inv_Feat ?_
  obtain ⟨y1, e1, h⟩ := bindE h
  refine K_call hS [] trivial (w_ablautref03_Inv_made_nil hS hL e1) ?_
  refine K_cond hS trivial (b := !y1) (fun c1 => ?_) (fun c1 => ?_)
  · replace h := itT c1 h
    obtain rfl := someI h
    exact K_ret hS trivial [] ⟨rfl, rfl, rfl⟩
  · replace h := itF c1 h
    cases h
def m_ablautref03_Inv_Feats_nil (N : Nat)  : Option (Sl Str) :=
  (m_ablautref03_Inv_made_nil N ).bind fun y1 =>
  if (!y1) = true then
    some (Sl.nil : Sl Str)
  else
    none
theorem w_ablautref03_Inv_Feats_nil {N : Nat}    {y : (Sl Str)} (h : m_ablautref03_Inv_Feats_nil N  = some y) :
    FunO S k_ablautref03_Inv_Feats [(.p nilP)] [] (.p (vSl 1 cS y)) ([]) [] := by
  unfold m_ablautref03_Inv_Feats_nil at h
  refine K_start hS f_ablautref03_Inv_Feats ?_
  obtain ⟨y1, e1, h⟩ := bindE h
  refine K_call hS [] trivial (w_ablautref03_Inv_made_nil hS hL e1) ?_
  refine K_cond hS trivial (b := !y1) (fun c1 => ?_) (fun c1 => ?_)
  · replace h := itT c1 h
    obtain rfl := someI h
    exact K_retO hS trivial ⟨[(2, (.p (vSl 1 cS (Sl.nil : Sl Str))))], []⟩ [] (ids := []) ⟨rfl, rfl, rfl⟩
  · replace h := itF c1 h
    cases h
def m_ablautref03_Inv_Sounds_nil (N : Nat)  : Option (Sl Named) :=
  (m_ablautref03_Inv_made_nil N ).bind fun y1 =>
  if (!y1) = true then
    some (Sl.nil : Sl Named)
  else
    none
theorem w_ablautref03_Inv_Sounds_nil {N : Nat}    {y : (Sl Named)} (h : m_ablautref03_Inv_Sounds_nil N  = some y) :
    FunO S k_ablautref03_Inv_Sounds [(.p nilP)] [] (.p (vSl 3 c_Named y)) ([]) [] := by
  unfold m_ablautref03_Inv_Sounds_nil at h
  refine K_start hS f_ablautref03_Inv_Sounds ?_
  obtain ⟨y1, e1, h⟩ := bindE h
  refine K_call hS [] trivial (w_ablautref03_Inv_made_nil hS hL e1) ?_
  refine K_cond hS trivial (b := !y1) (fun c1 => ?_) (fun c1 => ?_)
  · replace h := itT c1 h
    obtain rfl := someI h
    exact K_retO hS trivial ⟨[(2, (.p (vSl 3 c_Named (Sl.nil : Sl Named))))], []⟩ [] (ids := []) ⟨rfl, rfl, rfl⟩
  · replace h := itF c1 h
    cases h
def m_ablautref03_Inv_Len_nil (N : Nat)  : Option Int :=
  (m_ablautref03_Inv_Sounds_nil N ).bind fun y1 =>
  some ((y1.n : Nat) : Int)
theorem w_ablautref03_Inv_Len_nil {N : Nat}    {y : Int} (h : m_ablautref03_Inv_Len_nil N  = some y) :
    FunO S k_ablautref03_Inv_Len [(.p nilP)] [] (.p (pI .i64 y)) ([]) [] := by
  unfold m_ablautref03_Inv_Len_nil at h
  refine K_start hS f_ablautref03_Inv_Len ?_
  obtain ⟨y1, e1, h⟩ := bindE h
  refine K_call hS [] trivial (w_ablautref03_Inv_Sounds_nil hS hL e1) ?_
  obtain rfl := someI h
  exact K_ret hS trivial [] ⟨rfl, rfl, rfl⟩
def m_ablautref03_Inv_Longest_nil (N : Nat) (p_text : Str) : Option (Str × Bool) :=
  (m_ablautref03_Inv_made_nil N ).bind fun y1 =>
  if (!y1) = true then
    some ([], false)
  else
    none
theorem w_ablautref03_Inv_Longest_nil {N : Nat} {p_text : Str}   {y : (Str × Bool)} (h : m_ablautref03_Inv_Longest_nil N p_text = some y) :
    FunO S k_ablautref03_Inv_Longest [(.p nilP), (.p (.str p_text))] [] (.tup [(.p (.str y.1)), (.p (.bb y.2))]) ([]) [] := by
  unfold m_ablautref03_Inv_Longest_nil at h
  refine K_start hS f_ablautref03_Inv_Longest ?_
  obtain ⟨y1, e1, h⟩ := bindE h
  refine K_call hS [] trivial (w_ablautref03_Inv_made_nil hS hL e1) ?_
  refine K_cond hS trivial (b := !y1) (fun c1 => ?_) (fun c1 => ?_)
  · replace h := itT c1 h
    obtain rfl := someI h
    exact K_ret hS trivial [] ⟨rfl, rfl, rfl⟩
  · replace h := itF c1 h
    cases h
def m_ablautref03_Inv_Add_nil (N : Nat) (p_symbol : Str) (p_s : Sound) : Option Int :=
  (m_ablautref03_Inv_made_nil N ).bind fun y1 =>
  if (!y1) = true then
    some 1
  else
    (m_ablautref03_IsSymbol N p_symbol).bind fun y2 =>
    if (!y2) = true then
      some 15
    else
      none
theorem w_ablautref03_Inv_Add_nil {N : Nat} {p_symbol : Str} {p_s : Sound}   {y : Int} (h : m_ablautref03_Inv_Add_nil N p_symbol p_s = some y) :
    FunO S k_ablautref03_Inv_Add [(.p nilP), (.p (.str p_symbol)), (.p (.agg (c_Sound p_s)))] [] (.p (pI .i64 y)) ([]) [] := by
  unfold m_ablautref03_Inv_Add_nil at h
  refine K_start hS f_ablautref03_Inv_Add ?_
  obtain ⟨y1, e1, h⟩ := bindE h
  refine K_call hS [] trivial (w_ablautref03_Inv_made_nil hS hL e1) ?_
  refine K_cond hS trivial (b := !y1) (fun c1 => ?_) (fun c1 => ?_)
  · replace h := itT c1 h
    obtain rfl := someI h
    exact K_ret hS trivial [] ⟨rfl, rfl, rfl⟩
  · replace h := itF c1 h
    obtain ⟨y2, e2, h⟩ := bindE h
    refine K_call hS [] trivial (w_ablautref03_IsSymbol hS hL e2) ?_
    refine K_cond hS trivial (b := !y2) (fun c2 => ?_) (fun c2 => ?_)
    · replace h := itT c2 h
      obtain rfl := someI h
      exact K_ret hS trivial [] ⟨rfl, rfl, rfl⟩
    · replace h := itF c2 h
      cases h
def m_ablautlaw03_agree_nil (N : Nat) (p_x : Step) (p_text : Str) : Option Bool :=
  (m_inventory_Inv_Sound_nil N p_x.Symbol).bind fun y1 =>
  (m_ablautref03_Inv_Sound_nil N p_x.Symbol).bind fun y2 =>
  (m_inventory_Inv_Symbol_nil N p_x.S).bind fun y3 =>
  (m_ablautref03_Inv_Symbol_nil N p_x.S).bind fun y4 =>
  (m_inventory_Inv_Longest_nil N p_text).bind fun y5 =>
  (m_ablautref03_Inv_Longest_nil N p_text).bind fun y6 =>
  lt (fun (z1 : Bool) =>
      some z1
    ) fun k1 =>
    if (((y1.1.Plus == y2.1.Plus) && (y1.1.Minus == y2.1.Minus)) != false) = true then
      if ((y1.2 == y2.2) != false) = true then
        if ((y3.1 == y4.1) != false) = true then
          if ((y3.2 == y4.2) != false) = true then
            if ((y5.1 == y6.1) != false) = true then
              if ((y5.2 == y6.2) != false) = true then
                (m_inventory_Inv_Len_nil N ).bind fun y9 =>
                (m_ablautref03_Inv_Len_nil N ).bind fun y10 =>
                k1 (y9 == y10)
              else
                k1 false
            else
              k1 false
          else
            k1 false
        else
          k1 false
      else
        k1 false
    else
      k1 false
theorem w_ablautlaw03_agree_nil {N : Nat} {p_x : Step} {p_text : Str}   {y : Bool} (h : m_ablautlaw03_agree_nil N p_x p_text = some y) :
    FunO S k_ablautlaw03_agree [(.p nilP), (.p nilP), (.p (.agg (c_Step p_x))), (.p (.str p_text))] [] (.p (.bb y)) ([]) [] := by
  unfold m_ablautlaw03_agree_nil at h
  refine K_start hS f_ablautlaw03_agree ?_
  obtain ⟨y1, e1, h⟩ := bindE h
  refine K_call hS [] trivial (w_inventory_Inv_Sound_nil hS hL e1) ?_
  obtain ⟨y2, e2, h⟩ := bindE h
  refine K_call hS [] trivial (w_ablautref03_Inv_Sound_nil hS hL e2) ?_
  obtain ⟨y3, e3, h⟩ := bindE h
  refine K_call hS [] trivial (w_inventory_Inv_Symbol_nil hS hL e3) ?_
  obtain ⟨y4, e4, h⟩ := bindE h
  refine K_call hS [] trivial (w_ablautref03_Inv_Symbol_nil hS hL e4) ?_
  obtain ⟨y5, e5, h⟩ := bindE h
  refine K_call hS [] trivial (w_inventory_Inv_Longest_nil hS hL e5) ?_
  obtain ⟨y6, e6, h⟩ := bindE h
  refine K_call hS [] trivial (w_ablautref03_Inv_Longest_nil hS hL e6) ?_
  refine K_lt hS (by decide +kernel : eqOk Tryd.prog t_api_Sound = true) (fnPost_up hS) h 0 (fun z1 => ⟨[(8, (.p (.bb z1)))], []⟩) (fun M1 k1 hb1 h => ?_) (fun z1 h => ?_)
  · refine K_guard hS trivial (b := (((y1.1.Plus == y2.1.Plus) && (y1.1.Minus == y2.1.Minus)) != false)) (fun c13 => ?_) (fun c13 => ?_)
    · replace h := itT c13 h
      refine K_guard hS trivial (b := ((y1.2 == y2.2) != false)) (fun c14 => ?_) (fun c14 => ?_)
      · replace h := itT c14 h
        refine K_guard hS trivial (b := ((y3.1 == y4.1) != false)) (fun c15 => ?_) (fun c15 => ?_)
        · replace h := itT c15 h
          refine K_guard hS trivial (b := ((y3.2 == y4.2) != false)) (fun c16 => ?_) (fun c16 => ?_)
          · replace h := itT c16 h
            refine K_guard hS trivial (b := ((y5.1 == y6.1) != false)) (fun c17 => ?_) (fun c17 => ?_)
            · replace h := itT c17 h
              refine K_guard hS trivial (b := ((y5.2 == y6.2) != false)) (fun c18 => ?_) (fun c18 => ?_)
              · replace h := itT c18 h
                obtain ⟨y9, e9, h⟩ := bindE h
                refine K_call hS [] trivial (w_inventory_Inv_Len_nil hS hL e9) ?_
                obtain ⟨y10, e10, h⟩ := bindE h
                refine K_call hS [] trivial (w_ablautref03_Inv_Len_nil hS hL e10) ?_
                exact hb1 _ [] _ (y9 == y10) trivial h
              · replace h := itF c18 h
                exact hb1 _ [] _ false trivial h
            · replace h := itF c17 h
              exact hb1 _ [] _ false trivial h
          · replace h := itF c16 h
            exact hb1 _ [] _ false trivial h
        · replace h := itF c15 h
          exact hb1 _ [] _ false trivial h
      · replace h := itF c14 h
        exact hb1 _ [] _ false trivial h
    · replace h := itF c13 h
      exact hb1 _ [] _ false trivial h
  · obtain rfl := someI h
    exact K_ret hS trivial [] ⟨rfl, rfl, rfl⟩
end Go.AM
set_option linter.unusedVariables false
set_option linter.unusedSectionVars false
namespace Go.AM
open Go.Proofs
set_option maxRecDepth 10000
set_option maxHeartbeats 2000000
variable {S : Sems} (hS : Good S Tryd.prog) (hL : LibC S)
include hS hL
def m_ablautlaw03_numbered (N : Nat) (p_n : Int) : Option ((Option O_inventory_Inv) × (Sl Str)) :=
  fix2 N (fun self1 (x1 : Sl Str) (x2 : Int) =>
      if (decide (x2 < p_n)) = true then
        if ((x1.n + (Sl.of [[UInt8.ofNat (IntKind.wrap .u8 (IntKind.wrap .i64 (97 + x2))).toNat, 48]] : Sl Str).n) * 16 ≤ 140737488355328 ∧ x1.n + (Sl.of [[UInt8.ofNat (IntKind.wrap .u8 (IntKind.wrap .i64 (97 + x2))).toNat, 48]] : Sl Str).n ≤ 140737488355328) then
          self1 (x1.push [UInt8.ofNat (IntKind.wrap .u8 (IntKind.wrap .i64 (97 + x2))).toNat, 48]) (IntKind.wrap .i64 (x2 + 1))
        else none
      else
        (m_inventory_New N x1).bind fun y1 =>
        optE y1.1 (
            if (y1.2 != 0) = true then
              some (none, (Sl.nil : Sl Str))
            else
              some (none, x1)
          ) fun z1 =>
          if (y1.2 != 0) = true then
            some (none, (Sl.nil : Sl Str))
          else
            some (some z1, x1)
    ) (Sl.nil : Sl Str) 0
theorem w_ablautlaw03_numbered {N : Nat} {p_n : Int}   {y : ((Option O_inventory_Inv) × (Sl Str))} (h : m_ablautlaw03_numbered N p_n = some y) :
    FunO S k_ablautlaw03_numbered [(.p (pI .i64 p_n))] [] (.tup [(optE y.1 (.p nilP) fun _ => .reg 1 0), (.vec 0)]) ([(.vec t_string 1 y.2.n (fun i => cS (y.2.g i)) true)] ++ (optE y.1 [] fun o => [(.cells [(.p (vSl 1 cS o.feats)), (.mref 2), (.vec 3), (.mref 4), (.mref 5)]), (.map (encM PV.str (pI .i64) o.number)), (.vec t_api_Named 3 o.sounds.n (fun i => c_Named (o.sounds.g i)) true), (.map (encM PV.str (pI .i64) o.symbols)), (.map (encM (fun x => .agg (c_Sound x)) (pI .i64) o.values))])) [] := by
  unfold m_ablautlaw03_numbered at h
  refine K_start hS f_ablautlaw03_numbered ?_
  refine K_fix2 hS trivial h (fun x1 x2 => ⟨[(9, (.p (pI .i64 x2))), (8, (.p (pI .i64 p_n))), (4, (.vec 5500))], [(5500, (.vec t_string 1 x1.n (fun i => cS (x1.g i)) false))]⟩) (ids := []) (fun _ _ _ _ _ self1 x1 x2 hb1 h => ?_)
  refine K_cond hS trivial (b := decide (x2 < p_n)) (fun c3 => ?_) (fun c3 => ?_)
  · replace h := itT c3 h
    obtain ⟨c4, h⟩ := chkE h
    exact hb1 _ [(5500, 20000)] _ (x1.push [UInt8.ofNat (IntKind.wrap .u8 (IntKind.wrap .i64 (97 + x2))).toNat, 48]) (IntKind.wrap .i64 (x2 + 1)) (And.intro (And.intro (And.intro (rfl : true = true) ((fun i hi => match i, hi with | 0, _ => rfl | 1, _ => rfl | _ + 2, hi => absurd hi (by omega)) : ∀ i : Nat, i < 2 → (byteOf (lookF [(pI .u8 0)] [(0, cI .u8 (IntKind.wrap .u8 (IntKind.wrap .i64 (97 + x2)))), (1, cI .u8 48)] i)).isSome = true)) (rfl : true = true)) c4) h (by kernel_rfl) (by kernel_rfl) (klR [(2, .fn (x1.n + 1) (x1.push [UInt8.ofNat (IntKind.wrap .u8 (IntKind.wrap .i64 (97 + x2))).toNat, 48]).n (appF x1.n (fun i => cS (x1.g i)) (lookF [(.str [])] [(0, cS [UInt8.ofNat (IntKind.wrap .u8 (IntKind.wrap .i64 (97 + x2))).toNat, 48])])) (fun i => cS ((x1.push [UInt8.ofNat (IntKind.wrap .u8 (IntKind.wrap .i64 (97 + x2))).toNat, 48]).g i)))] (al1 ⟨rfl, (app1 (c := cS) (v := x1) (x := [UInt8.ofNat (IntKind.wrap .u8 (IntKind.wrap .i64 (97 + x2))).toNat, 48]) (z := [(.str [])]) same rfl rfl)⟩ al0))
  · replace h := itF c3 h
    obtain ⟨y1, e1, h⟩ := bindE h
    rcases o1 : y1.1 with _ | z1
    · replace h := optN o1 h
      have w1 := (w_inventory_New hS hL e1)
      simp only [o1, optE_none, optE_some, List.append_nil, List.cons_append, List.nil_append] at w1
      refine K_call hS [] trivial w1 ?_
      refine K_cond hS trivial (b := y1.2 != 0) (fun c5 => ?_) (fun c5 => ?_)
      · replace h := itT c5 h
        obtain rfl := someI h
        exact K_retO hS trivial ⟨[(3, (.vec 4701)), (2, (.p nilP))], [(4701, (.vec t_string 1 (Sl.nil : Sl Str).n (fun i => cS ((Sl.nil : Sl Str).g i)) true))]⟩ [4701] (ids := []) ⟨rfl, rfl, rfl⟩
      · replace h := itF c5 h
        obtain rfl := someI h
        exact K_retO hS trivial ⟨[(3, (.vec 5500)), (2, (.p nilP))], [(5500, (.vec t_string 1 x1.n (fun i => cS (x1.g i)) true))]⟩ [5500] (ids := [(5500, 5500)]) ⟨rfl, rfl, rfl⟩
    · replace h := optS o1 h
      have w2 := (w_inventory_New hS hL e1)
      simp only [o1, optE_none, optE_some, List.append_nil, List.cons_append, List.nil_append] at w2
      refine K_call hS [] trivial w2 ?_
      refine K_cond hS trivial (b := y1.2 != 0) (fun c6 => ?_) (fun c6 => ?_)
      · replace h := itT c6 h
        obtain rfl := someI h
        exact K_retO hS trivial ⟨[(3, (.vec 4701)), (2, (.p nilP))], [(4701, (.vec t_string 1 (Sl.nil : Sl Str).n (fun i => cS ((Sl.nil : Sl Str).g i)) true))]⟩ [4701] (ids := []) ⟨rfl, rfl, rfl⟩
      · replace h := itF c6 h
        obtain rfl := someI h
        exact K_retO hS trivial ⟨[(3, (.vec 5500)), (2, (.reg 24000 0))], [(24004, (.map (encM (fun x => .agg (c_Sound x)) (pI .i64) z1.values))), (24003, (.map (encM PV.str (pI .i64) z1.symbols))), (24002, (.vec t_api_Named 3 z1.sounds.n (fun i => c_Named (z1.sounds.g i)) true)), (24001, (.map (encM PV.str (pI .i64) z1.number))), (24000, (.cells [(.p (vSl 1 cS z1.feats)), (.mref 24001), (.vec 24002), (.mref 24003), (.mref 24004)])), (5500, (.vec t_string 1 x1.n (fun i => cS (x1.g i)) true))]⟩ [5500, 24000, 24001, 24002, 24003, 24004] (ids := [(5500, 5500), (24000, 24000), (24001, 24001), (24002, 24002), (24003, 24003), (24004, 24004)]) ⟨rfl, rfl, rfl⟩
def m_ablautlaw03_grown (N : Nat) (p_l : (Sl Step)) : Option ((Option O_inventory_Inv) × (Sl Named)) :=
  (m_ablautlaw03_numbered N 24).bind fun y1 =>
  optE y1.1 (
      some (none, (Sl.nil : Sl Named))
    ) fun z1 =>
    if ((0 : Int) ≤ (if 300 < ((p_l.n : Nat) : Int) then 300 else ((p_l.n : Nat) : Int)) ∧ (if 300 < ((p_l.n : Nat) : Int) then 300 else ((p_l.n : Nat) : Int)) ≤ ((p_l.n : Nat) : Int)) then
      fix3 N (fun self1 (x1 : O_inventory_Inv) (x2 : Sl Named) (x3 : Int) =>
          if (decide (x3 < (((p_l.take (if 300 < ((p_l.n : Nat) : Int) then 300 else ((p_l.n : Nat) : Int)).toNat).n : Nat) : Int))) = true then
            if ((0 : Int) ≤ x3 ∧ x3 < (((p_l.take (if 300 < ((p_l.n : Nat) : Int) then 300 else ((p_l.n : Nat) : Int)).toNat).n : Nat) : Int)) then
              (m_inventory_Inv_Add N x1 ((p_l.take (if 300 < ((p_l.n : Nat) : Int) then 300 else ((p_l.n : Nat) : Int)).toNat).g x3.toNat).Symbol ((p_l.take (if 300 < ((p_l.n : Nat) : Int) then 300 else ((p_l.n : Nat) : Int)).toNat).g x3.toNat).S).bind fun y4 =>
              if (y4.1 == 0) = true then
                if ((x2.n + (Sl.of [(⟨((p_l.take (if 300 < ((p_l.n : Nat) : Int) then 300 else ((p_l.n : Nat) : Int)).toNat).g x3.toNat).Symbol, ((p_l.take (if 300 < ((p_l.n : Nat) : Int) then 300 else ((p_l.n : Nat) : Int)).toNat).g x3.toNat).S⟩ : Named)] : Sl Named).n) * 24 ≤ 140737488355328 ∧ x2.n + (Sl.of [(⟨((p_l.take (if 300 < ((p_l.n : Nat) : Int) then 300 else ((p_l.n : Nat) : Int)).toNat).g x3.toNat).Symbol, ((p_l.take (if 300 < ((p_l.n : Nat) : Int) then 300 else ((p_l.n : Nat) : Int)).toNat).g x3.toNat).S⟩ : Named)] : Sl Named).n ≤ 140737488355328) then
                  self1 y4.2 (x2.push (⟨((p_l.take (if 300 < ((p_l.n : Nat) : Int) then 300 else ((p_l.n : Nat) : Int)).toNat).g x3.toNat).Symbol, ((p_l.take (if 300 < ((p_l.n : Nat) : Int) then 300 else ((p_l.n : Nat) : Int)).toNat).g x3.toNat).S⟩ : Named)) (IntKind.wrap .i64 (x3 + 1))
                else none
              else
                self1 y4.2 x2 (IntKind.wrap .i64 (x3 + 1))
            else none
          else
            some (some x1, x2)
        ) z1 (Sl.nil : Sl Named) 0
    else none
theorem w_ablautlaw03_grown {N : Nat} {p_l : (Sl Step)}   {y : ((Option O_inventory_Inv) × (Sl Named))} (h : m_ablautlaw03_grown N p_l = some y) :
    FunO S k_ablautlaw03_grown [(.p (vSl 3 c_Step p_l))] [] (.tup [(optE y.1 (.p nilP) fun _ => .reg 1 0), (.vec 0)]) ([(.vec t_api_Named 3 y.2.n (fun i => c_Named (y.2.g i)) true)] ++ (optE y.1 [] fun o => [(.cells [(.p (vSl 1 cS o.feats)), (.mref 2), (.vec 3), (.mref 4), (.mref 5)]), (.map (encM PV.str (pI .i64) o.number)), (.vec t_api_Named 3 o.sounds.n (fun i => c_Named (o.sounds.g i)) true), (.map (encM PV.str (pI .i64) o.symbols)), (.map (encM (fun x => .agg (c_Sound x)) (pI .i64) o.values))])) [] := by
  unfold m_ablautlaw03_grown at h
  refine K_start hS f_ablautlaw03_grown ?_
  obtain ⟨y1, e1, h⟩ := bindE h
  rcases o1 : y1.1 with _ | z1
  · replace h := optN o1 h
    have w1 := (w_ablautlaw03_numbered hS hL e1)
    simp only [o1, optE_none, optE_some, List.append_nil, List.cons_append, List.nil_append] at w1
    refine K_call hS [] trivial w1 ?_
    obtain rfl := someI h
    exact K_retO hS trivial ⟨[(3, (.vec 4701)), (2, (.p nilP))], [(4701, (.vec t_api_Named 3 (Sl.nil : Sl Named).n (fun i => c_Named ((Sl.nil : Sl Named).g i)) true))]⟩ [4701] (ids := []) ⟨rfl, rfl, rfl⟩
  · replace h := optS o1 h
    have w2 := (w_ablautlaw03_numbered hS hL e1)
    simp only [o1, optE_none, optE_some, List.append_nil, List.cons_append, List.nil_append] at w2
    refine K_call hS [] trivial w2 ?_
    obtain ⟨c1, h⟩ := chkE h
    refine K_fix3 hS c1 h (fun x1 x2 x3 => ⟨[(21, (.p (pI .i64 x3))), (20, (.p (pI .i64 (((p_l.take (if 300 < ((p_l.n : Nat) : Int) then 300 else ((p_l.n : Nat) : Int)).toNat).n : Nat) : Int)))), (19, (.p (vSl 3 c_Step (p_l.take (if 300 < ((p_l.n : Nat) : Int) then 300 else ((p_l.n : Nat) : Int)).toNat)))), (6, (.vec 7500)), (4, (.reg 11001 0))], [(11005, (.map (encM (fun x => .agg (c_Sound x)) (pI .i64) x1.values))), (11004, (.map (encM PV.str (pI .i64) x1.symbols))), (11002, (.map (encM PV.str (pI .i64) x1.number))), (11001, (.cells [(.p (vSl 1 cS x1.feats)), (.mref 11002), (.vec 5500), (.mref 11004), (.mref 11005)])), (7500, (.vec t_api_Named 3 x2.n (fun i => c_Named (x2.g i)) false)), (5500, (.vec t_api_Named 3 x1.sounds.n (fun i => c_Named (x1.sounds.g i)) true))]⟩) (ids := [(5500, 11003), (11001, 11001), (11002, 11002), (11004, 11004), (11005, 11005)]) (fun _ _ _ _ _ self1 x1 x2 x3 hb1 h => ?_)
    refine K_cond hS trivial (b := decide (x3 < (((p_l.take (if 300 < ((p_l.n : Nat) : Int) then 300 else ((p_l.n : Nat) : Int)).toNat).n : Nat) : Int))) (fun c8 => ?_) (fun c8 => ?_)
    · replace h := itT c8 h
      obtain ⟨c9, h⟩ := chkE h
      obtain ⟨y4, e4, h⟩ := bindE h
      refine K_call hS [11001, 11002, 5500, 11004, 11005] (And.intro c9 (by decide : (3 : Nat) ≤ 3)) (w_inventory_Inv_Add hS hL e4) ?_
      refine K_cond hS trivial (b := y4.1 == 0) (fun c10 => ?_) (fun c10 => ?_)
      · replace h := itT c10 h
        obtain ⟨c11, h⟩ := chkE h
        exact hb1 _ [(5500, 31002), (7500, 40000), (11001, 11001), (11002, 11002), (11004, 11004), (11005, 11005)] _ y4.2 (x2.push (⟨((p_l.take (if 300 < ((p_l.n : Nat) : Int) then 300 else ((p_l.n : Nat) : Int)).toNat).g x3.toNat).Symbol, ((p_l.take (if 300 < ((p_l.n : Nat) : Int) then 300 else ((p_l.n : Nat) : Int)).toNat).g x3.toNat).S⟩ : Named)) (IntKind.wrap .i64 (x3 + 1)) (And.intro (rfl : true = true) c11) h (by kernel_rfl) (by kernel_rfl) (klR [(7, .fn (x2.n + 1) (x2.push (⟨((p_l.take (if 300 < ((p_l.n : Nat) : Int) then 300 else ((p_l.n : Nat) : Int)).toNat).g x3.toNat).Symbol, ((p_l.take (if 300 < ((p_l.n : Nat) : Int) then 300 else ((p_l.n : Nat) : Int)).toNat).g x3.toNat).S⟩ : Named)).n (appF x2.n (fun i => c_Named (x2.g i)) (lookF [(.str []), (pI .u32 0), (pI .u32 0)] [(0, c_Named (⟨((p_l.take (if 300 < ((p_l.n : Nat) : Int) then 300 else ((p_l.n : Nat) : Int)).toNat).g x3.toNat).Symbol, ((p_l.take (if 300 < ((p_l.n : Nat) : Int) then 300 else ((p_l.n : Nat) : Int)).toNat).g x3.toNat).S⟩ : Named))])) (fun i => c_Named ((x2.push (⟨((p_l.take (if 300 < ((p_l.n : Nat) : Int) then 300 else ((p_l.n : Nat) : Int)).toNat).g x3.toNat).Symbol, ((p_l.take (if 300 < ((p_l.n : Nat) : Int) then 300 else ((p_l.n : Nat) : Int)).toNat).g x3.toNat).S⟩ : Named)).g i)))] (al1 ⟨rfl, (app1 (c := c_Named) (v := x2) (x := (⟨((p_l.take (if 300 < ((p_l.n : Nat) : Int) then 300 else ((p_l.n : Nat) : Int)).toNat).g x3.toNat).Symbol, ((p_l.take (if 300 < ((p_l.n : Nat) : Int) then 300 else ((p_l.n : Nat) : Int)).toNat).g x3.toNat).S⟩ : Named)) (z := [(.str []), (pI .u32 0), (pI .u32 0)]) same rfl rfl)⟩ al0))
      · replace h := itF c10 h
        exact hb1 _ [(5500, 31002), (7500, 7500), (11001, 11001), (11002, 11002), (11004, 11004), (11005, 11005)] _ y4.2 x2 (IntKind.wrap .i64 (x3 + 1)) trivial h
    · replace h := itF c8 h
      obtain rfl := someI h
      exact K_retO hS trivial ⟨[(3, (.vec 7500)), (2, (.reg 11001 0))], [(11005, (.map (encM (fun x => .agg (c_Sound x)) (pI .i64) x1.values))), (11004, (.map (encM PV.str (pI .i64) x1.symbols))), (11002, (.map (encM PV.str (pI .i64) x1.number))), (11001, (.cells [(.p (vSl 1 cS x1.feats)), (.mref 11002), (.vec 5500), (.mref 11004), (.mref 11005)])), (7500, (.vec t_api_Named 3 x2.n (fun i => c_Named (x2.g i)) true)), (5500, (.vec t_api_Named 3 x1.sounds.n (fun i => c_Named (x1.sounds.g i)) true))]⟩ [7500, 11001, 11002, 5500, 11004, 11005] (ids := [(5500, 5500), (7500, 7500), (11001, 11001), (11002, 11002), (11004, 11004), (11005, 11005)]) ⟨rfl, rfl, rfl⟩
def m_ablautlaw03_agree (N : Nat) (p_v : O_inventory_Inv) (p_r : O_ablautref03_Inv) (p_x : Step) (p_text : Str) : Option Bool :=
  (m_inventory_Inv_Sound N p_v p_x.Symbol).bind fun y1 =>
  (m_ablautref03_Inv_Sound N p_r p_x.Symbol).bind fun y2 =>
  (m_inventory_Inv_Symbol N p_v p_x.S).bind fun y3 =>
  (m_ablautref03_Inv_Symbol N p_r p_x.S).bind fun y4 =>
  (m_inventory_Inv_Longest N p_v p_text).bind fun y5 =>
  (m_ablautref03_Inv_Longest N p_r p_text).bind fun y6 =>
  lt (fun (z1 : Bool) =>
      some z1
    ) fun k1 =>
    if (((y1.1.Plus == y2.1.Plus) && (y1.1.Minus == y2.1.Minus)) != false) = true then
      if ((y1.2 == y2.2) != false) = true then
        if ((y3.1 == y4.1) != false) = true then
          if ((y3.2 == y4.2) != false) = true then
            if ((y5.1 == y6.1) != false) = true then
              if ((y5.2 == y6.2) != false) = true then
                (m_inventory_Inv_Len N p_v).bind fun y9 =>
                (m_ablautref03_Inv_Len N p_r).bind fun y10 =>
                k1 (y9 == y10)
              else
                k1 false
            else
              k1 false
          else
            k1 false
        else
          k1 false
      else
        k1 false
    else
      k1 false
theorem w_ablautlaw03_agree {N : Nat} {p_v : O_inventory_Inv} {p_r : O_ablautref03_Inv} {p_x : Step} {p_text : Str}   {y : Bool} (h : m_ablautlaw03_agree N p_v p_r p_x p_text = some y) :
    FunO S k_ablautlaw03_agree [(.reg 0 0), (.reg 5 0), (.p (.agg (c_Step p_x))), (.p (.str p_text))] [(.cells [(.p (vSl 1 cS p_v.feats)), (.mref 1), (.vec 2), (.mref 3), (.mref 4)]), (.map (encM PV.str (pI .i64) p_v.number)), (.vec t_api_Named 3 p_v.sounds.n (fun i => c_Named (p_v.sounds.g i)) true), (.map (encM PV.str (pI .i64) p_v.symbols)), (.map (encM (fun x => .agg (c_Sound x)) (pI .i64) p_v.values)), (.cells [(.p (.bb p_r.Made)), (.p (vSl 1 cS p_r.F)), (.vec 6)]), (.vec t_api_Named 3 p_r.S.n (fun i => c_Named (p_r.S.g i)) true)] (.p (.bb y)) ([(.cells [(.p (vSl 1 cS p_v.feats)), (.mref 1), (.vec 2), (.mref 3), (.mref 4)]), (.map (encM PV.str (pI .i64) p_v.number)), (.vec t_api_Named 3 p_v.sounds.n (fun i => c_Named (p_v.sounds.g i)) true), (.map (encM PV.str (pI .i64) p_v.symbols)), (.map (encM (fun x => .agg (c_Sound x)) (pI .i64) p_v.values)), (.cells [(.p (.bb p_r.Made)), (.p (vSl 1 cS p_r.F)), (.vec 6)]), (.vec t_api_Named 3 p_r.S.n (fun i => c_Named (p_r.S.g i)) true)]) [true, true, true, true, true, true, true] := by
  unfold m_ablautlaw03_agree at h
  refine K_start hS f_ablautlaw03_agree ?_
  obtain ⟨y1, e1, h⟩ := bindE h
  refine K_call hS [0, 1, 2, 3, 4] trivial (w_inventory_Inv_Sound hS hL e1) ?_
  obtain ⟨y2, e2, h⟩ := bindE h
  refine K_call hS [5, 6] trivial (w_ablautref03_Inv_Sound hS hL e2) ?_
  obtain ⟨y3, e3, h⟩ := bindE h
  refine K_call hS [0, 1, 2, 3, 4] trivial (w_inventory_Inv_Symbol hS hL e3) ?_
  obtain ⟨y4, e4, h⟩ := bindE h
  refine K_call hS [5, 6] trivial (w_ablautref03_Inv_Symbol hS hL e4) ?_
  obtain ⟨y5, e5, h⟩ := bindE h
  refine K_call hS [0, 1, 2, 3, 4] trivial (w_inventory_Inv_Longest hS hL e5) ?_
  obtain ⟨y6, e6, h⟩ := bindE h
  refine K_call hS [5, 6] trivial (w_ablautref03_Inv_Longest hS hL e6) ?_
  refine K_lt hS (by decide +kernel : eqOk Tryd.prog t_api_Sound = true) (fnPost_up hS) h 0 (fun z1 => ⟨[(8, (.p (.bb z1)))], [(6, (.vec t_api_Named 3 p_r.S.n (fun i => c_Named (p_r.S.g i)) true)), (5, (.cells [(.p (.bb p_r.Made)), (.p (vSl 1 cS p_r.F)), (.vec 6)])), (4, (.map (encM (fun x => .agg (c_Sound x)) (pI .i64) p_v.values))), (3, (.map (encM PV.str (pI .i64) p_v.symbols))), (2, (.vec t_api_Named 3 p_v.sounds.n (fun i => c_Named (p_v.sounds.g i)) true)), (1, (.map (encM PV.str (pI .i64) p_v.number))), (0, (.cells [(.p (vSl 1 cS p_v.feats)), (.mref 1), (.vec 2), (.mref 3), (.mref 4)]))]⟩) (fun M1 k1 hb1 h => ?_) (fun z1 h => ?_)
  · refine K_guard hS trivial (b := (((y1.1.Plus == y2.1.Plus) && (y1.1.Minus == y2.1.Minus)) != false)) (fun c13 => ?_) (fun c13 => ?_)
    · replace h := itT c13 h
      refine K_guard hS trivial (b := ((y1.2 == y2.2) != false)) (fun c14 => ?_) (fun c14 => ?_)
      · replace h := itT c14 h
        refine K_guard hS trivial (b := ((y3.1 == y4.1) != false)) (fun c15 => ?_) (fun c15 => ?_)
        · replace h := itT c15 h
          refine K_guard hS trivial (b := ((y3.2 == y4.2) != false)) (fun c16 => ?_) (fun c16 => ?_)
          · replace h := itT c16 h
            refine K_guard hS trivial (b := ((y5.1 == y6.1) != false)) (fun c17 => ?_) (fun c17 => ?_)
            · replace h := itT c17 h
              refine K_guard hS trivial (b := ((y5.2 == y6.2) != false)) (fun c18 => ?_) (fun c18 => ?_)
              · replace h := itT c18 h
                obtain ⟨y9, e9, h⟩ := bindE h
                refine K_call hS [0, 1, 2, 3, 4] trivial (w_inventory_Inv_Len hS hL e9) ?_
                obtain ⟨y10, e10, h⟩ := bindE h
                refine K_call hS [5, 6] trivial (w_ablautref03_Inv_Len hS hL e10) ?_
                exact hb1 _ [(0, 0), (1, 1), (2, 2), (3, 3), (4, 4), (5, 5), (6, 6)] _ (y9 == y10) trivial h
              · replace h := itF c18 h
                exact hb1 _ [(0, 0), (1, 1), (2, 2), (3, 3), (4, 4), (5, 5), (6, 6)] _ false trivial h
            · replace h := itF c17 h
              exact hb1 _ [(0, 0), (1, 1), (2, 2), (3, 3), (4, 4), (5, 5), (6, 6)] _ false trivial h
          · replace h := itF c16 h
            exact hb1 _ [(0, 0), (1, 1), (2, 2), (3, 3), (4, 4), (5, 5), (6, 6)] _ false trivial h
        · replace h := itF c15 h
          exact hb1 _ [(0, 0), (1, 1), (2, 2), (3, 3), (4, 4), (5, 5), (6, 6)] _ false trivial h
      · replace h := itF c14 h
        exact hb1 _ [(0, 0), (1, 1), (2, 2), (3, 3), (4, 4), (5, 5), (6, 6)] _ false trivial h
    · replace h := itF c13 h
      exact hb1 _ [(0, 0), (1, 1), (2, 2), (3, 3), (4, 4), (5, 5), (6, 6)] _ false trivial h
  · obtain rfl := someI h
    exact K_retO hS trivial ⟨[(8, (.p (.bb z1)))], [(6, (.vec t_api_Named 3 p_r.S.n (fun i => c_Named (p_r.S.g i)) true)), (5, (.cells [(.p (.bb p_r.Made)), (.p (vSl 1 cS p_r.F)), (.vec 6)])), (4, (.map (encM (fun x => .agg (c_Sound x)) (pI .i64) p_v.values))), (3, (.map (encM PV.str (pI .i64) p_v.symbols))), (2, (.vec t_api_Named 3 p_v.sounds.n (fun i => c_Named (p_v.sounds.g i)) true)), (1, (.map (encM PV.str (pI .i64) p_v.number))), (0, (.cells [(.p (vSl 1 cS p_v.feats)), (.mref 1), (.vec 2), (.mref 3), (.mref 4)]))]⟩ [0, 1, 2, 3, 4, 5, 6] (ids := [(0, 0), (1, 1), (2, 2), (3, 3), (4, 4), (5, 5), (6, 6)]) ⟨rfl, rfl, rfl⟩
def m_ablautlaw03_InventoryFull (N : Nat) (p_shift : Int) : Option Bool :=
  (m_ablautlaw03_numbered N 9).bind fun y1 =>
  optE y1.1 (
      some false
    ) fun z1 =>
    fix2 N (fun self1 (x1 : O_inventory_Inv) (x2 : Int) =>
        if (decide (x2 < 256)) = true then
          if (((0 : Int) ≤ (IntKind.wrap .i64 (((IntKind.wrap .i64 (x2 + (IntKind.wrap .i64 p_shift))).tmod 256).tdiv 16)) ∧ (IntKind.wrap .i64 (((IntKind.wrap .i64 (x2 + (IntKind.wrap .i64 p_shift))).tmod 256).tdiv 16)) < (([48, 49, 50, 51, 52, 53, 54, 55, 56, 57, 97, 98, 99, 100, 101, 102].length : Nat) : Int)) ∧ ((0 : Int) ≤ (((IntKind.wrap .i64 (x2 + (IntKind.wrap .i64 p_shift))).tmod 256).tmod 16) ∧ (((IntKind.wrap .i64 (x2 + (IntKind.wrap .i64 p_shift))).tmod 256).tmod 16) < (([48, 49, 50, 51, 52, 53, 54, 55, 56, 57, 97, 98, 99, 100, 101, 102].length : Nat) : Int))) then
            (m_inventory_Inv_Add N x1 [UInt8.ofNat (byteAt [48, 49, 50, 51, 52, 53, 54, 55, 56, 57, 97, 98, 99, 100, 101, 102] (IntKind.wrap .i64 (((IntKind.wrap .i64 (x2 + (IntKind.wrap .i64 p_shift))).tmod 256).tdiv 16))).toNat, UInt8.ofNat (byteAt [48, 49, 50, 51, 52, 53, 54, 55, 56, 57, 97, 98, 99, 100, 101, 102] (((IntKind.wrap .i64 (x2 + (IntKind.wrap .i64 p_shift))).tmod 256).tmod 16)).toNat] (⟨IntKind.wrap .u32 ((IntKind.wrap .i64 (x2 + (IntKind.wrap .i64 p_shift))).tmod 256), 0⟩ : Sound)).bind fun y4 =>
            if (y4.1 != 0) = true then
              some false
            else
              self1 y4.2 (IntKind.wrap .i64 (x2 + 1))
          else none
        else
          (m_inventory_Inv_Add N x1 [110, 101, 119] (⟨256, 0⟩ : Sound)).bind fun y5 =>
          lt (fun (z2 : O_inventory_Inv × Bool) =>
              lt (fun (z3 : Bool) =>
                  some z3
                ) fun k2 =>
                if z2.2 = true then
                  (m_inventory_Inv_Len N z2.1).bind fun y16 =>
                  if (y16 == 256) = true then
                    (m_ablautlaw03_works N ).bind fun y17 =>
                    k2 y17
                  else
                    k2 false
                else
                  k2 false
            ) fun k1 =>
            if (y5.1 == 4) = true then
              (m_inventory_Inv_Add N y5.2 [48, 48] (⟨256, 0⟩ : Sound)).bind fun y10 =>
              if (y10.1 == 6) = true then
                (m_inventory_Inv_Add N y10.2 [110, 101, 119] (⟨7, 0⟩ : Sound)).bind fun y11 =>
                if (y11.1 == 6) = true then
                  (m_inventory_Inv_Add N y11.2 [110, 101, 119] (⟨512, 0⟩ : Sound)).bind fun y12 =>
                  if (y12.1 == 14) = true then
                    (m_inventory_Inv_Add N y12.2 [49, 50, 51, 52, 53] (⟨256, 0⟩ : Sound)).bind fun y13 =>
                    k1 (y13.2, y13.1 == 15)
                  else
                    k1 (y12.2, false)
                else
                  k1 (y11.2, false)
              else
                k1 (y10.2, false)
            else
              k1 (y5.2, false)
      ) z1 0
theorem w_ablautlaw03_InventoryFull {N : Nat} {p_shift : Int}   {y : Bool} (h : m_ablautlaw03_InventoryFull N p_shift = some y) :
    FunO S k_ablautlaw03_InventoryFull [(.p (pI .u8 p_shift))] [] (.p (.bb y)) ([]) [] := by
  unfold m_ablautlaw03_InventoryFull at h
  refine K_start hS f_ablautlaw03_InventoryFull ?_
  obtain ⟨y1, e1, h⟩ := bindE h
  rcases o1 : y1.1 with _ | z1
  · replace h := optN o1 h
    have w1 := (w_ablautlaw03_numbered hS hL e1)
    simp only [o1, optE_none, optE_some, List.append_nil, List.cons_append, List.nil_append] at w1
    refine K_call hS [] trivial w1 ?_
    obtain rfl := someI h
    exact K_ret hS trivial [] ⟨rfl, rfl, rfl⟩
  · replace h := optS o1 h
    have w2 := (w_ablautlaw03_numbered hS hL e1)
    simp only [o1, optE_none, optE_some, List.append_nil, List.cons_append, List.nil_append] at w2
    refine K_call hS [] trivial w2 ?_
    refine K_fix2 hS trivial h (fun x1 x2 => ⟨[(14, (.p (pI .i64 x2))), (3, (.reg 10001 0)), (0, (.p (pI .u8 p_shift)))], [(10005, (.map (encM (fun x => .agg (c_Sound x)) (pI .i64) x1.values))), (10004, (.map (encM PV.str (pI .i64) x1.symbols))), (10002, (.map (encM PV.str (pI .i64) x1.number))), (10001, (.cells [(.p (vSl 1 cS x1.feats)), (.mref 10002), (.vec 4500), (.mref 10004), (.mref 10005)])), (4500, (.vec t_api_Named 3 x1.sounds.n (fun i => c_Named (x1.sounds.g i)) true))]⟩) (ids := [(4500, 10003), (10001, 10001), (10002, 10002), (10004, 10004), (10005, 10005)]) (fun _ _ _ _ _ self1 x1 x2 hb1 h => ?_)
    refine K_cond hS trivial (b := decide (x2 < 256)) (fun c7 => ?_) (fun c7 => ?_)
    · replace h := itT c7 h
      refine K_drawn hS (by decide : (256 : Int) ≠ 0) ?_
      obtain ⟨c8, h⟩ := chkE h
      refine D_build (And.intro (And.intro (And.intro (by decide : (16 : Int) ≠ 0) c8.1) (by decide : (16 : Int) ≠ 0)) c8.2) (x := (.sl true 1 2 (lookF [(pI .u8 0)] [(0, (cI .u8) (byteAt [48, 49, 50, 51, 52, 53, 54, 55, 56, 57, 97, 98, 99, 100, 101, 102] (IntKind.wrap .i64 (((IntKind.wrap .i64 (x2 + (IntKind.wrap .i64 p_shift))).tmod 256).tdiv 16)))), (1, (cI .u8) (byteAt [48, 49, 50, 51, 52, 53, 54, 55, 56, 57, 97, 98, 99, 100, 101, 102] (((IntKind.wrap .i64 (x2 + (IntKind.wrap .i64 p_shift))).tmod 256).tmod 16)))]))) ?_
      obtain ⟨y4, e4, h⟩ := bindE h
      refine D_call [10001, 10002, 4500, 10004, 10005] ((fun i hi => match i, hi with | 0, _ => rfl | 1, _ => rfl | _ + 2, hi => absurd hi (by omega)) : ∀ i : Nat, i < 2 → (byteOf (lookF [(pI .u8 0)] [(0, cI .u8 (byteAt [48, 49, 50, 51, 52, 53, 54, 55, 56, 57, 97, 98, 99, 100, 101, 102] (IntKind.wrap .i64 (((IntKind.wrap .i64 (x2 + (IntKind.wrap .i64 p_shift))).tmod 256).tdiv 16)))), (1, cI .u8 (byteAt [48, 49, 50, 51, 52, 53, 54, 55, 56, 57, 97, 98, 99, 100, 101, 102] (((IntKind.wrap .i64 (x2 + (IntKind.wrap .i64 p_shift))).tmod 256).tmod 16)))] i)).isSome = true) (w_inventory_Inv_Add hS hL e4) ?_
      refine D_end trivial ?_
      refine K_cond hS trivial (b := y4.1 != 0) (fun c9 => ?_) (fun c9 => ?_)
      · replace h := itT c9 h
        obtain rfl := someI h
        exact K_ret hS trivial [] ⟨rfl, rfl, rfl⟩
      · replace h := itF c9 h
        exact hb1 _ [(4500, 35002), (10001, 10001), (10002, 10002), (10004, 10004), (10005, 10005)] _ y4.2 (IntKind.wrap .i64 (x2 + 1)) trivial h
    · replace h := itF c7 h
      obtain ⟨y5, e5, h⟩ := bindE h
      refine K_call hS [10001, 10002, 4500, 10004, 10005] trivial (w_inventory_Inv_Add hS hL e5) ?_
      refine K_lt hS trivial (fnPost_up hS) h 0 (fun z2 => ⟨[(7, (.p (.bb z2.2))), (3, (.reg 10001 0))], [(10005, (.map (encM (fun x => .agg (c_Sound x)) (pI .i64) z2.1.values))), (10004, (.map (encM PV.str (pI .i64) z2.1.symbols))), (10002, (.map (encM PV.str (pI .i64) z2.1.number))), (10001, (.cells [(.p (vSl 1 cS z2.1.feats)), (.mref 10002), (.vec 4501), (.mref 10004), (.mref 10005)])), (4501, (.vec t_api_Named 3 z2.1.sounds.n (fun i => c_Named (z2.1.sounds.g i)) true))]⟩) (fun M1 k1 hb2 h => ?_) (fun z2 h => ?_)
      · refine K_guard hS trivial (b := y5.1 == 4) (fun c15 => ?_) (fun c15 => ?_)
        · replace h := itT c15 h
          obtain ⟨y10, e10, h⟩ := bindE h
          refine K_call hS [10001, 10002, 40002, 10004, 10005] trivial (w_inventory_Inv_Add hS hL e10) ?_
          refine K_guard hS trivial (b := y10.1 == 6) (fun c16 => ?_) (fun c16 => ?_)
          · replace h := itT c16 h
            obtain ⟨y11, e11, h⟩ := bindE h
            refine K_call hS [10001, 10002, 45002, 10004, 10005] trivial (w_inventory_Inv_Add hS hL e11) ?_
            refine K_guard hS trivial (b := y11.1 == 6) (fun c17 => ?_) (fun c17 => ?_)
            · replace h := itT c17 h
              obtain ⟨y12, e12, h⟩ := bindE h
              refine K_call hS [10001, 10002, 51002, 10004, 10005] trivial (w_inventory_Inv_Add hS hL e12) ?_
              refine K_guard hS trivial (b := y12.1 == 14) (fun c18 => ?_) (fun c18 => ?_)
              · replace h := itT c18 h
                obtain ⟨y13, e13, h⟩ := bindE h
                refine K_call hS [10001, 10002, 57002, 10004, 10005] trivial (w_inventory_Inv_Add hS hL e13) ?_
                exact hb2 _ [(4501, 63002), (10001, 10001), (10002, 10002), (10004, 10004), (10005, 10005)] _ (y13.2, y13.1 == 15) trivial h
              · replace h := itF c18 h
                exact hb2 _ [(4501, 57002), (10001, 10001), (10002, 10002), (10004, 10004), (10005, 10005)] _ (y12.2, false) trivial h
            · replace h := itF c17 h
              exact hb2 _ [(4501, 51002), (10001, 10001), (10002, 10002), (10004, 10004), (10005, 10005)] _ (y11.2, false) trivial h
          · replace h := itF c16 h
            exact hb2 _ [(4501, 45002), (10001, 10001), (10002, 10002), (10004, 10004), (10005, 10005)] _ (y10.2, false) trivial h
        · replace h := itF c15 h
          exact hb2 _ [(4501, 40002), (10001, 10001), (10002, 10002), (10004, 10004), (10005, 10005)] _ (y5.2, false) trivial h
      · refine K_lt hS trivial (fnPost_up hS) h 0 (fun z3 => ⟨[(2, (.p (.bb z3)))], []⟩) (fun M2 k2 hb3 h => ?_) (fun z3 h => ?_)
        · refine K_guard hS trivial (b := z2.2) (fun c22 => ?_) (fun c22 => ?_)
          · replace h := itT c22 h
            obtain ⟨y16, e16, h⟩ := bindE h
            refine K_call hS [10001, 10002, 4501, 10004, 10005] trivial (w_inventory_Inv_Len hS hL e16) ?_
            refine K_guard hS trivial (b := y16 == 256) (fun c23 => ?_) (fun c23 => ?_)
            · replace h := itT c23 h
              obtain ⟨y17, e17, h⟩ := bindE h
              refine K_call hS [] trivial (w_ablautlaw03_works hS hL e17) ?_
              exact hb3 _ [] _ y17 trivial h
            · replace h := itF c23 h
              exact hb3 _ [] _ false trivial h
          · replace h := itF c22 h
            exact hb3 _ [] _ false trivial h
        · obtain rfl := someI h
          exact K_ret hS trivial [] ⟨rfl, rfl, rfl⟩
def m_ablautlaw03_InventoryBack (N : Nat) (p_count : Int) (p_s : Sound) : Option Bool :=
  (m_ablautlaw03_numbered N ((IntKind.wrap .i64 p_count).tmod 25)).bind fun y1 =>
  optE y1.1 (
      some false
    ) fun z1 =>
    (m_ablautlaw03_clean N p_s ((IntKind.wrap .i64 p_count).tmod 25)).bind fun y2 =>
    (m_inventory_Inv_Text N z1 y2).bind fun y3 =>
    (m_inventory_Inv_Bundle N z1 y3.1).bind fun y4 =>
    if (((y3.2 != 0) || (y4.2 != 0)) || (((y4.1.Plus == y2.Plus) && (y4.1.Minus == y2.Minus)) != true)) = true then
      some false
    else
      fix2 N (fun self1 (x2 : Str) (x3 : Int) =>
          if (decide (x3 < ((IntKind.wrap .i64 p_count).tmod 25))) = true then
            if (0 : Int) ≤ x3 then
              lt (fun (z4 : Str) =>
                  if ((((0 : Int) ≤ x3 ∧ x3 < ((y1.2.n : Nat) : Int)) ∧ x3.toNat < y1.2.n) ∧ (((z4.length + (y1.2.g x3.toNat).length : Nat) : Int) ≤ 9223372036854775807)) then
                    (m_strings_HasPrefix N x2 (z4 ++ (y1.2.g x3.toNat))).bind fun y9 =>
                    if (!y9) = true then
                      some false
                    else
                      if (((((0 : Int) ≤ x3 ∧ x3 < ((y1.2.n : Nat) : Int)) ∧ x3.toNat < y1.2.n) ∧ (((z4.length + (y1.2.g x3.toNat).length : Nat) : Int) ≤ 9223372036854775807)) ∧ ((0 : Int) ≤ (((z4 ++ (y1.2.g x3.toNat)).length : Nat) : Int) ∧ (((z4 ++ (y1.2.g x3.toNat)).length : Nat) : Int) ≤ ((x2.length : Nat) : Int))) then
                        (m_strings_TrimPrefix N (x2.drop (((z4 ++ (y1.2.g x3.toNat)).length : Nat) : Int).toNat) [32]).bind fun y10 =>
                        self1 y10 (IntKind.wrap .i64 (x3 + 1))
                      else none
                  else none
                ) fun k3 =>
                if ((bitI .and .u32 (shI .shr .u32 y2.Plus x3) 1) == 1) = true then
                  k3 [43]
                else
                  if (0 : Int) ≤ x3 then
                    if ((bitI .and .u32 (shI .shr .u32 y2.Minus x3) 1) == 1) = true then
                      k3 [45]
                    else
                      self1 x2 (IntKind.wrap .i64 (x3 + 1))
                  else none
            else none
          else
            fix1 N (fun self2 (x6 : Int) =>
                if (decide (x6 < ((y3.1.length : Nat) : Int))) = true then
                  if ((0 : Int) ≤ x6 ∧ x6 ≤ ((y3.1.length : Nat) : Int)) then
                    (m_inventory_Inv_Bundle N z1 (y3.1.take x6.toNat)).bind fun y13 =>
                    if ((x6 == 0) = false → ((0 : Int) ≤ x6 ∧ x6 < ((y3.1.length : Nat) : Int))) then
                      if (((y13.2 == 0) == ((x6 == 0) || ((byteAt y3.1 x6) == 32))) != true) = true then
                        some false
                      else
                        self2 (IntKind.wrap .i64 (x6 + 1))
                    else none
                  else none
                else
                  lt (fun (z5 : Bool) =>
                      some z5
                    ) fun k4 =>
                    if ((x2 == []) != false) = true then
                      (m_ablautlaw03_works N ).bind fun y15 =>
                      k4 y15
                    else
                      k4 false
              ) 0
        ) y3.1 0
theorem w_ablautlaw03_InventoryBack {N : Nat} {p_count : Int} {p_s : Sound}   {y : Bool} (h : m_ablautlaw03_InventoryBack N p_count p_s = some y) :
    FunO S k_ablautlaw03_InventoryBack [(.p (pI .u8 p_count)), (.p (.agg (c_Sound p_s)))] [] (.p (.bb y)) ([]) [] := by
  unfold m_ablautlaw03_InventoryBack at h
  refine K_start hS f_ablautlaw03_InventoryBack ?_
  obtain ⟨y1, e1, h⟩ := bindE h
  rcases o1 : y1.1 with _ | z1
  · replace h := optN o1 h
    have w1 := (w_ablautlaw03_numbered hS hL e1)
    simp only [o1, optE_none, optE_some, List.append_nil, List.cons_append, List.nil_append] at w1
    refine K_call hS [] (by decide : (25 : Int) ≠ 0) w1 ?_
    obtain rfl := someI h
    exact K_ret hS trivial [] ⟨rfl, rfl, rfl⟩
  · replace h := optS o1 h
    have w2 := (w_ablautlaw03_numbered hS hL e1)
    simp only [o1, optE_none, optE_some, List.append_nil, List.cons_append, List.nil_append] at w2
    refine K_call hS [] (by decide : (25 : Int) ≠ 0) w2 ?_
    obtain ⟨y2, e2, h⟩ := bindE h
    refine K_call hS [] trivial (w_ablautlaw03_clean hS hL e2) ?_
    obtain ⟨y3, e3, h⟩ := bindE h
    refine K_call hS [24001, 24002, 24003, 24004, 24005] trivial (w_inventory_Inv_Text hS hL e3) ?_
    obtain ⟨y4, e4, h⟩ := bindE h
    refine K_call hS [24001, 24002, 24003, 24004, 24005] trivial (w_inventory_Inv_Bundle hS hL e4) ?_
    obtain ⟨t1, ht1⟩ : ∃ x : Bool, x = (((y3.2 != 0) || (y4.2 != 0)) || (((y4.1.Plus == y2.Plus) && (y4.1.Minus == y2.Minus)) != true)) := ⟨_, rfl⟩
    refine K_cut hS trivial (fnPost_up hS) 0 ⟨[(53, (.p (.bb t1))), (8, (.p (.str y3.1))), (7, (.vec 24000)), (6, (.reg 24001 0)), (5, (.p (pI .i64 ((IntKind.wrap .i64 p_count).tmod 25)))), (3, (.reg 4000 0))], [(24005, (.map (encM (fun x => .agg (c_Sound x)) (pI .i64) z1.values))), (24004, (.map (encM PV.str (pI .i64) z1.symbols))), (24003, (.vec t_api_Named 3 z1.sounds.n (fun i => c_Named (z1.sounds.g i)) true)), (24002, (.map (encM PV.str (pI .i64) z1.number))), (24001, (.cells [(.p (vSl 1 cS z1.feats)), (.mref 24002), (.vec 24003), (.mref 24004), (.mref 24005)])), (24000, (.vec t_string 1 y1.2.n (fun i => cS (y1.2.g i)) true)), (4000, (.cells [(.p (pI .u32 y2.Plus)), (.p (pI .u32 y2.Minus))]))]⟩ (fun M1 hb1 => ?_) ?_
    · refine K_guard hS trivial (b := y3.2 != 0) (fun c3 => ?_) (fun c3 => ?_)
      · exact hb1 _ [(4000, 4000), (24000, 24000), (24001, 24001), (24002, 24002), (24003, 24003), (24004, 24004), (24005, 24005)] _ trivial (by kernel_rfl) (by kernel_rfl) (klR [(0, .eq (.bb true) (.bb t1))] (al1 (by simp only [ht1, c3, Leaf.ok, pm, if_true, if_false]) al0))
      · refine K_guard hS trivial (b := y4.2 != 0) (fun c4 => ?_) (fun c4 => ?_)
        · exact hb1 _ [(4000, 4000), (24000, 24000), (24001, 24001), (24002, 24002), (24003, 24003), (24004, 24004), (24005, 24005)] _ trivial (by kernel_rfl) (by kernel_rfl) (klR [(0, .eq (.bb true) (.bb t1))] (al1 (by simp only [ht1, c3, c4, Leaf.ok, pm, if_true, if_false]) al0))
        · exact hb1 _ [(4000, 4000), (24000, 24000), (24001, 24001), (24002, 24002), (24003, 24003), (24004, 24004), (24005, 24005)] _ (by decide +kernel : eqOk Tryd.prog t_api_Sound = true) (by kernel_rfl) (by kernel_rfl) (klR [(0, .eq (.bb (((y4.1.Plus == y2.Plus) && (y4.1.Minus == y2.Minus)) != true)) (.bb t1))] (al1 (by simp only [ht1, c3, c4, Leaf.ok, pm, if_true, if_false]) al0))
    · subst ht1
      refine K_cond hS trivial (b := (((y3.2 != 0) || (y4.2 != 0)) || (((y4.1.Plus == y2.Plus) && (y4.1.Minus == y2.Minus)) != true))) (fun c5 => ?_) (fun c5 => ?_)
      · replace h := itT c5 h
        obtain rfl := someI h
        exact K_ret hS trivial [] ⟨rfl, rfl, rfl⟩
      · replace h := itF c5 h
        refine K_fix2 hS trivial h (fun x2 x3 => ⟨[(56, (.p (pI .i64 x3))), (55, (.p (pI .i64 ((IntKind.wrap .i64 p_count).tmod 25)))), (12, (.p (.str x2))), (8, (.p (.str y3.1))), (7, (.vec 24000)), (6, (.reg 24001 0)), (3, (.reg 4000 0))], [(24005, (.map (encM (fun x => .agg (c_Sound x)) (pI .i64) z1.values))), (24004, (.map (encM PV.str (pI .i64) z1.symbols))), (24003, (.vec t_api_Named 3 z1.sounds.n (fun i => c_Named (z1.sounds.g i)) true)), (24002, (.map (encM PV.str (pI .i64) z1.number))), (24001, (.cells [(.p (vSl 1 cS z1.feats)), (.mref 24002), (.vec 24003), (.mref 24004), (.mref 24005)])), (24000, (.vec t_string 1 y1.2.n (fun i => cS (y1.2.g i)) true)), (4000, (.cells [(.p (pI .u32 y2.Plus)), (.p (pI .u32 y2.Minus))]))]⟩) (ids := [(4000, 4000), (24000, 24000), (24001, 24001), (24002, 24002), (24003, 24003), (24004, 24004), (24005, 24005)]) (fun _ _ _ _ _ self1 x2 x3 hb4 h => ?_)
        refine K_cond hS trivial (b := decide (x3 < ((IntKind.wrap .i64 p_count).tmod 25))) (fun c29 => ?_) (fun c29 => ?_)
        · replace h := itT c29 h
          obtain ⟨c30, h⟩ := chkE h
          refine K_lt hS c30 (fnPost_up hS) h 0 (fun z4 => ⟨[(56, (.p (pI .i64 x3))), (55, (.p (pI .i64 ((IntKind.wrap .i64 p_count).tmod 25)))), (14, (.p (.str z4))), (13, (.p (pI .i64 x3))), (12, (.p (.str x2))), (8, (.p (.str y3.1))), (7, (.vec 24000)), (6, (.reg 24001 0)), (3, (.reg 4000 0))], [(24005, (.map (encM (fun x => .agg (c_Sound x)) (pI .i64) z1.values))), (24004, (.map (encM PV.str (pI .i64) z1.symbols))), (24003, (.vec t_api_Named 3 z1.sounds.n (fun i => c_Named (z1.sounds.g i)) true)), (24002, (.map (encM PV.str (pI .i64) z1.number))), (24001, (.cells [(.p (vSl 1 cS z1.feats)), (.mref 24002), (.vec 24003), (.mref 24004), (.mref 24005)])), (24000, (.vec t_string 1 y1.2.n (fun i => cS (y1.2.g i)) true)), (4000, (.cells [(.p (pI .u32 y2.Plus)), (.p (pI .u32 y2.Minus))]))]⟩) (fun M4 k3 hb5 h => ?_) (fun z4 h => ?_)
          · refine K_cond hS trivial (b := (bitI .and .u32 (shI .shr .u32 y2.Plus x3) 1) == 1) (fun c36 => ?_) (fun c36 => ?_)
            · replace h := itT c36 h
              exact hb5 _ [(4000, 4000), (24000, 24000), (24001, 24001), (24002, 24002), (24003, 24003), (24004, 24004), (24005, 24005)] _ [43] trivial h
            · replace h := itF c36 h
              obtain ⟨c37, h⟩ := chkE h
              refine K_cond hS c37 (b := (bitI .and .u32 (shI .shr .u32 y2.Minus x3) 1) == 1) (fun c38 => ?_) (fun c38 => ?_)
              · replace h := itT c38 h
                exact hb5 _ [(4000, 4000), (24000, 24000), (24001, 24001), (24002, 24002), (24003, 24003), (24004, 24004), (24005, 24005)] _ [45] trivial h
              · replace h := itF c38 h
                exact hb4 _ [(4000, 4000), (24000, 24000), (24001, 24001), (24002, 24002), (24003, 24003), (24004, 24004), (24005, 24005)] _ x2 (IntKind.wrap .i64 (x3 + 1)) trivial h
          · obtain ⟨c39, h⟩ := chkE h
            obtain ⟨y9, e9, h⟩ := bindE h
            refine K_call hS [] c39 (w_strings_HasPrefix hS hL e9) ?_
            refine K_cond hS trivial (b := !y9) (fun c40 => ?_) (fun c40 => ?_)
            · replace h := itT c40 h
              obtain rfl := someI h
              exact K_ret hS trivial [] ⟨rfl, rfl, rfl⟩
            · replace h := itF c40 h
              obtain ⟨c41, h⟩ := chkE h
              obtain ⟨y10, e10, h⟩ := bindE h
              refine K_call hS [] c41 (w_strings_TrimPrefix hS hL e10) ?_
              exact hb4 _ [(4000, 4000), (24000, 24000), (24001, 24001), (24002, 24002), (24003, 24003), (24004, 24004), (24005, 24005)] _ y10 (IntKind.wrap .i64 (x3 + 1)) trivial h
        · replace h := itF c29 h
          refine K_fix1 hS trivial h (fun x6 => ⟨[(93, (.p (pI .i64 x6))), (92, (.p (pI .i64 ((y3.1.length : Nat) : Int)))), (12, (.p (.str x2))), (8, (.p (.str y3.1))), (6, (.reg 24001 0))], [(24005, (.map (encM (fun x => .agg (c_Sound x)) (pI .i64) z1.values))), (24004, (.map (encM PV.str (pI .i64) z1.symbols))), (24003, (.vec t_api_Named 3 z1.sounds.n (fun i => c_Named (z1.sounds.g i)) true)), (24002, (.map (encM PV.str (pI .i64) z1.number))), (24001, (.cells [(.p (vSl 1 cS z1.feats)), (.mref 24002), (.vec 24003), (.mref 24004), (.mref 24005)]))]⟩) (ids := [(24001, 24001), (24002, 24002), (24003, 24003), (24004, 24004), (24005, 24005)]) (fun _ _ _ _ _ self2 x6 hb8 h => ?_)
          refine K_cond hS trivial (b := decide (x6 < ((y3.1.length : Nat) : Int))) (fun c54 => ?_) (fun c54 => ?_)
          · replace h := itT c54 h
            obtain ⟨c55, h⟩ := chkE h
            obtain ⟨y13, e13, h⟩ := bindE h
            refine K_call hS [24001, 24002, 24003, 24004, 24005] c55 (w_inventory_Inv_Bundle hS hL e13) ?_
            obtain ⟨c57, h⟩ := chkE h
            obtain ⟨t4, ht4⟩ : ∃ x : Bool, x = (((y13.2 == 0) == ((x6 == 0) || ((byteAt y3.1 x6) == 32))) != true) := ⟨_, rfl⟩
            refine K_cut hS trivial (fnPost_up hS) 0 ⟨[(114, (.p (.bb t4))), (93, (.p (pI .i64 x6))), (92, (.p (pI .i64 ((y3.1.length : Nat) : Int)))), (12, (.p (.str x2))), (8, (.p (.str y3.1))), (6, (.reg 24001 0))], [(24005, (.map (encM (fun x => .agg (c_Sound x)) (pI .i64) z1.values))), (24004, (.map (encM PV.str (pI .i64) z1.symbols))), (24003, (.vec t_api_Named 3 z1.sounds.n (fun i => c_Named (z1.sounds.g i)) true)), (24002, (.map (encM PV.str (pI .i64) z1.number))), (24001, (.cells [(.p (vSl 1 cS z1.feats)), (.mref 24002), (.vec 24003), (.mref 24004), (.mref 24005)]))]⟩ (fun M7 hb9 => ?_) ?_
            · refine K_guard hS trivial (b := x6 == 0) (fun c58 => ?_) (fun c58 => ?_)
              · exact hb9 _ [(24001, 24001), (24002, 24002), (24003, 24003), (24004, 24004), (24005, 24005)] _ trivial (by kernel_rfl) (by kernel_rfl) (klR [(0, .eq (.bb (((y13.2 == 0) == true) != true)) (.bb t4))] (al1 (by simp only [ht4, c58, Leaf.ok, pm, if_true, if_false]) al0))
              · exact hb9 _ [(24001, 24001), (24002, 24002), (24003, 24003), (24004, 24004), (24005, 24005)] _ (c57 c58) (by kernel_rfl) (by kernel_rfl) (klR [(0, .eq (.bb (((y13.2 == 0) == ((byteAt y3.1 x6) == 32)) != true)) (.bb t4))] (al1 (by simp only [ht4, c58, Leaf.ok, pm, if_true, if_false]) al0))
            · subst ht4
              refine K_cond hS trivial (b := (((y13.2 == 0) == ((x6 == 0) || ((byteAt y3.1 x6) == 32))) != true)) (fun c59 => ?_) (fun c59 => ?_)
              · replace h := itT c59 h
                obtain rfl := someI h
                exact K_ret hS trivial [] ⟨rfl, rfl, rfl⟩
              · replace h := itF c59 h
                exact hb8 _ [(24001, 24001), (24002, 24002), (24003, 24003), (24004, 24004), (24005, 24005)] _ (IntKind.wrap .i64 (x6 + 1)) trivial h
          · replace h := itF c54 h
            refine K_lt hS trivial (fnPost_up hS) h 0 (fun z5 => ⟨[(4, (.p (.bb z5)))], []⟩) (fun M8 k4 hb10 h => ?_) (fun z5 h => ?_)
            · refine K_guard hS trivial (b := ((x2 == []) != false)) (fun c62 => ?_) (fun c62 => ?_)
              · replace h := itT c62 h
                obtain ⟨y15, e15, h⟩ := bindE h
                refine K_call hS [] trivial (w_ablautlaw03_works hS hL e15) ?_
                exact hb10 _ [] _ y15 trivial h
              · replace h := itF c62 h
                exact hb10 _ [] _ false trivial h
            · obtain rfl := someI h
              exact K_ret hS trivial [] ⟨rfl, rfl, rfl⟩
def m_ablautlaw03_InventoryLongest (N : Nat) (p_l : (Sl Step)) (p_text : Str) : Option Bool :=
  if (decide (300 < ((p_text.length : Nat) : Int))) = true then
    (m_ablautlaw03_works N ).bind fun y1 =>
    some y1
  else
    (m_ablautlaw03_grown N p_l).bind fun y2 =>
    optE y2.1 (
        some false
      ) fun z1 =>
      fix1 N (fun self3 (x6 : Str) =>
          if (decide (0 < ((x6.length : Nat) : Int))) = true then
            (m_inventory_Inv_Longest N z1 x6).bind fun y27 =>
            (m_inventory_Inv_Sound N z1 y27.1).bind fun y28 =>
            lt (fun (z10 : Bool) =>
                if z10 = true then
                  some false
                else
                  fix1 N (fun self4 (x14 : Int) =>
                      if (decide (x14 < ((y2.2.n : Nat) : Int))) = true then
                        if (((0 : Int) ≤ x14 ∧ x14 < ((y2.2.n : Nat) : Int)) ∧ x14.toNat < y2.2.n) then
                          lt (fun (z13 : Bool) =>
                              if z13 = true then
                                some false
                              else
                                self4 (IntKind.wrap .i64 (x14 + 1))
                            ) fun k12 =>
                            if (decide (((y27.1.length : Nat) : Int) < (((y2.2.g x14.toNat).Symbol.length : Nat) : Int))) = true then
                              (m_strings_HasPrefix N x6 (y2.2.g x14.toNat).Symbol).bind fun y38 =>
                              k12 y38
                            else
                              k12 false
                        else none
                      else
                        if ((0 : Int) ≤ (if 1 < ((y27.1.length : Nat) : Int) then ((y27.1.length : Nat) : Int) else 1) ∧ (if 1 < ((y27.1.length : Nat) : Int) then ((y27.1.length : Nat) : Int) else 1) ≤ ((x6.length : Nat) : Int)) then
                          self3 (x6.drop (if 1 < ((y27.1.length : Nat) : Int) then ((y27.1.length : Nat) : Int) else 1).toNat)
                        else none
                    ) 0
              ) fun k9 =>
              if ((y27.2 == y28.2) != true) = true then
                k9 true
              else
                if (!y27.2) = true then
                  if ((y27.1 == []) != true) = true then
                    k9 true
                  else
                    (m_strings_HasPrefix N x6 y27.1).bind fun y31 =>
                    k9 (!y31)
                else
                  (m_strings_HasPrefix N x6 y27.1).bind fun y32 =>
                  k9 (!y32)
          else
            (m_inventory_Inv_Longest N z1 []).bind fun y39 =>
            lt (fun (z14 : Bool) =>
                some z14
              ) fun k13 =>
              if (!y39.2) = true then
                (m_ablautlaw03_works N ).bind fun y41 =>
                k13 y41
              else
                k13 false
        ) p_text
theorem w_ablautlaw03_InventoryLongest {N : Nat} {p_l : (Sl Step)} {p_text : Str}   {y : Bool} (h : m_ablautlaw03_InventoryLongest N p_l p_text = some y) :
    FunO S k_ablautlaw03_InventoryLongest [(.p (vSl 3 c_Step p_l)), (.p (.str p_text))] [] (.p (.bb y)) ([]) [] := by
  unfold m_ablautlaw03_InventoryLongest at h
  refine K_start hS f_ablautlaw03_InventoryLongest ?_
  refine K_cond hS trivial (b := decide (300 < ((p_text.length : Nat) : Int))) (fun c1 => ?_) (fun c1 => ?_)
  · replace h := itT c1 h
    obtain ⟨y1, e1, h⟩ := bindE h
    refine K_call hS [] trivial (w_ablautlaw03_works hS hL e1) ?_
    obtain rfl := someI h
    exact K_ret hS trivial [] ⟨rfl, rfl, rfl⟩
  · replace h := itF c1 h
    obtain ⟨y2, e2, h⟩ := bindE h
    rcases o1 : y2.1 with _ | z1
    · replace h := optN o1 h
      have w1 := (w_ablautlaw03_grown hS hL e2)
      simp only [o1, optE_none, optE_some, List.append_nil, List.cons_append, List.nil_append] at w1
      refine K_call hS [] trivial w1 ?_
      obtain rfl := someI h
      exact K_ret hS trivial [] ⟨rfl, rfl, rfl⟩
    · replace h := optS o1 h
      have w2 := (w_ablautlaw03_grown hS hL e2)
      simp only [o1, optE_none, optE_some, List.append_nil, List.cons_append, List.nil_append] at w2
      refine K_call hS [] trivial w2 ?_
      refine K_fix1 hS trivial h (fun x6 => ⟨[(6, (.vec 22000)), (5, (.reg 22001 0)), (1, (.p (.str x6)))], [(22005, (.map (encM (fun x => .agg (c_Sound x)) (pI .i64) z1.values))), (22004, (.map (encM PV.str (pI .i64) z1.symbols))), (22003, (.vec t_api_Named 3 z1.sounds.n (fun i => c_Named (z1.sounds.g i)) true)), (22002, (.map (encM PV.str (pI .i64) z1.number))), (22001, (.cells [(.p (vSl 1 cS z1.feats)), (.mref 22002), (.vec 22003), (.mref 22004), (.mref 22005)])), (22000, (.vec t_api_Named 3 y2.2.n (fun i => c_Named (y2.2.g i)) true))]⟩) (ids := [(22000, 22000), (22001, 22001), (22002, 22002), (22003, 22003), (22004, 22004), (22005, 22005)]) (fun _ _ _ _ _ self3 x6 hb11 h => ?_)
      refine K_cond hS trivial (b := decide (0 < ((x6.length : Nat) : Int))) (fun c60 => ?_) (fun c60 => ?_)
      · replace h := itT c60 h
        obtain ⟨y27, e27, h⟩ := bindE h
        refine K_call hS [22001, 22002, 22003, 22004, 22005] trivial (w_inventory_Inv_Longest hS hL e27) ?_
        obtain ⟨y28, e28, h⟩ := bindE h
        refine K_call hS [22001, 22002, 22003, 22004, 22005] trivial (w_inventory_Inv_Sound hS hL e28) ?_
        refine K_lt hS trivial (fnPost_up hS) h 0 (fun z10 => ⟨[(57, (.p (.bb z10))), (7, (.p (.str y27.1))), (6, (.vec 22000)), (5, (.reg 22001 0)), (1, (.p (.str x6)))], [(22005, (.map (encM (fun x => .agg (c_Sound x)) (pI .i64) z1.values))), (22004, (.map (encM PV.str (pI .i64) z1.symbols))), (22003, (.vec t_api_Named 3 z1.sounds.n (fun i => c_Named (z1.sounds.g i)) true)), (22002, (.map (encM PV.str (pI .i64) z1.number))), (22001, (.cells [(.p (vSl 1 cS z1.feats)), (.mref 22002), (.vec 22003), (.mref 22004), (.mref 22005)])), (22000, (.vec t_api_Named 3 y2.2.n (fun i => c_Named (y2.2.g i)) true))]⟩) (fun M9 k9 hb12 h => ?_) (fun z10 h => ?_)
        · refine K_guard hS trivial (b := ((y27.2 == y28.2) != true)) (fun c67 => ?_) (fun c67 => ?_)
          · replace h := itT c67 h
            exact hb12 _ [(22000, 22000), (22001, 22001), (22002, 22002), (22003, 22003), (22004, 22004), (22005, 22005)] _ true trivial h
          · replace h := itF c67 h
            refine K_guard hS trivial (b := !y27.2) (fun c68 => ?_) (fun c68 => ?_)
            · replace h := itT c68 h
              refine K_guard hS trivial (b := ((y27.1 == []) != true)) (fun c69 => ?_) (fun c69 => ?_)
              · replace h := itT c69 h
                exact hb12 _ [(22000, 22000), (22001, 22001), (22002, 22002), (22003, 22003), (22004, 22004), (22005, 22005)] _ true trivial h
              · replace h := itF c69 h
                obtain ⟨y31, e31, h⟩ := bindE h
                refine K_call hS [] trivial (w_strings_HasPrefix hS hL e31) ?_
                exact hb12 _ [(22000, 22000), (22001, 22001), (22002, 22002), (22003, 22003), (22004, 22004), (22005, 22005)] _ (!y31) trivial h
            · replace h := itF c68 h
              obtain ⟨y32, e32, h⟩ := bindE h
              refine K_call hS [] trivial (w_strings_HasPrefix hS hL e32) ?_
              exact hb12 _ [(22000, 22000), (22001, 22001), (22002, 22002), (22003, 22003), (22004, 22004), (22005, 22005)] _ (!y32) trivial h
        · refine K_cond hS trivial (b := z10) (fun c70 => ?_) (fun c70 => ?_)
          · replace h := itT c70 h
            obtain rfl := someI h
            exact K_ret hS trivial [] ⟨rfl, rfl, rfl⟩
          · replace h := itF c70 h
            refine K_fix1 hS trivial h (fun x14 => ⟨[(60, (.p (pI .i64 x14))), (59, (.p (pI .i64 ((y2.2.n : Nat) : Int)))), (58, (.vec 22000)), (7, (.p (.str y27.1))), (6, (.vec 22000)), (5, (.reg 22001 0)), (1, (.p (.str x6)))], [(22005, (.map (encM (fun x => .agg (c_Sound x)) (pI .i64) z1.values))), (22004, (.map (encM PV.str (pI .i64) z1.symbols))), (22003, (.vec t_api_Named 3 z1.sounds.n (fun i => c_Named (z1.sounds.g i)) true)), (22002, (.map (encM PV.str (pI .i64) z1.number))), (22001, (.cells [(.p (vSl 1 cS z1.feats)), (.mref 22002), (.vec 22003), (.mref 22004), (.mref 22005)])), (22000, (.vec t_api_Named 3 y2.2.n (fun i => c_Named (y2.2.g i)) true))]⟩) (ids := [(22000, 22000), (22001, 22001), (22002, 22002), (22003, 22003), (22004, 22004), (22005, 22005)]) (fun _ _ _ _ _ self4 x14 hb15 h => ?_)
            refine K_cond hS trivial (b := decide (x14 < ((y2.2.n : Nat) : Int))) (fun c83 => ?_) (fun c83 => ?_)
            · replace h := itT c83 h
              obtain ⟨c84, h⟩ := chkE h
              refine K_lt hS (And.intro (And.intro c84.1 (by decide : (3 : Nat) ≤ 3)) c84.2) (fnPost_up hS) h 0 (fun z13 => ⟨[(75, (.p (.bb z13))), (60, (.p (pI .i64 x14))), (59, (.p (pI .i64 ((y2.2.n : Nat) : Int)))), (58, (.vec 22000)), (7, (.p (.str y27.1))), (6, (.vec 22000)), (5, (.reg 22001 0)), (1, (.p (.str x6)))], [(22005, (.map (encM (fun x => .agg (c_Sound x)) (pI .i64) z1.values))), (22004, (.map (encM PV.str (pI .i64) z1.symbols))), (22003, (.vec t_api_Named 3 z1.sounds.n (fun i => c_Named (z1.sounds.g i)) true)), (22002, (.map (encM PV.str (pI .i64) z1.number))), (22001, (.cells [(.p (vSl 1 cS z1.feats)), (.mref 22002), (.vec 22003), (.mref 22004), (.mref 22005)])), (22000, (.vec t_api_Named 3 y2.2.n (fun i => c_Named (y2.2.g i)) true))]⟩) (fun M12 k12 hb16 h => ?_) (fun z13 h => ?_)
              · refine K_guard hS trivial (b := decide (((y27.1.length : Nat) : Int) < (((y2.2.g x14.toNat).Symbol.length : Nat) : Int))) (fun c87 => ?_) (fun c87 => ?_)
                · replace h := itT c87 h
                  obtain ⟨y38, e38, h⟩ := bindE h
                  refine K_call hS [] trivial (w_strings_HasPrefix hS hL e38) ?_
                  exact hb16 _ [(22000, 22000), (22001, 22001), (22002, 22002), (22003, 22003), (22004, 22004), (22005, 22005)] _ y38 trivial h
                · replace h := itF c87 h
                  exact hb16 _ [(22000, 22000), (22001, 22001), (22002, 22002), (22003, 22003), (22004, 22004), (22005, 22005)] _ false trivial h
              · refine K_cond hS trivial (b := z13) (fun c88 => ?_) (fun c88 => ?_)
                · replace h := itT c88 h
                  obtain rfl := someI h
                  exact K_ret hS trivial [] ⟨rfl, rfl, rfl⟩
                · replace h := itF c88 h
                  exact hb15 _ [(22000, 22000), (22001, 22001), (22002, 22002), (22003, 22003), (22004, 22004), (22005, 22005)] _ (IntKind.wrap .i64 (x14 + 1)) trivial h
            · replace h := itF c83 h
              obtain ⟨c89, h⟩ := chkE h
              exact hb11 _ [(22000, 22000), (22001, 22001), (22002, 22002), (22003, 22003), (22004, 22004), (22005, 22005)] _ (x6.drop (if 1 < ((y27.1.length : Nat) : Int) then ((y27.1.length : Nat) : Int) else 1).toNat) c89 h
      · replace h := itF c60 h
        obtain ⟨y39, e39, h⟩ := bindE h
        refine K_call hS [22001, 22002, 22003, 22004, 22005] trivial (w_inventory_Inv_Longest hS hL e39) ?_
        refine K_lt hS trivial (fnPost_up hS) h 0 (fun z14 => ⟨[(4, (.p (.bb z14)))], []⟩) (fun M13 k13 hb17 h => ?_) (fun z14 h => ?_)
        · refine K_guard hS trivial (b := !y39.2) (fun c92 => ?_) (fun c92 => ?_)
          · replace h := itT c92 h
            obtain ⟨y41, e41, h⟩ := bindE h
            refine K_call hS [] trivial (w_ablautlaw03_works hS hL e41) ?_
            exact hb17 _ [] _ y41 trivial h
          · replace h := itF c92 h
            exact hb17 _ [] _ false trivial h
        · obtain rfl := someI h
          exact K_ret hS trivial [] ⟨rfl, rfl, rfl⟩
def m_ablautlaw03_InventoryNews (N : Nat) (p_feats : (Sl Str)) (p_name : Str) : Option Bool :=
  (m_ablautlaw03_few N p_feats (Sl.of [p_name] : Sl Str)).bind fun y1 =>
  if (!y1) = true then
    (m_ablautlaw03_works N ).bind fun y2 =>
    some y2
  else
    (m_slices_Clone_sl_string_string N p_feats).bind fun y3 =>
    (m_ablautlaw03_both N p_feats).bind fun y4 =>
    optE y4.1 (
        optE y4.2.1 (
            lt (fun (z3 : Bool) =>
                if z3 = true then
                  some false
                else
                  if ((y3.n + (Sl.of [p_name] : Sl Str).n) * 16 ≤ 140737488355328 ∧ y3.n + (Sl.of [p_name] : Sl Str).n ≤ 140737488355328) then
                    fix1 N (fun self1 (x2 : Int) =>
                        if (decide (x2 < (((y3.push p_name).n : Nat) : Int))) = true then
                          if (((0 : Int) ≤ x2 ∧ x2 < (((y3.push p_name).n : Nat) : Int)) ∧ x2.toNat < (y3.push p_name).n) then
                            (m_inventory_Inv_Feat_nil N ((y3.push p_name).g x2.toNat)).bind fun y11 =>
                            (m_ablautref03_Inv_Feat_nil N ((y3.push p_name).g x2.toNat)).bind fun y12 =>
                            if ((y11.1 != y12.1) || ((y11.2 == y12.2) != true)) = true then
                              some false
                            else
                              self1 (IntKind.wrap .i64 (x2 + 1))
                          else none
                        else
                          (m_inventory_Inv_Feats_nil N ).bind fun y13 =>
                          (m_ablautref03_Inv_Feats_nil N ).bind fun y14 =>
                          (m_slices_Equal_sl_string_string N y13 y14).bind fun y15 =>
                          lt (fun (z4 : Bool) =>
                              some z4
                            ) fun k2 =>
                            if y15 = true then
                              (m_inventory_Inv_Len_nil N ).bind fun y18 =>
                              if (y18 == 0) = true then
                                (m_ablautlaw03_works N ).bind fun y19 =>
                                k2 y19
                              else
                                k2 false
                            else
                              k2 false
                      ) 0
                  else none
              ) fun k1 =>
              if (!y4.2.2) = true then
                k1 true
              else
                (m_slices_Equal_sl_string_string N y3 p_feats).bind fun y6 =>
                k1 (!y6)
          ) fun z2 =>
          none
      ) fun z1 =>
      optE y4.2.1 (
          none
        ) fun z5 =>
        lt (fun (z6 : Bool) =>
            if z6 = true then
              some false
            else
              if ((y3.n + (Sl.of [p_name] : Sl Str).n) * 16 ≤ 140737488355328 ∧ y3.n + (Sl.of [p_name] : Sl Str).n ≤ 140737488355328) then
                fix1 N (fun self2 (x5 : Int) =>
                    if (decide (x5 < (((y3.push p_name).n : Nat) : Int))) = true then
                      if (((0 : Int) ≤ x5 ∧ x5 < (((y3.push p_name).n : Nat) : Int)) ∧ x5.toNat < (y3.push p_name).n) then
                        (m_inventory_Inv_Feat N z1 ((y3.push p_name).g x5.toNat)).bind fun y26 =>
                        (m_ablautref03_Inv_Feat N z5 ((y3.push p_name).g x5.toNat)).bind fun y27 =>
                        if ((y26.1 != y27.1) || ((y26.2 == y27.2) != true)) = true then
                          some false
                        else
                          self2 (IntKind.wrap .i64 (x5 + 1))
                      else none
                    else
                      (m_inventory_Inv_Feats N z1).bind fun y28 =>
                      (m_ablautref03_Inv_Feats N z5).bind fun y29 =>
                      (m_slices_Equal_sl_string_string N y28 y29).bind fun y30 =>
                      lt (fun (z7 : Bool) =>
                          some z7
                        ) fun k4 =>
                        if y30 = true then
                          (m_inventory_Inv_Len N z1).bind fun y33 =>
                          if (y33 == 0) = true then
                            (m_ablautlaw03_works N ).bind fun y34 =>
                            k4 y34
                          else
                            k4 false
                        else
                          k4 false
                  ) 0
              else none
          ) fun k3 =>
          if (!y4.2.2) = true then
            k3 true
          else
            (m_slices_Equal_sl_string_string N y3 p_feats).bind fun y21 =>
            k3 (!y21)
theorem w_ablautlaw03_InventoryNews {N : Nat} {p_feats : (Sl Str)} {p_name : Str}   {y : Bool} (h : m_ablautlaw03_InventoryNews N p_feats p_name = some y) :
    FunO S k_ablautlaw03_InventoryNews [(.p (vSl 1 cS p_feats)), (.p (.str p_name))] [] (.p (.bb y)) ([]) [] := by
  unfold m_ablautlaw03_InventoryNews at h
  refine K_start hS f_ablautlaw03_InventoryNews ?_
  refine K_weak hS (rfl : true = true) ⟨[(17, (.vec 18000)), (15, (.p (vSl 1 cS p_feats))), (1, (.p (.str p_name))), (0, (.p (vSl 1 cS p_feats)))], [(18000, (.vec t_string 1 (Sl.of [p_name] : Sl Str).n (fun i => cS ((Sl.of [p_name] : Sl Str).g i)) false))]⟩ (ids := [(18000, 18000)]) ?_ (hle := (klR [(3, .fn 1 (Sl.of [p_name] : Sl Str).n (lookF [(.str [])] [(0, cS p_name)]) (fun i => cS ((Sl.of [p_name] : Sl Str).g i)))] (al1 ⟨rfl, (fun i hi => match i, hi with | 0, _ => rfl | _ + 1, hi => absurd hi (by omega))⟩ al0)))
  obtain ⟨y1, e1, h⟩ := bindE h
  refine K_call hS [] trivial (w_ablautlaw03_few hS hL e1) ?_
  refine K_cond hS trivial (b := !y1) (fun c1 => ?_) (fun c1 => ?_)
  · replace h := itT c1 h
    obtain ⟨y2, e2, h⟩ := bindE h
    refine K_call hS [] trivial (w_ablautlaw03_works hS hL e2) ?_
    obtain rfl := someI h
    exact K_ret hS trivial [] ⟨rfl, rfl, rfl⟩
  · replace h := itF c1 h
    obtain ⟨y3, e3, h⟩ := bindE h
    refine K_call hS [] trivial (w_slices_Clone_sl_string_string hS hL e3) ?_
    obtain ⟨y4, e4, h⟩ := bindE h
    rcases o1 : y4.1 with _ | z1
    · replace h := optN o1 h
      rcases o2 : y4.2.1 with _ | z2
      · replace h := optN o2 h
        have w1 := (w_ablautlaw03_both hS hL e4)
        simp only [o1, o2, optE_none, optE_some, List.append_nil, List.cons_append, List.nil_append] at w1
        refine K_call hS [] trivial w1 ?_
        refine K_lt hS trivial (fnPost_up hS) h 0 (fun z3 => ⟨[(36, (.p (.bb z3))), (7, (.p nilP)), (6, (.p nilP)), (5, (.vec 23000)), (1, (.p (.str p_name)))], [(23000, (.vec t_string 1 y3.n (fun i => cS (y3.g i)) true))]⟩) (fun M1 k1 hb1 h => ?_) (fun z3 h => ?_)
        · refine K_guard hS trivial (b := !y4.2.2) (fun c4 => ?_) (fun c4 => ?_)
          · replace h := itT c4 h
            exact hb1 _ [(23000, 23000)] _ true trivial h
          · replace h := itF c4 h
            obtain ⟨y6, e6, h⟩ := bindE h
            refine K_call hS [] trivial (w_slices_Equal_sl_string_string hS hL e6) ?_
            exact hb1 _ [(23000, 23000)] _ (!y6) trivial h
        · refine K_cond hS trivial (b := z3) (fun c5 => ?_) (fun c5 => ?_)
          · replace h := itT c5 h
            obtain rfl := someI h
            exact K_ret hS trivial [] ⟨rfl, rfl, rfl⟩
          · replace h := itF c5 h
            obtain ⟨c6, h⟩ := chkE h
            refine K_fix1 hS (And.intro (rfl : true = true) c6) h (fun x2 => ⟨[(42, (.p (pI .i64 x2))), (41, (.p (pI .i64 (((y3.push p_name).n : Nat) : Int)))), (40, (.vec 41000)), (7, (.p nilP)), (6, (.p nilP))], [(41000, (.vec t_string 1 (y3.push p_name).n (fun i => cS ((y3.push p_name).g i)) true))]⟩) (ids := [(41000, 41000)]) (fun _ _ _ _ _ self1 x2 hb4 h => ?_) (hle := (klR [(4, .fn (y3.n + 1) (y3.push p_name).n (appF y3.n (fun i => cS (y3.g i)) (lookF [(.str [])] [(0, cS p_name)])) (fun i => cS ((y3.push p_name).g i)))] (al1 ⟨rfl, (app1 (c := cS) (v := y3) (x := p_name) (z := [(.str [])]) same rfl rfl)⟩ al0)))
            refine K_cond hS trivial (b := decide (x2 < (((y3.push p_name).n : Nat) : Int))) (fun c17 => ?_) (fun c17 => ?_)
            · replace h := itT c17 h
              obtain ⟨c18, h⟩ := chkE h
              obtain ⟨y11, e11, h⟩ := bindE h
              refine K_call hS [] c18 (w_inventory_Inv_Feat_nil hS hL e11) ?_
              obtain ⟨y12, e12, h⟩ := bindE h
              refine K_call hS [] trivial (w_ablautref03_Inv_Feat_nil hS hL e12) ?_
              obtain ⟨t3, ht3⟩ : ∃ x : Bool, x = ((y11.1 != y12.1) || ((y11.2 == y12.2) != true)) := ⟨_, rfl⟩
              refine K_cut hS trivial (fnPost_up hS) 0 ⟨[(65, (.p (.bb t3))), (42, (.p (pI .i64 x2))), (41, (.p (pI .i64 (((y3.push p_name).n : Nat) : Int)))), (40, (.vec 41000)), (7, (.p nilP)), (6, (.p nilP))], [(41000, (.vec t_string 1 (y3.push p_name).n (fun i => cS ((y3.push p_name).g i)) true))]⟩ (fun M4 hb5 => ?_) ?_
              · refine K_guard hS trivial (b := y11.1 != y12.1) (fun c20 => ?_) (fun c20 => ?_)
                · exact hb5 _ [(41000, 41000)] _ trivial (by kernel_rfl) (by kernel_rfl) (klR [(0, .eq (.bb true) (.bb t3))] (al1 (by simp only [ht3, c20, Leaf.ok, pm, if_true, if_false]) al0))
                · exact hb5 _ [(41000, 41000)] _ trivial (by kernel_rfl) (by kernel_rfl) (klR [(0, .eq (.bb ((y11.2 == y12.2) != true)) (.bb t3))] (al1 (by simp only [ht3, c20, Leaf.ok, pm, if_true, if_false]) al0))
              · subst ht3
                refine K_cond hS trivial (b := ((y11.1 != y12.1) || ((y11.2 == y12.2) != true))) (fun c21 => ?_) (fun c21 => ?_)
                · replace h := itT c21 h
                  obtain rfl := someI h
                  exact K_ret hS trivial [] ⟨rfl, rfl, rfl⟩
                · replace h := itF c21 h
                  exact hb4 _ [(41000, 41000)] _ (IntKind.wrap .i64 (x2 + 1)) trivial h
            · replace h := itF c17 h
              obtain ⟨y13, e13, h⟩ := bindE h
              refine K_call hS [] trivial (w_inventory_Inv_Feats_nil hS hL e13) ?_
              obtain ⟨y14, e14, h⟩ := bindE h
              refine K_call hS [] trivial (w_ablautref03_Inv_Feats_nil hS hL e14) ?_
              obtain ⟨y15, e15, h⟩ := bindE h
              refine K_call hS [] trivial (w_slices_Equal_sl_string_string hS hL e15) ?_
              refine K_lt hS trivial (fnPost_up hS) h 0 (fun z4 => ⟨[(4, (.p (.bb z4)))], []⟩) (fun M5 k2 hb6 h => ?_) (fun z4 h => ?_)
              · refine K_guard hS trivial (b := y15) (fun c25 => ?_) (fun c25 => ?_)
                · replace h := itT c25 h
                  obtain ⟨y18, e18, h⟩ := bindE h
                  refine K_call hS [] trivial (w_inventory_Inv_Len_nil hS hL e18) ?_
                  refine K_guard hS trivial (b := y18 == 0) (fun c26 => ?_) (fun c26 => ?_)
                  · replace h := itT c26 h
                    obtain ⟨y19, e19, h⟩ := bindE h
                    refine K_call hS [] trivial (w_ablautlaw03_works hS hL e19) ?_
                    exact hb6 _ [] _ y19 trivial h
                  · replace h := itF c26 h
                    exact hb6 _ [] _ false trivial h
                · replace h := itF c25 h
                  exact hb6 _ [] _ false trivial h
              · obtain rfl := someI h
                exact K_ret hS trivial [] ⟨rfl, rfl, rfl⟩
      · replace h := optS o2 h
        cases h
    · replace h := optS o1 h
      rcases o3 : y4.2.1 with _ | z5
      · replace h := optN o3 h
        cases h
      · replace h := optS o3 h
        have w2 := (w_ablautlaw03_both hS hL e4)
        simp only [o1, o3, optE_none, optE_some, List.append_nil, List.cons_append, List.nil_append] at w2
        refine K_call hS [] trivial w2 ?_
        refine K_lt hS trivial (fnPost_up hS) h 0 (fun z6 => ⟨[(36, (.p (.bb z6))), (7, (.reg 26005 0)), (6, (.reg 26000 0)), (5, (.vec 23000)), (1, (.p (.str p_name)))], [(26006, (.vec t_api_Named 3 z5.S.n (fun i => c_Named (z5.S.g i)) true)), (26005, (.cells [(.p (.bb z5.Made)), (.p (vSl 1 cS z5.F)), (.vec 26006)])), (26004, (.map (encM (fun x => .agg (c_Sound x)) (pI .i64) z1.values))), (26003, (.map (encM PV.str (pI .i64) z1.symbols))), (26002, (.vec t_api_Named 3 z1.sounds.n (fun i => c_Named (z1.sounds.g i)) true)), (26001, (.map (encM PV.str (pI .i64) z1.number))), (26000, (.cells [(.p (vSl 1 cS z1.feats)), (.mref 26001), (.vec 26002), (.mref 26003), (.mref 26004)])), (23000, (.vec t_string 1 y3.n (fun i => cS (y3.g i)) true))]⟩) (fun M6 k3 hb7 h => ?_) (fun z6 h => ?_)
        · refine K_guard hS trivial (b := !y4.2.2) (fun c29 => ?_) (fun c29 => ?_)
          · replace h := itT c29 h
            exact hb7 _ [(23000, 23000), (26000, 26000), (26001, 26001), (26002, 26002), (26003, 26003), (26004, 26004), (26005, 26005), (26006, 26006)] _ true trivial h
          · replace h := itF c29 h
            obtain ⟨y21, e21, h⟩ := bindE h
            refine K_call hS [] trivial (w_slices_Equal_sl_string_string hS hL e21) ?_
            exact hb7 _ [(23000, 23000), (26000, 26000), (26001, 26001), (26002, 26002), (26003, 26003), (26004, 26004), (26005, 26005), (26006, 26006)] _ (!y21) trivial h
        · refine K_cond hS trivial (b := z6) (fun c30 => ?_) (fun c30 => ?_)
          · replace h := itT c30 h
            obtain rfl := someI h
            exact K_ret hS trivial [] ⟨rfl, rfl, rfl⟩
          · replace h := itF c30 h
            obtain ⟨c31, h⟩ := chkE h
            refine K_fix1 hS (And.intro (rfl : true = true) c31) h (fun x5 => ⟨[(42, (.p (pI .i64 x5))), (41, (.p (pI .i64 (((y3.push p_name).n : Nat) : Int)))), (40, (.vec 41000)), (7, (.reg 26005 0)), (6, (.reg 26000 0))], [(41000, (.vec t_string 1 (y3.push p_name).n (fun i => cS ((y3.push p_name).g i)) true)), (26006, (.vec t_api_Named 3 z5.S.n (fun i => c_Named (z5.S.g i)) true)), (26005, (.cells [(.p (.bb z5.Made)), (.p (vSl 1 cS z5.F)), (.vec 26006)])), (26004, (.map (encM (fun x => .agg (c_Sound x)) (pI .i64) z1.values))), (26003, (.map (encM PV.str (pI .i64) z1.symbols))), (26002, (.vec t_api_Named 3 z1.sounds.n (fun i => c_Named (z1.sounds.g i)) true)), (26001, (.map (encM PV.str (pI .i64) z1.number))), (26000, (.cells [(.p (vSl 1 cS z1.feats)), (.mref 26001), (.vec 26002), (.mref 26003), (.mref 26004)]))]⟩) (ids := [(26000, 26000), (26001, 26001), (26002, 26002), (26003, 26003), (26004, 26004), (26005, 26005), (26006, 26006), (41000, 41000)]) (fun _ _ _ _ _ self2 x5 hb10 h => ?_) (hle := (klR [(2, .fn (y3.n + 1) (y3.push p_name).n (appF y3.n (fun i => cS (y3.g i)) (lookF [(.str [])] [(0, cS p_name)])) (fun i => cS ((y3.push p_name).g i)))] (al1 ⟨rfl, (app1 (c := cS) (v := y3) (x := p_name) (z := [(.str [])]) same rfl rfl)⟩ al0)))
            refine K_cond hS trivial (b := decide (x5 < (((y3.push p_name).n : Nat) : Int))) (fun c42 => ?_) (fun c42 => ?_)
            · replace h := itT c42 h
              obtain ⟨c43, h⟩ := chkE h
              obtain ⟨y26, e26, h⟩ := bindE h
              refine K_call hS [26000, 26001, 26002, 26003, 26004] c43 (w_inventory_Inv_Feat hS hL e26) ?_
              obtain ⟨y27, e27, h⟩ := bindE h
              refine K_call hS [26005, 26006] trivial (w_ablautref03_Inv_Feat hS hL e27) ?_
              obtain ⟨t6, ht6⟩ : ∃ x : Bool, x = ((y26.1 != y27.1) || ((y26.2 == y27.2) != true)) := ⟨_, rfl⟩
              refine K_cut hS trivial (fnPost_up hS) 0 ⟨[(65, (.p (.bb t6))), (42, (.p (pI .i64 x5))), (41, (.p (pI .i64 (((y3.push p_name).n : Nat) : Int)))), (40, (.vec 41000)), (7, (.reg 26005 0)), (6, (.reg 26000 0))], [(41000, (.vec t_string 1 (y3.push p_name).n (fun i => cS ((y3.push p_name).g i)) true)), (26006, (.vec t_api_Named 3 z5.S.n (fun i => c_Named (z5.S.g i)) true)), (26005, (.cells [(.p (.bb z5.Made)), (.p (vSl 1 cS z5.F)), (.vec 26006)])), (26004, (.map (encM (fun x => .agg (c_Sound x)) (pI .i64) z1.values))), (26003, (.map (encM PV.str (pI .i64) z1.symbols))), (26002, (.vec t_api_Named 3 z1.sounds.n (fun i => c_Named (z1.sounds.g i)) true)), (26001, (.map (encM PV.str (pI .i64) z1.number))), (26000, (.cells [(.p (vSl 1 cS z1.feats)), (.mref 26001), (.vec 26002), (.mref 26003), (.mref 26004)]))]⟩ (fun M9 hb11 => ?_) ?_
              · refine K_guard hS trivial (b := y26.1 != y27.1) (fun c45 => ?_) (fun c45 => ?_)
                · exact hb11 _ [(26000, 26000), (26001, 26001), (26002, 26002), (26003, 26003), (26004, 26004), (26005, 26005), (26006, 26006), (41000, 41000)] _ trivial (by kernel_rfl) (by kernel_rfl) (klR [(0, .eq (.bb true) (.bb t6))] (al1 (by simp only [ht6, c45, Leaf.ok, pm, if_true, if_false]) al0))
                · exact hb11 _ [(26000, 26000), (26001, 26001), (26002, 26002), (26003, 26003), (26004, 26004), (26005, 26005), (26006, 26006), (41000, 41000)] _ trivial (by kernel_rfl) (by kernel_rfl) (klR [(0, .eq (.bb ((y26.2 == y27.2) != true)) (.bb t6))] (al1 (by simp only [ht6, c45, Leaf.ok, pm, if_true, if_false]) al0))
              · subst ht6
                refine K_cond hS trivial (b := ((y26.1 != y27.1) || ((y26.2 == y27.2) != true))) (fun c46 => ?_) (fun c46 => ?_)
                · replace h := itT c46 h
                  obtain rfl := someI h
                  exact K_ret hS trivial [] ⟨rfl, rfl, rfl⟩
                · replace h := itF c46 h
                  exact hb10 _ [(26000, 26000), (26001, 26001), (26002, 26002), (26003, 26003), (26004, 26004), (26005, 26005), (26006, 26006), (41000, 41000)] _ (IntKind.wrap .i64 (x5 + 1)) trivial h
            · replace h := itF c42 h
              obtain ⟨y28, e28, h⟩ := bindE h
              refine K_call hS [26000, 26001, 26002, 26003, 26004] trivial (w_inventory_Inv_Feats hS hL e28) ?_
              obtain ⟨y29, e29, h⟩ := bindE h
              refine K_call hS [26005, 26006] trivial (w_ablautref03_Inv_Feats hS hL e29) ?_
              obtain ⟨y30, e30, h⟩ := bindE h
              refine K_call hS [] trivial (w_slices_Equal_sl_string_string hS hL e30) ?_
              refine K_lt hS trivial (fnPost_up hS) h 0 (fun z7 => ⟨[(4, (.p (.bb z7)))], []⟩) (fun M10 k4 hb12 h => ?_) (fun z7 h => ?_)
              · refine K_guard hS trivial (b := y30) (fun c50 => ?_) (fun c50 => ?_)
                · replace h := itT c50 h
                  obtain ⟨y33, e33, h⟩ := bindE h
                  refine K_call hS [26000, 26001, 26002, 26003, 26004] trivial (w_inventory_Inv_Len hS hL e33) ?_
                  refine K_guard hS trivial (b := y33 == 0) (fun c51 => ?_) (fun c51 => ?_)
                  · replace h := itT c51 h
                    obtain ⟨y34, e34, h⟩ := bindE h
                    refine K_call hS [] trivial (w_ablautlaw03_works hS hL e34) ?_
                    exact hb12 _ [] _ y34 trivial h
                  · replace h := itF c51 h
                    exact hb12 _ [] _ false trivial h
                · replace h := itF c50 h
                  exact hb12 _ [] _ false trivial h
              · obtain rfl := someI h
                exact K_ret hS trivial [] ⟨rfl, rfl, rfl⟩
def m_ablautlaw03_InventoryPlays (N : Nat) (p_feats : (Sl Str)) (p_l : (Sl Step)) (p_text : Str) : Option Bool :=
  fix2 N (fun self1 (x1 : Int) (x2 : Int) =>
      if (decide (x2 < ((p_l.n : Nat) : Int))) = true then
        if ((0 : Int) ≤ x2 ∧ x2 < ((p_l.n : Nat) : Int)) then
          self1 (IntKind.wrap .i64 (x1 + (((p_l.g x2.toNat).Symbol.length : Nat) : Int))) (IntKind.wrap .i64 (x2 + 1))
        else none
      else
        (m_ablautlaw03_few N p_feats (Sl.of [p_text] : Sl Str)).bind fun y1 =>
        if (((!y1) || (decide (300 < ((p_l.n : Nat) : Int)))) || (decide (4000 < x1))) = true then
          (m_ablautlaw03_works N ).bind fun y2 =>
          some y2
        else
          (m_ablautlaw03_both N p_feats).bind fun y3 =>
          optE y3.1 (
              optE y3.2.1 (
                  if (!y3.2.2) = true then
                    some false
                  else
                    fix1 N (fun self2 (x3 : Int) =>
                        if (decide (x3 < ((p_l.n : Nat) : Int))) = true then
                          if ((0 : Int) ≤ x3 ∧ x3 < ((p_l.n : Nat) : Int)) then
                            (m_inventory_Inv_Add_nil N (p_l.g x3.toNat).Symbol (p_l.g x3.toNat).S).bind fun y12 =>
                            (m_ablautref03_Inv_Add_nil N (p_l.g x3.toNat).Symbol (p_l.g x3.toNat).S).bind fun y13 =>
                            if (y12 != y13) = true then
                              some false
                            else
                              (m_ablautlaw03_agree_nil N (p_l.g x3.toNat) p_text).bind fun y14 =>
                              if (!y14) = true then
                                some false
                              else
                                if (((0 : Int) ≤ (IntKind.wrap .i64 (x3.tdiv 2)) ∧ (IntKind.wrap .i64 (x3.tdiv 2)) < ((p_l.n : Nat) : Int)) ∧ ((((p_l.g x3.toNat).Symbol.length + p_text.length : Nat) : Int) ≤ 9223372036854775807)) then
                                  (m_ablautlaw03_agree_nil N (p_l.g (IntKind.wrap .i64 (x3.tdiv 2)).toNat) ((p_l.g x3.toNat).Symbol ++ p_text)).bind fun y15 =>
                                  if (!y15) = true then
                                    some false
                                  else
                                    self2 (IntKind.wrap .i64 (x3 + 1))
                                else none
                          else none
                        else
                          (m_inventory_Inv_Sounds_nil N ).bind fun y16 =>
                          (m_ablautref03_Inv_Sounds_nil N ).bind fun y17 =>
                          (m_slices_Equal_sl_api_Named_api_Named N y16 y17).bind fun y18 =>
                          lt (fun (z3 : Bool) =>
                              some z3
                            ) fun k1 =>
                            if y18 = true then
                              (m_ablautlaw03_works N ).bind fun y20 =>
                              k1 y20
                            else
                              k1 false
                      ) 0
                ) fun z2 =>
                none
            ) fun z1 =>
            optE y3.2.1 (
                none
              ) fun z4 =>
              if (!y3.2.2) = true then
                some false
              else
                fix3 N (fun self3 (x5 : O_inventory_Inv) (x6 : O_ablautref03_Inv) (x7 : Int) =>
                    if (decide (x7 < ((p_l.n : Nat) : Int))) = true then
                      if ((0 : Int) ≤ x7 ∧ x7 < ((p_l.n : Nat) : Int)) then
                        (m_inventory_Inv_Add N x5 (p_l.g x7.toNat).Symbol (p_l.g x7.toNat).S).bind fun y29 =>
                        (m_ablautref03_Inv_Add N x6 (p_l.g x7.toNat).Symbol (p_l.g x7.toNat).S).bind fun y30 =>
                        if (y29.1 != y30.1) = true then
                          some false
                        else
                          (m_ablautlaw03_agree N y29.2 y30.2 (p_l.g x7.toNat) p_text).bind fun y31 =>
                          if (!y31) = true then
                            some false
                          else
                            if (((0 : Int) ≤ (IntKind.wrap .i64 (x7.tdiv 2)) ∧ (IntKind.wrap .i64 (x7.tdiv 2)) < ((p_l.n : Nat) : Int)) ∧ ((((p_l.g x7.toNat).Symbol.length + p_text.length : Nat) : Int) ≤ 9223372036854775807)) then
                              (m_ablautlaw03_agree N y29.2 y30.2 (p_l.g (IntKind.wrap .i64 (x7.tdiv 2)).toNat) ((p_l.g x7.toNat).Symbol ++ p_text)).bind fun y32 =>
                              if (!y32) = true then
                                some false
                              else
                                self3 y29.2 y30.2 (IntKind.wrap .i64 (x7 + 1))
                            else none
                      else none
                    else
                      (m_inventory_Inv_Sounds N x5).bind fun y33 =>
                      (m_ablautref03_Inv_Sounds N x6).bind fun y34 =>
                      (m_slices_Equal_sl_api_Named_api_Named N y33 y34).bind fun y35 =>
                      lt (fun (z5 : Bool) =>
                          some z5
                        ) fun k2 =>
                        if y35 = true then
                          (m_ablautlaw03_works N ).bind fun y37 =>
                          k2 y37
                        else
                          k2 false
                  ) z1 z4 0
    ) 0 0
theorem w_ablautlaw03_InventoryPlays {N : Nat} {p_feats : (Sl Str)} {p_l : (Sl Step)} {p_text : Str}   {y : Bool} (h : m_ablautlaw03_InventoryPlays N p_feats p_l p_text = some y) :
    FunO S k_ablautlaw03_InventoryPlays [(.p (vSl 1 cS p_feats)), (.p (vSl 3 c_Step p_l)), (.p (.str p_text))] [] (.p (.bb y)) ([]) [] := by
  unfold m_ablautlaw03_InventoryPlays at h
  refine K_start hS f_ablautlaw03_InventoryPlays ?_
  refine K_fix2 hS trivial h (fun x1 x2 => ⟨[(17, (.p (pI .i64 x2))), (16, (.p (pI .i64 ((p_l.n : Nat) : Int)))), (15, (.p (vSl 3 c_Step p_l))), (7, (.p (pI .i64 x1))), (2, (.p (.str p_text))), (1, (.p (vSl 3 c_Step p_l))), (0, (.p (vSl 1 cS p_feats)))], []⟩) (ids := []) (fun _ _ _ _ _ self1 x1 x2 hb1 h => ?_)
  refine K_cond hS trivial (b := decide (x2 < ((p_l.n : Nat) : Int))) (fun c3 => ?_) (fun c3 => ?_)
  · replace h := itT c3 h
    obtain ⟨c4, h⟩ := chkE h
    exact hb1 _ [] _ (IntKind.wrap .i64 (x1 + (((p_l.g x2.toNat).Symbol.length : Nat) : Int))) (IntKind.wrap .i64 (x2 + 1)) (And.intro c4 (by decide : (3 : Nat) ≤ 3)) h
  · replace h := itF c3 h
    refine K_weak hS (rfl : true = true) ⟨[(29, (.vec 30000)), (27, (.p (vSl 1 cS p_feats))), (7, (.p (pI .i64 x1))), (2, (.p (.str p_text))), (1, (.p (vSl 3 c_Step p_l))), (0, (.p (vSl 1 cS p_feats)))], [(30000, (.vec t_string 1 (Sl.of [p_text] : Sl Str).n (fun i => cS ((Sl.of [p_text] : Sl Str).g i)) false))]⟩ (ids := [(30000, 30000)]) ?_ (hle := (klR [(5, .fn 1 (Sl.of [p_text] : Sl Str).n (lookF [(.str [])] [(0, cS p_text)]) (fun i => cS ((Sl.of [p_text] : Sl Str).g i)))] (al1 ⟨rfl, (fun i hi => match i, hi with | 0, _ => rfl | _ + 1, hi => absurd hi (by omega))⟩ al0)))
    obtain ⟨y1, e1, h⟩ := bindE h
    refine K_call hS [] trivial (w_ablautlaw03_few hS hL e1) ?_
    obtain ⟨t1, ht1⟩ : ∃ x : Bool, x = (((!y1) || (decide (300 < ((p_l.n : Nat) : Int)))) || (decide (4000 < x1))) := ⟨_, rfl⟩
    refine K_cut hS trivial (fnPost_up hS) 0 ⟨[(40, (.p (.bb t1))), (2, (.p (.str p_text))), (1, (.p (vSl 3 c_Step p_l))), (0, (.p (vSl 1 cS p_feats)))], []⟩ (fun M1 hb2 => ?_) ?_
    · refine K_guard hS trivial (b := !y1) (fun c7 => ?_) (fun c7 => ?_)
      · exact hb2 _ [] _ trivial (by kernel_rfl) (by kernel_rfl) (klR [(0, .eq (.bb true) (.bb t1))] (al1 (by simp only [ht1, c7, Leaf.ok, pm, if_true, if_false]) al0))
      · refine K_guard hS trivial (b := decide (300 < ((p_l.n : Nat) : Int))) (fun c8 => ?_) (fun c8 => ?_)
        · exact hb2 _ [] _ trivial (by kernel_rfl) (by kernel_rfl) (klR [(0, .eq (.bb true) (.bb t1))] (al1 (by simp only [ht1, c7, c8, Leaf.ok, pm, if_true, if_false]) al0))
        · exact hb2 _ [] _ trivial (by kernel_rfl) (by kernel_rfl) (klR [(0, .eq (.bb (decide (4000 < x1))) (.bb t1))] (al1 (by simp only [ht1, c7, c8, Leaf.ok, pm, if_true, if_false]) al0))
    · subst ht1
      refine K_cond hS trivial (b := (((!y1) || (decide (300 < ((p_l.n : Nat) : Int)))) || (decide (4000 < x1)))) (fun c9 => ?_) (fun c9 => ?_)
      · replace h := itT c9 h
        obtain ⟨y2, e2, h⟩ := bindE h
        refine K_call hS [] trivial (w_ablautlaw03_works hS hL e2) ?_
        obtain rfl := someI h
        exact K_ret hS trivial [] ⟨rfl, rfl, rfl⟩
      · replace h := itF c9 h
        obtain ⟨y3, e3, h⟩ := bindE h
        rcases o1 : y3.1 with _ | z1
        · replace h := optN o1 h
          rcases o2 : y3.2.1 with _ | z2
          · replace h := optN o2 h
            have w1 := (w_ablautlaw03_both hS hL e3)
            simp only [o1, o2, optE_none, optE_some, List.append_nil, List.cons_append, List.nil_append] at w1
            refine K_call hS [] trivial w1 ?_
            refine K_cond hS trivial (b := !y3.2.2) (fun c10 => ?_) (fun c10 => ?_)
            · replace h := itT c10 h
              obtain rfl := someI h
              exact K_ret hS trivial [] ⟨rfl, rfl, rfl⟩
            · replace h := itF c10 h
              refine K_fix1 hS trivial h (fun x3 => ⟨[(52, (.p (pI .i64 x3))), (51, (.p (pI .i64 ((p_l.n : Nat) : Int)))), (50, (.p (vSl 3 c_Step p_l))), (11, (.p nilP)), (10, (.p nilP)), (2, (.p (.str p_text))), (1, (.p (vSl 3 c_Step p_l)))], []⟩) (ids := []) (fun _ _ _ _ _ self2 x3 hb3 h => ?_)
              refine K_cond hS trivial (b := decide (x3 < ((p_l.n : Nat) : Int))) (fun c23 => ?_) (fun c23 => ?_)
              · replace h := itT c23 h
                obtain ⟨c24, h⟩ := chkE h
                refine K_frz hS (And.intro c24 (by decide : (3 : Nat) ≤ 3)) 15000 [(.str (p_l.g x3.toNat).Symbol), (pI .u32 (p_l.g x3.toNat).S.Plus), (pI .u32 (p_l.g x3.toNat).S.Minus)] ?_
                refine K_drawnN hS trivial [2, 4, 8, 10, 16, 27, 28, 30] ?_
                obtain ⟨y12, e12, h⟩ := bindE h
                refine D_pure (by decide : (2 : Nat) ≤ 2) (w_inventory_Inv_Add_nil hS hL e12) ?_
                obtain ⟨y13, e13, h⟩ := bindE h
                refine D_pure (by decide : (2 : Nat) ≤ 2) (w_ablautref03_Inv_Add_nil hS hL e13) ?_
                refine D_guard trivial (b := y12 != y13) (fun c25 => ?_) (fun c25 => ?_)
                · replace h := itT c25 h
                  refine D_end trivial ?_
                  obtain rfl := someI h
                  exact K_ret hS trivial [] ⟨rfl, rfl, rfl⟩
                · replace h := itF c25 h
                  obtain ⟨y14, e14, h⟩ := bindE h
                  refine D_pure (by decide : (3 : Nat) ≤ 3) (w_ablautlaw03_agree_nil hS hL e14) ?_
                  refine D_guard trivial (b := !y14) (fun c26 => ?_) (fun c26 => ?_)
                  · replace h := itT c26 h
                    refine D_end trivial ?_
                    obtain rfl := someI h
                    exact K_ret hS trivial [] ⟨rfl, rfl, rfl⟩
                  · replace h := itF c26 h
                    obtain ⟨c27, h⟩ := chkE h
                    obtain ⟨y15, e15, h⟩ := bindE h
                    refine D_pure (And.intro (And.intro (And.intro (by decide : (2 : Int) ≠ 0) c27.1) (by decide : (3 : Nat) ≤ 3)) c27.2) (w_ablautlaw03_agree_nil hS hL e15) ?_
                    refine D_end trivial ?_
                    refine K_cond hS trivial (b := !y15) (fun c28 => ?_) (fun c28 => ?_)
                    · replace h := itT c28 h
                      obtain rfl := someI h
                      exact K_ret hS trivial [] ⟨rfl, rfl, rfl⟩
                    · replace h := itF c28 h
                      exact hb3 _ [] _ (IntKind.wrap .i64 (x3 + 1)) trivial h
              · replace h := itF c23 h
                obtain ⟨y16, e16, h⟩ := bindE h
                refine K_call hS [] trivial (w_inventory_Inv_Sounds_nil hS hL e16) ?_
                obtain ⟨y17, e17, h⟩ := bindE h
                refine K_call hS [] trivial (w_ablautref03_Inv_Sounds_nil hS hL e17) ?_
                obtain ⟨y18, e18, h⟩ := bindE h
                refine K_call hS [] trivial (w_slices_Equal_sl_api_Named_api_Named hS hL e18) ?_
                refine K_lt hS trivial (fnPost_up hS) h 0 (fun z3 => ⟨[(6, (.p (.bb z3)))], []⟩) (fun M2 k1 hb4 h => ?_) (fun z3 h => ?_)
                · refine K_guard hS trivial (b := y18) (fun c31 => ?_) (fun c31 => ?_)
                  · replace h := itT c31 h
                    obtain ⟨y20, e20, h⟩ := bindE h
                    refine K_call hS [] trivial (w_ablautlaw03_works hS hL e20) ?_
                    exact hb4 _ [] _ y20 trivial h
                  · replace h := itF c31 h
                    exact hb4 _ [] _ false trivial h
                · obtain rfl := someI h
                  exact K_ret hS trivial [] ⟨rfl, rfl, rfl⟩
          · replace h := optS o2 h
            cases h
        · replace h := optS o1 h
          rcases o3 : y3.2.1 with _ | z4
          · replace h := optN o3 h
            cases h
          · replace h := optS o3 h
            have w2 := (w_ablautlaw03_both hS hL e3)
            simp only [o1, o3, optE_none, optE_some, List.append_nil, List.cons_append, List.nil_append] at w2
            refine K_call hS [] trivial w2 ?_
            refine K_cond hS trivial (b := !y3.2.2) (fun c32 => ?_) (fun c32 => ?_)
            · replace h := itT c32 h
              obtain rfl := someI h
              exact K_ret hS trivial [] ⟨rfl, rfl, rfl⟩
            · replace h := itF c32 h
              refine K_fix3 hS trivial h (fun x5 x6 x7 => ⟨[(52, (.p (pI .i64 x7))), (51, (.p (pI .i64 ((p_l.n : Nat) : Int)))), (50, (.p (vSl 3 c_Step p_l))), (11, (.reg 45005 0)), (10, (.reg 45000 0)), (2, (.p (.str p_text))), (1, (.p (vSl 3 c_Step p_l)))], [(45005, (.cells [(.p (.bb x6.Made)), (.p (vSl 1 cS x6.F)), (.vec 12500)])), (45004, (.map (encM (fun x => .agg (c_Sound x)) (pI .i64) x5.values))), (45003, (.map (encM PV.str (pI .i64) x5.symbols))), (45001, (.map (encM PV.str (pI .i64) x5.number))), (45000, (.cells [(.p (vSl 1 cS x5.feats)), (.mref 45001), (.vec 11500), (.mref 45003), (.mref 45004)])), (12500, (.vec t_api_Named 3 x6.S.n (fun i => c_Named (x6.S.g i)) true)), (11500, (.vec t_api_Named 3 x5.sounds.n (fun i => c_Named (x5.sounds.g i)) true))]⟩) (ids := [(11500, 45002), (12500, 45006), (45000, 45000), (45001, 45001), (45003, 45003), (45004, 45004), (45005, 45005)]) (fun _ _ _ _ _ self3 x5 x6 x7 hb5 h => ?_)
              refine K_cond hS trivial (b := decide (x7 < ((p_l.n : Nat) : Int))) (fun c45 => ?_) (fun c45 => ?_)
              · replace h := itT c45 h
                obtain ⟨c46, h⟩ := chkE h
                refine K_frz hS (And.intro c46 (by decide : (3 : Nat) ≤ 3)) 15000 [(.str (p_l.g x7.toNat).Symbol), (pI .u32 (p_l.g x7.toNat).S.Plus), (pI .u32 (p_l.g x7.toNat).S.Minus)] ?_
                refine K_drawnN hS trivial [2, 4, 8, 10, 16, 27, 28, 30] ?_
                obtain ⟨y29, e29, h⟩ := bindE h
                refine D_call [45000, 45001, 11500, 45003, 45004] (by decide : (2 : Nat) ≤ 2) (w_inventory_Inv_Add hS hL e29) ?_
                obtain ⟨y30, e30, h⟩ := bindE h
                refine D_call [45005, 12500] (by decide : (2 : Nat) ≤ 2) (w_ablautref03_Inv_Add hS hL e30) ?_
                refine D_guard trivial (b := y29.1 != y30.1) (fun c47 => ?_) (fun c47 => ?_)
                · replace h := itT c47 h
                  refine D_end trivial ?_
                  obtain rfl := someI h
                  exact K_ret hS trivial [] ⟨rfl, rfl, rfl⟩
                · replace h := itF c47 h
                  obtain ⟨y31, e31, h⟩ := bindE h
                  refine D_call [45000, 45001, 63002, 45003, 45004, 45005, 69001] (by decide : (3 : Nat) ≤ 3) (w_ablautlaw03_agree hS hL e31) ?_
                  refine D_guard trivial (b := !y31) (fun c48 => ?_) (fun c48 => ?_)
                  · replace h := itT c48 h
                    refine D_end trivial ?_
                    obtain rfl := someI h
                    exact K_ret hS trivial [] ⟨rfl, rfl, rfl⟩
                  · replace h := itF c48 h
                    obtain ⟨c49, h⟩ := chkE h
                    obtain ⟨y32, e32, h⟩ := bindE h
                    refine D_call [45000, 45001, 63002, 45003, 45004, 45005, 69001] (And.intro (And.intro (And.intro (by decide : (2 : Int) ≠ 0) c49.1) (by decide : (3 : Nat) ≤ 3)) c49.2) (w_ablautlaw03_agree hS hL e32) ?_
                    refine D_end trivial ?_
                    refine K_cond hS trivial (b := !y32) (fun c50 => ?_) (fun c50 => ?_)
                    · replace h := itT c50 h
                      obtain rfl := someI h
                      exact K_ret hS trivial [] ⟨rfl, rfl, rfl⟩
                    · replace h := itF c50 h
                      exact hb5 _ [(11500, 63002), (12500, 69001), (45000, 45000), (45001, 45001), (45003, 45003), (45004, 45004), (45005, 45005)] _ y29.2 y30.2 (IntKind.wrap .i64 (x7 + 1)) trivial h
              · replace h := itF c45 h
                obtain ⟨y33, e33, h⟩ := bindE h
                refine K_call hS [45000, 45001, 11500, 45003, 45004] trivial (w_inventory_Inv_Sounds hS hL e33) ?_
                obtain ⟨y34, e34, h⟩ := bindE h
                refine K_call hS [45005, 12500] trivial (w_ablautref03_Inv_Sounds hS hL e34) ?_
                obtain ⟨y35, e35, h⟩ := bindE h
                refine K_call hS [] trivial (w_slices_Equal_sl_api_Named_api_Named hS hL e35) ?_
                refine K_lt hS trivial (fnPost_up hS) h 0 (fun z5 => ⟨[(6, (.p (.bb z5)))], []⟩) (fun M3 k2 hb6 h => ?_) (fun z5 h => ?_)
                · refine K_guard hS trivial (b := y35) (fun c53 => ?_) (fun c53 => ?_)
                  · replace h := itT c53 h
                    obtain ⟨y37, e37, h⟩ := bindE h
                    refine K_call hS [] trivial (w_ablautlaw03_works hS hL e37) ?_
                    exact hb6 _ [] _ y37 trivial h
                  · replace h := itF c53 h
                    exact hb6 _ [] _ false trivial h
                · obtain rfl := someI h
                  exact K_ret hS trivial [] ⟨rfl, rfl, rfl⟩
def m_ablautlaw03_InventoryFinds (N : Nat) (p_l : (Sl Step)) (p_symbol : Str) (p_s : Sound) : Option Bool :=
  (m_ablautlaw03_grown N p_l).bind fun y1 =>
  optE y1.1 (
      some false
    ) fun z1 =>
    (m_inventory_Inv_Sounds N z1).bind fun y2 =>
    (m_slices_Equal_sl_api_Named_api_Named N y2 y1.2).bind fun y3 =>
    lt (fun (z2 : Bool) =>
        if z2 = true then
          some false
        else
          fix4 N (fun self3 (x5 : O_inventory_Inv) (x6 : Bool) (x7 : Bool) (x8 : Int) =>
              if (decide (x8 < ((y1.2.n : Nat) : Int))) = true then
                if (((0 : Int) ≤ x8 ∧ x8 < ((y1.2.n : Nat) : Int)) ∧ x8.toNat < y1.2.n) then
                  (m_inventory_Inv_Sound N x5 (y1.2.g x8.toNat).Symbol).bind fun y18 =>
                  (m_inventory_Inv_Symbol N x5 (y1.2.g x8.toNat).S).bind fun y19 =>
                  lt (fun (z5 : O_inventory_Inv × Bool) =>
                      if z5.2 = true then
                        some false
                      else
                        if ((0 : Int) ≤ x8 ∧ x8 ≤ ((y1.2.n : Nat) : Int)) then
                          fix1 N (fun self4 (x14 : Int) =>
                              if (decide (x14 < ((x8.toNat : Nat) : Int))) = true then
                                if ((0 : Int) ≤ x14 ∧ x14 < (((y1.2.take x8.toNat).n : Nat) : Int)) then
                                  if ((((y1.2.g x8.toNat).Symbol == ((y1.2.take x8.toNat).g x14.toNat).Symbol) != false) || ((((y1.2.g x8.toNat).S.Plus == ((y1.2.take x8.toNat).g x14.toNat).S.Plus) && ((y1.2.g x8.toNat).S.Minus == ((y1.2.take x8.toNat).g x14.toNat).S.Minus)) != false)) = true then
                                    some false
                                  else
                                    self4 (IntKind.wrap .i64 (x14 + 1))
                                else none
                              else
                                if x6 = true then
                                  if x7 = true then
                                    self3 z5.1 true true (IntKind.wrap .i64 (x8 + 1))
                                  else
                                    self3 z5.1 true ((((y1.2.g x8.toNat).S.Plus == p_s.Plus) && ((y1.2.g x8.toNat).S.Minus == p_s.Minus)) != false) (IntKind.wrap .i64 (x8 + 1))
                                else
                                  if x7 = true then
                                    self3 z5.1 (((y1.2.g x8.toNat).Symbol == p_symbol) != false) true (IntKind.wrap .i64 (x8 + 1))
                                  else
                                    self3 z5.1 (((y1.2.g x8.toNat).Symbol == p_symbol) != false) ((((y1.2.g x8.toNat).S.Plus == p_s.Plus) && ((y1.2.g x8.toNat).S.Minus == p_s.Minus)) != false) (IntKind.wrap .i64 (x8 + 1))
                            ) 0
                        else none
                    ) fun k4 =>
                    if (!y18.2) = true then
                      k4 (x5, true)
                    else
                      if (!y19.2) = true then
                        k4 (x5, true)
                      else
                        if (((y18.1.Plus == (y1.2.g x8.toNat).S.Plus) && (y18.1.Minus == (y1.2.g x8.toNat).S.Minus)) != true) = true then
                          k4 (x5, true)
                        else
                          if ((y19.1 == (y1.2.g x8.toNat).Symbol) != true) = true then
                            k4 (x5, true)
                          else
                            (m_inventory_Inv_Add N x5 (y1.2.g x8.toNat).Symbol p_s).bind fun y22 =>
                            if (y22.1 == 0) = true then
                              k4 (y22.2, true)
                            else
                              (m_inventory_Inv_Add N y22.2 p_symbol (y1.2.g x8.toNat).S).bind fun y23 =>
                              k4 (y23.2, y23.1 == 0)
                else none
              else
                (m_inventory_Inv_Sound N x5 p_symbol).bind fun y24 =>
                (m_inventory_Inv_Symbol N x5 p_s).bind fun y25 =>
                lt (fun (z6 : Bool) =>
                    some z6
                  ) fun k5 =>
                  if ((y24.2 == x6) != false) = true then
                    if ((y25.2 == x7) != false) = true then
                      (m_inventory_Inv_Len N x5).bind fun y28 =>
                      if (y28 == ((y1.2.n : Nat) : Int)) = true then
                        (m_ablautlaw03_works N ).bind fun y29 =>
                        k5 y29
                      else
                        k5 false
                    else
                      k5 false
                  else
                    k5 false
            ) z1 false false 0
      ) fun k1 =>
      if (!y3) = true then
        k1 true
      else
        (m_inventory_Inv_Len N z1).bind fun y5 =>
        if (y5 != ((y1.2.n : Nat) : Int)) = true then
          k1 true
        else
          k1 (decide (256 < ((y1.2.n : Nat) : Int)))
theorem w_ablautlaw03_InventoryFinds {N : Nat} {p_l : (Sl Step)} {p_symbol : Str} {p_s : Sound}   {y : Bool} (h : m_ablautlaw03_InventoryFinds N p_l p_symbol p_s = some y) :
    FunO S k_ablautlaw03_InventoryFinds [(.p (vSl 3 c_Step p_l)), (.p (.str p_symbol)), (.p (.agg (c_Sound p_s)))] [] (.p (.bb y)) ([]) [] := by
  unfold m_ablautlaw03_InventoryFinds at h
  refine K_start hS f_ablautlaw03_InventoryFinds ?_
  obtain ⟨y1, e1, h⟩ := bindE h
  rcases o1 : y1.1 with _ | z1
  · replace h := optN o1 h
    have w1 := (w_ablautlaw03_grown hS hL e1)
    simp only [o1, optE_none, optE_some, List.append_nil, List.cons_append, List.nil_append] at w1
    refine K_call hS [] trivial w1 ?_
    obtain rfl := someI h
    exact K_ret hS trivial [] ⟨rfl, rfl, rfl⟩
  · replace h := optS o1 h
    have w2 := (w_ablautlaw03_grown hS hL e1)
    simp only [o1, optE_none, optE_some, List.append_nil, List.cons_append, List.nil_append] at w2
    refine K_call hS [] trivial w2 ?_
    obtain ⟨y2, e2, h⟩ := bindE h
    refine K_call hS [26001, 26002, 26003, 26004, 26005] trivial (w_inventory_Inv_Sounds hS hL e2) ?_
    obtain ⟨y3, e3, h⟩ := bindE h
    refine K_call hS [] trivial (w_slices_Equal_sl_api_Named_api_Named hS hL e3) ?_
    refine K_lt hS trivial (fnPost_up hS) h 0 (fun z2 => ⟨[(48, (.p (.bb z2))), (8, (.vec 26000)), (7, (.reg 26001 0)), (5, (.reg 6000 0)), (1, (.p (.str p_symbol)))], [(26005, (.map (encM (fun x => .agg (c_Sound x)) (pI .i64) z1.values))), (26004, (.map (encM PV.str (pI .i64) z1.symbols))), (26003, (.vec t_api_Named 3 z1.sounds.n (fun i => c_Named (z1.sounds.g i)) true)), (26002, (.map (encM PV.str (pI .i64) z1.number))), (26001, (.cells [(.p (vSl 1 cS z1.feats)), (.mref 26002), (.vec 26003), (.mref 26004), (.mref 26005)])), (26000, (.vec t_api_Named 3 y1.2.n (fun i => c_Named (y1.2.g i)) true)), (6000, (.cells [(.p (pI .u32 p_s.Plus)), (.p (pI .u32 p_s.Minus))]))]⟩) (fun M1 k1 hb1 h => ?_) (fun z2 h => ?_)
    · refine K_guard hS trivial (b := !y3) (fun c4 => ?_) (fun c4 => ?_)
      · replace h := itT c4 h
        exact hb1 _ [(6000, 6000), (26000, 26000), (26001, 26001), (26002, 26002), (26003, 26003), (26004, 26004), (26005, 26005)] _ true trivial h
      · replace h := itF c4 h
        obtain ⟨y5, e5, h⟩ := bindE h
        refine K_call hS [26001, 26002, 26003, 26004, 26005] trivial (w_inventory_Inv_Len hS hL e5) ?_
        refine K_guard hS trivial (b := y5 != ((y1.2.n : Nat) : Int)) (fun c5 => ?_) (fun c5 => ?_)
        · replace h := itT c5 h
          exact hb1 _ [(6000, 6000), (26000, 26000), (26001, 26001), (26002, 26002), (26003, 26003), (26004, 26004), (26005, 26005)] _ true trivial h
        · replace h := itF c5 h
          exact hb1 _ [(6000, 6000), (26000, 26000), (26001, 26001), (26002, 26002), (26003, 26003), (26004, 26004), (26005, 26005)] _ (decide (256 < ((y1.2.n : Nat) : Int))) trivial h
    · refine K_cond hS trivial (b := z2) (fun c6 => ?_) (fun c6 => ?_)
      · replace h := itT c6 h
        obtain rfl := someI h
        exact K_ret hS trivial [] ⟨rfl, rfl, rfl⟩
      · replace h := itF c6 h
        refine K_fix4 hS trivial h (fun x5 x6 x7 x8 => ⟨[(51, (.p (pI .i64 x8))), (50, (.p (pI .i64 ((y1.2.n : Nat) : Int)))), (49, (.vec 26000)), (10, (.p (.bb x7))), (9, (.p (.bb x6))), (8, (.vec 26000)), (7, (.reg 26001 0)), (5, (.reg 6000 0)), (1, (.p (.str p_symbol)))], [(26005, (.map (encM (fun x => .agg (c_Sound x)) (pI .i64) x5.values))), (26004, (.map (encM PV.str (pI .i64) x5.symbols))), (26002, (.map (encM PV.str (pI .i64) x5.number))), (26001, (.cells [(.p (vSl 1 cS x5.feats)), (.mref 26002), (.vec 8501), (.mref 26004), (.mref 26005)])), (26000, (.vec t_api_Named 3 y1.2.n (fun i => c_Named (y1.2.g i)) true)), (8501, (.vec t_api_Named 3 x5.sounds.n (fun i => c_Named (x5.sounds.g i)) true)), (6000, (.cells [(.p (pI .u32 p_s.Plus)), (.p (pI .u32 p_s.Minus))]))]⟩) (ids := [(6000, 6000), (8501, 26003), (26000, 26000), (26001, 26001), (26002, 26002), (26004, 26004), (26005, 26005)]) (fun _ _ _ _ _ self3 x5 x6 x7 x8 hb12 h => ?_)
        refine K_cond hS trivial (b := decide (x8 < ((y1.2.n : Nat) : Int))) (fun c76 => ?_) (fun c76 => ?_)
        · replace h := itT c76 h
          obtain ⟨c77, h⟩ := chkE h
          obtain ⟨y18, e18, h⟩ := bindE h
          refine K_call hS [26001, 26002, 8501, 26004, 26005] (And.intro (And.intro c77.1 (by decide : (3 : Nat) ≤ 3)) c77.2) (w_inventory_Inv_Sound hS hL e18) ?_
          obtain ⟨y19, e19, h⟩ := bindE h
          refine K_call hS [26001, 26002, 8501, 26004, 26005] trivial (w_inventory_Inv_Symbol hS hL e19) ?_
          refine K_lt hS trivial (fnPost_up hS) h 0 (fun z5 => ⟨[(103, (.p (.bb z5.2))), (51, (.p (pI .i64 x8))), (50, (.p (pI .i64 ((y1.2.n : Nat) : Int)))), (49, (.vec 26000)), (12, (.reg 13000 0)), (11, (.p (pI .i64 x8))), (10, (.p (.bb x7))), (9, (.p (.bb x6))), (8, (.vec 26000)), (7, (.reg 26001 0)), (5, (.reg 6000 0)), (1, (.p (.str p_symbol)))], [(26005, (.map (encM (fun x => .agg (c_Sound x)) (pI .i64) z5.1.values))), (26004, (.map (encM PV.str (pI .i64) z5.1.symbols))), (26002, (.map (encM PV.str (pI .i64) z5.1.number))), (26001, (.cells [(.p (vSl 1 cS z5.1.feats)), (.mref 26002), (.vec 8500), (.mref 26004), (.mref 26005)])), (26000, (.vec t_api_Named 3 y1.2.n (fun i => c_Named (y1.2.g i)) true)), (13000, (.cells [(.p (.str (y1.2.g x8.toNat).Symbol)), (.p (pI .u32 (y1.2.g x8.toNat).S.Plus)), (.p (pI .u32 (y1.2.g x8.toNat).S.Minus))])), (8500, (.vec t_api_Named 3 z5.1.sounds.n (fun i => c_Named (z5.1.sounds.g i)) true)), (6000, (.cells [(.p (pI .u32 p_s.Plus)), (.p (pI .u32 p_s.Minus))]))]⟩) (fun M10 k4 hb13 h => ?_) (fun z5 h => ?_)
          · refine K_guard hS trivial (b := !y18.2) (fun c87 => ?_) (fun c87 => ?_)
            · replace h := itT c87 h
              exact hb13 _ [(6000, 6000), (8500, 8501), (13000, 13000), (26000, 26000), (26001, 26001), (26002, 26002), (26004, 26004), (26005, 26005)] _ (x5, true) trivial h
            · replace h := itF c87 h
              refine K_guard hS trivial (b := !y19.2) (fun c88 => ?_) (fun c88 => ?_)
              · replace h := itT c88 h
                exact hb13 _ [(6000, 6000), (8500, 8501), (13000, 13000), (26000, 26000), (26001, 26001), (26002, 26002), (26004, 26004), (26005, 26005)] _ (x5, true) trivial h
              · replace h := itF c88 h
                refine K_guard hS (by decide +kernel : eqOk Tryd.prog t_api_Sound = true) (b := (((y18.1.Plus == (y1.2.g x8.toNat).S.Plus) && (y18.1.Minus == (y1.2.g x8.toNat).S.Minus)) != true)) (fun c89 => ?_) (fun c89 => ?_)
                · replace h := itT c89 h
                  exact hb13 _ [(6000, 6000), (8500, 8501), (13000, 13000), (26000, 26000), (26001, 26001), (26002, 26002), (26004, 26004), (26005, 26005)] _ (x5, true) trivial h
                · replace h := itF c89 h
                  refine K_guard hS trivial (b := ((y19.1 == (y1.2.g x8.toNat).Symbol) != true)) (fun c90 => ?_) (fun c90 => ?_)
                  · replace h := itT c90 h
                    exact hb13 _ [(6000, 6000), (8500, 8501), (13000, 13000), (26000, 26000), (26001, 26001), (26002, 26002), (26004, 26004), (26005, 26005)] _ (x5, true) trivial h
                  · replace h := itF c90 h
                    obtain ⟨y22, e22, h⟩ := bindE h
                    refine K_call hS [26001, 26002, 8501, 26004, 26005] trivial (w_inventory_Inv_Add hS hL e22) ?_
                    refine K_guard hS trivial (b := y22.1 == 0) (fun c91 => ?_) (fun c91 => ?_)
                    · replace h := itT c91 h
                      exact hb13 _ [(6000, 6000), (8500, 94002), (13000, 13000), (26000, 26000), (26001, 26001), (26002, 26002), (26004, 26004), (26005, 26005)] _ (y22.2, true) trivial h
                    · replace h := itF c91 h
                      obtain ⟨y23, e23, h⟩ := bindE h
                      refine K_call hS [26001, 26002, 94002, 26004, 26005] trivial (w_inventory_Inv_Add hS hL e23) ?_
                      exact hb13 _ [(6000, 6000), (8500, 102002), (13000, 13000), (26000, 26000), (26001, 26001), (26002, 26002), (26004, 26004), (26005, 26005)] _ (y23.2, y23.1 == 0) trivial h
          · refine K_cond hS trivial (b := z5.2) (fun c92 => ?_) (fun c92 => ?_)
            · replace h := itT c92 h
              obtain rfl := someI h
              exact K_ret hS trivial [] ⟨rfl, rfl, rfl⟩
            · replace h := itF c92 h
              obtain ⟨c93, h⟩ := chkE h
              refine K_fix1 hS c93 h (fun x14 => ⟨[(108, (.p (pI .i64 x14))), (107, (.p (pI .i64 ((x8.toNat : Nat) : Int)))), (106, (.p (vSl 3 c_Named (y1.2.take x8.toNat)))), (51, (.p (pI .i64 x8))), (50, (.p (pI .i64 ((y1.2.n : Nat) : Int)))), (49, (.vec 26000)), (12, (.reg 13000 0)), (10, (.p (.bb x7))), (9, (.p (.bb x6))), (8, (.vec 26000)), (7, (.reg 26001 0)), (5, (.reg 6000 0)), (1, (.p (.str p_symbol)))], [(26005, (.map (encM (fun x => .agg (c_Sound x)) (pI .i64) z5.1.values))), (26004, (.map (encM PV.str (pI .i64) z5.1.symbols))), (26002, (.map (encM PV.str (pI .i64) z5.1.number))), (26001, (.cells [(.p (vSl 1 cS z5.1.feats)), (.mref 26002), (.vec 8500), (.mref 26004), (.mref 26005)])), (26000, (.vec t_api_Named 3 y1.2.n (fun i => c_Named (y1.2.g i)) true)), (13000, (.cells [(.p (.str (y1.2.g x8.toNat).Symbol)), (.p (pI .u32 (y1.2.g x8.toNat).S.Plus)), (.p (pI .u32 (y1.2.g x8.toNat).S.Minus))])), (8500, (.vec t_api_Named 3 z5.1.sounds.n (fun i => c_Named (z5.1.sounds.g i)) true)), (6000, (.cells [(.p (pI .u32 p_s.Plus)), (.p (pI .u32 p_s.Minus))]))]⟩) (ids := [(6000, 6000), (8500, 8500), (13000, 13000), (26000, 26000), (26001, 26001), (26002, 26002), (26004, 26004), (26005, 26005)]) (fun _ _ _ _ _ self4 x14 hb16 h => ?_) (hle := (klR [(2, .fn (min x8.toNat y1.2.n) (y1.2.take x8.toNat).n (fun i => c_Named (y1.2.g i)) (fun i => c_Named ((y1.2.take x8.toNat).g i)))] (al1 ⟨Nat.min_eq_left (by have hq := c93; omega), fun _ _ => rfl⟩ al0)))
              refine K_cond hS trivial (b := decide (x14 < ((x8.toNat : Nat) : Int))) (fun c104 => ?_) (fun c104 => ?_)
              · replace h := itT c104 h
                obtain ⟨c105, h⟩ := chkE h
                obtain ⟨t9, ht9⟩ : ∃ x : Bool, x = ((((y1.2.g x8.toNat).Symbol == ((y1.2.take x8.toNat).g x14.toNat).Symbol) != false) || ((((y1.2.g x8.toNat).S.Plus == ((y1.2.take x8.toNat).g x14.toNat).S.Plus) && ((y1.2.g x8.toNat).S.Minus == ((y1.2.take x8.toNat).g x14.toNat).S.Minus)) != false)) := ⟨_, rfl⟩
                refine K_cut hS (And.intro c105 (by decide : (3 : Nat) ≤ 3)) (fnPost_up hS) 0 ⟨[(123, (.p (.bb t9))), (108, (.p (pI .i64 x14))), (107, (.p (pI .i64 ((x8.toNat : Nat) : Int)))), (106, (.p (vSl 3 c_Named (y1.2.take x8.toNat)))), (51, (.p (pI .i64 x8))), (50, (.p (pI .i64 ((y1.2.n : Nat) : Int)))), (49, (.vec 26000)), (12, (.reg 13000 0)), (10, (.p (.bb x7))), (9, (.p (.bb x6))), (8, (.vec 26000)), (7, (.reg 26001 0)), (5, (.reg 6000 0)), (1, (.p (.str p_symbol)))], [(26005, (.map (encM (fun x => .agg (c_Sound x)) (pI .i64) z5.1.values))), (26004, (.map (encM PV.str (pI .i64) z5.1.symbols))), (26002, (.map (encM PV.str (pI .i64) z5.1.number))), (26001, (.cells [(.p (vSl 1 cS z5.1.feats)), (.mref 26002), (.vec 8500), (.mref 26004), (.mref 26005)])), (26000, (.vec t_api_Named 3 y1.2.n (fun i => c_Named (y1.2.g i)) true)), (13000, (.cells [(.p (.str (y1.2.g x8.toNat).Symbol)), (.p (pI .u32 (y1.2.g x8.toNat).S.Plus)), (.p (pI .u32 (y1.2.g x8.toNat).S.Minus))])), (8500, (.vec t_api_Named 3 z5.1.sounds.n (fun i => c_Named (z5.1.sounds.g i)) true)), (6000, (.cells [(.p (pI .u32 p_s.Plus)), (.p (pI .u32 p_s.Minus))]))]⟩ (fun M13 hb17 => ?_) ?_
                · refine K_guard hS trivial (b := (((y1.2.g x8.toNat).Symbol == ((y1.2.take x8.toNat).g x14.toNat).Symbol) != false)) (fun c107 => ?_) (fun c107 => ?_)
                  · exact hb17 _ [(6000, 6000), (8500, 8500), (13000, 13000), (26000, 26000), (26001, 26001), (26002, 26002), (26004, 26004), (26005, 26005)] _ trivial (by kernel_rfl) (by kernel_rfl) (klR [(0, .eq (.bb true) (.bb t9))] (al1 (by simp only [ht9, c107, Leaf.ok, pm, if_true, if_false]) al0))
                  · exact hb17 _ [(6000, 6000), (8500, 8500), (13000, 13000), (26000, 26000), (26001, 26001), (26002, 26002), (26004, 26004), (26005, 26005)] _ (by decide +kernel : eqOk Tryd.prog t_api_Sound = true) (by kernel_rfl) (by kernel_rfl) (klR [(0, .eq (.bb ((((y1.2.g x8.toNat).S.Plus == ((y1.2.take x8.toNat).g x14.toNat).S.Plus) && ((y1.2.g x8.toNat).S.Minus == ((y1.2.take x8.toNat).g x14.toNat).S.Minus)) != false)) (.bb t9))] (al1 (by simp only [ht9, c107, Leaf.ok, pm, if_true, if_false]) al0))
                · subst ht9
                  refine K_cond hS trivial (b := ((((y1.2.g x8.toNat).Symbol == ((y1.2.take x8.toNat).g x14.toNat).Symbol) != false) || ((((y1.2.g x8.toNat).S.Plus == ((y1.2.take x8.toNat).g x14.toNat).S.Plus) && ((y1.2.g x8.toNat).S.Minus == ((y1.2.take x8.toNat).g x14.toNat).S.Minus)) != false))) (fun c108 => ?_) (fun c108 => ?_)
                  · replace h := itT c108 h
                    obtain rfl := someI h
                    exact K_ret hS trivial [] ⟨rfl, rfl, rfl⟩
                  · replace h := itF c108 h
                    exact hb16 _ [(6000, 6000), (8500, 8500), (13000, 13000), (26000, 26000), (26001, 26001), (26002, 26002), (26004, 26004), (26005, 26005)] _ (IntKind.wrap .i64 (x14 + 1)) trivial h
              · replace h := itF c104 h
                refine K_drawn hS trivial ?_
                refine D_guard trivial (b := x6) (fun c109 => ?_) (fun c109 => ?_)
                · replace h := itT c109 h
                  refine D_guard trivial (b := x7) (fun c110 => ?_) (fun c110 => ?_)
                  · replace h := itT c110 h
                    refine D_end trivial ?_
                    exact hb12 _ [(6000, 6000), (8501, 8500), (26000, 26000), (26001, 26001), (26002, 26002), (26004, 26004), (26005, 26005)] _ z5.1 true true (IntKind.wrap .i64 (x8 + 1)) trivial h
                  · replace h := itF c110 h
                    refine D_end (by decide +kernel : eqOk Tryd.prog t_api_Sound = true) ?_
                    exact hb12 _ [(6000, 6000), (8501, 8500), (26000, 26000), (26001, 26001), (26002, 26002), (26004, 26004), (26005, 26005)] _ z5.1 true ((((y1.2.g x8.toNat).S.Plus == p_s.Plus) && ((y1.2.g x8.toNat).S.Minus == p_s.Minus)) != false) (IntKind.wrap .i64 (x8 + 1)) trivial h
                · replace h := itF c109 h
                  refine D_guard trivial (b := x7) (fun c111 => ?_) (fun c111 => ?_)
                  · replace h := itT c111 h
                    refine D_end trivial ?_
                    exact hb12 _ [(6000, 6000), (8501, 8500), (26000, 26000), (26001, 26001), (26002, 26002), (26004, 26004), (26005, 26005)] _ z5.1 (((y1.2.g x8.toNat).Symbol == p_symbol) != false) true (IntKind.wrap .i64 (x8 + 1)) trivial h
                  · replace h := itF c111 h
                    refine D_end (by decide +kernel : eqOk Tryd.prog t_api_Sound = true) ?_
                    exact hb12 _ [(6000, 6000), (8501, 8500), (26000, 26000), (26001, 26001), (26002, 26002), (26004, 26004), (26005, 26005)] _ z5.1 (((y1.2.g x8.toNat).Symbol == p_symbol) != false) ((((y1.2.g x8.toNat).S.Plus == p_s.Plus) && ((y1.2.g x8.toNat).S.Minus == p_s.Minus)) != false) (IntKind.wrap .i64 (x8 + 1)) trivial h
        · replace h := itF c76 h
          obtain ⟨y24, e24, h⟩ := bindE h
          refine K_call hS [26001, 26002, 8501, 26004, 26005] trivial (w_inventory_Inv_Sound hS hL e24) ?_
          obtain ⟨y25, e25, h⟩ := bindE h
          refine K_call hS [26001, 26002, 8501, 26004, 26005] trivial (w_inventory_Inv_Symbol hS hL e25) ?_
          refine K_lt hS trivial (fnPost_up hS) h 0 (fun z6 => ⟨[(6, (.p (.bb z6)))], []⟩) (fun M14 k5 hb18 h => ?_) (fun z6 h => ?_)
          · refine K_guard hS trivial (b := ((y24.2 == x6) != false)) (fun c117 => ?_) (fun c117 => ?_)
            · replace h := itT c117 h
              refine K_guard hS trivial (b := ((y25.2 == x7) != false)) (fun c118 => ?_) (fun c118 => ?_)
              · replace h := itT c118 h
                obtain ⟨y28, e28, h⟩ := bindE h
                refine K_call hS [26001, 26002, 8501, 26004, 26005] trivial (w_inventory_Inv_Len hS hL e28) ?_
                refine K_guard hS trivial (b := y28 == ((y1.2.n : Nat) : Int)) (fun c119 => ?_) (fun c119 => ?_)
                · replace h := itT c119 h
                  obtain ⟨y29, e29, h⟩ := bindE h
                  refine K_call hS [] trivial (w_ablautlaw03_works hS hL e29) ?_
                  exact hb18 _ [] _ y29 trivial h
                · replace h := itF c119 h
                  exact hb18 _ [] _ false trivial h
              · replace h := itF c118 h
                exact hb18 _ [] _ false trivial h
            · replace h := itF c117 h
              exact hb18 _ [] _ false trivial h
          · obtain rfl := someI h
            exact K_ret hS trivial [] ⟨rfl, rfl, rfl⟩
end Go.AM
set_option linter.unusedVariables false
namespace Go.AM
open Go.RowKit Go.ChangeShapes Go.Deep
mutual
inductive LeD : PV → PV → Prop
  | refl (x : PV) : LeD x x
  | sl {k n : Nat} {f g : Nat → List PV} (h : ∀ i, i < n → LeDs (f i) (g i)) : LeD (.sl false k n f) (.sl false k n g)
inductive LeDs : List PV → List PV → Prop
  | nil : LeDs [] []
  | cons {x y : PV} {l r : List PV} (h : LeD x y) (h' : LeDs l r) : LeDs (x :: l) (y :: r)
end
theorem LeDs.refl : ∀ l : List PV, LeDs l l
  | [] => .nil
  | x :: l => .cons (.refl x) (LeDs.refl l)
theorem LeDs.length {l r : List PV} (h : LeDs l r) : l.length = r.length := by
  induction l generalizing r with
  | nil => cases h; rfl
  | cons x l ih => cases h with | cons _ h' => simp [ih h']
theorem LeDs.get {l r : List PV} (h : LeDs l r) : ∀ i, LeD (l.getD i default) (r.getD i default) := by
  induction l generalizing r with
  | nil => cases h; exact fun i => .refl _
  | cons x l ih =>
    cases h with
    | cons h h' =>
      intro i
      cases i with
      | zero => exact h
      | succ i => simpa using ih h' i
theorem LeDs.append {a b c d : List PV} (h : LeDs a b) (h' : LeDs c d) : LeDs (a ++ c) (b ++ d) := by
  induction a generalizing b with
  | nil => cases h; exact h'
  | cons x l ih => cases h with | cons h1 h2 => exact .cons h1 (ih h2)
theorem RepP.leD {w : World} {Pi : Nat → Nat → Prop} {v : Value} {x : PV} (h : RepP w Pi v x) : ∀ {y : PV}, LeD x y → RepP w Pi v y := by
  induction h with
  | slnil k f => intro y hy; cases hy with
    | refl => exact .slnil _ _
    | sl h => exact .slnil _ _
  | sl nn b off cap k n f c hn hk hc h sp hsp ih =>
    intro y hy
    cases hy with
    | refl => exact .sl nn b off cap k n f c hn hk hc h sp hsp
    | sl h' => exact .sl false b off cap k n _ c hn (fun i hi => by rw [← (h' i hi).length]; exact hk i hi) hc (fun i j hi hj => ih i j hi hj ((h' i hi).get j)) sp hsp
  | v x => intro y hy; cases hy; exact .v x
  | bb b => intro y hy; cases hy; exact .bb b
  | str l => intro y hy; cases hy; exact .str l
  | agg vs cs hs h1 h ih => intro y hy; cases hy; exact .agg vs cs hs h1 h
  | ptr b off cs c hc h ih => intro y hy; cases hy; exact .ptr b off cs c hc h
  | iface t x a h ih => intro y hy; cases hy; exact .iface t x a h
  | fn f x y a b hx hy ha hb iha ihb => intro y hy; cases hy; exact .fn f x _ a b hx ‹_› ha hb
theorem CRep.leD {W : World} {cs : List Value} {p q : List PV} (h : CRep W cs p) (hl : LeDs p q) : CRep W cs q :=
  ⟨by rw [h.1, hl.length], fun i hi => ⟨(h.2 i (by rw [hl.length]; exact hi)).1.leD (hl.get i), (h.2 i (by rw [hl.length]; exact hi)).2⟩⟩
section
variable {P : Program} {t e : TypeId} {m : Nat} {pvs : List PV}
def sumF (f : Nat → Nat) : Nat → Nat
  | 0 => 0
  | k + 1 => sumF f k + f k
theorem sumF_le (f : Nat → Nat) {k n : Nat} (h : k ≤ n) : sumF f k ≤ sumF f n := by
  induction h with
  | refl => exact Nat.le_refl _
  | step _ ih => simp only [sumF]; omega
theorem le_sumF (f : Nat → Nat) {k n : Nat} (h : k < n) : f k ≤ sumF f n := by
  have := sumF_le f (show k + 1 ≤ n from h)
  simp only [sumF] at this
  omega
theorem sumF_mono {f g : Nat → Nat} : ∀ {n : Nat}, (∀ i, i < n → f i ≤ g i) → sumF f n ≤ sumF g n
  | 0, _ => Nat.le_refl _
  | n + 1, h => by
    have h1 := sumF_mono (n := n) fun i hi => h i (by omega)
    have h2 := h n (by omega)
    simp only [sumF]; omega
theorem sumN_range (f : Nat → Nat) : ∀ n, sumN ((List.range n).map f) = sumF f n := by
  have app : ∀ a b : List Nat, sumN (a ++ b) = sumN a + sumN b := by
    intro a b
    induction a with
    | nil => simp [sumN]
    | cons x r ih => simp only [List.cons_append, sumN_cons, ih]; omega
  intro n
  induction n with
  | zero => rfl
  | succ n ih => rw [List.range_succ, List.map_append, app, ih]; simp [sumF, sumN]
def Opens (P : Program) (t : TypeId) {T : Type} (c : T → List PV) (W : T → Prop) (sz : T → Nat) : Prop :=
  ∀ (m : Nat) (pvs : List PV), Shape P m t pvs → ∃ x : T, LeDs pvs (c x) ∧ W x ∧ sz x ≤ m
theorem opens_int {k : IntKind} (ht : P.underlying t = some (.int k)) : Opens P t (cI k) (fun n => (Lit.int k n).wf = true) (fun _ => 1) := by
  intro m pvs h
  cases h with
  | bool ht' => rw [ht] at ht'; cases ht'
  | str ht' => rw [ht] at ht'; cases ht'
  | slice _ ht' => rw [ht] at ht'; cases ht'
  | struct ht' => rw [ht] at ht'; cases ht'
  | int ht' hw hm => rw [ht] at ht'; cases ht'; exact ⟨_, LeDs.refl _, hw, hm⟩
theorem opens_bool (ht : P.underlying t = some .bool) : Opens P t cB (fun _ => True) (fun _ => 1) := by
  intro m pvs h
  cases h with
  | int ht' => rw [ht] at ht'; cases ht'
  | str ht' => rw [ht] at ht'; cases ht'
  | slice _ ht' => rw [ht] at ht'; cases ht'
  | struct ht' => rw [ht] at ht'; cases ht'
  | bool ht' hm => exact ⟨_, LeDs.refl _, trivial, hm⟩
theorem opens_str (ht : P.underlying t = some .string) : Opens P t cS (fun _ => True) (fun l => l.length + 1) := by
  intro m pvs h
  cases h with
  | int ht' => rw [ht] at ht'; cases ht'
  | bool ht' => rw [ht] at ht'; cases ht'
  | slice _ ht' => rw [ht] at ht'; cases ht'
  | struct ht' => rw [ht] at ht'; cases ht'
  | str ht' hm => exact ⟨_, LeDs.refl _, trivial, hm⟩
theorem opens_slice {T : Type} [Inhabited T] {c : T → List PV} {W : T → Prop} {sz : T → Nat} {k : Nat} (ht : P.underlying t = some (.slice e)) (hk : P.cellsOf e = k) (h : Opens P e c W sz) :
    Opens P t (cL k c) (fun s => ∀ i, i < s.n → W (s.g i)) (fun s => sumF (fun i => sz (s.g i)) s.n + 1) := by
  intro m pvs hs
  cases hs with
  | int ht' => rw [ht] at ht'; cases ht'
  | bool ht' => rw [ht] at ht'; cases ht'
  | str ht' => rw [ht] at ht'; cases ht'
  | struct ht' => rw [ht] at ht'; cases ht'
  | @slice _ _ e' n f ms ht' hl hel hm =>
    rw [ht] at ht'
    cases ht'
    obtain ⟨g, hg⟩ := choose_lt (α := T) (p := fun i x => LeDs (f i) (c x) ∧ W x ∧ sz x ≤ ms i) fun i hi => h _ _ (hel i hi)
    refine ⟨⟨n, g⟩, ?_, fun i hi => (hg i hi).2.1, ?_⟩
    · subst hk
      exact .cons (.sl fun i hi => (hg i hi).1) .nil
    · have h1 := sumF_mono (n := n) fun i hi => (hg i hi).2.2
      rw [sumN_range] at hm
      show sumF (fun i => sz (g i)) n + 1 ≤ m
      omega
theorem shape_struct {fs : Array Field} (ht : P.underlying t = some (.struct fs)) (h : Shape P m t pvs) : ∃ m', ShapeL P m' (fs.toList.map (·.type)) pvs ∧ m' + 1 ≤ m := by
  cases h with
  | int ht' => rw [ht] at ht'; cases ht'
  | bool ht' => rw [ht] at ht'; cases ht'
  | str ht' => rw [ht] at ht'; cases ht'
  | slice _ ht' => rw [ht] at ht'; cases ht'
  | struct ht' h hm => rw [ht] at ht'; cases ht'; exact ⟨_, h, hm⟩
theorem shapeL_cons {ts : List TypeId} (h : ShapeL P m (t :: ts) pvs) : ∃ a b p q, pvs = p ++ q ∧ Shape P a t p ∧ ShapeL P b ts q ∧ a + b ≤ m := by
  cases h with
  | cons h h' hm => exact ⟨_, _, _, _, rfl, h, h', hm⟩
theorem shapeL_nil (h : ShapeL P m [] pvs) : pvs = [] := by cases h; rfl
theorem opens_mono {T : Type} {c : T → List PV} {W W' : T → Prop} {sz sz' : T → Nat} (h : Opens P t c W sz) (hw : ∀ x, W x → W' x) (hs : ∀ x, sz' x ≤ sz x) : Opens P t c W' sz' := fun m pvs hp => by
  obtain ⟨x, h1, h2, h3⟩ := h m pvs hp
  exact ⟨x, h1, hw x h2, Nat.le_trans (hs x) h3⟩
end
end Go.AM