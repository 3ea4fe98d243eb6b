/- What a law's walk and its plain proof need, part 12: no condition of its own. -/
import Derived.Test.YtnpknmmlpjnpeaaDoorAmG
import Derived.Test.YtnpknmmlpjnpeaaDoorAmD
import Derived.Test.YtnpknmmlpjnpeaaDoorAmK
set_option linter.unusedSimpArgs false
set_option linter.unusedVariables false
set_option linter.unusedSectionVars false
set_option linter.unusedVariables false
set_option linter.unusedSectionVars false
namespace Go.AM
open Go.Proofs
set_option maxRecDepth 10000
set_option maxHeartbeats 2000000
variable {S : Sems} (hS : Good S Tryd.prog) (hL : LibC S)
include hS hL
def m_inventory_Inv_made_zero (N : Nat)  : Option Bool :=
  some false
theorem w_inventory_Inv_made_zero {N : Nat}    {y : Bool} (h : m_inventory_Inv_made_zero N  = some y) :
    FunO S k_inventory_Inv_made [(.p (.ptr [nilS, (.v (.map none)), nilS, (.v (.map none)), (.v (.map none))]))] [] (.p (.bb y)) ([]) [] := by
  unfold m_inventory_Inv_made_zero at h
  refine K_start hS f_inventory_Inv_made ?_
  obtain rfl := someI h
  exact K_ret hS trivial [] ⟨rfl, rfl, rfl⟩
def m_inventory_Inv_Sound_zero (N : Nat) (p_symbol : Str) : Option (Sound × Bool) :=
  (m_inventory_Inv_made_zero N ).bind fun y1 =>
  if (!y1) = true then
    some ((⟨0, 0⟩ : Sound), false)
  else
    none
theorem w_inventory_Inv_Sound_zero {N : Nat} {p_symbol : Str}   {y : (Sound × Bool)} (h : m_inventory_Inv_Sound_zero N p_symbol = some y) :
    FunO S k_inventory_Inv_Sound [(.p (.ptr [nilS, (.v (.map none)), nilS, (.v (.map none)), (.v (.map none))])), (.p (.str p_symbol))] [] (.tup [(.p (.agg (c_Sound y.1))), (.p (.bb y.2))]) ([]) [] := by
  unfold m_inventory_Inv_Sound_zero at h
  refine K_start hS f_inventory_Inv_Sound ?_
  obtain ⟨y1, e1, h⟩ := bindE h
  refine K_call hS [] trivial (w_inventory_Inv_made_zero hS hL e1) ?_
  refine K_cond hS trivial (b := !y1) (fun c1 => ?_) (fun c1 => ?_)
  · replace h := itT c1 h
    obtain rfl := someI h
    exact K_ret hS trivial [] ⟨rfl, rfl, rfl⟩
  · replace h := itF c1 h
    cases h
def m_inventory_Inv_Symbol_zero (N : Nat) (p_s : Sound) : Option (Str × Bool) :=
  (m_inventory_Inv_made_zero N ).bind fun y1 =>
  if (!y1) = true then
    some ([], false)
  else
    none
theorem w_inventory_Inv_Symbol_zero {N : Nat} {p_s : Sound}   {y : (Str × Bool)} (h : m_inventory_Inv_Symbol_zero N p_s = some y) :
    FunO S k_inventory_Inv_Symbol [(.p (.ptr [nilS, (.v (.map none)), nilS, (.v (.map none)), (.v (.map none))])), (.p (.agg (c_Sound p_s)))] [] (.tup [(.p (.str y.1)), (.p (.bb y.2))]) ([]) [] := by
  unfold m_inventory_Inv_Symbol_zero at h
  refine K_start hS f_inventory_Inv_Symbol ?_
  obtain ⟨y1, e1, h⟩ := bindE h
  refine K_call hS [] trivial (w_inventory_Inv_made_zero hS hL e1) ?_
  refine K_cond hS trivial (b := !y1) (fun c1 => ?_) (fun c1 => ?_)
  · replace h := itT c1 h
    obtain rfl := someI h
    exact K_ret hS trivial [] ⟨rfl, rfl, rfl⟩
  · replace h := itF c1 h
    cases h
def m_inventory_Inv_Feat_zero (N : Nat) (p_name : Str) : Option (Int × Bool) :=
  (m_inventory_Inv_made_zero N ).bind fun y1 =>
  if (!y1) = true then
    some (0, false)
  else
    none
theorem w_inventory_Inv_Feat_zero {N : Nat} {p_name : Str}   {y : (Int × Bool)} (h : m_inventory_Inv_Feat_zero N p_name = some y) :
    FunO S k_inventory_Inv_Feat [(.p (.ptr [nilS, (.v (.map none)), nilS, (.v (.map none)), (.v (.map none))])), (.p (.str p_name))] [] (.tup [(.p (pI .i64 y.1)), (.p (.bb y.2))]) ([]) [] := by
  unfold m_inventory_Inv_Feat_zero at h
  refine K_start hS f_inventory_Inv_Feat ?_
  obtain ⟨y1, e1, h⟩ := bindE h
  refine K_call hS [] trivial (w_inventory_Inv_made_zero hS hL e1) ?_
  refine K_cond hS trivial (b := !y1) (fun c1 => ?_) (fun c1 => ?_)
  · replace h := itT c1 h
    obtain rfl := someI h
    exact K_ret hS trivial [] ⟨rfl, rfl, rfl⟩
  · replace h := itF c1 h
    cases h
def m_inventory_Inv_Feats_zero (N : Nat)  : Option (Sl Str) :=
  (m_inventory_Inv_made_zero N ).bind fun y1 =>
  if (!y1) = true then
    some (Sl.nil : Sl Str)
  else
    (m_slices_Clone_sl_string_string N (Sl.nil : Sl Str)).bind fun y2 =>
    some y2
theorem w_inventory_Inv_Feats_zero {N : Nat}    {y : (Sl Str)} (h : m_inventory_Inv_Feats_zero N  = some y) :
    FunO S k_inventory_Inv_Feats [(.p (.ptr [nilS, (.v (.map none)), nilS, (.v (.map none)), (.v (.map none))]))] [] (.vec 0) ([(.vec t_string 1 y.n (fun i => cS (y.g i)) true)]) [] := by
  unfold m_inventory_Inv_Feats_zero at h
  refine K_start hS f_inventory_Inv_Feats ?_
  obtain ⟨y1, e1, h⟩ := bindE h
  refine K_call hS [] trivial (w_inventory_Inv_made_zero hS hL e1) ?_
  refine K_cond hS trivial (b := !y1) (fun c1 => ?_) (fun c1 => ?_)
  · replace h := itT c1 h
    obtain rfl := someI h
    exact K_retO hS trivial ⟨[(2, (.vec 3700))], [(3700, (.vec t_string 1 (Sl.nil : Sl Str).n (fun i => cS ((Sl.nil : Sl Str).g i)) true))]⟩ [3700] (ids := []) ⟨rfl, rfl, rfl⟩
  · replace h := itF c1 h
    refine K_weak hS trivial ⟨[(9, (.p (vSl 1 cS (Sl.nil : Sl Str))))], []⟩ (ids := []) ?_
    obtain ⟨y2, e2, h⟩ := bindE h
    refine K_call hS [] trivial (w_slices_Clone_sl_string_string hS hL e2) ?_
    obtain rfl := someI h
    exact K_retO hS trivial ⟨[(2, (.vec 11000))], [(11000, (.vec t_string 1 y2.n (fun i => cS (y2.g i)) true))]⟩ [11000] (ids := [(11000, 11000)]) ⟨rfl, rfl, rfl⟩
def m_inventory_Inv_Sounds_zero (N : Nat)  : Option (Sl Named) :=
  (m_inventory_Inv_made_zero N ).bind fun y1 =>
  if (!y1) = true then
    some (Sl.nil : Sl Named)
  else
    (m_slices_Clone_sl_api_Named_api_Named N (Sl.nil : Sl Named)).bind fun y2 =>
    some y2
theorem w_inventory_Inv_Sounds_zero {N : Nat}    {y : (Sl Named)} (h : m_inventory_Inv_Sounds_zero N  = some y) :
    FunO S k_inventory_Inv_Sounds [(.p (.ptr [nilS, (.v (.map none)), nilS, (.v (.map none)), (.v (.map none))]))] [] (.vec 0) ([(.vec t_api_Named 3 y.n (fun i => c_Named (y.g i)) true)]) [] := by
  unfold m_inventory_Inv_Sounds_zero at h
  refine K_start hS f_inventory_Inv_Sounds ?_
  obtain ⟨y1, e1, h⟩ := bindE h
  refine K_call hS [] trivial (w_inventory_Inv_made_zero hS hL e1) ?_
  refine K_cond hS trivial (b := !y1) (fun c1 => ?_) (fun c1 => ?_)
  · replace h := itT c1 h
    obtain rfl := someI h
    exact K_retO hS trivial ⟨[(2, (.vec 3700))], [(3700, (.vec t_api_Named 3 (Sl.nil : Sl Named).n (fun i => c_Named ((Sl.nil : Sl Named).g i)) true))]⟩ [3700] (ids := []) ⟨rfl, rfl, rfl⟩
  · replace h := itF c1 h
    refine K_weak hS trivial ⟨[(9, (.p (vSl 3 c_Named (Sl.nil : Sl Named))))], []⟩ (ids := []) ?_
    obtain ⟨y2, e2, h⟩ := bindE h
    refine K_call hS [] trivial (w_slices_Clone_sl_api_Named_api_Named hS hL e2) ?_
    obtain rfl := someI h
    exact K_retO hS trivial ⟨[(2, (.vec 11000))], [(11000, (.vec t_api_Named 3 y2.n (fun i => c_Named (y2.g i)) true))]⟩ [11000] (ids := [(11000, 11000)]) ⟨rfl, rfl, rfl⟩
def m_inventory_Inv_Len_zero (N : Nat)  : Option Int :=
  (m_inventory_Inv_made_zero N ).bind fun y1 =>
  if (!y1) = true then
    some 0
  else
    some 0
theorem w_inventory_Inv_Len_zero {N : Nat}    {y : Int} (h : m_inventory_Inv_Len_zero N  = some y) :
    FunO S k_inventory_Inv_Len [(.p (.ptr [nilS, (.v (.map none)), nilS, (.v (.map none)), (.v (.map none))]))] [] (.p (pI .i64 y)) ([]) [] := by
  unfold m_inventory_Inv_Len_zero at h
  refine K_start hS f_inventory_Inv_Len ?_
  obtain ⟨y1, e1, h⟩ := bindE h
  refine K_call hS [] trivial (w_inventory_Inv_made_zero hS hL e1) ?_
  refine K_cond hS trivial (b := !y1) (fun c1 => ?_) (fun c1 => ?_)
  · replace h := itT c1 h
    obtain rfl := someI h
    exact K_ret hS trivial [] ⟨rfl, rfl, rfl⟩
  · replace h := itF c1 h
    obtain rfl := someI h
    exact K_ret hS trivial [] ⟨rfl, rfl, rfl⟩
def m_inventory_Inv_Longest_zero (N : Nat) (p_text : Str) : Option (Str × Bool) :=
  (m_inventory_Inv_made_zero N ).bind fun y1 =>
  if (!y1) = true then
    some ([], false)
  else
    fix1 N (fun self1 (x1 : Int) =>
        if (decide (x1 < 4)) = true then
          if (decide (((p_text.length : Nat) : Int) < (IntKind.wrap .i64 (4 - x1)))) = true then
            self1 (IntKind.wrap .i64 (x1 + 1))
          else
            none
        else
          some ([], false)
      ) 0
theorem w_inventory_Inv_Longest_zero {N : Nat} {p_text : Str}   {y : (Str × Bool)} (h : m_inventory_Inv_Longest_zero N p_text = some y) :
    FunO S k_inventory_Inv_Longest [(.p (.ptr [nilS, (.v (.map none)), nilS, (.v (.map none)), (.v (.map none))])), (.p (.str p_text))] [] (.tup [(.p (.str y.1)), (.p (.bb y.2))]) ([]) [] := by
  unfold m_inventory_Inv_Longest_zero at h
  refine K_start hS f_inventory_Inv_Longest ?_
  obtain ⟨y1, e1, h⟩ := bindE h
  refine K_call hS [] trivial (w_inventory_Inv_made_zero hS hL e1) ?_
  refine K_cond hS trivial (b := !y1) (fun c1 => ?_) (fun c1 => ?_)
  · replace h := itT c1 h
    obtain rfl := someI h
    exact K_ret hS trivial [] ⟨rfl, rfl, rfl⟩
  · replace h := itF c1 h
    refine K_fix1 hS trivial h (fun x1 => ⟨[(13, (.p (pI .i64 x1))), (1, (.p (.str p_text))), (0, (.p (.ptr [nilS, (.v (.map none)), nilS, (.v (.map none)), (.v (.map none))])))], []⟩) (ids := []) (fun _ _ _ _ _ self1 x1 hb1 h => ?_)
    refine K_cond hS trivial (b := decide (x1 < 4)) (fun c6 => ?_) (fun c6 => ?_)
    · replace h := itT c6 h
      refine K_cond hS trivial (b := decide (((p_text.length : Nat) : Int) < (IntKind.wrap .i64 (4 - x1)))) (fun c7 => ?_) (fun c7 => ?_)
      · replace h := itT c7 h
        exact hb1 _ [] _ (IntKind.wrap .i64 (x1 + 1)) trivial h
      · replace h := itF c7 h
        cases h
    · replace h := itF c6 h
      obtain rfl := someI h
      exact K_ret hS trivial [] ⟨rfl, rfl, rfl⟩
def m_inventory_Inv_Add_zero (N : Nat) (p_symbol : Str) (p_s : Sound) : Option Int :=
  (m_inventory_Inv_made_zero N ).bind fun y1 =>
  if (!y1) = true then
    some 1
  else
    (m_inventory_consists N p_symbol 4 (fun (u1 : Int) => m_inventory_Inv_Add_1 N u1)).bind fun y2 =>
    if (!y2) = true then
      some 15
    else
      none
theorem w_inventory_Inv_Add_zero {N : Nat} {p_symbol : Str} {p_s : Sound}   {y : Int} (h : m_inventory_Inv_Add_zero N p_symbol p_s = some y) :
    FunO S k_inventory_Inv_Add [(.p (.ptr [nilS, (.v (.map none)), nilS, (.v (.map none)), (.v (.map none))])), (.p (.str p_symbol)), (.p (.agg (c_Sound p_s)))] [] (.p (pI .i64 y)) ([]) [] := by
  unfold m_inventory_Inv_Add_zero at h
  refine K_start hS f_inventory_Inv_Add ?_
  obtain ⟨y1, e1, h⟩ := bindE h
  refine K_call hS [] trivial (w_inventory_Inv_made_zero hS hL e1) ?_
  refine K_cond hS trivial (b := !y1) (fun c1 => ?_) (fun c1 => ?_)
  · replace h := itT c1 h
    obtain rfl := someI h
    exact K_ret hS trivial [] ⟨rfl, rfl, rfl⟩
  · replace h := itF c1 h
    obtain ⟨y2, e2, h⟩ := bindE h
    refine K_call hS [] trivial (w_inventory_consists hS hL (fun e => w_inventory_Inv_Add_1 hS hL e) e2) ?_
    refine K_cond hS trivial (b := !y2) (fun c2 => ?_) (fun c2 => ?_)
    · replace h := itT c2 h
      obtain rfl := someI h
      exact K_ret hS trivial [] ⟨rfl, rfl, rfl⟩
    · replace h := itF c2 h
      cases h
def m_inventory_Inv_Copy_zero (N : Nat)  : Option Unit :=
  (m_inventory_Inv_made_zero N ).bind fun y1 =>
  if (!y1) = true then
    some ()
  else
    none
theorem w_inventory_Inv_Copy_zero {N : Nat}    {y : Unit} (h : m_inventory_Inv_Copy_zero N  = some y) :
    FunO S k_inventory_Inv_Copy [(.p (.ptr [nilS, (.v (.map none)), nilS, (.v (.map none)), (.v (.map none))]))] [] (.p nilP) ([]) [] := by
  unfold m_inventory_Inv_Copy_zero at h
  refine K_start hS f_inventory_Inv_Copy ?_
  obtain ⟨y1, e1, h⟩ := bindE h
  refine K_call hS [] trivial (w_inventory_Inv_made_zero hS hL e1) ?_
  refine K_cond hS trivial (b := !y1) (fun c1 => ?_) (fun c1 => ?_)
  · replace h := itT c1 h
    obtain rfl := someI h
    exact K_retO hS trivial ⟨[(2, (.p nilP))], []⟩ [] (ids := []) ⟨rfl, rfl, rfl⟩
  · replace h := itF c1 h
    cases h
def m_inventory_Inv_Bundle_zero (N : Nat) (p_text : Str) : Option (Sound × Int) :=
  (m_inventory_Inv_made_zero N ).bind fun y1 =>
  if (!y1) = true then
    some ((⟨0, 0⟩ : Sound), 1)
  else
    if ((p_text == []) != false) = true then
      some ((⟨0, 0⟩ : Sound), 0)
    else
      none
theorem w_inventory_Inv_Bundle_zero {N : Nat} {p_text : Str}   {y : (Sound × Int)} (h : m_inventory_Inv_Bundle_zero N p_text = some y) :
    FunO S k_inventory_Inv_Bundle [(.p (.ptr [nilS, (.v (.map none)), nilS, (.v (.map none)), (.v (.map none))])), (.p (.str p_text))] [] (.tup [(.p (.agg (c_Sound y.1))), (.p (pI .i64 y.2))]) ([]) [] := by
  unfold m_inventory_Inv_Bundle_zero at h
  refine K_start hS f_inventory_Inv_Bundle ?_
  obtain ⟨y1, e1, h⟩ := bindE h
  refine K_call hS [] trivial (w_inventory_Inv_made_zero hS hL e1) ?_
  refine K_cond hS trivial (b := !y1) (fun c1 => ?_) (fun c1 => ?_)
  · replace h := itT c1 h
    obtain rfl := someI h
    exact K_ret hS trivial [] ⟨rfl, rfl, rfl⟩
  · replace h := itF c1 h
    refine K_cond hS trivial (b := ((p_text == []) != false)) (fun c2 => ?_) (fun c2 => ?_)
    · replace h := itT c2 h
      obtain rfl := someI h
      exact K_ret hS trivial [] ⟨rfl, rfl, rfl⟩
    · replace h := itF c2 h
      cases h
def m_inventory_Inv_Text_zero (N : Nat) (p_s : Sound) : Option (Str × Int) :=
  (m_inventory_Inv_made_zero N ).bind fun y1 =>
  if (!y1) = true then
    some ([], 1)
  else
    none
theorem w_inventory_Inv_Text_zero {N : Nat} {p_s : Sound}   {y : (Str × Int)} (h : m_inventory_Inv_Text_zero N p_s = some y) :
    FunO S k_inventory_Inv_Text [(.p (.ptr [nilS, (.v (.map none)), nilS, (.v (.map none)), (.v (.map none))])), (.p (.agg (c_Sound p_s)))] [] (.tup [(.p (.str y.1)), (.p (pI .i64 y.2))]) ([]) [] := by
  unfold m_inventory_Inv_Text_zero at h
  refine K_start hS f_inventory_Inv_Text ?_
  obtain ⟨y1, e1, h⟩ := bindE h
  refine K_call hS [] trivial (w_inventory_Inv_made_zero hS hL e1) ?_
  refine K_cond hS trivial (b := !y1) (fun c1 => ?_) (fun c1 => ?_)
  · replace h := itT c1 h
    obtain rfl := someI h
    exact K_ret hS trivial [] ⟨rfl, rfl, rfl⟩
  · replace h := itF c1 h
    cases h
def m_ablautlaw03_InventoryNil (N : Nat) (p_symbol : Str) (p_s : Sound) : Option Bool :=
  if (decide (1000 < ((p_symbol.length : Nat) : Int))) = true then
    (m_ablautlaw03_works N ).bind fun y1 =>
    some y1
  else
    (m_inventory_Inv_Sound_nil N p_symbol).bind fun y48 =>
    (m_inventory_Inv_Symbol_nil N p_s).bind fun y49 =>
    (m_inventory_Inv_Feat_nil N p_symbol).bind fun y50 =>
    (m_inventory_Inv_Longest_nil N p_symbol).bind fun y51 =>
    (m_inventory_Inv_Bundle_nil N p_symbol).bind fun y52 =>
    (m_inventory_Inv_Text_nil N p_s).bind fun y53 =>
    if ((((((((((((((y48.1.Plus == 0) && (y48.1.Minus == 0)) != true) || y48.2) || ((y49.1 == []) != true)) || y49.2) || (y50.1 != 0)) || y50.2) || ((y51.1 == []) != true)) || y51.2) || (((y52.1.Plus == 0) && (y52.1.Minus == 0)) != true)) || (y52.2 != 1)) || ((y53.1 == []) != true)) || (y53.2 != 1)) = true then
      some false
    else
      (m_inventory_Inv_Add_nil N p_symbol p_s).bind fun y54 =>
      lt (fun (z4 : Bool) =>
          if z4 = true then
            some false
          else
            (m_inventory_Inv_Sound_zero N p_symbol).bind fun y33 =>
            (m_inventory_Inv_Symbol_zero N p_s).bind fun y34 =>
            (m_inventory_Inv_Feat_zero N p_symbol).bind fun y35 =>
            (m_inventory_Inv_Longest_zero N p_symbol).bind fun y36 =>
            (m_inventory_Inv_Bundle_zero N p_symbol).bind fun y37 =>
            (m_inventory_Inv_Text_zero N p_s).bind fun y38 =>
            if ((((((((((((((y33.1.Plus == 0) && (y33.1.Minus == 0)) != true) || y33.2) || ((y34.1 == []) != true)) || y34.2) || (y35.1 != 0)) || y35.2) || ((y36.1 == []) != true)) || y36.2) || (((y37.1.Plus == 0) && (y37.1.Minus == 0)) != true)) || (y37.2 != 1)) || ((y38.1 == []) != true)) || (y38.2 != 1)) = true then
              some false
            else
              (m_inventory_Inv_Add_zero N p_symbol p_s).bind fun y39 =>
              lt (fun (z3 : Bool) =>
                  if z3 = true then
                    some false
                  else
                    (m_ablautlaw03_works N ).bind fun y32 =>
                    some y32
                ) fun k3 =>
                if (y39 != 1) = true then
                  k3 true
                else
                  (m_inventory_Inv_Len_zero N ).bind fun y44 =>
                  if (y44 != 0) = true then
                    k3 true
                  else
                    (m_inventory_Inv_Feats_zero N ).bind fun y45 =>
                    if (((y45.n : Nat) : Int) != 0) = true then
                      k3 true
                    else
                      (m_inventory_Inv_Sounds_zero N ).bind fun y46 =>
                      if (((y46.n : Nat) : Int) != 0) = true then
                        k3 true
                      else
                        (m_inventory_Inv_Copy_zero N ).bind fun y47 =>
                        k3 false
        ) fun k4 =>
        if (y54 != 1) = true then
          k4 true
        else
          (m_inventory_Inv_Len_nil N ).bind fun y59 =>
          if (y59 != 0) = true then
            k4 true
          else
            (m_inventory_Inv_Feats_nil N ).bind fun y60 =>
            if (((y60.n : Nat) : Int) != 0) = true then
              k4 true
            else
              (m_inventory_Inv_Sounds_nil N ).bind fun y61 =>
              if (((y61.n : Nat) : Int) != 0) = true then
                k4 true
              else
                (m_inventory_Inv_Copy_nil N ).bind fun y62 =>
                k4 false
theorem w_ablautlaw03_InventoryNil {N : Nat} {p_symbol : Str} {p_s : Sound}   {y : Bool} (h : m_ablautlaw03_InventoryNil N p_symbol p_s = some y) :
    FunO S k_ablautlaw03_InventoryNil [(.p (.str p_symbol)), (.p (.agg (c_Sound p_s)))] [] (.p (.bb y)) ([]) [] := by
  unfold m_ablautlaw03_InventoryNil at h
  refine K_start hS f_ablautlaw03_InventoryNil ?_
  refine K_cond hS trivial (b := decide (1000 < ((p_symbol.length : Nat) : Int))) (fun c1 => ?_) (fun c1 => ?_)
  · replace h := itT c1 h
    obtain ⟨y1, e1, h⟩ := bindE h
    refine K_call hS [] trivial (w_ablautlaw03_works hS hL e1) ?_
    obtain rfl := someI h
    exact K_ret hS trivial [] ⟨rfl, rfl, rfl⟩
  · replace h := itF c1 h
    refine K_frzO hS trivial 27000 [nilS, (.v (.map none)), nilS, (.v (.map none)), (.v (.map none))] ?_
    refine K_unroll hS (rfl : true = true) 2 (unrT [fun t => t = ⟨[(29, (.p (pI .i64 0))), (28, (.p (pI .i64 2))), (27, (.vec 28000)), (3, (.reg 4000 0)), (0, (.p (.str p_symbol)))], [(28000, (.vec t_inventory_Inv 1 2 (lookF [nilP] [(0, [nilP]), (1, [(.ptr [nilS, (.v (.map none)), nilS, (.v (.map none)), (.v (.map none))])])]) false)), (4000, (.cells [(.p (pI .u32 p_s.Plus)), (.p (pI .u32 p_s.Minus))]))]⟩ ∧ (
          (m_inventory_Inv_Sound_nil N p_symbol).bind fun y48 =>
          (m_inventory_Inv_Symbol_nil N p_s).bind fun y49 =>
          (m_inventory_Inv_Feat_nil N p_symbol).bind fun y50 =>
          (m_inventory_Inv_Longest_nil N p_symbol).bind fun y51 =>
          (m_inventory_Inv_Bundle_nil N p_symbol).bind fun y52 =>
          (m_inventory_Inv_Text_nil N p_s).bind fun y53 =>
          if ((((((((((((((y48.1.Plus == 0) && (y48.1.Minus == 0)) != true) || y48.2) || ((y49.1 == []) != true)) || y49.2) || (y50.1 != 0)) || y50.2) || ((y51.1 == []) != true)) || y51.2) || (((y52.1.Plus == 0) && (y52.1.Minus == 0)) != true)) || (y52.2 != 1)) || ((y53.1 == []) != true)) || (y53.2 != 1)) = true then
            some false
          else
            (m_inventory_Inv_Add_nil N p_symbol p_s).bind fun y54 =>
            lt (fun (z4 : Bool) =>
                if z4 = true then
                  some false
                else
                  (m_inventory_Inv_Sound_zero N p_symbol).bind fun y33 =>
                  (m_inventory_Inv_Symbol_zero N p_s).bind fun y34 =>
                  (m_inventory_Inv_Feat_zero N p_symbol).bind fun y35 =>
                  (m_inventory_Inv_Longest_zero N p_symbol).bind fun y36 =>
                  (m_inventory_Inv_Bundle_zero N p_symbol).bind fun y37 =>
                  (m_inventory_Inv_Text_zero N p_s).bind fun y38 =>
                  if ((((((((((((((y33.1.Plus == 0) && (y33.1.Minus == 0)) != true) || y33.2) || ((y34.1 == []) != true)) || y34.2) || (y35.1 != 0)) || y35.2) || ((y36.1 == []) != true)) || y36.2) || (((y37.1.Plus == 0) && (y37.1.Minus == 0)) != true)) || (y37.2 != 1)) || ((y38.1 == []) != true)) || (y38.2 != 1)) = true then
                    some false
                  else
                    (m_inventory_Inv_Add_zero N p_symbol p_s).bind fun y39 =>
                    lt (fun (z3 : Bool) =>
                        if z3 = true then
                          some false
                        else
                          (m_ablautlaw03_works N ).bind fun y32 =>
                          some y32
                      ) fun k3 =>
                      if (y39 != 1) = true then
                        k3 true
                      else
                        (m_inventory_Inv_Len_zero N ).bind fun y44 =>
                        if (y44 != 0) = true then
                          k3 true
                        else
                          (m_inventory_Inv_Feats_zero N ).bind fun y45 =>
                          if (((y45.n : Nat) : Int) != 0) = true then
                            k3 true
                          else
                            (m_inventory_Inv_Sounds_zero N ).bind fun y46 =>
                            if (((y46.n : Nat) : Int) != 0) = true then
                              k3 true
                            else
                              (m_inventory_Inv_Copy_zero N ).bind fun y47 =>
                              k3 false
              ) fun k4 =>
              if (y54 != 1) = true then
                k4 true
              else
                (m_inventory_Inv_Len_nil N ).bind fun y59 =>
                if (y59 != 0) = true then
                  k4 true
                else
                  (m_inventory_Inv_Feats_nil N ).bind fun y60 =>
                  if (((y60.n : Nat) : Int) != 0) = true then
                    k4 true
                  else
                    (m_inventory_Inv_Sounds_nil N ).bind fun y61 =>
                    if (((y61.n : Nat) : Int) != 0) = true then
                      k4 true
                    else
                      (m_inventory_Inv_Copy_nil N ).bind fun y62 =>
                      k4 false
        ) = some y, fun t => t = ⟨[(29, (.p (pI .i64 1))), (28, (.p (pI .i64 2))), (27, (.vec 28000)), (3, (.reg 4000 0)), (0, (.p (.str p_symbol)))], [(28000, (.vec t_inventory_Inv 1 2 (lookF [nilP] [(0, [nilP]), (1, [(.ptr [nilS, (.v (.map none)), nilS, (.v (.map none)), (.v (.map none))])])]) false)), (4000, (.cells [(.p (pI .u32 p_s.Plus)), (.p (pI .u32 p_s.Minus))]))]⟩ ∧ (
          (m_inventory_Inv_Sound_zero N p_symbol).bind fun y33 =>
          (m_inventory_Inv_Symbol_zero N p_s).bind fun y34 =>
          (m_inventory_Inv_Feat_zero N p_symbol).bind fun y35 =>
          (m_inventory_Inv_Longest_zero N p_symbol).bind fun y36 =>
          (m_inventory_Inv_Bundle_zero N p_symbol).bind fun y37 =>
          (m_inventory_Inv_Text_zero N p_s).bind fun y38 =>
          if ((((((((((((((y33.1.Plus == 0) && (y33.1.Minus == 0)) != true) || y33.2) || ((y34.1 == []) != true)) || y34.2) || (y35.1 != 0)) || y35.2) || ((y36.1 == []) != true)) || y36.2) || (((y37.1.Plus == 0) && (y37.1.Minus == 0)) != true)) || (y37.2 != 1)) || ((y38.1 == []) != true)) || (y38.2 != 1)) = true then
            some false
          else
            (m_inventory_Inv_Add_zero N p_symbol p_s).bind fun y39 =>
            lt (fun (z3 : Bool) =>
                if z3 = true then
                  some false
                else
                  (m_ablautlaw03_works N ).bind fun y32 =>
                  some y32
              ) fun k3 =>
              if (y39 != 1) = true then
                k3 true
              else
                (m_inventory_Inv_Len_zero N ).bind fun y44 =>
                if (y44 != 0) = true then
                  k3 true
                else
                  (m_inventory_Inv_Feats_zero N ).bind fun y45 =>
                  if (((y45.n : Nat) : Int) != 0) = true then
                    k3 true
                  else
                    (m_inventory_Inv_Sounds_zero N ).bind fun y46 =>
                    if (((y46.n : Nat) : Int) != 0) = true then
                      k3 true
                    else
                      (m_inventory_Inv_Copy_zero N ).bind fun y47 =>
                      k3 false
        ) = some y, fun t => t = ⟨[(29, (.p (pI .i64 2))), (28, (.p (pI .i64 2))), (27, (.vec 28000)), (3, (.reg 4000 0)), (0, (.p (.str p_symbol)))], [(28000, (.vec t_inventory_Inv 1 2 (lookF [nilP] [(0, [nilP]), (1, [(.ptr [nilS, (.v (.map none)), nilS, (.v (.map none)), (.v (.map none))])])]) false)), (4000, (.cells [(.p (pI .u32 p_s.Plus)), (.p (pI .u32 p_s.Minus))]))]⟩ ∧ (
          (m_ablautlaw03_works N ).bind fun y32 =>
          some y32
        ) = some y]) ⟨[(29, (.p (pI .i64 0))), (28, (.p (pI .i64 2))), (27, (.vec 28000)), (3, (.reg 4000 0)), (0, (.p (.str p_symbol)))], [(28000, (.vec t_inventory_Inv 1 2 (lookF [nilP] [(0, [nilP]), (1, [(.ptr [nilS, (.v (.map none)), nilS, (.v (.map none)), (.v (.map none))])])]) false)), (4000, (.cells [(.p (pI .u32 p_s.Plus)), (.p (pI .u32 p_s.Minus))]))]⟩ (ids := [(4000, 4000), (28000, 28000)]) ⟨rfl, h⟩ (fun _ _ _ _ i _ t hi ht hb5 => ?_)
    rcases i with _ | _ | _ | i
    · obtain ⟨rfl, h⟩ := ht
      refine K_cond hS trivial (b := decide ((0 : Int) < 2)) (fun c106 => ?_) (fun c106 => ?_)
      · obtain ⟨y48, e48, h⟩ := bindE h
        refine K_call hS [] (And.intro (by decide : (0 : Int) ≤ 0 ∧ (0 : Int) < ((2 : Nat) : Int)) (by decide : (0 : Nat) < 2)) (w_inventory_Inv_Sound_nil hS hL e48) ?_
        obtain ⟨y49, e49, h⟩ := bindE h
        refine K_call hS [] trivial (w_inventory_Inv_Symbol_nil hS hL e49) ?_
        obtain ⟨y50, e50, h⟩ := bindE h
        refine K_call hS [] trivial (w_inventory_Inv_Feat_nil hS hL e50) ?_
        obtain ⟨y51, e51, h⟩ := bindE h
        refine K_call hS [] trivial (w_inventory_Inv_Longest_nil hS hL e51) ?_
        obtain ⟨y52, e52, h⟩ := bindE h
        refine K_call hS [] trivial (w_inventory_Inv_Bundle_nil hS hL e52) ?_
        obtain ⟨y53, e53, h⟩ := bindE h
        refine K_call hS [] trivial (w_inventory_Inv_Text_nil hS hL e53) ?_
        obtain ⟨t4, ht4⟩ : ∃ x : Bool, x = ((((((((((((((y48.1.Plus == 0) && (y48.1.Minus == 0)) != true) || y48.2) || ((y49.1 == []) != true)) || y49.2) || (y50.1 != 0)) || y50.2) || ((y51.1 == []) != true)) || y51.2) || (((y52.1.Plus == 0) && (y52.1.Minus == 0)) != true)) || (y52.2 != 1)) || ((y53.1 == []) != true)) || (y53.2 != 1)) := ⟨_, rfl⟩
        refine K_cut hS (by decide +kernel : eqOk Tryd.prog t_api_Sound = true) (fnPost_up hS) 0 ⟨[(112, (.p (.bb t4))), (29, (.p (pI .i64 0))), (28, (.p (pI .i64 2))), (27, (.vec 28000)), (7, (.p nilP)), (3, (.reg 4000 0)), (0, (.p (.str p_symbol)))], [(28000, (.vec t_inventory_Inv 1 2 (lookF [nilP] [(0, [nilP]), (1, [(.ptr [nilS, (.v (.map none)), nilS, (.v (.map none)), (.v (.map none))])])]) false)), (4000, (.cells [(.p (pI .u32 p_s.Plus)), (.p (pI .u32 p_s.Minus))]))]⟩ (fun M7 hb8 => ?_) ?_
        · refine K_guard hS trivial (b := (((y48.1.Plus == 0) && (y48.1.Minus == 0)) != true)) (fun c118 => ?_) (fun c118 => ?_)
          · exact hb8 _ [(4000, 4000), (28000, 28000)] _ trivial (by kernel_rfl) (by kernel_rfl) (klR [(0, .eq (.bb true) (.bb t4))] (al1 (by simp only [ht4, c118, Leaf.ok, pm, if_true, if_false]) al0))
          · refine K_guard hS trivial (b := y48.2) (fun c119 => ?_) (fun c119 => ?_)
            · exact hb8 _ [(4000, 4000), (28000, 28000)] _ trivial (by kernel_rfl) (by kernel_rfl) (klR [(0, .eq (.bb true) (.bb t4))] (al1 (by simp only [ht4, c118, c119, Leaf.ok, pm, if_true, if_false]) al0))
            · refine K_guard hS trivial (b := ((y49.1 == []) != true)) (fun c120 => ?_) (fun c120 => ?_)
              · exact hb8 _ [(4000, 4000), (28000, 28000)] _ trivial (by kernel_rfl) (by kernel_rfl) (klR [(0, .eq (.bb true) (.bb t4))] (al1 (by simp only [ht4, c118, c119, c120, Leaf.ok, pm, if_true, if_false]) al0))
              · refine K_guard hS trivial (b := y49.2) (fun c121 => ?_) (fun c121 => ?_)
                · exact hb8 _ [(4000, 4000), (28000, 28000)] _ trivial (by kernel_rfl) (by kernel_rfl) (klR [(0, .eq (.bb true) (.bb t4))] (al1 (by simp only [ht4, c118, c119, c120, c121, Leaf.ok, pm, if_true, if_false]) al0))
                · refine K_guard hS trivial (b := y50.1 != 0) (fun c122 => ?_) (fun c122 => ?_)
                  · exact hb8 _ [(4000, 4000), (28000, 28000)] _ trivial (by kernel_rfl) (by kernel_rfl) (klR [(0, .eq (.bb true) (.bb t4))] (al1 (by simp only [ht4, c118, c119, c120, c121, c122, Leaf.ok, pm, if_true, if_false]) al0))
                  · refine K_guard hS trivial (b := y50.2) (fun c123 => ?_) (fun c123 => ?_)
                    · exact hb8 _ [(4000, 4000), (28000, 28000)] _ trivial (by kernel_rfl) (by kernel_rfl) (klR [(0, .eq (.bb true) (.bb t4))] (al1 (by simp only [ht4, c118, c119, c120, c121, c122, c123, Leaf.ok, pm, if_true, if_false]) al0))
                    · refine K_guard hS trivial (b := ((y51.1 == []) != true)) (fun c124 => ?_) (fun c124 => ?_)
                      · exact hb8 _ [(4000, 4000), (28000, 28000)] _ trivial (by kernel_rfl) (by kernel_rfl) (klR [(0, .eq (.bb true) (.bb t4))] (al1 (by simp only [ht4, c118, c119, c120, c121, c122, c123, c124, Leaf.ok, pm, if_true, if_false]) al0))
                      · refine K_guard hS trivial (b := y51.2) (fun c125 => ?_) (fun c125 => ?_)
                        · exact hb8 _ [(4000, 4000), (28000, 28000)] _ trivial (by kernel_rfl) (by kernel_rfl) (klR [(0, .eq (.bb true) (.bb t4))] (al1 (by simp only [ht4, c118, c119, c120, c121, c122, c123, c124, c125, Leaf.ok, pm, if_true, if_false]) al0))
                        · refine K_guard hS (by decide +kernel : eqOk Tryd.prog t_api_Sound = true) (b := (((y52.1.Plus == 0) && (y52.1.Minus == 0)) != true)) (fun c126 => ?_) (fun c126 => ?_)
                          · exact hb8 _ [(4000, 4000), (28000, 28000)] _ trivial (by kernel_rfl) (by kernel_rfl) (klR [(0, .eq (.bb true) (.bb t4))] (al1 (by simp only [ht4, c118, c119, c120, c121, c122, c123, c124, c125, c126, Leaf.ok, pm, if_true, if_false]) al0))
                          · refine K_guard hS trivial (b := y52.2 != 1) (fun c127 => ?_) (fun c127 => ?_)
                            · exact hb8 _ [(4000, 4000), (28000, 28000)] _ trivial (by kernel_rfl) (by kernel_rfl) (klR [(0, .eq (.bb true) (.bb t4))] (al1 (by simp only [ht4, c118, c119, c120, c121, c122, c123, c124, c125, c126, c127, Leaf.ok, pm, if_true, if_false]) al0))
                            · refine K_guard hS trivial (b := ((y53.1 == []) != true)) (fun c128 => ?_) (fun c128 => ?_)
                              · exact hb8 _ [(4000, 4000), (28000, 28000)] _ trivial (by kernel_rfl) (by kernel_rfl) (klR [(0, .eq (.bb true) (.bb t4))] (al1 (by simp only [ht4, c118, c119, c120, c121, c122, c123, c124, c125, c126, c127, c128, Leaf.ok, pm, if_true, if_false]) al0))
                              · exact hb8 _ [(4000, 4000), (28000, 28000)] _ trivial (by kernel_rfl) (by kernel_rfl) (klR [(0, .eq (.bb (y53.2 != 1)) (.bb t4))] (al1 (by simp only [ht4, c118, c119, c120, c121, c122, c123, c124, c125, c126, c127, c128, Leaf.ok, pm, if_true, if_false]) al0))
        · subst ht4
          refine K_cond hS trivial (b := ((((((((((((((y48.1.Plus == 0) && (y48.1.Minus == 0)) != true) || y48.2) || ((y49.1 == []) != true)) || y49.2) || (y50.1 != 0)) || y50.2) || ((y51.1 == []) != true)) || y51.2) || (((y52.1.Plus == 0) && (y52.1.Minus == 0)) != true)) || (y52.2 != 1)) || ((y53.1 == []) != true)) || (y53.2 != 1))) (fun c129 => ?_) (fun c129 => ?_)
          · replace h := itT c129 h
            obtain rfl := someI h
            exact K_ret hS trivial [] ⟨rfl, rfl, rfl⟩
          · replace h := itF c129 h
            obtain ⟨y54, e54, h⟩ := bindE h
            refine K_call hS [] trivial (w_inventory_Inv_Add_nil hS hL e54) ?_
            refine K_lt hS trivial (fnPost_up hS) h 0 (fun z4 => ⟨[(139, (.p (.bb z4))), (29, (.p (pI .i64 0))), (28, (.p (pI .i64 2))), (27, (.vec 28000)), (3, (.reg 4000 0)), (0, (.p (.str p_symbol)))], [(28000, (.vec t_inventory_Inv 1 2 (lookF [nilP] [(0, [nilP]), (1, [(.ptr [nilS, (.v (.map none)), nilS, (.v (.map none)), (.v (.map none))])])]) false)), (4000, (.cells [(.p (pI .u32 p_s.Plus)), (.p (pI .u32 p_s.Minus))]))]⟩) (fun M8 k4 hb9 h => ?_) (fun z4 h => ?_)
            · refine K_guard hS trivial (b := y54 != 1) (fun c135 => ?_) (fun c135 => ?_)
              · replace h := itT c135 h
                exact hb9 _ [(4000, 4000), (28000, 28000)] _ true trivial h
              · replace h := itF c135 h
                obtain ⟨y59, e59, h⟩ := bindE h
                refine K_call hS [] trivial (w_inventory_Inv_Len_nil hS hL e59) ?_
                refine K_guard hS trivial (b := y59 != 0) (fun c136 => ?_) (fun c136 => ?_)
                · replace h := itT c136 h
                  exact hb9 _ [(4000, 4000), (28000, 28000)] _ true trivial h
                · replace h := itF c136 h
                  obtain ⟨y60, e60, h⟩ := bindE h
                  refine K_call hS [] trivial (w_inventory_Inv_Feats_nil hS hL e60) ?_
                  refine K_guard hS trivial (b := ((y60.n : Nat) : Int) != 0) (fun c137 => ?_) (fun c137 => ?_)
                  · replace h := itT c137 h
                    exact hb9 _ [(4000, 4000), (28000, 28000)] _ true trivial h
                  · replace h := itF c137 h
                    obtain ⟨y61, e61, h⟩ := bindE h
                    refine K_call hS [] trivial (w_inventory_Inv_Sounds_nil hS hL e61) ?_
                    refine K_guard hS trivial (b := ((y61.n : Nat) : Int) != 0) (fun c138 => ?_) (fun c138 => ?_)
                    · replace h := itT c138 h
                      exact hb9 _ [(4000, 4000), (28000, 28000)] _ true trivial h
                    · replace h := itF c138 h
                      obtain ⟨y62, e62, h⟩ := bindE h
                      refine K_call hS [] trivial (w_inventory_Inv_Copy_nil hS hL e62) ?_
                      exact hb9 _ [(4000, 4000), (28000, 28000)] _ false trivial h
            · refine K_cond hS trivial (b := z4) (fun c139 => ?_) (fun c139 => ?_)
              · replace h := itT c139 h
                obtain rfl := someI h
                exact K_ret hS trivial [] ⟨rfl, rfl, rfl⟩
              · replace h := itF c139 h
                exact hb5 _ [(4000, 4000), (28000, 28000)] _ _ trivial rfl ⟨rfl, h⟩
      · exact Bool.noConfusion ((by decide : decide ((0 : Int) < 2) = true).symm.trans c106)
    · obtain ⟨rfl, h⟩ := ht
      refine K_cond hS trivial (b := decide ((1 : Int) < 2)) (fun c72 => ?_) (fun c72 => ?_)
      · obtain ⟨y33, e33, h⟩ := bindE h
        refine K_call hS [] (And.intro (by decide : (0 : Int) ≤ 1 ∧ (1 : Int) < ((2 : Nat) : Int)) (by decide : (1 : Nat) < 2)) (w_inventory_Inv_Sound_zero hS hL e33) ?_
        obtain ⟨y34, e34, h⟩ := bindE h
        refine K_call hS [] trivial (w_inventory_Inv_Symbol_zero hS hL e34) ?_
        obtain ⟨y35, e35, h⟩ := bindE h
        refine K_call hS [] trivial (w_inventory_Inv_Feat_zero hS hL e35) ?_
        obtain ⟨y36, e36, h⟩ := bindE h
        refine K_call hS [] trivial (w_inventory_Inv_Longest_zero hS hL e36) ?_
        obtain ⟨y37, e37, h⟩ := bindE h
        refine K_call hS [] trivial (w_inventory_Inv_Bundle_zero hS hL e37) ?_
        obtain ⟨y38, e38, h⟩ := bindE h
        refine K_call hS [] trivial (w_inventory_Inv_Text_zero hS hL e38) ?_
        obtain ⟨t3, ht3⟩ : ∃ x : Bool, x = ((((((((((((((y33.1.Plus == 0) && (y33.1.Minus == 0)) != true) || y33.2) || ((y34.1 == []) != true)) || y34.2) || (y35.1 != 0)) || y35.2) || ((y36.1 == []) != true)) || y36.2) || (((y37.1.Plus == 0) && (y37.1.Minus == 0)) != true)) || (y37.2 != 1)) || ((y38.1 == []) != true)) || (y38.2 != 1)) := ⟨_, rfl⟩
        refine K_cut hS (by decide +kernel : eqOk Tryd.prog t_api_Sound = true) (fnPost_up hS) 0 ⟨[(112, (.p (.bb t3))), (29, (.p (pI .i64 1))), (28, (.p (pI .i64 2))), (27, (.vec 28000)), (7, (.p (.ptr [nilS, (.v (.map none)), nilS, (.v (.map none)), (.v (.map none))]))), (3, (.reg 4000 0)), (0, (.p (.str p_symbol)))], [(28000, (.vec t_inventory_Inv 1 2 (lookF [nilP] [(0, [nilP]), (1, [(.ptr [nilS, (.v (.map none)), nilS, (.v (.map none)), (.v (.map none))])])]) false)), (4000, (.cells [(.p (pI .u32 p_s.Plus)), (.p (pI .u32 p_s.Minus))]))]⟩ (fun M5 hb6 => ?_) ?_
        · refine K_guard hS trivial (b := (((y33.1.Plus == 0) && (y33.1.Minus == 0)) != true)) (fun c84 => ?_) (fun c84 => ?_)
          · exact hb6 _ [(4000, 4000), (28000, 28000)] _ trivial (by kernel_rfl) (by kernel_rfl) (klR [(0, .eq (.bb true) (.bb t3))] (al1 (by simp only [ht3, c84, Leaf.ok, pm, if_true, if_false]) al0))
          · refine K_guard hS trivial (b := y33.2) (fun c85 => ?_) (fun c85 => ?_)
            · exact hb6 _ [(4000, 4000), (28000, 28000)] _ trivial (by kernel_rfl) (by kernel_rfl) (klR [(0, .eq (.bb true) (.bb t3))] (al1 (by simp only [ht3, c84, c85, Leaf.ok, pm, if_true, if_false]) al0))
            · refine K_guard hS trivial (b := ((y34.1 == []) != true)) (fun c86 => ?_) (fun c86 => ?_)
              · exact hb6 _ [(4000, 4000), (28000, 28000)] _ trivial (by kernel_rfl) (by kernel_rfl) (klR [(0, .eq (.bb true) (.bb t3))] (al1 (by simp only [ht3, c84, c85, c86, Leaf.ok, pm, if_true, if_false]) al0))
              · refine K_guard hS trivial (b := y34.2) (fun c87 => ?_) (fun c87 => ?_)
                · exact hb6 _ [(4000, 4000), (28000, 28000)] _ trivial (by kernel_rfl) (by kernel_rfl) (klR [(0, .eq (.bb true) (.bb t3))] (al1 (by simp only [ht3, c84, c85, c86, c87, Leaf.ok, pm, if_true, if_false]) al0))
                · refine K_guard hS trivial (b := y35.1 != 0) (fun c88 => ?_) (fun c88 => ?_)
                  · exact hb6 _ [(4000, 4000), (28000, 28000)] _ trivial (by kernel_rfl) (by kernel_rfl) (klR [(0, .eq (.bb true) (.bb t3))] (al1 (by simp only [ht3, c84, c85, c86, c87, c88, Leaf.ok, pm, if_true, if_false]) al0))
                  · refine K_guard hS trivial (b := y35.2) (fun c89 => ?_) (fun c89 => ?_)
                    · exact hb6 _ [(4000, 4000), (28000, 28000)] _ trivial (by kernel_rfl) (by kernel_rfl) (klR [(0, .eq (.bb true) (.bb t3))] (al1 (by simp only [ht3, c84, c85, c86, c87, c88, c89, Leaf.ok, pm, if_true, if_false]) al0))
                    · refine K_guard hS trivial (b := ((y36.1 == []) != true)) (fun c90 => ?_) (fun c90 => ?_)
                      · exact hb6 _ [(4000, 4000), (28000, 28000)] _ trivial (by kernel_rfl) (by kernel_rfl) (klR [(0, .eq (.bb true) (.bb t3))] (al1 (by simp only [ht3, c84, c85, c86, c87, c88, c89, c90, Leaf.ok, pm, if_true, if_false]) al0))
                      · refine K_guard hS trivial (b := y36.2) (fun c91 => ?_) (fun c91 => ?_)
                        · exact hb6 _ [(4000, 4000), (28000, 28000)] _ trivial (by kernel_rfl) (by kernel_rfl) (klR [(0, .eq (.bb true) (.bb t3))] (al1 (by simp only [ht3, c84, c85, c86, c87, c88, c89, c90, c91, Leaf.ok, pm, if_true, if_false]) al0))
                        · refine K_guard hS (by decide +kernel : eqOk Tryd.prog t_api_Sound = true) (b := (((y37.1.Plus == 0) && (y37.1.Minus == 0)) != true)) (fun c92 => ?_) (fun c92 => ?_)
                          · exact hb6 _ [(4000, 4000), (28000, 28000)] _ trivial (by kernel_rfl) (by kernel_rfl) (klR [(0, .eq (.bb true) (.bb t3))] (al1 (by simp only [ht3, c84, c85, c86, c87, c88, c89, c90, c91, c92, Leaf.ok, pm, if_true, if_false]) al0))
                          · refine K_guard hS trivial (b := y37.2 != 1) (fun c93 => ?_) (fun c93 => ?_)
                            · exact hb6 _ [(4000, 4000), (28000, 28000)] _ trivial (by kernel_rfl) (by kernel_rfl) (klR [(0, .eq (.bb true) (.bb t3))] (al1 (by simp only [ht3, c84, c85, c86, c87, c88, c89, c90, c91, c92, c93, Leaf.ok, pm, if_true, if_false]) al0))
                            · refine K_guard hS trivial (b := ((y38.1 == []) != true)) (fun c94 => ?_) (fun c94 => ?_)
                              · exact hb6 _ [(4000, 4000), (28000, 28000)] _ trivial (by kernel_rfl) (by kernel_rfl) (klR [(0, .eq (.bb true) (.bb t3))] (al1 (by simp only [ht3, c84, c85, c86, c87, c88, c89, c90, c91, c92, c93, c94, Leaf.ok, pm, if_true, if_false]) al0))
                              · exact hb6 _ [(4000, 4000), (28000, 28000)] _ trivial (by kernel_rfl) (by kernel_rfl) (klR [(0, .eq (.bb (y38.2 != 1)) (.bb t3))] (al1 (by simp only [ht3, c84, c85, c86, c87, c88, c89, c90, c91, c92, c93, c94, Leaf.ok, pm, if_true, if_false]) al0))
        · subst ht3
          refine K_cond hS trivial (b := ((((((((((((((y33.1.Plus == 0) && (y33.1.Minus == 0)) != true) || y33.2) || ((y34.1 == []) != true)) || y34.2) || (y35.1 != 0)) || y35.2) || ((y36.1 == []) != true)) || y36.2) || (((y37.1.Plus == 0) && (y37.1.Minus == 0)) != true)) || (y37.2 != 1)) || ((y38.1 == []) != true)) || (y38.2 != 1))) (fun c95 => ?_) (fun c95 => ?_)
          · replace h := itT c95 h
            obtain rfl := someI h
            exact K_ret hS trivial [] ⟨rfl, rfl, rfl⟩
          · replace h := itF c95 h
            obtain ⟨y39, e39, h⟩ := bindE h
            refine K_call hS [] trivial (w_inventory_Inv_Add_zero hS hL e39) ?_
            refine K_lt hS trivial (fnPost_up hS) h 0 (fun z3 => ⟨[(139, (.p (.bb z3))), (29, (.p (pI .i64 1))), (28, (.p (pI .i64 2))), (27, (.vec 28000)), (3, (.reg 4000 0)), (0, (.p (.str p_symbol)))], [(28000, (.vec t_inventory_Inv 1 2 (lookF [nilP] [(0, [nilP]), (1, [(.ptr [nilS, (.v (.map none)), nilS, (.v (.map none)), (.v (.map none))])])]) false)), (4000, (.cells [(.p (pI .u32 p_s.Plus)), (.p (pI .u32 p_s.Minus))]))]⟩) (fun M6 k3 hb7 h => ?_) (fun z3 h => ?_)
            · refine K_guard hS trivial (b := y39 != 1) (fun c101 => ?_) (fun c101 => ?_)
              · replace h := itT c101 h
                exact hb7 _ [(4000, 4000), (28000, 28000)] _ true trivial h
              · replace h := itF c101 h
                obtain ⟨y44, e44, h⟩ := bindE h
                refine K_call hS [] trivial (w_inventory_Inv_Len_zero hS hL e44) ?_
                refine K_guard hS trivial (b := y44 != 0) (fun c102 => ?_) (fun c102 => ?_)
                · replace h := itT c102 h
                  exact hb7 _ [(4000, 4000), (28000, 28000)] _ true trivial h
                · replace h := itF c102 h
                  obtain ⟨y45, e45, h⟩ := bindE h
                  refine K_call hS [] trivial (w_inventory_Inv_Feats_zero hS hL e45) ?_
                  refine K_guard hS trivial (b := ((y45.n : Nat) : Int) != 0) (fun c103 => ?_) (fun c103 => ?_)
                  · replace h := itT c103 h
                    exact hb7 _ [(4000, 4000), (28000, 28000)] _ true trivial h
                  · replace h := itF c103 h
                    obtain ⟨y46, e46, h⟩ := bindE h
                    refine K_call hS [] trivial (w_inventory_Inv_Sounds_zero hS hL e46) ?_
                    refine K_guard hS trivial (b := ((y46.n : Nat) : Int) != 0) (fun c104 => ?_) (fun c104 => ?_)
                    · replace h := itT c104 h
                      exact hb7 _ [(4000, 4000), (28000, 28000)] _ true trivial h
                    · replace h := itF c104 h
                      obtain ⟨y47, e47, h⟩ := bindE h
                      refine K_call hS [] trivial (w_inventory_Inv_Copy_zero hS hL e47) ?_
                      exact hb7 _ [(4000, 4000), (28000, 28000)] _ false trivial h
            · refine K_cond hS trivial (b := z3) (fun c105 => ?_) (fun c105 => ?_)
              · replace h := itT c105 h
                obtain rfl := someI h
                exact K_ret hS trivial [] ⟨rfl, rfl, rfl⟩
              · replace h := itF c105 h
                exact hb5 _ [(4000, 4000), (28000, 28000)] _ _ trivial rfl ⟨rfl, h⟩
      · exact Bool.noConfusion ((by decide : decide ((1 : Int) < 2) = true).symm.trans c72)
    · obtain ⟨rfl, h⟩ := ht
      refine K_cond hS trivial (b := decide ((2 : Int) < 2)) (fun c71 => ?_) (fun c71 => ?_)
      · exact Bool.noConfusion ((by decide : decide ((2 : Int) < 2) = false).symm.trans c71)
      · obtain ⟨y32, e32, h⟩ := bindE h
        refine K_call hS [] trivial (w_ablautlaw03_works hS hL e32) ?_
        obtain rfl := someI h
        exact K_ret hS trivial [] ⟨rfl, rfl, rfl⟩
    · exact absurd hi (by omega)
end Go.AM
set_option linter.unusedVariables false
namespace Go.AM
open Go.Proofs
theorem Nil_eq (z : Str) (s : Sound) : m_ablautlaw03_InventoryNil NN z s = some true := by
  unfold m_ablautlaw03_InventoryNil
  by_cases hz : 1000 < z.length
  · rw [if_pos (by simp only [decide_eq_true_eq]; omega), works_N]; rfl
  · rw [if_neg (by simp only [decide_eq_true_eq]; omega)]
    simp [m_inventory_Inv_Sound_nil, m_inventory_Inv_Symbol_nil, m_inventory_Inv_Feat_nil, m_inventory_Inv_Feats_nil, m_inventory_Inv_Sounds_nil, m_inventory_Inv_Len_nil, m_inventory_Inv_Longest_nil, m_inventory_Inv_Add_nil, m_inventory_Inv_Copy_nil, m_inventory_Inv_Bundle_nil, m_inventory_Inv_Text_nil, m_inventory_Inv_made_nil,
      m_inventory_Inv_Sound_zero, m_inventory_Inv_Symbol_zero, m_inventory_Inv_Feat_zero, m_inventory_Inv_Feats_zero, m_inventory_Inv_Sounds_zero, m_inventory_Inv_Len_zero, m_inventory_Inv_Longest_zero, m_inventory_Inv_Add_zero, m_inventory_Inv_Copy_zero, m_inventory_Inv_Bundle_zero, m_inventory_Inv_Text_zero, m_inventory_Inv_made_zero, lt, works_N]
end Go.AM