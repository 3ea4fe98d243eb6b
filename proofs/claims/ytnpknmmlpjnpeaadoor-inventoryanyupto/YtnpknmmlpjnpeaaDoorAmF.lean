/- What a law's walk and its plain proof need, part 6: no condition of its own. -/
import Derived.Test.YtnpknmmlpjnpeaaDoorAmE
import Derived.Test.YtnpknmmlpjnpeaaDoorAmC
import Derived.Test.YtnpknmmlpjnpeaaDoorCards
import Derived.Test.YtnpknmmlpjnpeaaDoorTie
import Derived.WalkKit
import Derived.ProofKit
import Derived.OpenShut
import Derived.Deep.DeepHandedRow
import Derived.Lib.LaidTab
set_option linter.unusedSimpArgs false
set_option linter.unusedVariables false
set_option linter.unusedSectionVars false
set_option linter.unusedVariables false
set_option linter.unusedSectionVars false
namespace Go.AM
open Go.Proofs
set_option maxRecDepth 10000
set_option maxHeartbeats 2000000
variable {S : Sems} (hS : Good S Tryd.prog) (hL : LibC S)
include hS hL
def m_strings_splitSeq_1 (N : Nat) (q0 : Str) (q1 : Str) (q2 : Int) : Option (List (Str)) :=
  if (((q0.length : Nat) : Int) == 0) = true then
    fix1 N (fun self1 (x1 : Unit) =>
        if (decide (0 < ((q1.length : Nat) : Int))) = true then
          none
        else
          some []
      ) ()
  else
    fix1 N (fun self2 (x2 : Str) =>
        (m_strings_Index N x2 q0).bind fun y3 =>
        if (decide (y3 < 0)) = true then
          consM x2 (
            some []
            )
        else
          if ((0 : Int) ≤ (IntKind.wrap .i64 (y3 + q2)) ∧ (IntKind.wrap .i64 (y3 + q2)) ≤ ((x2.length : Nat) : Int)) then
            consM (x2.take (IntKind.wrap .i64 (y3 + q2)).toNat) (
              if ((0 : Int) ≤ (IntKind.wrap .i64 (y3 + ((q0.length : Nat) : Int))) ∧ (IntKind.wrap .i64 (y3 + ((q0.length : Nat) : Int))) ≤ ((x2.length : Nat) : Int)) then
                self2 (x2.drop (IntKind.wrap .i64 (y3 + ((q0.length : Nat) : Int))).toNat)
              else none
              )
          else none
      ) q1
theorem w_strings_splitSeq_1 {N : Nat} {q0 : Str} {q1 : Str} {q2 : Int} {L : List (Str)} (h : m_strings_splitSeq_1 N q0 q1 q2 = some L) :
    FunIt S k_strings_splitSeq_1 [] [.reg 0 0, .reg 1 0, .reg 2 0] [(.cells [(.p (.str q0))]), (.cells [(.p (.str q1))]), (.cells [(.p (pI .i64 q2))])] (L.map (fun (x : Str) => [PV.str x])) := by
  unfold m_strings_splitSeq_1 at h
  refine K_startI hS f_strings_splitSeq_1 ?_
  refine K_cond hS trivial (b := ((q0.length : Nat) : Int) == 0) (fun c1 => ?_) (fun c1 => ?_)
  · replace h := itT c1 h
    refine K_fixY1 hS trivial h (fun x1 L1 => ⟨[(2, (.reg 1 0)), (0, (.yf 3))], [(3, (.yld (L1.map (fun (x : Str) => [PV.str x])) true)), (2, (.cells [(.p (pI .i64 q2))])), (1, (.cells [(.p (.str q1))])), (0, (.cells [(.p (.str q0))]))]⟩) (ids := [(0, 0), (1, 1), (2, 2), (3, 3)]) (fun _ _ _ _ _ self1 x1 L1 hb1 h => ?_)
    refine K_cond hS trivial (b := decide (0 < ((q1.length : Nat) : Int))) (fun c3 => ?_) (fun c3 => ?_)
    · replace h := itT c3 h
      cases h
    · replace h := itF c3 h
      obtain rfl := someI h
      exact K_retO hS trivial (a := .tup []) (objs := [(.cells [(.p (.str q0))]), (.cells [(.p (.str q1))]), (.cells [(.p (pI .i64 q2))]), (.yld [] true)]) ⟨[], [(3, (.yld [] true)), (2, (.cells [(.p (pI .i64 q2))])), (1, (.cells [(.p (.str q1))])), (0, (.cells [(.p (.str q0))]))]⟩ [0, 1, 2, 3] (ids := [(0, 0), (1, 1), (2, 2), (3, 3)]) ⟨true, rfl, rfl, _, rfl⟩
  · replace h := itF c1 h
    refine K_fixY1 hS trivial h (fun x2 L2 => ⟨[(3, (.reg 2 0)), (2, (.reg 1 0)), (1, (.reg 0 0)), (0, (.yf 3))], [(3, (.yld (L2.map (fun (x : Str) => [PV.str x])) true)), (2, (.cells [(.p (pI .i64 q2))])), (1, (.cells [(.p (.str x2))])), (0, (.cells [(.p (.str q0))]))]⟩) (ids := [(0, 0), (1, 1), (2, 2), (3, 3)]) (fun _ _ _ _ _ self2 x2 L2 hb2 h => ?_)
    obtain ⟨y3, e3, h⟩ := bindE h
    refine K_call hS [] trivial (w_strings_Index hS hL e3) ?_
    refine K_cond hS trivial (b := decide (y3 < 0)) (fun c12 => ?_) (fun c12 => ?_)
    · replace h := itT c12 h
      obtain ⟨L5, rfl, hcL5⟩ := consE h
      replace h := hcL5
      refine K_yield hS trivial (ys := (fun (x : Str) => [PV.str x]) x2) (rest := L5.map (fun (x : Str) => [PV.str x])) ?_ ?_
      · obtain rfl := someI h
        exact K_retO hS trivial (a := .tup []) (objs := [(.cells [(.p (.str q0))]), (.cells [(.p (.str x2))]), (.cells [(.p (pI .i64 q2))]), (.yld [] true)]) ⟨[], [(3, (.yld [] true)), (2, (.cells [(.p (pI .i64 q2))])), (1, (.cells [(.p (.str x2))])), (0, (.cells [(.p (.str q0))]))]⟩ [0, 1, 2, 3] (ids := [(0, 0), (1, 1), (2, 2), (3, 3)]) ⟨true, rfl, rfl, _, rfl⟩
      · exact K_retO hS trivial (a := .tup []) (objs := [(.cells [(.p (.str q0))]), (.cells [(.p (.str x2))]), (.cells [(.p (pI .i64 q2))]), (.yld [] false)]) ⟨[], [(3, (.yld [] false)), (2, (.cells [(.p (pI .i64 q2))])), (1, (.cells [(.p (.str x2))])), (0, (.cells [(.p (.str q0))]))]⟩ [0, 1, 2, 3] (ids := [(0, 0), (1, 1), (2, 2), (3, 3)]) ⟨false, rfl, rfl, _, rfl⟩
    · replace h := itF c12 h
      obtain ⟨c13, h⟩ := chkE h
      obtain ⟨L6, rfl, hcL6⟩ := consE h
      replace h := hcL6
      refine K_yield hS c13 (ys := (fun (x : Str) => [PV.str x]) (x2.take (IntKind.wrap .i64 (y3 + q2)).toNat)) (rest := L6.map (fun (x : Str) => [PV.str x])) ?_ ?_
      · refine K_cond hS trivial (b := false) (fun c14 => ?_) (fun c14 => ?_)
        · exact Bool.noConfusion ((rfl : false = false).symm.trans c14)
        · obtain ⟨c15, h⟩ := chkE h
          exact hb2 _ [(0, 0), (1, 1), (2, 2), (3, 3)] _ (x2.drop (IntKind.wrap .i64 (y3 + ((q0.length : Nat) : Int))).toNat) L6 c15 h
      · refine K_cond hS trivial (b := true) (fun c16 => ?_) (fun c16 => ?_)
        · exact K_retO hS trivial (a := .tup []) (objs := [(.cells [(.p (.str q0))]), (.cells [(.p (.str x2))]), (.cells [(.p (pI .i64 q2))]), (.yld [] false)]) ⟨[], [(3, (.yld [] false)), (2, (.cells [(.p (pI .i64 q2))])), (1, (.cells [(.p (.str x2))])), (0, (.cells [(.p (.str q0))]))]⟩ [0, 1, 2, 3] (ids := [(0, 0), (1, 1), (2, 2), (3, 3)]) ⟨false, rfl, rfl, _, rfl⟩
        · exact Bool.noConfusion ((rfl : true = true).symm.trans c16)
def m_strings_splitSeq (N : Nat) (p_s : Str) (p_sep : Str) (p_sepSave : Int) : Option (Str × Str × Int) :=
  some (p_sep, p_s, p_sepSave)
theorem w_strings_splitSeq {N : Nat} {p_s : Str} {p_sep : Str} {p_sepSave : Int}   {y : (Str × Str × Int)} (h : m_strings_splitSeq N p_s p_sep p_sepSave = some y) :
    FunO S k_strings_splitSeq [(.p (.str p_s)), (.p (.str p_sep)), (.p (pI .i64 p_sepSave))] [] (.clo k_strings_splitSeq_1 [] [.reg 0 0, .reg 1 0, .reg 2 0]) ([(.cells [(.p (.str y.1))]), (.cells [(.p (.str y.2.1))]), (.cells [(.p (pI .i64 y.2.2))])]) [] := by
  unfold m_strings_splitSeq at h
  refine K_start hS f_strings_splitSeq ?_
  obtain rfl := someI h
  exact K_retO hS trivial ⟨[(6, (.clo k_strings_splitSeq_1 [] [(.reg 5000 0), (.reg 4000 0), (.reg 6000 0)]))], [(6000, (.cells [(.p (pI .i64 p_sepSave))])), (5000, (.cells [(.p (.str p_sep))])), (4000, (.cells [(.p (.str p_s))]))]⟩ [5000, 4000, 6000] (ids := [(4000, 4000), (5000, 5000), (6000, 6000)]) ⟨rfl, rfl, rfl⟩
def m_strings_SplitSeq (N : Nat) (p_s : Str) (p_sep : Str) : Option (Str × Str × Int) :=
  (m_strings_splitSeq N p_s p_sep 0).bind fun y1 =>
  some (y1.1, y1.2.1, y1.2.2)
theorem w_strings_SplitSeq {N : Nat} {p_s : Str} {p_sep : Str}   {y : (Str × Str × Int)} (h : m_strings_SplitSeq N p_s p_sep = some y) :
    FunO S k_strings_SplitSeq [(.p (.str p_s)), (.p (.str p_sep))] [] (.clo k_strings_splitSeq_1 [] [.reg 0 0, .reg 1 0, .reg 2 0]) ([(.cells [(.p (.str y.1))]), (.cells [(.p (.str y.2.1))]), (.cells [(.p (pI .i64 y.2.2))])]) [] := by
  unfold m_strings_SplitSeq at h
  refine K_start hS f_strings_SplitSeq ?_
  obtain ⟨y1, e1, h⟩ := bindE h
  refine K_call hS [] trivial (w_strings_splitSeq hS hL e1) ?_
  obtain rfl := someI h
  exact K_retO hS trivial ⟨[(4, (.clo k_strings_splitSeq_1 [] [(.reg 8000 0), (.reg 8001 0), (.reg 8002 0)]))], [(8002, (.cells [(.p (pI .i64 y1.2.2))])), (8001, (.cells [(.p (.str y1.2.1))])), (8000, (.cells [(.p (.str y1.1))]))]⟩ [8000, 8001, 8002] (ids := [(8000, 8000), (8001, 8001), (8002, 8002)]) ⟨rfl, rfl, rfl⟩
def m_inventory_Inv_Bundle (N : Nat) (p_v : O_inventory_Inv) (p_text : Str) : Option (Sound × Int) :=
  (m_inventory_Inv_made N p_v).bind fun y1 =>
  if (!y1) = true then
    some ((⟨0, 0⟩ : Sound), 1)
  else
    if ((p_text == []) != false) = true then
      some ((⟨0, 0⟩ : Sound), 0)
    else
      (m_strings_SplitSeq N p_text [32]).bind fun y2 =>
      (m_strings_splitSeq_1 N y2.1 y2.2.1 y2.2.2).bind fun L1 =>
      iter1 L1 (fun self1 (x1 : Str) (z3 : Int × Int) =>
          (m_strings_CutPrefix N x1 [45]).bind fun y9 =>
          lt (fun (z4 : Str) =>
              optE (alook eqS z4 p_v.number) (
                  some ((⟨0, 0⟩ : Sound), 10)
                ) fun v3 =>
                if (0 : Int) ≤ v3 then
                  if ((bitI .and .u32 (shI .shr .u32 (bitI .or .u32 z3.1 z3.2) v3) 1) == 1) = true then
                    some ((⟨0, 0⟩ : Sound), 10)
                  else
                    if y9.2 = true then
                      if (0 : Int) ≤ v3 then
                        self1 (z3.1, bitI .or .u32 z3.2 (shI .shl .u32 1 v3))
                      else none
                    else
                      if (0 : Int) ≤ v3 then
                        self1 (bitI .or .u32 z3.1 (shI .shl .u32 1 v3), z3.2)
                      else none
                else none
            ) fun k3 =>
            if (!y9.2) = true then
              (m_strings_CutPrefix N x1 [43]).bind fun y11 =>
              if (!y11.2) = true then
                some ((⟨0, 0⟩ : Sound), 10)
              else
                k3 y11.1
            else
              k3 y9.1
        ) (fun (z3 : Int × Int) =>
          some ((⟨z3.1, z3.2⟩ : Sound), 0)
        ) (0, 0)
theorem w_inventory_Inv_Bundle {N : Nat} {p_v : O_inventory_Inv} {p_text : Str}   {y : (Sound × Int)} (h : m_inventory_Inv_Bundle N p_v p_text = some y) :
    FunO S k_inventory_Inv_Bundle [(.reg 0 0), (.p (.str p_text))] [(.cells [(.p (vSl 1 cS p_v.feats)), (.mref 1), (.vec 2), (.mref 3), (.mref 4)]), (.map (encM PV.str (pI .i64) p_v.number)), (.vec t_api_Named 3 p_v.sounds.n (fun i => c_Named (p_v.sounds.g i)) true), (.map (encM PV.str (pI .i64) p_v.symbols)), (.map (encM (fun x => .agg (c_Sound x)) (pI .i64) p_v.values))] (.tup [(.p (.agg (c_Sound y.1))), (.p (pI .i64 y.2))]) ([(.cells [(.p (vSl 1 cS p_v.feats)), (.mref 1), (.vec 2), (.mref 3), (.mref 4)]), (.map (encM PV.str (pI .i64) p_v.number)), (.vec t_api_Named 3 p_v.sounds.n (fun i => c_Named (p_v.sounds.g i)) true), (.map (encM PV.str (pI .i64) p_v.symbols)), (.map (encM (fun x => .agg (c_Sound x)) (pI .i64) p_v.values))]) [true, true, true, true, true] := by
  unfold m_inventory_Inv_Bundle at h
  refine K_start hS f_inventory_Inv_Bundle ?_
  obtain ⟨y1, e1, h⟩ := bindE h
  refine K_call hS [0, 1, 2, 3, 4] trivial (w_inventory_Inv_made hS hL e1) ?_
  refine K_cond hS trivial (b := !y1) (fun c1 => ?_) (fun c1 => ?_)
  · replace h := itT c1 h
    obtain rfl := someI h
    exact K_retO hS trivial ⟨[(5, (.reg 6000 0)), (4, (.reg 5000 0))], [(6000, (.cells [(.p (pI .i64 1))])), (5000, (.cells [(.p (pI .u32 0)), (.p (pI .u32 0))])), (4, (.map (encM (fun x => .agg (c_Sound x)) (pI .i64) p_v.values))), (3, (.map (encM PV.str (pI .i64) p_v.symbols))), (2, (.vec t_api_Named 3 p_v.sounds.n (fun i => c_Named (p_v.sounds.g i)) true)), (1, (.map (encM PV.str (pI .i64) p_v.number))), (0, (.cells [(.p (vSl 1 cS p_v.feats)), (.mref 1), (.vec 2), (.mref 3), (.mref 4)]))]⟩ [0, 1, 2, 3, 4] (ids := [(0, 0), (1, 1), (2, 2), (3, 3), (4, 4), (5000, 5000), (6000, 6000)]) ⟨rfl, rfl, rfl⟩
  · replace h := itF c1 h
    refine K_cond hS trivial (b := ((p_text == []) != false)) (fun c2 => ?_) (fun c2 => ?_)
    · replace h := itT c2 h
      obtain rfl := someI h
      exact K_retO hS trivial ⟨[(5, (.reg 6000 0)), (4, (.reg 5000 0))], [(6000, (.cells [(.p (pI .i64 0))])), (5000, (.cells [(.p (pI .u32 0)), (.p (pI .u32 0))])), (4, (.map (encM (fun x => .agg (c_Sound x)) (pI .i64) p_v.values))), (3, (.map (encM PV.str (pI .i64) p_v.symbols))), (2, (.vec t_api_Named 3 p_v.sounds.n (fun i => c_Named (p_v.sounds.g i)) true)), (1, (.map (encM PV.str (pI .i64) p_v.number))), (0, (.cells [(.p (vSl 1 cS p_v.feats)), (.mref 1), (.vec 2), (.mref 3), (.mref 4)]))]⟩ [0, 1, 2, 3, 4] (ids := [(0, 0), (1, 1), (2, 2), (3, 3), (4, 4), (5000, 5000), (6000, 6000)]) ⟨rfl, rfl, rfl⟩
    · replace h := itF c2 h
      obtain ⟨y2, e2, h⟩ := bindE h
      refine K_call hS [] trivial (w_strings_SplitSeq hS hL e2) ?_
      obtain ⟨L1, e3, h⟩ := bindE h
      refine K_iter1 hS trivial [22000, 22001, 22002] [6, 5, 4, 2] 901 (fun z3 => ⟨[(6, (.reg 7000 0)), (5, (.reg 6000 0)), (4, (.reg 5000 0)), (2, (.reg 3000 0))], [(7000, (.cells [(.p (pI .u32 z3.1)), (.p (pI .u32 z3.2))])), (6000, (.cells [(.p (pI .i64 0))])), (5000, (.cells [(.p (pI .u32 0)), (.p (pI .u32 0))])), (3000, (.cells [(.reg 0 0)])), (4, (.map (encM (fun x => .agg (c_Sound x)) (pI .i64) p_v.values))), (3, (.map (encM PV.str (pI .i64) p_v.symbols))), (2, (.vec t_api_Named 3 p_v.sounds.n (fun i => c_Named (p_v.sounds.g i)) true)), (1, (.map (encM PV.str (pI .i64) p_v.number))), (0, (.cells [(.p (vSl 1 cS p_v.feats)), (.mref 1), (.vec 2), (.mref 3), (.mref 4)]))]⟩) (idl := [(0, 0), (1, 1), (2, 2), (3, 3), (4, 4), (3000, 3000), (5000, 5000), (6000, 6000), (7000, 7000)]) h (w_strings_splitSeq_1 hS hL e3) (fun _ => by kernel_rfl) (fun _ => by kernel_rfl) (fun _ => by kernel_rfl) (fun _ => by kernel_rfl) (fun x1 _ self1 z3 hb3 h => ?_) (fun z3 h => ?_)
      · refine K_asg hS trivial ?_
        obtain ⟨y9, e10, h⟩ := bindE h
        refine K_call hS [] trivial (w_strings_CutPrefix hS hL e10) ?_
        refine K_lt hS trivial (rpost_up hS) h 0 (fun z4 => ⟨[(9, (.p (.bb y9.2))), (8, (.p (.str z4))), (6, (.reg 7000 0)), (5, (.reg 6000 0)), (4, (.reg 5000 0)), (2, (.reg 3000 0))], [(7000, (.cells [(.p (pI .u32 z3.1)), (.p (pI .u32 z3.2))])), (6000, (.cells [(.p (pI .i64 0))])), (5000, (.cells [(.p (pI .u32 0)), (.p (pI .u32 0))])), (3000, (.cells [(.reg 0 0)])), (901, (.ghost [(.reg 7000 0), (.reg 6000 0), (.reg 5000 0), (.reg 3000 0)])), (4, (.map (encM (fun x => .agg (c_Sound x)) (pI .i64) p_v.values))), (3, (.map (encM PV.str (pI .i64) p_v.symbols))), (2, (.vec t_api_Named 3 p_v.sounds.n (fun i => c_Named (p_v.sounds.g i)) true)), (1, (.map (encM PV.str (pI .i64) p_v.number))), (0, (.cells [(.p (vSl 1 cS p_v.feats)), (.mref 1), (.vec 2), (.mref 3), (.mref 4)]))]⟩) (fun M3 k3 hb4 h => ?_) (fun z4 h => ?_)
        · refine K_cond hS trivial (b := !y9.2) (fun c38 => ?_) (fun c38 => ?_)
          · replace h := itT c38 h
            obtain ⟨y11, e12, h⟩ := bindE h
            refine K_call hS [] trivial (w_strings_CutPrefix hS hL e12) ?_
            refine K_cond hS trivial (b := !y11.2) (fun c39 => ?_) (fun c39 => ?_)
            · replace h := itT c39 h
              refine K_rleave hS trivial ⟨[(6, (.reg 7000 0)), (5, (.reg 6000 0)), (4, (.reg 5000 0)), (2, (.reg 3000 0))], [(7000, (.cells [(.p (pI .u32 z3.1)), (.p (pI .u32 z3.2))])), (6000, (.cells [(.p (pI .i64 10))])), (5000, (.cells [(.p (pI .u32 0)), (.p (pI .u32 0))])), (3000, (.cells [(.reg 0 0)])), (4, (.map (encM (fun x => .agg (c_Sound x)) (pI .i64) p_v.values))), (3, (.map (encM PV.str (pI .i64) p_v.symbols))), (2, (.vec t_api_Named 3 p_v.sounds.n (fun i => c_Named (p_v.sounds.g i)) true)), (1, (.map (encM PV.str (pI .i64) p_v.number))), (0, (.cells [(.p (vSl 1 cS p_v.feats)), (.mref 1), (.vec 2), (.mref 3), (.mref 4)]))]⟩ (ids := [(0, 0), (1, 1), (2, 2), (3, 3), (4, 4), (901, 901), (3000, 3000), (5000, 5000), (6000, 6000), (7000, 7000)]) ?_
              obtain rfl := someI h
              exact K_retO hS trivial ⟨[(5, (.reg 6000 0)), (4, (.reg 5000 0))], [(6000, (.cells [(.p (pI .i64 10))])), (5000, (.cells [(.p (pI .u32 0)), (.p (pI .u32 0))])), (4, (.map (encM (fun x => .agg (c_Sound x)) (pI .i64) p_v.values))), (3, (.map (encM PV.str (pI .i64) p_v.symbols))), (2, (.vec t_api_Named 3 p_v.sounds.n (fun i => c_Named (p_v.sounds.g i)) true)), (1, (.map (encM PV.str (pI .i64) p_v.number))), (0, (.cells [(.p (vSl 1 cS p_v.feats)), (.mref 1), (.vec 2), (.mref 3), (.mref 4)]))]⟩ [0, 1, 2, 3, 4] (ids := [(0, 0), (1, 1), (2, 2), (3, 3), (4, 4), (5000, 5000), (6000, 6000)]) ⟨rfl, rfl, rfl⟩
            · replace h := itF c39 h
              exact hb4 _ [(0, 0), (1, 1), (2, 2), (3, 3), (4, 4), (901, 901), (3000, 3000), (5000, 5000), (6000, 6000), (7000, 7000)] _ y11.1 trivial h
          · replace h := itF c38 h
            exact hb4 _ [(0, 0), (1, 1), (2, 2), (3, 3), (4, 4), (901, 901), (3000, 3000), (5000, 5000), (6000, 6000), (7000, 7000)] _ y9.1 trivial h
        · rcases o3 : alook eqS z4 p_v.number with _ | v3
          · replace h := optN o3 h
            refine K_lookup hS trivial (kt := t_string) (e := t_int) (key := PV.str z4) (es := (encM PV.str (pI .i64) p_v.number)) (x := (pI .i64 0)) (b := false) (fd := none) ((find_encM (kP := PV.str) (vP := (pI .i64)) (eq := eqS) (fun _ _ => by kernel_rfl) z4 p_v.number).trans (by rw [o3]; rfl)) trivial ?_
            refine K_guard hS trivial (b := true) (fun c42 => ?_) (fun c42 => ?_)
            · refine K_rleave hS trivial ⟨[(6, (.reg 7000 0)), (5, (.reg 6000 0)), (4, (.reg 5000 0)), (2, (.reg 3000 0))], [(7000, (.cells [(.p (pI .u32 z3.1)), (.p (pI .u32 z3.2))])), (6000, (.cells [(.p (pI .i64 10))])), (5000, (.cells [(.p (pI .u32 0)), (.p (pI .u32 0))])), (3000, (.cells [(.reg 0 0)])), (4, (.map (encM (fun x => .agg (c_Sound x)) (pI .i64) p_v.values))), (3, (.map (encM PV.str (pI .i64) p_v.symbols))), (2, (.vec t_api_Named 3 p_v.sounds.n (fun i => c_Named (p_v.sounds.g i)) true)), (1, (.map (encM PV.str (pI .i64) p_v.number))), (0, (.cells [(.p (vSl 1 cS p_v.feats)), (.mref 1), (.vec 2), (.mref 3), (.mref 4)]))]⟩ (ids := [(0, 0), (1, 1), (2, 2), (3, 3), (4, 4), (901, 901), (3000, 3000), (5000, 5000), (6000, 6000), (7000, 7000)]) ?_
              obtain rfl := someI h
              exact K_retO hS trivial ⟨[(5, (.reg 6000 0)), (4, (.reg 5000 0))], [(6000, (.cells [(.p (pI .i64 10))])), (5000, (.cells [(.p (pI .u32 0)), (.p (pI .u32 0))])), (4, (.map (encM (fun x => .agg (c_Sound x)) (pI .i64) p_v.values))), (3, (.map (encM PV.str (pI .i64) p_v.symbols))), (2, (.vec t_api_Named 3 p_v.sounds.n (fun i => c_Named (p_v.sounds.g i)) true)), (1, (.map (encM PV.str (pI .i64) p_v.number))), (0, (.cells [(.p (vSl 1 cS p_v.feats)), (.mref 1), (.vec 2), (.mref 3), (.mref 4)]))]⟩ [0, 1, 2, 3, 4] (ids := [(0, 0), (1, 1), (2, 2), (3, 3), (4, 4), (5000, 5000), (6000, 6000)]) ⟨rfl, rfl, rfl⟩
            · exact Bool.noConfusion ((rfl : true = true).symm.trans c42)
          · replace h := optS o3 h
            refine K_lookup hS trivial (kt := t_string) (e := t_int) (key := PV.str z4) (es := (encM PV.str (pI .i64) p_v.number)) (x := ((pI .i64) v3)) (b := true) (fd := some ((pI .i64) v3)) ((find_encM (kP := PV.str) (vP := (pI .i64)) (eq := eqS) (fun _ _ => by kernel_rfl) z4 p_v.number).trans (by rw [o3]; rfl)) trivial ?_
            refine K_guard hS trivial (b := false) (fun c45 => ?_) (fun c45 => ?_)
            · exact Bool.noConfusion ((rfl : false = false).symm.trans c45)
            · obtain ⟨c46, h⟩ := chkE h
              refine K_cond hS c46 (b := (bitI .and .u32 (shI .shr .u32 (bitI .or .u32 z3.1 z3.2) v3) 1) == 1) (fun c47 => ?_) (fun c47 => ?_)
              · replace h := itT c47 h
                refine K_rleave hS trivial ⟨[(6, (.reg 7000 0)), (5, (.reg 6000 0)), (4, (.reg 5000 0)), (2, (.reg 3000 0))], [(7000, (.cells [(.p (pI .u32 z3.1)), (.p (pI .u32 z3.2))])), (6000, (.cells [(.p (pI .i64 10))])), (5000, (.cells [(.p (pI .u32 0)), (.p (pI .u32 0))])), (3000, (.cells [(.reg 0 0)])), (4, (.map (encM (fun x => .agg (c_Sound x)) (pI .i64) p_v.values))), (3, (.map (encM PV.str (pI .i64) p_v.symbols))), (2, (.vec t_api_Named 3 p_v.sounds.n (fun i => c_Named (p_v.sounds.g i)) true)), (1, (.map (encM PV.str (pI .i64) p_v.number))), (0, (.cells [(.p (vSl 1 cS p_v.feats)), (.mref 1), (.vec 2), (.mref 3), (.mref 4)]))]⟩ (ids := [(0, 0), (1, 1), (2, 2), (3, 3), (4, 4), (901, 901), (3000, 3000), (5000, 5000), (6000, 6000), (7000, 7000)]) ?_
                obtain rfl := someI h
                exact K_retO hS trivial ⟨[(5, (.reg 6000 0)), (4, (.reg 5000 0))], [(6000, (.cells [(.p (pI .i64 10))])), (5000, (.cells [(.p (pI .u32 0)), (.p (pI .u32 0))])), (4, (.map (encM (fun x => .agg (c_Sound x)) (pI .i64) p_v.values))), (3, (.map (encM PV.str (pI .i64) p_v.symbols))), (2, (.vec t_api_Named 3 p_v.sounds.n (fun i => c_Named (p_v.sounds.g i)) true)), (1, (.map (encM PV.str (pI .i64) p_v.number))), (0, (.cells [(.p (vSl 1 cS p_v.feats)), (.mref 1), (.vec 2), (.mref 3), (.mref 4)]))]⟩ [0, 1, 2, 3, 4] (ids := [(0, 0), (1, 1), (2, 2), (3, 3), (4, 4), (5000, 5000), (6000, 6000)]) ⟨rfl, rfl, rfl⟩
              · replace h := itF c47 h
                refine K_cond hS trivial (b := y9.2) (fun c48 => ?_) (fun c48 => ?_)
                · replace h := itT c48 h
                  refine K_drawn hS trivial ?_
                  obtain ⟨c49, h⟩ := chkE h
                  refine D_end c49 ?_
                  exact hb3 _ [(0, 0), (1, 1), (2, 2), (3, 3), (4, 4), (901, 901), (3000, 3000), (5000, 5000), (6000, 6000), (7000, 7000)] _ (z3.1, bitI .or .u32 z3.2 (shI .shl .u32 1 v3)) trivial h
                · replace h := itF c48 h
                  refine K_drawn hS trivial ?_
                  obtain ⟨c50, h⟩ := chkE h
                  refine D_end c50 ?_
                  exact hb3 _ [(0, 0), (1, 1), (2, 2), (3, 3), (4, 4), (901, 901), (3000, 3000), (5000, 5000), (6000, 6000), (7000, 7000)] _ (bitI .or .u32 z3.1 (shI .shl .u32 1 v3), z3.2) trivial h
      · obtain rfl := someI h
        exact K_retO hS trivial ⟨[(5, (.reg 6000 0)), (4, (.reg 5000 0))], [(6000, (.cells [(.p (pI .i64 0))])), (5000, (.cells [(.p (pI .u32 z3.1)), (.p (pI .u32 z3.2))])), (4, (.map (encM (fun x => .agg (c_Sound x)) (pI .i64) p_v.values))), (3, (.map (encM PV.str (pI .i64) p_v.symbols))), (2, (.vec t_api_Named 3 p_v.sounds.n (fun i => c_Named (p_v.sounds.g i)) true)), (1, (.map (encM PV.str (pI .i64) p_v.number))), (0, (.cells [(.p (vSl 1 cS p_v.feats)), (.mref 1), (.vec 2), (.mref 3), (.mref 4)]))]⟩ [0, 1, 2, 3, 4] (ids := [(0, 0), (1, 1), (2, 2), (3, 3), (4, 4), (5000, 5000), (6000, 6000)]) ⟨rfl, rfl, rfl⟩
end Go.AM
set_option linter.unusedVariables false
set_option linter.unusedSectionVars false
namespace Go.AM
open Go.Proofs
set_option maxRecDepth 10000
set_option maxHeartbeats 2000000
variable {S : Sems} (hS : Good S Tryd.prog) (hL : LibC S)
include hS hL
def m_inventory_Inv_made_nil (N : Nat)  : Option Bool :=
  some false
theorem w_inventory_Inv_made_nil {N : Nat}    {y : Bool} (h : m_inventory_Inv_made_nil N  = some y) :
    FunO S k_inventory_Inv_made [(.p nilP)] [] (.p (.bb y)) ([]) [] := by
  unfold m_inventory_Inv_made_nil at h
  refine K_start hS f_inventory_Inv_made ?_
  obtain rfl := someI h
  exact K_ret hS trivial [] ⟨rfl, rfl, rfl⟩
def m_inventory_Inv_Text_nil (N : Nat) (p_s : Sound) : Option (Str × Int) :=
  (m_inventory_Inv_made_nil N ).bind fun y1 =>
  if (!y1) = true then
    some ([], 1)
  else
    none
theorem w_inventory_Inv_Text_nil {N : Nat} {p_s : Sound}   {y : (Str × Int)} (h : m_inventory_Inv_Text_nil N p_s = some y) :
    FunO S k_inventory_Inv_Text [(.p nilP), (.p (.agg (c_Sound p_s)))] [] (.tup [(.p (.str y.1)), (.p (pI .i64 y.2))]) ([]) [] := by
  unfold m_inventory_Inv_Text_nil at h
  refine K_start hS f_inventory_Inv_Text ?_
  obtain ⟨y1, e1, h⟩ := bindE h
  refine K_call hS [] trivial (w_inventory_Inv_made_nil hS hL e1) ?_
  refine K_cond hS trivial (b := !y1) (fun c1 => ?_) (fun c1 => ?_)
  · replace h := itT c1 h
    obtain rfl := someI h
    exact K_ret hS trivial [] ⟨rfl, rfl, rfl⟩
  · replace h := itF c1 h
    cases h
def m_inventory_Inv_Bundle_nil (N : Nat) (p_text : Str) : Option (Sound × Int) :=
  (m_inventory_Inv_made_nil N ).bind fun y1 =>
  if (!y1) = true then
    some ((⟨0, 0⟩ : Sound), 1)
  else
    if ((p_text == []) != false) = true then
      some ((⟨0, 0⟩ : Sound), 0)
    else
      none
theorem w_inventory_Inv_Bundle_nil {N : Nat} {p_text : Str}   {y : (Sound × Int)} (h : m_inventory_Inv_Bundle_nil N p_text = some y) :
    FunO S k_inventory_Inv_Bundle [(.p nilP), (.p (.str p_text))] [] (.tup [(.p (.agg (c_Sound y.1))), (.p (pI .i64 y.2))]) ([]) [] := by
  unfold m_inventory_Inv_Bundle_nil at h
  refine K_start hS f_inventory_Inv_Bundle ?_
  obtain ⟨y1, e1, h⟩ := bindE h
  refine K_call hS [] trivial (w_inventory_Inv_made_nil hS hL e1) ?_
  refine K_cond hS trivial (b := !y1) (fun c1 => ?_) (fun c1 => ?_)
  · replace h := itT c1 h
    obtain rfl := someI h
    exact K_ret hS trivial [] ⟨rfl, rfl, rfl⟩
  · replace h := itF c1 h
    refine K_cond hS trivial (b := ((p_text == []) != false)) (fun c2 => ?_) (fun c2 => ?_)
    · replace h := itT c2 h
      obtain rfl := someI h
      exact K_ret hS trivial [] ⟨rfl, rfl, rfl⟩
    · replace h := itF c2 h
      cases h
def m_ablautref03_Inv_Text_nil (N : Nat) (p_s : Sound) : Option (Str × Int) :=
  (m_ablautref03_Inv_made_nil N ).bind fun y1 =>
  if (!y1) = true then
    some ([], 1)
  else
    none
theorem w_ablautref03_Inv_Text_nil {N : Nat} {p_s : Sound}   {y : (Str × Int)} (h : m_ablautref03_Inv_Text_nil N p_s = some y) :
    FunO S k_ablautref03_Inv_Text [(.p nilP), (.p (.agg (c_Sound p_s)))] [] (.tup [(.p (.str y.1)), (.p (pI .i64 y.2))]) ([]) [] := by
  unfold m_ablautref03_Inv_Text_nil at h
  refine K_start hS f_ablautref03_Inv_Text ?_
  obtain ⟨y1, e1, h⟩ := bindE h
  refine K_call hS [] trivial (w_ablautref03_Inv_made_nil hS hL e1) ?_
  refine K_cond hS trivial (b := !y1) (fun c1 => ?_) (fun c1 => ?_)
  · replace h := itT c1 h
    obtain rfl := someI h
    exact K_ret hS trivial [] ⟨rfl, rfl, rfl⟩
  · replace h := itF c1 h
    cases h
def m_ablautref03_Inv_Bundle_nil (N : Nat) (p_text : Str) : Option (Sound × Int) :=
  (m_ablautref03_Inv_made_nil N ).bind fun y1 =>
  if (!y1) = true then
    some ((⟨0, 0⟩ : Sound), 1)
  else
    if ((p_text == []) != false) = true then
      some ((⟨0, 0⟩ : Sound), 0)
    else
      (m_ablautref03_items N p_text).bind fun y2 =>
      fix1 N (fun self1 (x1 : Unit) =>
          if (decide (0 < ((y2.n : Nat) : Int))) = true then
            if (((0 : Int) ≤ 0 ∧ 0 < ((y2.n : Nat) : Int)) ∧ 0 < y2.n) then
              if (((decide ((((y2.g 0).length : Nat) : Int) < 1)) = false → ((((0 : Int) ≤ 0 ∧ 0 < ((y2.n : Nat) : Int)) ∧ 0 < y2.n) ∧ ((0 : Int) ≤ 0 ∧ 0 < (((y2.g 0).length : Nat) : Int)))) ∧ ((decide ((((y2.g 0).length : Nat) : Int) < 1)) = false → (((byteAt (y2.g 0) 0) != 43) = true → ((((0 : Int) ≤ 0 ∧ 0 < ((y2.n : Nat) : Int)) ∧ 0 < y2.n) ∧ ((0 : Int) ≤ 0 ∧ 0 < (((y2.g 0).length : Nat) : Int)))))) then
                if ((decide ((((y2.g 0).length : Nat) : Int) < 1)) || (((byteAt (y2.g 0) 0) != 43) && ((byteAt (y2.g 0) 0) != 45))) = true then
                  some ((⟨0, 0⟩ : Sound), 10)
                else
                  none
              else none
            else none
          else
            some ((⟨0, 0⟩ : Sound), 0)
        ) ()
theorem w_ablautref03_Inv_Bundle_nil {N : Nat} {p_text : Str}   {y : (Sound × Int)} (h : m_ablautref03_Inv_Bundle_nil N p_text = some y) :
    FunO S k_ablautref03_Inv_Bundle [(.p nilP), (.p (.str p_text))] [] (.tup [(.p (.agg (c_Sound y.1))), (.p (pI .i64 y.2))]) ([]) [] := by
  unfold m_ablautref03_Inv_Bundle_nil at h
  refine K_start hS f_ablautref03_Inv_Bundle ?_
  obtain ⟨y1, e1, h⟩ := bindE h
  refine K_call hS [] trivial (w_ablautref03_Inv_made_nil hS hL e1) ?_
  refine K_cond hS trivial (b := !y1) (fun c1 => ?_) (fun c1 => ?_)
  · replace h := itT c1 h
    obtain rfl := someI h
    exact K_ret hS trivial [] ⟨rfl, rfl, rfl⟩
  · replace h := itF c1 h
    refine K_cond hS trivial (b := ((p_text == []) != false)) (fun c2 => ?_) (fun c2 => ?_)
    · replace h := itT c2 h
      obtain rfl := someI h
      exact K_ret hS trivial [] ⟨rfl, rfl, rfl⟩
    · replace h := itF c2 h
      obtain ⟨y2, e2, h⟩ := bindE h
      refine K_call hS [] trivial (w_ablautref03_items hS hL e2) ?_
      refine K_fix1 hS trivial h (fun x1 => ⟨[(8, (.p (pI .i64 0))), (7, (.vec 22000)), (6, (.reg 7000 0)), (4, (.reg 5000 0)), (0, (.p nilP))], [(22000, (.vec t_string 1 y2.n (fun i => cS (y2.g i)) true)), (7000, (.cells [(.p (pI .u32 0)), (.p (pI .u32 0))])), (5000, (.cells [(.p (pI .u32 0)), (.p (pI .u32 0))]))]⟩) (ids := [(5000, 5000), (7000, 7000), (22000, 22000)]) (fun _ _ _ _ _ self1 x1 hb2 h => ?_)
      refine K_cond hS trivial (b := decide (0 < ((y2.n : Nat) : Int))) (fun c11 => ?_) (fun c11 => ?_)
      · replace h := itT c11 h
        obtain ⟨c12, h⟩ := chkE h
        obtain ⟨c15, h⟩ := chkE h
        obtain ⟨t2, ht2⟩ : ∃ x : Bool, x = ((decide ((((y2.g 0).length : Nat) : Int) < 1)) || (((byteAt (y2.g 0) 0) != 43) && ((byteAt (y2.g 0) 0) != 45))) := ⟨_, rfl⟩
        refine K_cut hS c12 (fnPost_up hS) 0 ⟨[(49, (.p (.bb t2))), (8, (.p (pI .i64 0))), (7, (.vec 22000)), (6, (.reg 7000 0)), (4, (.reg 5000 0)), (0, (.p nilP))], [(22000, (.vec t_string 1 y2.n (fun i => cS (y2.g i)) true)), (7000, (.cells [(.p (pI .u32 0)), (.p (pI .u32 0))])), (5000, (.cells [(.p (pI .u32 0)), (.p (pI .u32 0))]))]⟩ (fun M2 hb3 => ?_) ?_
        · refine K_guard hS trivial (b := decide ((((y2.g 0).length : Nat) : Int) < 1)) (fun c16 => ?_) (fun c16 => ?_)
          · exact hb3 _ [(5000, 5000), (7000, 7000), (22000, 22000)] _ trivial (by kernel_rfl) (by kernel_rfl) (klR [(0, .eq (.bb true) (.bb t2))] (al1 (by simp only [ht2, c16, Leaf.ok, pm, if_true, if_false]) al0))
          · refine K_guard hS (c15.1 c16) (b := (byteAt (y2.g 0) 0) != 43) (fun c17 => ?_) (fun c17 => ?_)
            · exact hb3 _ [(5000, 5000), (7000, 7000), (22000, 22000)] _ (c15.2 c16 c17) (by kernel_rfl) (by kernel_rfl) (klR [(0, .eq (.bb ((byteAt (y2.g 0) 0) != 45)) (.bb t2))] (al1 (by simp only [ht2, c16, c17, Leaf.ok, pm, if_true, if_false]) al0))
            · exact hb3 _ [(5000, 5000), (7000, 7000), (22000, 22000)] _ trivial (by kernel_rfl) (by kernel_rfl) (klR [(0, .eq (.bb false) (.bb t2))] (al1 (by simp only [ht2, c16, c17, Leaf.ok, pm, if_true, if_false]) al0))
        · subst ht2
          refine K_cond hS trivial (b := ((decide ((((y2.g 0).length : Nat) : Int) < 1)) || (((byteAt (y2.g 0) 0) != 43) && ((byteAt (y2.g 0) 0) != 45)))) (fun c18 => ?_) (fun c18 => ?_)
          · replace h := itT c18 h
            obtain rfl := someI h
            exact K_ret hS trivial [] ⟨rfl, rfl, rfl⟩
          · replace h := itF c18 h
            cases h
      · replace h := itF c11 h
        obtain rfl := someI h
        exact K_ret hS trivial [] ⟨rfl, rfl, rfl⟩
def m_ablautlaw03_few_nil (N : Nat) (p_l : (Sl Str)) : Option Bool :=
  fix2 N (fun self1 (x1 : Int) (x2 : Int) =>
      if (decide (x2 < ((p_l.n : Nat) : Int))) = true then
        if ((0 : Int) ≤ x2 ∧ x2 < ((p_l.n : Nat) : Int)) then
          self1 (IntKind.wrap .i64 (x1 + (((p_l.g x2.toNat).length : Nat) : Int))) (IntKind.wrap .i64 (x2 + 1))
        else none
      else
        fix1 N (fun self2 (x3 : Unit) =>
            if (decide (0 < 0)) = true then
              none
            else
              some ((decide (((p_l.n : Nat) : Int) ≤ 100)) && (decide (x1 ≤ 4000)))
          ) ()
    ) 0 0
theorem w_ablautlaw03_few_nil {N : Nat} {p_l : (Sl Str)}   {y : Bool} (h : m_ablautlaw03_few_nil N p_l = some y) :
    FunO S k_ablautlaw03_few [(.p (vSl 1 cS p_l)), (.p nilS)] [] (.p (.bb y)) ([]) [] := by
  unfold m_ablautlaw03_few_nil at h
  refine K_start hS f_ablautlaw03_few ?_
  refine K_fix2 hS trivial h (fun x1 x2 => ⟨[(12, (.p (pI .i64 x2))), (11, (.p (pI .i64 ((p_l.n : Nat) : Int)))), (10, (.p (vSl 1 cS p_l))), (5, (.p (pI .i64 x1))), (1, (.p nilS)), (0, (.p (vSl 1 cS p_l)))], []⟩) (ids := []) (fun _ _ _ _ _ self1 x1 x2 hb1 h => ?_)
  refine K_cond hS trivial (b := decide (x2 < ((p_l.n : Nat) : Int))) (fun c3 => ?_) (fun c3 => ?_)
  · replace h := itT c3 h
    obtain ⟨c4, h⟩ := chkE h
    exact hb1 _ [] _ (IntKind.wrap .i64 (x1 + (((p_l.g x2.toNat).length : Nat) : Int))) (IntKind.wrap .i64 (x2 + 1)) c4 h
  · replace h := itF c3 h
    refine K_fix1 hS trivial h (fun x3 => ⟨[(23, (.p (pI .i64 0))), (22, (.p (pI .i64 0))), (21, (.p nilS)), (5, (.p (pI .i64 x1))), (0, (.p (vSl 1 cS p_l)))], []⟩) (ids := []) (fun _ _ _ _ _ self2 x3 hb2 h => ?_)
    refine K_cond hS trivial (b := decide (0 < 0)) (fun c6 => ?_) (fun c6 => ?_)
    · replace h := itT c6 h
      cases h
    · replace h := itF c6 h
      obtain ⟨t1, ht1⟩ : ∃ x : Bool, x = ((decide (((p_l.n : Nat) : Int) ≤ 100)) && (decide (x1 ≤ 4000))) := ⟨_, rfl⟩
      refine K_cut hS trivial (fnPost_up hS) 0 ⟨[(4, (.p (.bb t1)))], []⟩ (fun M1 hb3 => ?_) ?_
      · refine K_guard hS trivial (b := decide (((p_l.n : Nat) : Int) ≤ 100)) (fun c8 => ?_) (fun c8 => ?_)
        · exact hb3 _ [] _ trivial (by kernel_rfl) (by kernel_rfl) (klR [(0, .eq (.bb (decide (x1 ≤ 4000))) (.bb t1))] (al1 (by simp only [ht1, c8, Leaf.ok, pm, if_true, if_false]) al0))
        · exact hb3 _ [] _ trivial (by kernel_rfl) (by kernel_rfl) (klR [(0, .eq (.bb false) (.bb t1))] (al1 (by simp only [ht1, c8, Leaf.ok, pm, if_true, if_false]) al0))
      · subst ht1
        obtain rfl := someI h
        exact K_ret hS trivial [] ⟨rfl, rfl, rfl⟩
end Go.AM
set_option linter.unusedVariables false
set_option linter.unusedSectionVars false
namespace Go.AM
open Go.Proofs
set_option maxRecDepth 10000
set_option maxHeartbeats 2000000
variable {S : Sems} (hS : Good S Tryd.prog) (hL : LibC S)
include hS hL
def m_ablautlaw03_works (N : Nat)  : Option Bool :=
  (m_inventory_New N (Sl.of [[118, 111, 105, 99, 101], [115, 116, 111, 112], [118, 111, 119, 101, 108]] : Sl Str)).bind fun y1 =>
  optE y1.1 (
      some false
    ) fun z1 =>
    if ((y1.2 != 0) || false) = true then
      some false
    else
      (m_inventory_Inv_Bundle N z1 [43, 118, 111, 119, 101, 108, 32, 45, 115, 116, 111, 112]).bind fun y2 =>
      (m_inventory_Inv_Text N z1 y2.1).bind fun y3 =>
      (m_inventory_Inv_Add N z1 [112] (⟨2, 5⟩ : Sound)).bind fun y4 =>
      (m_inventory_Inv_Add N y4.2 [112, 104] (⟨2, 1⟩ : Sound)).bind fun y5 =>
      (m_inventory_Inv_Longest N y5.2 [112, 104, 97, 116]).bind fun y6 =>
      some ((((((((y2.2 == 0) && (((y2.1.Plus == 4) && (y2.1.Minus == 2)) != false)) && (y3.2 == 0)) && ((y3.1 == [45, 115, 116, 111, 112, 32, 43, 118, 111, 119, 101, 108]) != false)) && (y4.1 == 0)) && (y5.1 == 0)) && ((y6.1 == [112, 104]) != false)) && y6.2)
theorem w_ablautlaw03_works {N : Nat}    {y : Bool} (h : m_ablautlaw03_works N  = some y) :
    FunO S k_ablautlaw03_works [] [] (.p (.bb y)) ([]) [] := by
  unfold m_ablautlaw03_works at h
  refine K_start hS f_ablautlaw03_works ?_
  refine K_weak hS (rfl : true = true) ⟨[(12, (.vec 13000))], [(13000, (.vec t_string 1 (Sl.of [[118, 111, 105, 99, 101], [115, 116, 111, 112], [118, 111, 119, 101, 108]] : Sl Str).n (fun i => cS ((Sl.of [[118, 111, 105, 99, 101], [115, 116, 111, 112], [118, 111, 119, 101, 108]] : Sl Str).g i)) false))]⟩ (ids := [(13000, 13000)]) ?_ (hle := (klR [(0, .fn 3 (Sl.of [[118, 111, 105, 99, 101], [115, 116, 111, 112], [118, 111, 119, 101, 108]] : Sl Str).n (lookF [(.str [])] [(0, cS [118, 111, 105, 99, 101]), (1, cS [115, 116, 111, 112]), (2, cS [118, 111, 119, 101, 108])]) (fun i => cS ((Sl.of [[118, 111, 105, 99, 101], [115, 116, 111, 112], [118, 111, 119, 101, 108]] : Sl Str).g i)))] (al1 ⟨rfl, (fun i hi => match i, hi with | 0, _ => rfl | 1, _ => rfl | 2, _ => rfl | _ + 3, hi => absurd hi (by omega))⟩ al0)))
  obtain ⟨y1, e1, h⟩ := bindE h
  rcases o1 : y1.1 with _ | z1
  · replace h := optN o1 h
    have w1 := (w_inventory_New hS hL e1)
    simp only [o1, optE_none, optE_some, List.append_nil, List.cons_append, List.nil_append] at w1
    refine K_call hS [] trivial w1 ?_
    refine K_cut hS trivial (fnPost_up hS) 0 ⟨[(21, (.p (.v (.bool true)))), (1, (.p nilP))], []⟩ (fun M1 hb1 => ?_) ?_
    · refine K_guard hS trivial (b := y1.2 != 0) (fun c2 => ?_) (fun c2 => ?_)
      · exact hb1 _ [] _ trivial
      · exact hb1 _ [] _ trivial
    · obtain rfl := someI h
      exact K_ret hS trivial [] ⟨rfl, rfl, rfl⟩
  · replace h := optS o1 h
    have w2 := (w_inventory_New hS hL e1)
    simp only [o1, optE_none, optE_some, List.append_nil, List.cons_append, List.nil_append] at w2
    refine K_call hS [] trivial w2 ?_
    refine K_cut hS trivial (fnPost_up hS) 0 ⟨[(21, (.p (.bb ((y1.2 != 0) || false)))), (1, (.reg 14000 0))], [(14004, (.map (encM (fun x => .agg (c_Sound x)) (pI .i64) z1.values))), (14003, (.map (encM PV.str (pI .i64) z1.symbols))), (14002, (.vec t_api_Named 3 z1.sounds.n (fun i => c_Named (z1.sounds.g i)) true)), (14001, (.map (encM PV.str (pI .i64) z1.number))), (14000, (.cells [(.p (vSl 1 cS z1.feats)), (.mref 14001), (.vec 14002), (.mref 14003), (.mref 14004)]))]⟩ (fun M2 hb2 => ?_) ?_
    · refine K_guard hS trivial (b := y1.2 != 0) (fun c4 => ?_) (fun c4 => ?_)
      · exact hb2 _ [(14000, 14000), (14001, 14001), (14002, 14002), (14003, 14003), (14004, 14004)] _ trivial (by kernel_rfl) (by kernel_rfl) (klR [(0, .eq (.bb true) (.bb ((y1.2 != 0) || false)))] (al1 (by simp only [c4, Leaf.ok, pm, if_true, if_false]) al0))
      · exact hb2 _ [(14000, 14000), (14001, 14001), (14002, 14002), (14003, 14003), (14004, 14004)] _ trivial (by kernel_rfl) (by kernel_rfl) (klR [(0, .eq (.bb false) (.bb ((y1.2 != 0) || false)))] (al1 (by simp only [c4, Leaf.ok, pm, if_true, if_false]) al0))
    · refine K_cond hS trivial (b := (y1.2 != 0) || false) (fun c5 => ?_) (fun c5 => ?_)
      · replace h := itT c5 h
        obtain rfl := someI h
        exact K_ret hS trivial [] ⟨rfl, rfl, rfl⟩
      · replace h := itF c5 h
        obtain ⟨y2, e2, h⟩ := bindE h
        refine K_call hS [14000, 14001, 14002, 14003, 14004] trivial (w_inventory_Inv_Bundle hS hL e2) ?_
        obtain ⟨y3, e3, h⟩ := bindE h
        refine K_call hS [14000, 14001, 14002, 14003, 14004] trivial (w_inventory_Inv_Text hS hL e3) ?_
        obtain ⟨y4, e4, h⟩ := bindE h
        refine K_call hS [14000, 14001, 14002, 14003, 14004] trivial (w_inventory_Inv_Add hS hL e4) ?_
        obtain ⟨y5, e5, h⟩ := bindE h
        refine K_call hS [14000, 14001, 36002, 14003, 14004] trivial (w_inventory_Inv_Add hS hL e5) ?_
        obtain ⟨y6, e6, h⟩ := bindE h
        refine K_call hS [14000, 14001, 39002, 14003, 14004] trivial (w_inventory_Inv_Longest hS hL e6) ?_
        obtain ⟨t1, ht1⟩ : ∃ x : Bool, x = ((((((((y2.2 == 0) && (((y2.1.Plus == 4) && (y2.1.Minus == 2)) != false)) && (y3.2 == 0)) && ((y3.1 == [45, 115, 116, 111, 112, 32, 43, 118, 111, 119, 101, 108]) != false)) && (y4.1 == 0)) && (y5.1 == 0)) && ((y6.1 == [112, 104]) != false)) && y6.2) := ⟨_, rfl⟩
        refine K_cut hS trivial (fnPost_up hS) 0 ⟨[(0, (.p (.bb t1)))], []⟩ (fun M3 hb3 => ?_) ?_
        · refine K_guard hS trivial (b := y2.2 == 0) (fun c13 => ?_) (fun c13 => ?_)
          · refine K_guard hS (by decide +kernel : eqOk Tryd.prog t_api_Sound = true) (b := (((y2.1.Plus == 4) && (y2.1.Minus == 2)) != false)) (fun c14 => ?_) (fun c14 => ?_)
            · refine K_guard hS trivial (b := y3.2 == 0) (fun c15 => ?_) (fun c15 => ?_)
              · refine K_guard hS trivial (b := ((y3.1 == [45, 115, 116, 111, 112, 32, 43, 118, 111, 119, 101, 108]) != false)) (fun c16 => ?_) (fun c16 => ?_)
                · refine K_guard hS trivial (b := y4.1 == 0) (fun c17 => ?_) (fun c17 => ?_)
                  · refine K_guard hS trivial (b := y5.1 == 0) (fun c18 => ?_) (fun c18 => ?_)
                    · refine K_guard hS trivial (b := ((y6.1 == [112, 104]) != false)) (fun c19 => ?_) (fun c19 => ?_)
                      · exact hb3 _ [] _ trivial (by kernel_rfl) (by kernel_rfl) (klR [(0, .eq (.bb y6.2) (.bb t1))] (al1 (by simp only [ht1, c13, c14, c15, c16, c17, c18, c19, Leaf.ok, pm, if_true, if_false]) al0))
                      · exact hb3 _ [] _ trivial (by kernel_rfl) (by kernel_rfl) (klR [(0, .eq (.bb false) (.bb t1))] (al1 (by simp only [ht1, c13, c14, c15, c16, c17, c18, c19, Leaf.ok, pm, if_true, if_false]) al0))
                    · exact hb3 _ [] _ trivial (by kernel_rfl) (by kernel_rfl) (klR [(0, .eq (.bb false) (.bb t1))] (al1 (by simp only [ht1, c13, c14, c15, c16, c17, c18, Leaf.ok, pm, if_true, if_false]) al0))
                  · exact hb3 _ [] _ trivial (by kernel_rfl) (by kernel_rfl) (klR [(0, .eq (.bb false) (.bb t1))] (al1 (by simp only [ht1, c13, c14, c15, c16, c17, Leaf.ok, pm, if_true, if_false]) al0))
                · exact hb3 _ [] _ trivial (by kernel_rfl) (by kernel_rfl) (klR [(0, .eq (.bb false) (.bb t1))] (al1 (by simp only [ht1, c13, c14, c15, c16, Leaf.ok, pm, if_true, if_false]) al0))
              · exact hb3 _ [] _ trivial (by kernel_rfl) (by kernel_rfl) (klR [(0, .eq (.bb false) (.bb t1))] (al1 (by simp only [ht1, c13, c14, c15, Leaf.ok, pm, if_true, if_false]) al0))
            · exact hb3 _ [] _ trivial (by kernel_rfl) (by kernel_rfl) (klR [(0, .eq (.bb false) (.bb t1))] (al1 (by simp only [ht1, c13, c14, Leaf.ok, pm, if_true, if_false]) al0))
          · exact hb3 _ [] _ trivial (by kernel_rfl) (by kernel_rfl) (klR [(0, .eq (.bb false) (.bb t1))] (al1 (by simp only [ht1, c13, Leaf.ok, pm, if_true, if_false]) al0))
        · subst ht1
          obtain rfl := someI h
          exact K_ret hS trivial [] ⟨rfl, rfl, rfl⟩
def m_ablautlaw03_both (N : Nat) (p_feats : (Sl Str)) : Option ((Option O_inventory_Inv) × (Option O_ablautref03_Inv) × Bool) :=
  (m_inventory_New N p_feats).bind fun y1 =>
  optE y1.1 (
      (m_ablautref03_New N p_feats).bind fun y2 =>
      optE y2.1 (
          some (none, none, ((y1.2 == y2.2) && ((true == true) != false)))
        ) fun z2 =>
        some (none, some z2, ((y1.2 == y2.2) && ((true == false) != false)))
    ) fun z1 =>
    (m_ablautref03_New N p_feats).bind fun y3 =>
    optE y3.1 (
        some (some z1, none, ((y1.2 == y3.2) && ((false == true) != false)))
      ) fun z3 =>
      some (some z1, some z3, ((y1.2 == y3.2) && ((false == false) != false)))
theorem w_ablautlaw03_both {N : Nat} {p_feats : (Sl Str)}   {y : ((Option O_inventory_Inv) × (Option O_ablautref03_Inv) × Bool)} (h : m_ablautlaw03_both N p_feats = some y) :
    FunO S k_ablautlaw03_both [(.p (vSl 1 cS p_feats))] [] (.tup [(optE y.1 (.p nilP) fun _ => .reg 0 0), (optE y.1 (optE y.2.1 (.p nilP) fun _ => .reg 0 0) fun _ => (optE y.2.1 (.p nilP) fun _ => .reg 5 0)), (.p (.bb y.2.2))]) ((optE y.1 (optE y.2.1 [] fun o => [(.cells [(.p (.bb o.Made)), (.p (vSl 1 cS o.F)), (.vec 1)]), (.vec t_api_Named 3 o.S.n (fun i => c_Named (o.S.g i)) true)]) fun o => [(.cells [(.p (vSl 1 cS o.feats)), (.mref 1), (.vec 2), (.mref 3), (.mref 4)]), (.map (encM PV.str (pI .i64) o.number)), (.vec t_api_Named 3 o.sounds.n (fun i => c_Named (o.sounds.g i)) true), (.map (encM PV.str (pI .i64) o.symbols)), (.map (encM (fun x => .agg (c_Sound x)) (pI .i64) o.values))] ++ (optE y.2.1 [] fun o => [(.cells [(.p (.bb o.Made)), (.p (vSl 1 cS o.F)), (.vec 6)]), (.vec t_api_Named 3 o.S.n (fun i => c_Named (o.S.g i)) true)]))) [] := by
  unfold m_ablautlaw03_both at h
  refine K_start hS f_ablautlaw03_both ?_
  obtain ⟨y1, e1, h⟩ := bindE h
  rcases o1 : y1.1 with _ | z1
  · replace h := optN o1 h
    have w1 := (w_inventory_New hS hL e1)
    simp only [o1, optE_none, optE_some, List.append_nil, List.cons_append, List.nil_append] at w1
    refine K_call hS [] trivial w1 ?_
    obtain ⟨y2, e2, h⟩ := bindE h
    rcases o2 : y2.1 with _ | z2
    · replace h := optN o2 h
      have w2 := (w_ablautref03_New hS hL e2)
      simp only [o2, optE_none, optE_some, List.append_nil, List.cons_append, List.nil_append] at w2
      refine K_call hS [] trivial w2 ?_
      obtain ⟨t1, ht1⟩ : ∃ x : Bool, x = ((y1.2 == y2.2) && ((true == true) != false)) := ⟨_, rfl⟩
      refine K_cut hS trivial (fnPost_up hS) 0 ⟨[(4, (.p (.bb t1))), (3, (.p nilP)), (2, (.p nilP))], []⟩ (fun M1 hb1 => ?_) ?_
      · refine K_guard hS trivial (b := y1.2 == y2.2) (fun c2 => ?_) (fun c2 => ?_)
        · exact hb1 _ [] _ trivial (by kernel_rfl) (by kernel_rfl) (klR [(0, .eq (.bb ((true == true) != false)) (.bb t1))] (al1 (by simp only [ht1, c2, Leaf.ok, pm, if_true, if_false]) al0))
        · exact hb1 _ [] _ trivial (by kernel_rfl) (by kernel_rfl) (klR [(0, .eq (.bb false) (.bb t1))] (al1 (by simp only [ht1, c2, Leaf.ok, pm, if_true, if_false]) al0))
      · subst ht1
        obtain rfl := someI h
        exact K_retO hS trivial ⟨[(4, (.p (.bb ((y1.2 == y2.2) && ((true == true) != false))))), (3, (.p nilP)), (2, (.p nilP))], []⟩ [] (ids := []) ⟨rfl, rfl, rfl⟩
    · replace h := optS o2 h
      have w3 := (w_ablautref03_New hS hL e2)
      simp only [o2, optE_none, optE_some, List.append_nil, List.cons_append, List.nil_append] at w3
      refine K_call hS [] trivial w3 ?_
      obtain ⟨t2, ht2⟩ : ∃ x : Bool, x = ((y1.2 == y2.2) && ((true == false) != false)) := ⟨_, rfl⟩
      refine K_cut hS trivial (fnPost_up hS) 0 ⟨[(4, (.p (.bb t2))), (3, (.reg 17000 0)), (2, (.p nilP))], [(17001, (.vec t_api_Named 3 z2.S.n (fun i => c_Named (z2.S.g i)) true)), (17000, (.cells [(.p (.bb z2.Made)), (.p (vSl 1 cS z2.F)), (.vec 17001)]))]⟩ (fun M2 hb2 => ?_) ?_
      · refine K_guard hS trivial (b := y1.2 == y2.2) (fun c4 => ?_) (fun c4 => ?_)
        · exact hb2 _ [(17000, 17000), (17001, 17001)] _ trivial (by kernel_rfl) (by kernel_rfl) (klR [(0, .eq (.bb ((true == false) != false)) (.bb t2))] (al1 (by simp only [ht2, c4, Leaf.ok, pm, if_true, if_false]) al0))
        · exact hb2 _ [(17000, 17000), (17001, 17001)] _ trivial (by kernel_rfl) (by kernel_rfl) (klR [(0, .eq (.bb false) (.bb t2))] (al1 (by simp only [ht2, c4, Leaf.ok, pm, if_true, if_false]) al0))
      · subst ht2
        obtain rfl := someI h
        exact K_retO hS trivial ⟨[(4, (.p (.bb ((y1.2 == y2.2) && ((true == false) != false))))), (3, (.reg 17000 0)), (2, (.p nilP))], [(17001, (.vec t_api_Named 3 z2.S.n (fun i => c_Named (z2.S.g i)) true)), (17000, (.cells [(.p (.bb z2.Made)), (.p (vSl 1 cS z2.F)), (.vec 17001)]))]⟩ [17000, 17001] (ids := [(17000, 17000), (17001, 17001)]) ⟨rfl, rfl, rfl⟩
  · replace h := optS o1 h
    have w4 := (w_inventory_New hS hL e1)
    simp only [o1, optE_none, optE_some, List.append_nil, List.cons_append, List.nil_append] at w4
    refine K_call hS [] trivial w4 ?_
    obtain ⟨y3, e3, h⟩ := bindE h
    rcases o3 : y3.1 with _ | z3
    · replace h := optN o3 h
      have w5 := (w_ablautref03_New hS hL e3)
      simp only [o3, optE_none, optE_some, List.append_nil, List.cons_append, List.nil_append] at w5
      refine K_call hS [] trivial w5 ?_
      obtain ⟨t3, ht3⟩ : ∃ x : Bool, x = ((y1.2 == y3.2) && ((false == true) != false)) := ⟨_, rfl⟩
      refine K_cut hS trivial (fnPost_up hS) 0 ⟨[(4, (.p (.bb t3))), (3, (.p nilP)), (2, (.reg 12000 0))], [(12004, (.map (encM (fun x => .agg (c_Sound x)) (pI .i64) z1.values))), (12003, (.map (encM PV.str (pI .i64) z1.symbols))), (12002, (.vec t_api_Named 3 z1.sounds.n (fun i => c_Named (z1.sounds.g i)) true)), (12001, (.map (encM PV.str (pI .i64) z1.number))), (12000, (.cells [(.p (vSl 1 cS z1.feats)), (.mref 12001), (.vec 12002), (.mref 12003), (.mref 12004)]))]⟩ (fun M3 hb3 => ?_) ?_
      · refine K_guard hS trivial (b := y1.2 == y3.2) (fun c6 => ?_) (fun c6 => ?_)
        · exact hb3 _ [(12000, 12000), (12001, 12001), (12002, 12002), (12003, 12003), (12004, 12004)] _ trivial (by kernel_rfl) (by kernel_rfl) (klR [(0, .eq (.bb ((false == true) != false)) (.bb t3))] (al1 (by simp only [ht3, c6, Leaf.ok, pm, if_true, if_false]) al0))
        · exact hb3 _ [(12000, 12000), (12001, 12001), (12002, 12002), (12003, 12003), (12004, 12004)] _ trivial (by kernel_rfl) (by kernel_rfl) (klR [(0, .eq (.bb false) (.bb t3))] (al1 (by simp only [ht3, c6, Leaf.ok, pm, if_true, if_false]) al0))
      · subst ht3
        obtain rfl := someI h
        exact K_retO hS trivial ⟨[(4, (.p (.bb ((y1.2 == y3.2) && ((false == true) != false))))), (3, (.p nilP)), (2, (.reg 12000 0))], [(12004, (.map (encM (fun x => .agg (c_Sound x)) (pI .i64) z1.values))), (12003, (.map (encM PV.str (pI .i64) z1.symbols))), (12002, (.vec t_api_Named 3 z1.sounds.n (fun i => c_Named (z1.sounds.g i)) true)), (12001, (.map (encM PV.str (pI .i64) z1.number))), (12000, (.cells [(.p (vSl 1 cS z1.feats)), (.mref 12001), (.vec 12002), (.mref 12003), (.mref 12004)]))]⟩ [12000, 12001, 12002, 12003, 12004] (ids := [(12000, 12000), (12001, 12001), (12002, 12002), (12003, 12003), (12004, 12004)]) ⟨rfl, rfl, rfl⟩
    · replace h := optS o3 h
      have w6 := (w_ablautref03_New hS hL e3)
      simp only [o3, optE_none, optE_some, List.append_nil, List.cons_append, List.nil_append] at w6
      refine K_call hS [] trivial w6 ?_
      obtain ⟨t4, ht4⟩ : ∃ x : Bool, x = ((y1.2 == y3.2) && ((false == false) != false)) := ⟨_, rfl⟩
      refine K_cut hS trivial (fnPost_up hS) 0 ⟨[(4, (.p (.bb t4))), (3, (.reg 17000 0)), (2, (.reg 12000 0))], [(17001, (.vec t_api_Named 3 z3.S.n (fun i => c_Named (z3.S.g i)) true)), (17000, (.cells [(.p (.bb z3.Made)), (.p (vSl 1 cS z3.F)), (.vec 17001)])), (12004, (.map (encM (fun x => .agg (c_Sound x)) (pI .i64) z1.values))), (12003, (.map (encM PV.str (pI .i64) z1.symbols))), (12002, (.vec t_api_Named 3 z1.sounds.n (fun i => c_Named (z1.sounds.g i)) true)), (12001, (.map (encM PV.str (pI .i64) z1.number))), (12000, (.cells [(.p (vSl 1 cS z1.feats)), (.mref 12001), (.vec 12002), (.mref 12003), (.mref 12004)]))]⟩ (fun M4 hb4 => ?_) ?_
      · refine K_guard hS trivial (b := y1.2 == y3.2) (fun c8 => ?_) (fun c8 => ?_)
        · exact hb4 _ [(12000, 12000), (12001, 12001), (12002, 12002), (12003, 12003), (12004, 12004), (17000, 17000), (17001, 17001)] _ trivial (by kernel_rfl) (by kernel_rfl) (klR [(0, .eq (.bb ((false == false) != false)) (.bb t4))] (al1 (by simp only [ht4, c8, Leaf.ok, pm, if_true, if_false]) al0))
        · exact hb4 _ [(12000, 12000), (12001, 12001), (12002, 12002), (12003, 12003), (12004, 12004), (17000, 17000), (17001, 17001)] _ trivial (by kernel_rfl) (by kernel_rfl) (klR [(0, .eq (.bb false) (.bb t4))] (al1 (by simp only [ht4, c8, Leaf.ok, pm, if_true, if_false]) al0))
      · subst ht4
        obtain rfl := someI h
        exact K_retO hS trivial ⟨[(4, (.p (.bb ((y1.2 == y3.2) && ((false == false) != false))))), (3, (.reg 17000 0)), (2, (.reg 12000 0))], [(17001, (.vec t_api_Named 3 z3.S.n (fun i => c_Named (z3.S.g i)) true)), (17000, (.cells [(.p (.bb z3.Made)), (.p (vSl 1 cS z3.F)), (.vec 17001)])), (12004, (.map (encM (fun x => .agg (c_Sound x)) (pI .i64) z1.values))), (12003, (.map (encM PV.str (pI .i64) z1.symbols))), (12002, (.vec t_api_Named 3 z1.sounds.n (fun i => c_Named (z1.sounds.g i)) true)), (12001, (.map (encM PV.str (pI .i64) z1.number))), (12000, (.cells [(.p (vSl 1 cS z1.feats)), (.mref 12001), (.vec 12002), (.mref 12003), (.mref 12004)]))]⟩ [12000, 12001, 12002, 12003, 12004, 17000, 17001] (ids := [(12000, 12000), (12001, 12001), (12002, 12002), (12003, 12003), (12004, 12004), (17000, 17000), (17001, 17001)]) ⟨rfl, rfl, rfl⟩
def m_ablautlaw03_InventoryTexts (N : Nat) (p_feats : (Sl Str)) (p_s : Sound) : Option Bool :=
  (m_ablautlaw03_few_nil N p_feats).bind fun y1 =>
  if (!y1) = true then
    (m_ablautlaw03_works N ).bind fun y2 =>
    some y2
  else
    (m_ablautlaw03_both N p_feats).bind fun y3 =>
    optE y3.1 (
        optE y3.2.1 (
            if (!y3.2.2) = true then
              some false
            else
              (m_inventory_Inv_Text_nil N p_s).bind fun y4 =>
              (m_ablautref03_Inv_Text_nil N p_s).bind fun y5 =>
              lt (fun (z3 : Bool) =>
                  some z3
                ) fun k1 =>
                if ((y4.1 == y5.1) != false) = true then
                  if (y4.2 == y5.2) = true then
                    (m_ablautlaw03_works N ).bind fun y7 =>
                    k1 y7
                  else
                    k1 false
                else
                  k1 false
          ) fun z2 =>
          if (!y3.2.2) = true then
            some false
          else
            (m_inventory_Inv_Text_nil N p_s).bind fun y8 =>
            (m_ablautref03_Inv_Text N z2 p_s).bind fun y9 =>
            lt (fun (z4 : Bool) =>
                some z4
              ) fun k2 =>
              if ((y8.1 == y9.1) != false) = true then
                if (y8.2 == y9.2) = true then
                  (m_ablautlaw03_works N ).bind fun y11 =>
                  k2 y11
                else
                  k2 false
              else
                k2 false
      ) fun z1 =>
      optE y3.2.1 (
          if (!y3.2.2) = true then
            some false
          else
            (m_inventory_Inv_Text N z1 p_s).bind fun y12 =>
            (m_ablautref03_Inv_Text_nil N p_s).bind fun y13 =>
            lt (fun (z6 : Bool) =>
                some z6
              ) fun k3 =>
              if ((y12.1 == y13.1) != false) = true then
                if (y12.2 == y13.2) = true then
                  (m_ablautlaw03_works N ).bind fun y15 =>
                  k3 y15
                else
                  k3 false
              else
                k3 false
        ) fun z5 =>
        if (!y3.2.2) = true then
          some false
        else
          (m_inventory_Inv_Text N z1 p_s).bind fun y16 =>
          (m_ablautref03_Inv_Text N z5 p_s).bind fun y17 =>
          lt (fun (z7 : Bool) =>
              some z7
            ) fun k4 =>
            if ((y16.1 == y17.1) != false) = true then
              if (y16.2 == y17.2) = true then
                (m_ablautlaw03_works N ).bind fun y19 =>
                k4 y19
              else
                k4 false
            else
              k4 false
theorem w_ablautlaw03_InventoryTexts {N : Nat} {p_feats : (Sl Str)} {p_s : Sound}   {y : Bool} (h : m_ablautlaw03_InventoryTexts N p_feats p_s = some y) :
    FunO S k_ablautlaw03_InventoryTexts [(.p (vSl 1 cS p_feats)), (.p (.agg (c_Sound p_s)))] [] (.p (.bb y)) ([]) [] := by
  unfold m_ablautlaw03_InventoryTexts at h
  refine K_start hS f_ablautlaw03_InventoryTexts ?_
  obtain ⟨y1, e1, h⟩ := bindE h
  refine K_call hS [] trivial (w_ablautlaw03_few_nil hS hL e1) ?_
  refine K_cond hS trivial (b := !y1) (fun c1 => ?_) (fun c1 => ?_)
  · replace h := itT c1 h
    obtain ⟨y2, e2, h⟩ := bindE h
    refine K_call hS [] trivial (w_ablautlaw03_works hS hL e2) ?_
    obtain rfl := someI h
    exact K_ret hS trivial [] ⟨rfl, rfl, rfl⟩
  · replace h := itF c1 h
    obtain ⟨y3, e3, h⟩ := bindE h
    rcases o1 : y3.1 with _ | z1
    · replace h := optN o1 h
      rcases o2 : y3.2.1 with _ | z2
      · replace h := optN o2 h
        have w1 := (w_ablautlaw03_both hS hL e3)
        simp only [o1, o2, optE_none, optE_some, List.append_nil, List.cons_append, List.nil_append] at w1
        refine K_call hS [] trivial w1 ?_
        refine K_cond hS trivial (b := !y3.2.2) (fun c2 => ?_) (fun c2 => ?_)
        · replace h := itT c2 h
          obtain rfl := someI h
          exact K_ret hS trivial [] ⟨rfl, rfl, rfl⟩
        · replace h := itF c2 h
          obtain ⟨y4, e4, h⟩ := bindE h
          refine K_call hS [] trivial (w_inventory_Inv_Text_nil hS hL e4) ?_
          obtain ⟨y5, e5, h⟩ := bindE h
          refine K_call hS [] trivial (w_ablautref03_Inv_Text_nil hS hL e5) ?_
          refine K_lt hS trivial (fnPost_up hS) h 0 (fun z3 => ⟨[(4, (.p (.bb z3)))], []⟩) (fun M1 k1 hb1 h => ?_) (fun z3 h => ?_)
          · refine K_guard hS trivial (b := ((y4.1 == y5.1) != false)) (fun c7 => ?_) (fun c7 => ?_)
            · replace h := itT c7 h
              refine K_guard hS trivial (b := y4.2 == y5.2) (fun c8 => ?_) (fun c8 => ?_)
              · replace h := itT c8 h
                obtain ⟨y7, e7, h⟩ := bindE h
                refine K_call hS [] trivial (w_ablautlaw03_works hS hL e7) ?_
                exact hb1 _ [] _ y7 trivial h
              · replace h := itF c8 h
                exact hb1 _ [] _ false trivial h
            · replace h := itF c7 h
              exact hb1 _ [] _ false trivial h
          · obtain rfl := someI h
            exact K_ret hS trivial [] ⟨rfl, rfl, rfl⟩
      · replace h := optS o2 h
        have w2 := (w_ablautlaw03_both hS hL e3)
        simp only [o1, o2, optE_none, optE_some, List.append_nil, List.cons_append, List.nil_append] at w2
        refine K_call hS [] trivial w2 ?_
        refine K_cond hS trivial (b := !y3.2.2) (fun c9 => ?_) (fun c9 => ?_)
        · replace h := itT c9 h
          obtain rfl := someI h
          exact K_ret hS trivial [] ⟨rfl, rfl, rfl⟩
        · replace h := itF c9 h
          obtain ⟨y8, e8, h⟩ := bindE h
          refine K_call hS [] trivial (w_inventory_Inv_Text_nil hS hL e8) ?_
          obtain ⟨y9, e9, h⟩ := bindE h
          refine K_call hS [19000, 19001] trivial (w_ablautref03_Inv_Text hS hL e9) ?_
          refine K_lt hS trivial (fnPost_up hS) h 0 (fun z4 => ⟨[(4, (.p (.bb z4)))], []⟩) (fun M2 k2 hb2 h => ?_) (fun z4 h => ?_)
          · refine K_guard hS trivial (b := ((y8.1 == y9.1) != false)) (fun c14 => ?_) (fun c14 => ?_)
            · replace h := itT c14 h
              refine K_guard hS trivial (b := y8.2 == y9.2) (fun c15 => ?_) (fun c15 => ?_)
              · replace h := itT c15 h
                obtain ⟨y11, e11, h⟩ := bindE h
                refine K_call hS [] trivial (w_ablautlaw03_works hS hL e11) ?_
                exact hb2 _ [] _ y11 trivial h
              · replace h := itF c15 h
                exact hb2 _ [] _ false trivial h
            · replace h := itF c14 h
              exact hb2 _ [] _ false trivial h
          · obtain rfl := someI h
            exact K_ret hS trivial [] ⟨rfl, rfl, rfl⟩
    · replace h := optS o1 h
      rcases o3 : y3.2.1 with _ | z5
      · replace h := optN o3 h
        have w3 := (w_ablautlaw03_both hS hL e3)
        simp only [o1, o3, optE_none, optE_some, List.append_nil, List.cons_append, List.nil_append] at w3
        refine K_call hS [] trivial w3 ?_
        refine K_cond hS trivial (b := !y3.2.2) (fun c16 => ?_) (fun c16 => ?_)
        · replace h := itT c16 h
          obtain rfl := someI h
          exact K_ret hS trivial [] ⟨rfl, rfl, rfl⟩
        · replace h := itF c16 h
          obtain ⟨y12, e12, h⟩ := bindE h
          refine K_call hS [19000, 19001, 19002, 19003, 19004] trivial (w_inventory_Inv_Text hS hL e12) ?_
          obtain ⟨y13, e13, h⟩ := bindE h
          refine K_call hS [] trivial (w_ablautref03_Inv_Text_nil hS hL e13) ?_
          refine K_lt hS trivial (fnPost_up hS) h 0 (fun z6 => ⟨[(4, (.p (.bb z6)))], []⟩) (fun M3 k3 hb3 h => ?_) (fun z6 h => ?_)
          · refine K_guard hS trivial (b := ((y12.1 == y13.1) != false)) (fun c21 => ?_) (fun c21 => ?_)
            · replace h := itT c21 h
              refine K_guard hS trivial (b := y12.2 == y13.2) (fun c22 => ?_) (fun c22 => ?_)
              · replace h := itT c22 h
                obtain ⟨y15, e15, h⟩ := bindE h
                refine K_call hS [] trivial (w_ablautlaw03_works hS hL e15) ?_
                exact hb3 _ [] _ y15 trivial h
              · replace h := itF c22 h
                exact hb3 _ [] _ false trivial h
            · replace h := itF c21 h
              exact hb3 _ [] _ false trivial h
          · obtain rfl := someI h
            exact K_ret hS trivial [] ⟨rfl, rfl, rfl⟩
      · replace h := optS o3 h
        have w4 := (w_ablautlaw03_both hS hL e3)
        simp only [o1, o3, optE_none, optE_some, List.append_nil, List.cons_append, List.nil_append] at w4
        refine K_call hS [] trivial w4 ?_
        refine K_cond hS trivial (b := !y3.2.2) (fun c23 => ?_) (fun c23 => ?_)
        · replace h := itT c23 h
          obtain rfl := someI h
          exact K_ret hS trivial [] ⟨rfl, rfl, rfl⟩
        · replace h := itF c23 h
          obtain ⟨y16, e16, h⟩ := bindE h
          refine K_call hS [19000, 19001, 19002, 19003, 19004] trivial (w_inventory_Inv_Text hS hL e16) ?_
          obtain ⟨y17, e17, h⟩ := bindE h
          refine K_call hS [19005, 19006] trivial (w_ablautref03_Inv_Text hS hL e17) ?_
          refine K_lt hS trivial (fnPost_up hS) h 0 (fun z7 => ⟨[(4, (.p (.bb z7)))], []⟩) (fun M4 k4 hb4 h => ?_) (fun z7 h => ?_)
          · refine K_guard hS trivial (b := ((y16.1 == y17.1) != false)) (fun c28 => ?_) (fun c28 => ?_)
            · replace h := itT c28 h
              refine K_guard hS trivial (b := y16.2 == y17.2) (fun c29 => ?_) (fun c29 => ?_)
              · replace h := itT c29 h
                obtain ⟨y19, e19, h⟩ := bindE h
                refine K_call hS [] trivial (w_ablautlaw03_works hS hL e19) ?_
                exact hb4 _ [] _ y19 trivial h
              · replace h := itF c29 h
                exact hb4 _ [] _ false trivial h
            · replace h := itF c28 h
              exact hb4 _ [] _ false trivial h
          · obtain rfl := someI h
            exact K_ret hS trivial [] ⟨rfl, rfl, rfl⟩
def m_ablautlaw03_InventoryBundles (N : Nat) (p_feats : (Sl Str)) (p_text : Str) : Option Bool :=
  (m_ablautlaw03_few N p_feats (Sl.of [p_text] : Sl Str)).bind fun y1 =>
  if (!y1) = true then
    (m_ablautlaw03_works N ).bind fun y2 =>
    some y2
  else
    (m_ablautlaw03_both N p_feats).bind fun y3 =>
    optE y3.1 (
        optE y3.2.1 (
            if (!y3.2.2) = true then
              some false
            else
              (m_inventory_Inv_Bundle_nil N p_text).bind fun y4 =>
              (m_ablautref03_Inv_Bundle_nil N p_text).bind fun y5 =>
              lt (fun (z3 : Bool) =>
                  some z3
                ) fun k1 =>
                if (((y4.1.Plus == y5.1.Plus) && (y4.1.Minus == y5.1.Minus)) != false) = true then
                  if (y4.2 == y5.2) = true then
                    (m_ablautlaw03_works N ).bind fun y7 =>
                    k1 y7
                  else
                    k1 false
                else
                  k1 false
          ) fun z2 =>
          if (!y3.2.2) = true then
            some false
          else
            (m_inventory_Inv_Bundle_nil N p_text).bind fun y8 =>
            (m_ablautref03_Inv_Bundle N z2 p_text).bind fun y9 =>
            lt (fun (z4 : Bool) =>
                some z4
              ) fun k2 =>
              if (((y8.1.Plus == y9.1.Plus) && (y8.1.Minus == y9.1.Minus)) != false) = true then
                if (y8.2 == y9.2) = true then
                  (m_ablautlaw03_works N ).bind fun y11 =>
                  k2 y11
                else
                  k2 false
              else
                k2 false
      ) fun z1 =>
      optE y3.2.1 (
          if (!y3.2.2) = true then
            some false
          else
            (m_inventory_Inv_Bundle N z1 p_text).bind fun y12 =>
            (m_ablautref03_Inv_Bundle_nil N p_text).bind fun y13 =>
            lt (fun (z6 : Bool) =>
                some z6
              ) fun k3 =>
              if (((y12.1.Plus == y13.1.Plus) && (y12.1.Minus == y13.1.Minus)) != false) = true then
                if (y12.2 == y13.2) = true then
                  (m_ablautlaw03_works N ).bind fun y15 =>
                  k3 y15
                else
                  k3 false
              else
                k3 false
        ) fun z5 =>
        if (!y3.2.2) = true then
          some false
        else
          (m_inventory_Inv_Bundle N z1 p_text).bind fun y16 =>
          (m_ablautref03_Inv_Bundle N z5 p_text).bind fun y17 =>
          lt (fun (z7 : Bool) =>
              some z7
            ) fun k4 =>
            if (((y16.1.Plus == y17.1.Plus) && (y16.1.Minus == y17.1.Minus)) != false) = true then
              if (y16.2 == y17.2) = true then
                (m_ablautlaw03_works N ).bind fun y19 =>
                k4 y19
              else
                k4 false
            else
              k4 false
theorem w_ablautlaw03_InventoryBundles {N : Nat} {p_feats : (Sl Str)} {p_text : Str}   {y : Bool} (h : m_ablautlaw03_InventoryBundles N p_feats p_text = some y) :
    FunO S k_ablautlaw03_InventoryBundles [(.p (vSl 1 cS p_feats)), (.p (.str p_text))] [] (.p (.bb y)) ([]) [] := by
  unfold m_ablautlaw03_InventoryBundles at h
  refine K_start hS f_ablautlaw03_InventoryBundles ?_
  refine K_weak hS (rfl : true = true) ⟨[(14, (.vec 15000)), (12, (.p (vSl 1 cS p_feats))), (1, (.p (.str p_text))), (0, (.p (vSl 1 cS p_feats)))], [(15000, (.vec t_string 1 (Sl.of [p_text] : Sl Str).n (fun i => cS ((Sl.of [p_text] : Sl Str).g i)) false))]⟩ (ids := [(15000, 15000)]) ?_ (hle := (klR [(3, .fn 1 (Sl.of [p_text] : Sl Str).n (lookF [(.str [])] [(0, cS p_text)]) (fun i => cS ((Sl.of [p_text] : Sl Str).g i)))] (al1 ⟨rfl, (fun i hi => match i, hi with | 0, _ => rfl | _ + 1, hi => absurd hi (by omega))⟩ al0)))
  obtain ⟨y1, e1, h⟩ := bindE h
  refine K_call hS [] trivial (w_ablautlaw03_few hS hL e1) ?_
  refine K_cond hS trivial (b := !y1) (fun c1 => ?_) (fun c1 => ?_)
  · replace h := itT c1 h
    obtain ⟨y2, e2, h⟩ := bindE h
    refine K_call hS [] trivial (w_ablautlaw03_works hS hL e2) ?_
    obtain rfl := someI h
    exact K_ret hS trivial [] ⟨rfl, rfl, rfl⟩
  · replace h := itF c1 h
    obtain ⟨y3, e3, h⟩ := bindE h
    rcases o1 : y3.1 with _ | z1
    · replace h := optN o1 h
      rcases o2 : y3.2.1 with _ | z2
      · replace h := optN o2 h
        have w1 := (w_ablautlaw03_both hS hL e3)
        simp only [o1, o2, optE_none, optE_some, List.append_nil, List.cons_append, List.nil_append] at w1
        refine K_call hS [] trivial w1 ?_
        refine K_cond hS trivial (b := !y3.2.2) (fun c2 => ?_) (fun c2 => ?_)
        · replace h := itT c2 h
          obtain rfl := someI h
          exact K_ret hS trivial [] ⟨rfl, rfl, rfl⟩
        · replace h := itF c2 h
          obtain ⟨y4, e4, h⟩ := bindE h
          refine K_call hS [] trivial (w_inventory_Inv_Bundle_nil hS hL e4) ?_
          obtain ⟨y5, e5, h⟩ := bindE h
          refine K_call hS [] trivial (w_ablautref03_Inv_Bundle_nil hS hL e5) ?_
          refine K_lt hS (by decide +kernel : eqOk Tryd.prog t_api_Sound = true) (fnPost_up hS) h 0 (fun z3 => ⟨[(4, (.p (.bb z3)))], []⟩) (fun M1 k1 hb1 h => ?_) (fun z3 h => ?_)
          · refine K_guard hS trivial (b := (((y4.1.Plus == y5.1.Plus) && (y4.1.Minus == y5.1.Minus)) != false)) (fun c7 => ?_) (fun c7 => ?_)
            · replace h := itT c7 h
              refine K_guard hS trivial (b := y4.2 == y5.2) (fun c8 => ?_) (fun c8 => ?_)
              · replace h := itT c8 h
                obtain ⟨y7, e7, h⟩ := bindE h
                refine K_call hS [] trivial (w_ablautlaw03_works hS hL e7) ?_
                exact hb1 _ [] _ y7 trivial h
              · replace h := itF c8 h
                exact hb1 _ [] _ false trivial h
            · replace h := itF c7 h
              exact hb1 _ [] _ false trivial h
          · obtain rfl := someI h
            exact K_ret hS trivial [] ⟨rfl, rfl, rfl⟩
      · replace h := optS o2 h
        have w2 := (w_ablautlaw03_both hS hL e3)
        simp only [o1, o2, optE_none, optE_some, List.append_nil, List.cons_append, List.nil_append] at w2
        refine K_call hS [] trivial w2 ?_
        refine K_cond hS trivial (b := !y3.2.2) (fun c9 => ?_) (fun c9 => ?_)
        · replace h := itT c9 h
          obtain rfl := someI h
          exact K_ret hS trivial [] ⟨rfl, rfl, rfl⟩
        · replace h := itF c9 h
          obtain ⟨y8, e8, h⟩ := bindE h
          refine K_call hS [] trivial (w_inventory_Inv_Bundle_nil hS hL e8) ?_
          obtain ⟨y9, e9, h⟩ := bindE h
          refine K_call hS [21000, 21001] trivial (w_ablautref03_Inv_Bundle hS hL e9) ?_
          refine K_lt hS (by decide +kernel : eqOk Tryd.prog t_api_Sound = true) (fnPost_up hS) h 0 (fun z4 => ⟨[(4, (.p (.bb z4)))], []⟩) (fun M2 k2 hb2 h => ?_) (fun z4 h => ?_)
          · refine K_guard hS trivial (b := (((y8.1.Plus == y9.1.Plus) && (y8.1.Minus == y9.1.Minus)) != false)) (fun c14 => ?_) (fun c14 => ?_)
            · replace h := itT c14 h
              refine K_guard hS trivial (b := y8.2 == y9.2) (fun c15 => ?_) (fun c15 => ?_)
              · replace h := itT c15 h
                obtain ⟨y11, e11, h⟩ := bindE h
                refine K_call hS [] trivial (w_ablautlaw03_works hS hL e11) ?_
                exact hb2 _ [] _ y11 trivial h
              · replace h := itF c15 h
                exact hb2 _ [] _ false trivial h
            · replace h := itF c14 h
              exact hb2 _ [] _ false trivial h
          · obtain rfl := someI h
            exact K_ret hS trivial [] ⟨rfl, rfl, rfl⟩
    · replace h := optS o1 h
      rcases o3 : y3.2.1 with _ | z5
      · replace h := optN o3 h
        have w3 := (w_ablautlaw03_both hS hL e3)
        simp only [o1, o3, optE_none, optE_some, List.append_nil, List.cons_append, List.nil_append] at w3
        refine K_call hS [] trivial w3 ?_
        refine K_cond hS trivial (b := !y3.2.2) (fun c16 => ?_) (fun c16 => ?_)
        · replace h := itT c16 h
          obtain rfl := someI h
          exact K_ret hS trivial [] ⟨rfl, rfl, rfl⟩
        · replace h := itF c16 h
          obtain ⟨y12, e12, h⟩ := bindE h
          refine K_call hS [21000, 21001, 21002, 21003, 21004] trivial (w_inventory_Inv_Bundle hS hL e12) ?_
          obtain ⟨y13, e13, h⟩ := bindE h
          refine K_call hS [] trivial (w_ablautref03_Inv_Bundle_nil hS hL e13) ?_
          refine K_lt hS (by decide +kernel : eqOk Tryd.prog t_api_Sound = true) (fnPost_up hS) h 0 (fun z6 => ⟨[(4, (.p (.bb z6)))], []⟩) (fun M3 k3 hb3 h => ?_) (fun z6 h => ?_)
          · refine K_guard hS trivial (b := (((y12.1.Plus == y13.1.Plus) && (y12.1.Minus == y13.1.Minus)) != false)) (fun c21 => ?_) (fun c21 => ?_)
            · replace h := itT c21 h
              refine K_guard hS trivial (b := y12.2 == y13.2) (fun c22 => ?_) (fun c22 => ?_)
              · replace h := itT c22 h
                obtain ⟨y15, e15, h⟩ := bindE h
                refine K_call hS [] trivial (w_ablautlaw03_works hS hL e15) ?_
                exact hb3 _ [] _ y15 trivial h
              · replace h := itF c22 h
                exact hb3 _ [] _ false trivial h
            · replace h := itF c21 h
              exact hb3 _ [] _ false trivial h
          · obtain rfl := someI h
            exact K_ret hS trivial [] ⟨rfl, rfl, rfl⟩
      · replace h := optS o3 h
        have w4 := (w_ablautlaw03_both hS hL e3)
        simp only [o1, o3, optE_none, optE_some, List.append_nil, List.cons_append, List.nil_append] at w4
        refine K_call hS [] trivial w4 ?_
        refine K_cond hS trivial (b := !y3.2.2) (fun c23 => ?_) (fun c23 => ?_)
        · replace h := itT c23 h
          obtain rfl := someI h
          exact K_ret hS trivial [] ⟨rfl, rfl, rfl⟩
        · replace h := itF c23 h
          obtain ⟨y16, e16, h⟩ := bindE h
          refine K_call hS [21000, 21001, 21002, 21003, 21004] trivial (w_inventory_Inv_Bundle hS hL e16) ?_
          obtain ⟨y17, e17, h⟩ := bindE h
          refine K_call hS [21005, 21006] trivial (w_ablautref03_Inv_Bundle hS hL e17) ?_
          refine K_lt hS (by decide +kernel : eqOk Tryd.prog t_api_Sound = true) (fnPost_up hS) h 0 (fun z7 => ⟨[(4, (.p (.bb z7)))], []⟩) (fun M4 k4 hb4 h => ?_) (fun z7 h => ?_)
          · refine K_guard hS trivial (b := (((y16.1.Plus == y17.1.Plus) && (y16.1.Minus == y17.1.Minus)) != false)) (fun c28 => ?_) (fun c28 => ?_)
            · replace h := itT c28 h
              refine K_guard hS trivial (b := y16.2 == y17.2) (fun c29 => ?_) (fun c29 => ?_)
              · replace h := itT c29 h
                obtain ⟨y19, e19, h⟩ := bindE h
                refine K_call hS [] trivial (w_ablautlaw03_works hS hL e19) ?_
                exact hb4 _ [] _ y19 trivial h
              · replace h := itF c29 h
                exact hb4 _ [] _ false trivial h
            · replace h := itF c28 h
              exact hb4 _ [] _ false trivial h
          · obtain rfl := someI h
            exact K_ret hS trivial [] ⟨rfl, rfl, rfl⟩
end Go.AM
set_option linter.unusedVariables false
namespace Go.AM
open Go.Proofs
set_option maxRecDepth 100000
theorem fix1_eq {A R : Type} {body : (A → Option R) → A → Option R} (spec : A → Option R) (inv : A → Prop) (m : A → Nat)
    (hstep : ∀ self a, inv a → (∀ a', inv a' → m a' < m a → self a' = spec a') → body self a = spec a) : ∀ (N : Nat) (a : A), inv a → m a < N → fix1 N body a = spec a
  | 0, _, _, h => by omega
  | N + 1, a, hi, h => by
    rw [fix1_succ]
    exact hstep _ a hi fun a' hi' hm => fix1_eq spec inv m hstep N a' hi' (by omega)
abbrev NN : Nat := 4194304
theorem works_N : m_ablautlaw03_works NN = some true := by kernel_rfl
end Go.AM
set_option linter.unusedVariables false
namespace Go.AM
open Go.Proofs
theorem loop_st {A R : Type} {body : (A → Option R) → A → Option R} (st : Nat → A) (p : Nat → Bool) (n : Nat) (good : Option R) (bad : Nat → Option R)
    (hb : ∀ self i, i ≤ n → (∀ j, j < i → p j = true) → body self (st i) = if i < n then (if p i = true then self (st (i + 1)) else bad i) else good) :
    ∀ (N i : Nat), i ≤ n → (∀ j, j < i → p j = true) → n - i < N → fix1 N body (st i) = match (List.range n).find? (fun i => !p i) with | some i => bad i | none => good
  | 0, _, _, _, h => by omega
  | N + 1, i, hi, hp, h => by
    rw [fix1_succ, hb _ i hi hp]
    by_cases h1 : i < n
    · rw [if_pos h1]
      by_cases h2 : p i = true
      · rw [if_pos h2]
        exact loop_st st p n good bad hb N (i + 1) h1 (fun j hj => by
          by_cases e : j = i
          · subst e; exact h2
          · exact hp j (by omega)) (by omega)
      · rw [if_neg h2]
        have : (List.range n).find? (fun i => !p i) = some i := by
          rw [List.find?_range_eq_some]
          simp only [Bool.not_eq_true', Bool.not_not]
          exact ⟨by simpa using h2, List.mem_range.2 h1, fun j hj => by simpa using hp j hj⟩
        rw [this]
    · rw [if_neg h1]
      have : (List.range n).find? (fun i => !p i) = none := by
        rw [List.find?_eq_none]
        intro j hj
        have := hp j (by have := List.mem_range.1 hj; omega)
        simp [this]
      rw [this]
theorem find_all {R : Type} (p : Nat → Bool) (n : Nat) (good bad : Option R) : (match (List.range n).find? (fun i => !p i) with | some i => bad | none => good) = if (List.range n).all p = true then good else bad := by
  by_cases h : (List.range n).all p = true
  · rw [if_pos h]
    have : (List.range n).find? (fun i => !p i) = none := by
      rw [List.find?_eq_none]
      intro j hj
      have := List.all_eq_true.1 h j hj
      simp [this]
    rw [this]
  · rw [if_neg h]
    cases e : (List.range n).find? (fun i => !p i) with
    | none =>
      rw [List.find?_eq_none] at e
      exact absurd (List.all_eq_true.2 fun j hj => by simpa using e j hj) h
    | some i => rfl
theorem loop_all {A R : Type} {body : (A → Option R) → A → Option R} (st : Nat → A) (p : Nat → Bool) (n : Nat) (good bad : Option R) {N : Nat} (hN : n < N)
    (hb : ∀ self i, i ≤ n → (∀ j, j < i → p j = true) → body self (st i) = if i < n then (if p i = true then self (st (i + 1)) else bad) else good) :
    fix1 N body (st 0) = if (List.range n).all p = true then good else bad := by
  rw [loop_st st p n good (fun _ => bad) hb N 0 (by omega) (fun j hj => by omega) (by omega), find_all]
theorem loop_end {A R : Type} {body : (A → Option R) → A → Option R} (st : Nat → A) (n : Nat) (good : Option R) {N : Nat} (hN : n < N)
    (hb : ∀ self i, i ≤ n → body self (st i) = if i < n then self (st (i + 1)) else good) :
    fix1 N body (st 0) = good := by
  rw [loop_all st (fun _ => true) n good none hN (fun self i hi _ => by rw [hb self i hi]; simp)]
  simp
theorem wrap64_in {n : Int} (h : -9223372036854775808 ≤ n) (h' : n ≤ 9223372036854775807) : IntKind.i64.wrap n = n := by
  by_cases h0 : 0 ≤ n
  · have h1 : n % (2 ^ 64 : Int) = n := Int.emod_eq_of_lt h0 (by omega)
    unfold IntKind.wrap
    simp only [IntKind.bits, IntKind.signed, h1]
    rw [if_neg]
    simp; omega
  · have h1 : n % (2 ^ 64 : Int) = n + 2 ^ 64 := by
      rw [← Int.add_emod_right]; exact Int.emod_eq_of_lt (by omega) (by omega)
    unfold IntKind.wrap
    simp only [IntKind.bits, IntKind.signed, h1]
    rw [if_pos]
    · omega
    · simp; omega
theorem wrap64_succ {i : Nat} (h : i < 1000000000000000000) : IntKind.i64.wrap ((i : Int) + 1) = ((i + 1 : Nat) : Int) := by
  rw [wrap64_in (by omega) (by omega)]; rfl
def letterI (c : Int) : Bool := decide (97 ≤ c) && decide (c ≤ 122) || decide (48 ≤ c) && decide (c ≤ 57)
def isFeatI (s : Str) : Bool := decide (1 ≤ s.length) && decide (s.length ≤ 16) && decide (97 ≤ byteAt s 0) && decide (byteAt s 0 ≤ 122) && (List.range s.length).all fun i => letterI (byteAt s i)
theorem wrap_mk {i : Nat} (h : i < 1000000000000000000) : IntKind.i64.wrap ((i : Int) + 1) = ((i + 1 : Nat) : Int) := wrap64_succ h
theorem IsFeat_eq {N : Nat} (s : Str) (hs : s.length < N) (hs2 : s.length < 1000000000) : m_ablautref03_IsFeat N s = some (isFeatI s) := by
  unfold m_ablautref03_IsFeat
  rw [if_pos ⟨by simp only [decide_eq_false_iff_not]; omega, by simp only [decide_eq_false_iff_not]; omega⟩]
  by_cases hc : ((((decide (((s.length : Nat) : Int) < 1)) || (decide (16 < ((s.length : Nat) : Int)))) || (decide ((byteAt s 0) < 97))) || (decide (122 < (byteAt s 0)))) = true
  · rw [if_pos hc]
    simp only [Bool.or_eq_true, decide_eq_true_eq] at hc
    simp only [isFeatI, Option.some.injEq]
    symm
    rw [← Bool.not_eq_true]
    simp only [Bool.and_eq_true, decide_eq_true_eq]
    omega
  · rw [if_neg hc]
    simp only [Bool.or_eq_true, decide_eq_true_eq] at hc
    refine (loop_all (fun i : Nat => (i : Int)) (fun i => letterI (byteAt s i)) s.length (some true) (some false) hs fun self i hi _ => ?_).trans ?_
    · simp only [decide_eq_true_eq]
      by_cases h : i < s.length
      · rw [if_pos (by omega), if_pos (by omega), if_pos h, wrap64_succ (by omega)]
        simp only [m_ablautref03_letter, Option.bind_some]
        show (if (!letterI (byteAt s i)) = true then _ else _) = _
        cases letterI (byteAt s i) <;> simp
      · rw [if_neg (by omega), if_neg h]
    · have h1 : decide (1 ≤ s.length) = true := by simp; omega
      have h2 : decide (s.length ≤ 16) = true := by simp; omega
      have h3 : decide (97 ≤ byteAt s 0) = true := by simp only [decide_eq_true_eq]; omega
      have h4 : decide (byteAt s 0 ≤ 122) = true := by simp only [decide_eq_true_eq]; omega
      simp only [isFeatI, h1, h2, h3, h4, Bool.true_and]
      cases (List.range s.length).all fun i => letterI (byteAt s i) <;> rfl
end Go.AM
set_option linter.unusedVariables false
namespace Go.AM
open Go.Proofs
def consB (p : Int → Bool) (s : Str) (most : Int) : Bool := decide (1 ≤ s.length) && decide ((s.length : Int) ≤ most) && (List.range s.length).all fun i => p (byteAt s i)
theorem consists_eq {N : Nat} (s : Str) (most : Int) (p : Int → Bool) (f : Int → Option Bool) (hf : ∀ c, f c = some (p c)) (hs : s.length < N) (hs2 : s.length < 1000000000) : m_inventory_consists N s most f = some (consB p s most) := by
  unfold m_inventory_consists
  by_cases hc : ((decide (((s.length : Nat) : Int) < 1)) || (decide (most < ((s.length : Nat) : Int)))) = true
  · rw [if_pos hc]
    simp only [Bool.or_eq_true, decide_eq_true_eq] at hc
    simp only [consB, Option.some.injEq]
    symm
    rw [← Bool.not_eq_true]
    simp only [Bool.and_eq_true, decide_eq_true_eq]
    omega
  · rw [if_neg hc]
    simp only [Bool.or_eq_true, decide_eq_true_eq] at hc
    refine (loop_all (fun i : Nat => (i : Int)) (fun i => p (byteAt s i)) s.length (some true) (some false) hs fun self i hi _ => ?_).trans ?_
    · simp only [decide_eq_true_eq]
      by_cases h : i < s.length
      · rw [if_pos (by omega), if_pos (by omega), if_pos h, wrap64_succ (by omega), hf]
        simp only [Option.bind_some]
        cases p (byteAt s i) <;> simp
      · rw [if_neg (by omega), if_neg h]
    · have h1 : decide (1 ≤ s.length) = true := by simp; omega
      have h2 : decide ((s.length : Int) ≤ most) = true := by simp; omega
      simp only [consB, h1, h2, Bool.true_and]
      cases (List.range s.length).all fun i => p (byteAt s i) <;> rfl
def isFeatG (s : Str) : Bool := consB letterI s 16 && decide (57 < byteAt s 0)
theorem isFeat_eq (s : Str) : isFeatG s = isFeatI s := by
  rw [Bool.eq_iff_iff]
  simp only [isFeatG, isFeatI, consB, Bool.and_eq_true, decide_eq_true_eq, List.all_eq_true, List.mem_range]
  constructor
  · rintro ⟨⟨⟨h1, h2⟩, h3⟩, h4⟩
    have h0 := h3 0 (by omega)
    have ez : ((0 : Nat) : Int).toNat = (0 : Int).toNat := rfl
    simp only [letterI, Bool.or_eq_true, Bool.and_eq_true, decide_eq_true_eq] at h0
    exact ⟨⟨⟨⟨h1, by omega⟩, by simp only [byteAt, ez] at h4 h0 ⊢; omega⟩, by simp only [byteAt, ez] at h4 h0 ⊢; omega⟩, h3⟩
  · rintro ⟨⟨⟨⟨h1, h2⟩, h3⟩, h4⟩, h5⟩
    exact ⟨⟨⟨h1, by omega⟩, h5⟩, by omega⟩
def distB (s : Sl Str) : Bool := (List.range s.n).all fun i => (List.range i).all fun j => !(s.g i == s.g j)
def okFeats (s : Sl Str) : Bool := (List.range s.n).all fun i => isFeatI (s.g i)
def newE (s : Sl Str) : Int := if 24 < s.n then 12 else if okFeats s = true then (if distB s = true then 0 else 6) else 15
theorem rNew_eq {N : Nat} (s : Sl Str) (hN : 1000000 ≤ N) (hs : ∀ i, i < s.n → (s.g i).length < 1000000) :
    m_ablautref03_New N s = some (if newE s = 0 then some ⟨true, (Sl.of [] : Sl Str).app s, Sl.nil⟩ else none, newE s) := by
  unfold m_ablautref03_New newE
  by_cases h24 : 24 < s.n
  · rw [if_pos (by simp; omega), if_pos h24]; simp
  rw [if_neg (by simp; omega), if_neg h24]
  refine (loop_all (fun i : Nat => (i : Int)) (fun i => isFeatI (s.g i)) s.n (if distB s = true then some (some ⟨true, (Sl.of [] : Sl Str).app s, Sl.nil⟩, 0) else some (none, 6)) (some (none, 15)) (by omega) fun self i hi _ => ?_).trans ?_
  · simp only [decide_eq_true_eq]
    by_cases h : i < s.n
    · rw [if_pos (by omega), if_pos (by omega), if_pos h, wrap64_succ (by omega)]
      rw [show ((i : Int)).toNat = i from rfl, IsFeat_eq _ (by have := hs i h; omega) (by have := hs i h; omega)]
      simp only [Option.bind_some]
      cases isFeatI (s.g i) <;> simp
    · rw [if_neg (by omega), if_neg h]
      refine (loop_all (fun i : Nat => (i : Int)) (fun i => (List.range i).all fun j => !(s.g i == s.g j)) s.n (some (some ⟨true, (Sl.of [] : Sl Str).app s, Sl.nil⟩, 0)) (some (none, 6)) (by omega) fun self i hi _ => ?_).trans ?_
      · skip
        by_cases h : i < s.n
        · rw [if_pos (by omega), if_pos h]
          refine (loop_all (fun j : Nat => (j : Int)) (fun j => !(s.g i == s.g j)) i (self ((i + 1 : Nat) : Int)) (some (none, 6)) (by omega) fun self' j hj _ => ?_).trans ?_
          · skip
            by_cases h' : j < i
            · rw [if_pos (by omega), if_pos (by omega), if_pos h', wrap64_succ (by omega)]
              simp only [Int.toNat_natCast]
              by_cases e : s.g i = s.g j <;> simp [e]
            · rw [if_neg (by omega), if_neg h', wrap64_succ (by omega)]
          · rfl
        · rw [if_neg (by omega), if_neg h, if_pos (by simp [Sl.of]; omega)]
      · rfl
  · show (if okFeats s = true then _ else _) = _
    cases okFeats s <;> cases distB s <;> simp
theorem alook_none {κ ν : Type} {eq : κ → κ → Bool} {k : κ} : ∀ {es : List (κ × ν)}, (∀ p, p ∈ es → eq k p.1 = false) → alook eq k es = none
  | [], _ => rfl
  | (a, v) :: es, h => by
    have h1 := h (a, v) (by simp)
    simp only [alook, h1, Bool.false_eq_true, if_false]
    exact alook_none fun p hp => h p (List.mem_cons_of_mem _ hp)
theorem alook_some {κ ν : Type} {eq : κ → κ → Bool} {k : κ} : ∀ {es : List (κ × ν)} {p : κ × ν}, p ∈ es → eq k p.1 = true → ∃ v, alook eq k es = some v
  | (a, v) :: es, p, hp, h => by
    by_cases e : eq k a = true
    · exact ⟨v, by simp [alook, e]⟩
    · rcases List.mem_cons.1 hp with rfl | hp
      · exact absurd h e
      · obtain ⟨v', hv⟩ := alook_some hp h
        exact ⟨v', by simp [alook, e, hv]⟩
theorem aupd_none {κ ν : Type} {eq : κ → κ → Bool} {k : κ} {v : ν} : ∀ {es : List (κ × ν)}, (∀ p, p ∈ es → eq k p.1 = false) → aupd eq k v es = es ++ [(k, v)]
  | [], _ => rfl
  | (a, x) :: es, h => by
    have h1 := h (a, x) (by simp)
    simp only [aupd, h1, Bool.false_eq_true, if_false, List.cons_append, List.cons.injEq, true_and]
    exact aupd_none fun p hp => h p (List.mem_cons_of_mem _ hp)
def numL (s : Sl Str) (k : Nat) : List (Str × Int) := (List.range k).map fun i => (s.g i, (i : Int))
theorem numL_succ (s : Sl Str) (k : Nat) : numL s (k + 1) = numL s k ++ [(s.g k, (k : Int))] := by simp [numL, List.range_succ]
theorem iNew_eq {N : Nat} (s : Sl Str) (hN : 1000000 ≤ N) (hs : ∀ i, i < s.n → (s.g i).length < 1000000) :
    m_inventory_New N s = some (if newE s = 0 then some ⟨s, numL s s.n, Sl.nil, [], []⟩ else none, newE s) := by
  unfold m_inventory_New newE
  by_cases h24 : 24 < s.n
  · rw [if_pos (by simp; omega), if_pos h24]; simp
  rw [if_neg (by simp; omega), if_neg h24]
  refine (loop_all (fun i : Nat => (i : Int)) (fun i => isFeatI (s.g i)) s.n (if distB s = true then some (some ⟨s, numL s s.n, Sl.nil, [], []⟩, 0) else some (none, 6)) (some (none, 15)) (by omega) fun self i hi _ => ?_).trans ?_
  · simp only [decide_eq_true_eq]
    by_cases h : i < s.n
    · rw [if_pos (by omega), if_pos (by omega), if_pos h, wrap64_succ (by omega)]
      rw [show ((i : Int)).toNat = i from rfl, consists_eq (s.g i) 16 letterI (fun (u3 : Int) => m_inventory_small N u3) (fun c => rfl) (by have := hs i h; omega) (by have := hs i h; omega), ← isFeat_eq]
      simp only [Option.bind_some, isFeatG]
      by_cases hc : consB letterI (s.g i) 16 = true
      · have hl : 1 ≤ (s.g i).length := by
          have hc := hc
          simp only [consB, Bool.and_eq_true, decide_eq_true_eq] at hc
          omega
        rw [if_pos (fun _ => ⟨by omega, by omega⟩)]
        simp only [hc, Bool.not_true, Bool.false_or, Bool.true_and, decide_eq_true_eq]
        by_cases h5 : byteAt (s.g i) 0 ≤ 57
        · rw [if_pos h5, if_neg (by omega)]
        · rw [if_neg h5, if_pos (by omega)]
      · rw [Bool.not_eq_true] at hc
        simp [hc]
    · rw [if_neg (by omega), if_neg h]
      unfold fix2
      refine (loop_all (fun i : Nat => (numL s i, (i : Int))) (fun i => (List.range i).all fun j => !(s.g i == s.g j)) s.n (some (some ⟨s, numL s s.n, Sl.nil, [], []⟩, 0)) (some (none, 6)) (by omega) fun self i hi _ => ?_).trans ?_
      · dsimp only
        by_cases h : i < s.n
        · rw [if_pos (by omega), if_pos (by omega), if_pos h, wrap64_succ (by omega), show ((i : Int)).toNat = i from rfl]
          by_cases hd : ((List.range i).all fun j => !(s.g i == s.g j)) = true
          · have hk : ∀ p, p ∈ numL s i → eqS (s.g i) p.1 = false := by
              intro p hp
              simp only [numL, List.mem_map, List.mem_range] at hp
              obtain ⟨j, hj, rfl⟩ := hp
              have := List.all_eq_true.1 hd j (List.mem_range.2 hj)
              simpa using this
            rw [alook_none hk, optE_none, aupd_none hk, ← numL_succ, if_pos hd]
          · obtain ⟨v, hv⟩ : ∃ v, alook eqS (s.g i) (numL s i) = some v := by
              rw [Bool.not_eq_true] at hd
              obtain ⟨j, hj, he⟩ := List.all_eq_false.1 hd
              refine alook_some (p := (s.g j, (j : Int))) ?_ ?_
              · simp only [numL, List.mem_map]
                exact ⟨j, hj, rfl⟩
              · simpa using he
            rw [hv, optE_some, if_neg hd]
        · rw [if_neg (by omega), if_neg h]
          have : i = s.n := by omega
          subst this
          simp only [m_slices_Clone_sl_string_string]
          rw [if_pos (by omega)]
          rfl
      · rfl
  · show (if okFeats s = true then _ else _) = _
    cases okFeats s <;> cases distB s <;> simp
end Go.AM
set_option linter.unusedVariables false
namespace Go.AM
open Go.Proofs
def sumS (s : Sl Str) : Nat → Nat
  | 0 => 0
  | k + 1 => sumS s k + (s.g k).length
theorem sumS_le (s : Sl Str) {k n : Nat} (h : k ≤ n) : sumS s k ≤ sumS s n := by
  induction h with
  | refl => exact Nat.le_refl _
  | step _ ih => simp only [sumS]; omega
theorem len_le_sumS (s : Sl Str) {k n : Nat} (h : k < n) : (s.g k).length ≤ sumS s n := by
  have := sumS_le s (show k + 1 ≤ n from h)
  simp only [sumS] at this
  omega
def fewB (s : Sl Str) : Bool := decide (s.n ≤ 100) && decide (sumS s s.n ≤ 4000)
theorem few_nil_eq {N : Nat} (s : Sl Str) (hn : s.n < N) (hn2 : s.n < 1000000000) (hs : sumS s s.n < 1000000000) : m_ablautlaw03_few_nil N s = some (fewB s) := by
  unfold m_ablautlaw03_few_nil fix2
  refine (loop_end (fun i : Nat => (((sumS s i : Nat) : Int), (i : Int))) s.n (some (fewB s)) hn fun self i hi => ?_)
  dsimp only
  simp only [decide_eq_true_eq]
  by_cases h : i < s.n
  · rw [if_pos (by omega), if_pos (by omega), if_pos h, wrap64_succ (by omega)]
    have h1 := sumS_le s (show i + 1 ≤ s.n from h)
    have e : ((sumS s i : Nat) : Int) + ((s.g ((i : Int)).toNat).length : Nat) = ((sumS s (i + 1) : Nat) : Int) := by simp [sumS]
    rw [e, wrap64_in (by omega) (by omega)]
  · rw [if_neg (by omega), if_neg h]
    have : i = s.n := by omega
    subst this
    obtain ⟨M, rfl⟩ : ∃ M, N = M + 1 := ⟨N - 1, by omega⟩
    rw [fix1_succ, if_neg (by omega)]
    simp only [fewB, Option.some.injEq]
    congr 1
    · exact decide_eq_decide.2 (by omega)
    · exact decide_eq_decide.2 (by omega)
theorem both_eq {N : Nat} (s : Sl Str) (hN : 1000000 ≤ N) (hs : ∀ i, i < s.n → (s.g i).length < 1000000) :
    m_ablautlaw03_both N s = some (if newE s = 0 then some ⟨s, numL s s.n, Sl.nil, [], []⟩ else none, if newE s = 0 then some ⟨true, (Sl.of [] : Sl Str).app s, Sl.nil⟩ else none, true) := by
  unfold m_ablautlaw03_both
  rw [iNew_eq s hN hs, rNew_eq s hN hs]
  by_cases h : newE s = 0
  · simp [h, optE]
  · simp [h, optE]
end Go.AM
set_option linter.unusedVariables false
namespace Go.AM
open Go.Proofs
abbrev sOf (x y : BitVec 32) : Sound := ⟨(x.toNat : Int), (y.toNat : Int)⟩
theorem bit_eq (x : BitVec 32) (i : Nat) : (bitI .and .u32 (shI .shr .u32 (x.toNat : Int) (i : Int)) 1 == 1) = x.getLsbD i := by
  rw [sh_shr, show (1 : Int) = ((1#32).toNat : Int) from rfl, bit_and]
  have h : (x >>> i &&& 1#32) = (BitVec.ofBool (x.getLsbD i)).setWidth 32 := by
    apply BitVec.eq_of_getLsbD_eq
    intro j hj
    simp only [BitVec.getLsbD_and, BitVec.getLsbD_ushiftRight, BitVec.getLsbD_setWidth, BitVec.getLsbD_ofBool]
    by_cases h0 : j = 0
    · subst h0; simp
    · have : (1#32).getLsbD j = false := by
        rw [BitVec.getLsbD_one]; simp [h0]
      simp [this, h0]
  rw [h]
  cases x.getLsbD i <;> rfl
def badB (p m : BitVec 32) (i : Nat) : Bool := (p.getLsbD i && m.getLsbD i) || ((p.getLsbD i || m.getLsbD i) && decide (24 ≤ i))
def validB (p m : BitVec 32) : Bool := (List.range 32).all fun i => !badB p m i
theorem Valid_eq {N : Nat} (p m : BitVec 32) (hN : 1000 ≤ N) : m_ablautref01_Valid N (sOf p m) = some (validB p m) := by
  unfold m_ablautref01_Valid
  refine (loop_all (fun i : Nat => (i : Int)) (fun i => !badB p m i) 32 (some true) (some false) (by omega) fun self i hi _ => ?_).trans ?_
  · dsimp only
    by_cases h : i < 32
    · rw [if_pos (by simp; omega), if_pos (by omega), if_pos h, wrap64_succ (by omega)]
      simp only [bit_eq]
      have e : decide ((24 : Int) ≤ (i : Int)) = decide (24 ≤ i) := decide_eq_decide.2 (by omega)
      rw [e]
      show (if badB p m i = true then _ else _) = _
      cases badB p m i <;> simp
    · rw [if_neg (by simp; omega), if_neg h]
  · show (if validB p m = true then _ else _) = _
    cases validB p m <;> rfl
def getB (p m : BitVec 32) (f : Nat) : Int := if validB p m = true ∧ f < 24 then (if p.getLsbD f = true then 1 else if m.getLsbD f = true then -1 else 0) else 0
theorem Get_eq {N : Nat} (p m : BitVec 32) (f : Nat) (hN : 1000 ≤ N) : m_ablautref01_Get N (sOf p m) (f : Int) = some (getB p m f) := by
  unfold m_ablautref01_Get
  rw [Valid_eq p m hN]
  simp only [Option.bind_some, lt, m_ablautref01_feature, bit_eq, getB]
  rw [if_pos (by omega : (0 : Int) ≤ (f : Int)), if_pos (by omega : (0 : Int) ≤ (f : Int))]
  have e : (decide ((0 : Int) ≤ (f : Int)) && decide ((f : Int) < 24)) = decide (f < 24) := by
    rw [Bool.eq_iff_iff]; simp only [Bool.and_eq_true, decide_eq_true_eq]; omega
  rw [e]
  by_cases hv : validB p m = true
  · by_cases hf : f < 24
    · cases h1 : p.getLsbD f <;> cases h2 : m.getLsbD f <;> simp [hv, hf]
    · simp [hv, hf]
  · rw [Bool.not_eq_true] at hv
    simp [hv]
def belB (n : Nat) (p m : BitVec 32) : Bool := validB p m && (List.range (24 - n)).all fun i => !(getB p m (n + i) != 0)
theorem rBelongs_eq {N : Nat} (v : O_ablautref03_Inv) (p m : BitVec 32) (hn : v.F.n ≤ 24) (hN : 1000 ≤ N) : m_ablautref03_Inv_Belongs N v (sOf p m) = some (belB v.F.n p m) := by
  unfold m_ablautref03_Inv_Belongs
  rw [Valid_eq p m hN]
  simp only [Option.bind_some, belB]
  by_cases hv : validB p m = true
  · rw [if_neg (by simp [hv])]
    refine (loop_all (fun i : Nat => ((v.F.n + i : Nat) : Int)) (fun i => !(getB p m (v.F.n + i) != 0)) (24 - v.F.n) (some true) (some false) (by omega) fun self i hi _ => ?_).trans ?_
    · by_cases h : i < 24 - v.F.n
      · rw [if_pos (by simp only [decide_eq_true_eq]; omega), if_pos h, Get_eq p m _ hN, wrap64_succ (by omega)]
        simp only [Option.bind_some]
        cases getB p m (v.F.n + i) != 0 <;> simp [Nat.add_assoc]
      · rw [if_neg (by simp only [decide_eq_true_eq]; omega), if_neg h]
    · rw [hv, Bool.true_and]
      cases (List.range (24 - v.F.n)).all fun i => !(getB p m (v.F.n + i) != 0) <;> rfl
  · rw [Bool.not_eq_true] at hv
    simp [hv]
def belG (n : Nat) (p m : BitVec 32) : Bool := decide (p &&& m = 0#32) && decide ((p ||| m) &&& ~~~(BitVec.ofNat 32 (2 ^ n - 1)) = 0#32)
theorem mask_eq {n : Nat} (hn : n ≤ 24) : IntKind.wrap .u32 ((shI .shl .u32 1 ((n : Nat) : Int)) - 1) = ((BitVec.ofNat 32 (2 ^ n - 1)).toNat : Int) := by
  have hp : 2 ^ n ≤ 2 ^ 24 := Nat.pow_le_pow_right (by omega) hn
  have hp1 : 0 < 2 ^ n := Nat.pow_pos (by omega)
  rw [show (1 : Int) = ((1#32).toNat : Int) from rfl, sh_shl, BitVec.toNat_shiftLeft, Nat.shiftLeft_eq]
  have e : (1#32).toNat * 2 ^ n % 2 ^ 32 = 2 ^ n := by
    show 1 * 2 ^ n % 2 ^ 32 = 2 ^ n
    rw [Nat.one_mul]; exact Nat.mod_eq_of_lt (by omega)
  rw [e, show (((2 ^ n : Nat) : Int)) - ((1#32).toNat : Int) = ((2 ^ n - 1 : Nat) : Int) by
    show (((2 ^ n : Nat) : Int)) - 1 = _
    omega, wrap_u32 (by omega), BitVec.toNat_ofNat, Nat.mod_eq_of_lt (by omega)]
theorem eq0 (x : BitVec 32) : ((x.toNat : Int) == 0) = decide (x = 0#32) := by
  rw [Bool.eq_iff_iff]
  simp only [beq_iff_eq, decide_eq_true_eq]
  constructor
  · intro h; apply BitVec.eq_of_toNat_eq; show x.toNat = 0; omega
  · rintro rfl; rfl
theorem iBelongs_eq {N : Nat} (v : O_inventory_Inv) (p m : BitVec 32) (hn : v.feats.n ≤ 24) : m_inventory_Inv_belongs N v (sOf p m) = some (belG v.feats.n p m) := by
  unfold m_inventory_Inv_belongs
  rw [if_pos (by omega), mask_eq hn, bit_or, bit_andNot, bit_and, eq0, eq0]
  rfl
theorem bel_eq {n : Nat} (hn : n ≤ 24) (p m : BitVec 32) : belG n p m = belB n p m := by
  have hmask : ∀ i, i < 32 → (BitVec.ofNat 32 (2 ^ n - 1)).getLsbD i = decide (i < n) := fun i hi => by
    rw [BitVec.getLsbD_ofNat, Nat.testBit_two_pow_sub_one]; simp [hi]
  have z : ∀ x : BitVec 32, x = 0#32 ↔ ∀ i, i < 32 → x.getLsbD i = false := fun x => by
    constructor
    · rintro rfl i hi; simp
    · intro h; apply BitVec.eq_of_getLsbD_eq; intro i hi; rw [h i hi]; simp
  rw [Bool.eq_iff_iff]
  simp only [belG, belB, validB, badB, Bool.and_eq_true, decide_eq_true_eq, z, List.all_eq_true, List.mem_range, BitVec.getLsbD_and, BitVec.getLsbD_or, BitVec.getLsbD_not]
  constructor
  · rintro ⟨h1, h2⟩
    have h2' : ∀ i, i < 32 → n ≤ i → p.getLsbD i = false ∧ m.getLsbD i = false := fun i hi hni => by
      have := h2 i hi
      rw [hmask i hi] at this
      have e : decide (i < n) = false := by simp; omega
      simp only [e, hi, decide_true, Bool.not_false, Bool.and_true, Bool.true_and] at this
      simpa using this
    refine ⟨fun i hi => ?_, fun i hi => ?_⟩
    · have ha := h1 i hi
      by_cases h24 : 24 ≤ i
      · have := h2' i hi (by omega)
        simp [this.1, this.2]
      · simp [ha, h24]
    · have := h2' (n + i) (by omega) (by omega)
      simp [getB, this.1, this.2]
  · rintro ⟨h1, h2⟩
    have hv : validB p m = true := by simpa only [validB, badB, List.all_eq_true, List.mem_range] using h1
    refine ⟨fun i hi => ?_, fun i hi => ?_⟩
    · have h := h1 i hi
      rw [Bool.not_eq_true'] at h
      cases hp : p.getLsbD i <;> cases hm : m.getLsbD i
      · rfl
      · rfl
      · rfl
      · rw [hp, hm] at h; exact absurd h (by simp)
    · rw [hmask i hi]
      by_cases hni : i < n
      · simp [hni]
      · by_cases h24 : i < 24
        · have := h2 (i - n) (by omega)
          rw [show n + (i - n) = i by omega] at this
          simp only [getB, hv, h24, and_self, if_true] at this
          cases hp : p.getLsbD i <;> cases hm : m.getLsbD i <;> simp_all
        · have := h1 i hi
          cases hp : p.getLsbD i <;> cases hm : m.getLsbD i <;> simp_all <;> omega
end Go.AM
set_option linter.unusedVariables false
namespace Go.AM
open Go.Proofs
section
variable (s : Sl Str) (p m : BitVec 32)
def itL : Nat → List Str
  | 0 => []
  | k + 1 => itL k ++ (if p.getLsbD k = true then [[43] ++ s.g k] else if m.getLsbD k = true then [[45] ++ s.g k] else [])
def itS : Nat → Sl Str
  | 0 => Sl.nil
  | k + 1 => if p.getLsbD k = true then (itS k).push ([43] ++ s.g k) else if m.getLsbD k = true then (itS k).push ([45] ++ s.g k) else itS k
def txR : Nat → Str
  | 0 => []
  | k + 1 => if p.getLsbD k = true then ((if txR k = [] then txR k else txR k ++ [32]) ++ [43]) ++ s.g k else if m.getLsbD k = true then ((if txR k = [] then txR k else txR k ++ [32]) ++ [45]) ++ s.g k else txR k
end
theorem list_push (v : Sl Str) (x : Str) : (List.range (v.push x).n).map (v.push x).g = (List.range v.n).map v.g ++ [x] := by
  show (List.range (v.n + 1)).map (fun i => if i < v.n then v.g i else x) = _
  rw [List.range_succ, List.map_append]
  congr 1
  · apply List.map_congr_left
    intro i hi
    rw [if_pos (List.mem_range.1 hi)]
  · simp
theorem itS_list (s : Sl Str) (p m : BitVec 32) : ∀ k, (List.range (itS s p m k).n).map (itS s p m k).g = itL s p m k ∧ (itS s p m k).n ≤ k
  | 0 => ⟨rfl, Nat.le_refl _⟩
  | k + 1 => by
    obtain ⟨h1, h2⟩ := itS_list s p m k
    simp only [itS, itL]
    by_cases hp : p.getLsbD k = true
    · simp only [hp, if_true]; rw [list_push, h1]; exact ⟨rfl, Nat.succ_le_succ h2⟩
    · by_cases hm : m.getLsbD k = true
      · simp only [hp, hm, if_true, Bool.false_eq_true, if_false]; rw [list_push, h1]; exact ⟨rfl, Nat.succ_le_succ h2⟩
      · simp only [hp, hm, Bool.false_eq_true, if_false, List.append_nil]; exact ⟨h1, by omega⟩
theorem join_snoc (l : List Str) (x sep : Str) : Lib.join (l ++ [x]) sep = if l = [] then x else Lib.join l sep ++ sep ++ x := by
  cases l with
  | nil => simp [Lib.join_one]
  | cons y r => simp [Lib.join_cons, Lib.joinTail, List.append_assoc]
theorem txR_join (s : Sl Str) (p m : BitVec 32) : ∀ k, txR s p m k = Lib.join (itL s p m k) [32] ∧ (txR s p m k = [] ↔ itL s p m k = [])
  | 0 => ⟨rfl, by simp [txR, itL]⟩
  | k + 1 => by
    obtain ⟨h1, h2⟩ := txR_join s p m k
    have go : ∀ x : Str, ((if txR s p m k = [] then txR s p m k else txR s p m k ++ [32]) ++ x) = Lib.join (itL s p m k ++ [x]) [32] := fun x => by
      rw [join_snoc]
      by_cases e : txR s p m k = []
      · rw [if_pos e, if_pos (h2.1 e), e]; rfl
      · rw [if_neg e, if_neg (fun h => e (h2.2 h)), h1]
    simp only [txR, itL]
    by_cases hp : p.getLsbD k = true
    · simp only [hp, if_true]
      rw [List.append_assoc, go]
      refine ⟨rfl, ?_⟩
      rw [← go]; simp
    · by_cases hm : m.getLsbD k = true
      · simp only [hp, hm, if_true, Bool.false_eq_true, if_false]
        rw [List.append_assoc, go]
        refine ⟨rfl, ?_⟩
        rw [← go]; simp
      · simp only [hp, hm, Bool.false_eq_true, if_false, List.append_nil]; exact ⟨h1, h2⟩
theorem txR_le (s : Sl Str) (p m : BitVec 32) {n : Nat} (hs : ∀ i, i < n → (s.g i).length ≤ 16) : ∀ k, k ≤ n → (txR s p m k).length ≤ 18 * k
  | 0, _ => by simp [txR]
  | k + 1, hk => by
    have h1 := txR_le s p m hs k (by omega)
    have h2 := hs k (by omega)
    simp only [txR]
    by_cases e : txR s p m k = []
    · split
      · simp [e]; omega
      · split
        · simp [e]; omega
        · omega
    · split
      · simp [e]; omega
      · split
        · simp [e]; omega
        · omega
theorem iText_eq {N : Nat} (v : O_inventory_Inv) (p m : BitVec 32) (hn : v.feats.n ≤ 24) (hs : ∀ i, i < v.feats.n → (v.feats.g i).length ≤ 16) (hN : 1000 ≤ N) :
    m_inventory_Inv_Text N v (sOf p m) = some (if belB v.feats.n p m = true then (txR v.feats p m v.feats.n, 0) else ([], 14)) := by
  unfold m_inventory_Inv_Text
  rw [iBelongs_eq v p m hn, bel_eq hn]
  simp only [m_inventory_Inv_made, Option.bind_some]
  rw [if_neg (by simp)]
  by_cases hb : belB v.feats.n p m = true
  · rw [if_neg (by simp [hb]), if_pos hb]
    unfold fix2
    refine (loop_end (fun i : Nat => (itS v.feats p m i, (i : Int))) v.feats.n (some (txR v.feats p m v.feats.n, 0)) (by omega) fun self i hi => ?_)
    dsimp only
    have h0 := (itS_list v.feats p m i).2
    by_cases h : i < v.feats.n
    · have hl := hs i h
      rw [if_pos (by simp only [decide_eq_true_eq]; omega), if_pos (by omega), if_pos h, wrap64_succ (by omega), show ((i : Int)).toNat = i from rfl, if_pos (by omega : (0 : Int) ≤ (i : Int))]
      simp only [bit_eq, itS]
      by_cases hp : p.getLsbD i = true
      · rw [if_pos hp, if_pos hp, if_pos]
        simp only [Sl.of, List.length_cons, List.length_nil]
        omega
      · rw [if_neg hp, if_neg hp]
        by_cases hm : m.getLsbD i = true
        · rw [if_pos hm, if_pos hm, if_pos]
          simp only [Sl.of, List.length_cons, List.length_nil]
          omega
        · rw [if_neg hm, if_neg hm]
    · rw [if_neg (by simp only [decide_eq_true_eq]; omega), if_neg h]
      have : i = v.feats.n := by omega
      subst this
      have h1 := (itS_list v.feats p m v.feats.n).1
      have h2 := (txR_join v.feats p m v.feats.n).1
      have h3 := txR_le v.feats p m hs v.feats.n (Nat.le_refl _)
      simp only [m_strings_Join]
      rw [h1, ← h2, if_pos (by omega)]
      rfl
  · rw [if_pos (by simpa using hb), if_neg hb]
theorem rText_eq {N : Nat} (v : O_ablautref03_Inv) (hmade : v.Made = true) (p m : BitVec 32) (hn : v.F.n ≤ 24) (hs : ∀ i, i < v.F.n → (v.F.g i).length ≤ 16) (hN : 1000 ≤ N) :
    m_ablautref03_Inv_Text N v (sOf p m) = some (if belB v.F.n p m = true then (txR v.F p m v.F.n, 0) else ([], 14)) := by
  unfold m_ablautref03_Inv_Text
  rw [rBelongs_eq v p m hn hN]
  simp only [m_ablautref03_Inv_made, hmade, Option.bind_some]
  rw [if_neg (by simp)]
  by_cases hb : belB v.F.n p m = true
  · rw [if_neg (by simp [hb]), if_pos hb]
    have hv : validB p m = true := by
      simp only [belB, Bool.and_eq_true] at hb
      exact hb.1
    unfold fix2
    refine (loop_end (fun i : Nat => (txR v.F p m i, (i : Int))) v.F.n (some (txR v.F p m v.F.n, 0)) (by omega) fun self i hi => ?_)
    dsimp only
    have h0 := txR_le v.F p m hs i hi
    by_cases h : i < v.F.n
    · have hl := hs i h
      rw [if_pos (by simp only [decide_eq_true_eq]; omega), if_pos h, wrap64_succ (by omega), show ((i : Int)).toNat = i from rfl, Get_eq p m i hN]
      simp only [Option.bind_some, getB, hv, true_and, if_pos (show i < 24 by omega), txR]
      by_cases hp : p.getLsbD i = true
      · rw [if_pos hp, if_pos hp, if_neg (by decide), if_pos (fun _ => by simp; omega), if_pos (by decide)]
        by_cases e : txR v.F p m i = []
        · simp only [e]
          rw [if_pos (by simp; omega)]
          simp
        · have e' : ((txR v.F p m i == []) != true) = true := by simpa using e
          simp only [e', if_true, if_neg e]
          rw [if_pos (by simp; omega)]
      · rw [if_neg hp, if_neg hp]
        by_cases hm : m.getLsbD i = true
        · rw [if_pos hm, if_pos hm, if_neg (by decide), if_pos (fun _ => by simp; omega), if_neg (by decide)]
          by_cases e : txR v.F p m i = []
          · simp only [e]
            rw [if_pos (by simp; omega)]
            simp
          · have e' : ((txR v.F p m i == []) != true) = true := by simpa using e
            simp only [e', if_true, if_neg e]
            rw [if_pos (by simp; omega)]
        · rw [if_neg hm, if_neg hm, if_pos (by decide)]
    · rw [if_neg (by simp only [decide_eq_true_eq]; omega), if_neg h]
      have : i = v.F.n := by omega
      subst this
      rfl
  · rw [if_pos (by simpa using hb), if_neg hb]
end Go.AM
set_option linter.unusedVariables false
namespace Go.AM
open Go.Proofs
theorem app_nil (s : Sl Str) : (Sl.of [] : Sl Str).app s = s := by
  obtain ⟨n, g⟩ := s
  simp [Sl.of, Sl.app]
theorem newE_ok {s : Sl Str} (h : newE s = 0) : s.n ≤ 24 ∧ ∀ i, i < s.n → (s.g i).length ≤ 16 := by
  unfold newE at h
  split at h
  · cases h
  · split at h
    · rename_i h1 h2
      refine ⟨by omega, fun i hi => ?_⟩
      have := List.all_eq_true.1 h2 i (List.mem_range.2 hi)
      simp only [isFeatI, Bool.and_eq_true, decide_eq_true_eq] at this
      omega
    · cases h
theorem Texts_eq (s : Sl Str) (p m : BitVec 32) (hn : s.n < 2097152) (hs : sumS s s.n < 2097152) : m_ablautlaw03_InventoryTexts NN s (sOf p m) = some true := by
  have hNN : NN = 4194304 := rfl
  unfold m_ablautlaw03_InventoryTexts
  rw [few_nil_eq s (by omega) (by omega) (by omega), works_N]
  simp only [Option.bind_some]
  by_cases hf : fewB s = true
  · rw [if_neg (by simp [hf])]
    simp only [fewB, Bool.and_eq_true, decide_eq_true_eq] at hf
    have hl : ∀ i, i < s.n → (s.g i).length < 1000000 := fun i hi => by
      have := len_le_sumS s hi
      omega
    rw [both_eq s (by omega) hl]
    simp only [Option.bind_some]
    by_cases h0 : newE s = 0
    · obtain ⟨h1, h2⟩ := newE_ok h0
      simp only [h0, if_true, optE_some, app_nil]
      rw [iText_eq _ p m h1 h2 (by omega), rText_eq _ rfl p m h1 h2 (by omega)]
      simp [lt]
    · simp only [h0, if_false, optE_none, m_inventory_Inv_Text_nil, m_inventory_Inv_made_nil, m_ablautref03_Inv_Text_nil, m_ablautref03_Inv_made_nil, Option.bind_some]
      simp [lt]
  · rw [if_pos (by simpa using hf)]
end Go.AM
set_option linter.unusedVariables false
namespace Go.AM
open Go.Proofs
def splitR : Str → List Str
  | [] => [[]]
  | c :: r => if c = 32 then [] :: splitR r else match splitR r with
    | h :: t => (c :: h) :: t
    | [] => [[c]]
theorem splitR_ne : ∀ s : Str, splitR s ≠ []
  | [] => by simp [splitR]
  | c :: r => by
    simp only [splitR]
    split
    · simp
    · split <;> simp
theorem splitR_index : ∀ s : Str, splitR s = if Lib.indexByte s 32 < 0 then [s] else s.take (Lib.indexByte s 32).toNat :: splitR (s.drop ((Lib.indexByte s 32).toNat + 1))
  | [] => by simp [splitR, Lib.indexByte]
  | c :: r => by
    have ih := splitR_index r
    have hge : -1 ≤ Lib.indexByte r 32 := by
      clear ih
      induction r with
      | nil => simp [Lib.indexByte]
      | cons b l ih =>
        simp only [Lib.indexByte]
        split
        · omega
        · split <;> omega
    simp only [splitR]
    by_cases hc : c = 32
    · have e0 : Lib.indexByte (c :: r) 32 = 0 := by simp [Lib.indexByte, hc]
      simp only [e0, if_pos hc]
      simp
    · by_cases h1 : Lib.indexByte r 32 = -1
      · have e0 : Lib.indexByte (c :: r) 32 = -1 := by simp [Lib.indexByte, hc, h1]
        rw [h1] at ih
        simp only [e0, if_neg hc]
        rw [ih]; simp
      · have e0 : Lib.indexByte (c :: r) 32 = Lib.indexByte r 32 + 1 := by simp [Lib.indexByte, hc, h1]
        simp only [e0, if_neg hc]
        rw [ih, if_neg (by omega), if_neg (by omega)]
        have e : (Lib.indexByte r 32 + 1).toNat = (Lib.indexByte r 32).toNat + 1 := by omega
        rw [e]
        simp
theorem index_le : ∀ s : Str, Lib.indexByte s 32 < (s.length : Int) ∧ -1 ≤ Lib.indexByte s 32
  | [] => by simp [Lib.indexByte]
  | c :: r => by
    have := index_le r
    simp only [Lib.indexByte, List.length_cons]
    split
    · constructor <;> omega
    · split <;> constructor <;> omega
theorem SplitSeq_eq {N : Nat} (s : Str) (hs : s.length + 1 < N) (hs2 : s.length < 1000000000) : m_strings_splitSeq_1 N [32] s 0 = some (splitR s) := by
  unfold m_strings_splitSeq_1
  rw [if_neg (by simp)]
  refine fix1_eq (fun x => some (splitR x)) (fun x => x.length < 1000000000) (fun x => x.length + 1) (fun self x hx hself => ?_) N s hs2 (by omega)
  obtain ⟨h1, h2⟩ := index_le x
  simp only [m_strings_Index, Option.bind_some, decide_eq_true_eq]
  rw [splitR_index]
  by_cases hi : Lib.indexByte x 32 < 0
  · rw [if_pos hi, if_pos hi]; rfl
  · rw [if_neg hi, if_neg hi]
    rw [wrap64_in (by omega) (by omega), if_pos (by omega)]
    have e1 : (Lib.indexByte x 32 + 0).toNat = (Lib.indexByte x 32).toNat := by omega
    have e2 : (([32] : Str).length : Int) = 1 := rfl
    rw [e1, e2, wrap64_in (by omega) (by omega), if_pos (by omega)]
    have e3 : (Lib.indexByte x 32 + 1).toNat = (Lib.indexByte x 32).toNat + 1 := by omega
    rw [e3, hself _ (by simp only [List.length_drop]; omega) (by simp only [List.length_drop]; omega)]
    rfl
end Go.AM
set_option linter.unusedVariables false
namespace Go.AM
open Go.Proofs
def addF (c : Str) : List Str → List Str
  | h :: t => (c ++ h) :: t
  | [] => [c]
theorem addF_nil {l : List Str} (h : l ≠ []) : addF [] l = l := by
  cases l with
  | nil => exact absurd rfl h
  | cons a t => rfl
theorem splitR_cons (c : UInt8) (r : Str) (hc : c ≠ 32) : splitR (c :: r) = addF [c] (splitR r) := by
  simp only [splitR, if_neg hc]
  cases splitR r <;> rfl
theorem addF_app (a b : Str) (l : List Str) : addF a (addF b l) = addF (a ++ b) l := by
  cases l <;> simp [addF]
def cutAt (t : Str) (k : Nat) : Bool := ((k : Int) == ((t.length : Nat) : Int)) || (byteAt t k == 32)
def itP (t : Str) : Nat → Sl Str × Nat
  | 0 => (Sl.nil, 0)
  | k + 1 => if cutAt t k = true then ((itP t k).1.push ((t.take k).drop (itP t k).2), k + 1) else itP t k
theorem itP_le (t : Str) : ∀ k, (itP t k).1.n ≤ k ∧ (itP t k).2 ≤ k
  | 0 => ⟨Nat.le_refl _, Nat.le_refl _⟩
  | k + 1 => by
    have := itP_le t k
    simp only [itP]
    split
    · exact ⟨Nat.succ_le_succ this.1, Nat.le_refl _⟩
    · exact ⟨by omega, by omega⟩
abbrev lst (s : Sl Str) : List Str := (List.range s.n).map s.g
theorem itP_split (t : Str) : ∀ k, k ≤ t.length → splitR t = lst (itP t k).1 ++ addF ((t.take k).drop (itP t k).2) (splitR (t.drop k))
  | 0, _ => by
    show splitR t = [] ++ addF [] (splitR t)
    rw [addF_nil (splitR_ne t)]; rfl
  | k + 1, hk => by
    have ih := itP_split t k (by omega)
    have hle := (itP_le t k).2
    have hd : t.drop k = t[k] :: t.drop (k + 1) := List.drop_eq_getElem_cons (by omega)
    have hg : t.getD k 0 = t[k] := by simp [List.getD_eq_getElem?_getD, List.getElem?_eq_getElem (show k < t.length by omega)]
    have hb : byteAt t k = ((t[k].toNat : Nat) : Int) := by show (((t.getD k 0).toNat : Nat) : Int) = _; rw [hg]
    have hcut : cutAt t k = true ↔ t[k] = 32 := by
      simp only [cutAt, Bool.or_eq_true, beq_iff_eq, hb]
      constructor
      · rintro (h | h)
        · omega
        · apply UInt8.toNat_inj.1
          show t[k].toNat = 32
          omega
      · intro h; right; rw [h]; rfl
    rw [hd] at ih
    simp only [itP]
    by_cases hc : cutAt t k = true
    · rw [if_pos hc]
      have h32 := hcut.1 hc
      rw [h32] at ih
      have e1 : splitR (32 :: t.drop (k + 1)) = [] :: splitR (t.drop (k + 1)) := by simp [splitR]
      rw [e1] at ih
      simp only [addF, List.append_nil] at ih
      show splitR t = lst ((itP t k).1.push _) ++ addF ((t.take (k + 1)).drop (k + 1)) _
      have e2 : (t.take (k + 1)).drop (k + 1) = [] := by simp
      rw [e2, addF_nil (splitR_ne _), show lst ((itP t k).1.push ((t.take k).drop (itP t k).2)) = lst (itP t k).1 ++ [(t.take k).drop (itP t k).2] from list_push _ _, List.append_assoc]
      exact ih
    · rw [if_neg hc]
      have h32 : t[k] ≠ 32 := fun h => hc (hcut.2 h)
      rw [splitR_cons _ _ h32, addF_app] at ih
      have e2 : (t.take (k + 1)).drop (itP t k).2 = (t.take k).drop (itP t k).2 ++ [t[k]] := by
        rw [List.take_succ_eq_append_getElem (by omega), List.drop_append_of_le_length (by simp; omega)]
      rw [e2]; exact ih
theorem itP_end (t : Str) : lst (itP t (t.length + 1)).1 = splitR t := by
  have h := itP_split t t.length (Nat.le_refl _)
  have e : splitR (t.drop t.length) = [[]] := by simp [splitR]
  rw [e] at h
  simp only [addF, List.append_nil] at h
  have hc : cutAt t t.length = true := by simp [cutAt]
  simp only [itP, if_pos hc]
  rw [h]
  exact list_push _ _
theorem items_eq {N : Nat} (t : Str) (ht : t.length + 2 < N) (ht2 : t.length < 1000000000) : m_ablautref03_items N t = some (itP t (t.length + 1)).1 := by
  unfold m_ablautref03_items fix3
  refine loop_end (fun i : Nat => ((itP t i).1, ((itP t i).2 : Int), (i : Int))) (t.length + 1) _ (by omega) fun self i hi => ?_
  dsimp only
  have hle := itP_le t i
  by_cases h : i < t.length + 1
  · rw [if_pos (by simp only [decide_eq_true_eq]; omega), if_pos h, if_pos (by simp only [beq_eq_false_iff_ne]; omega)]
    simp only [itP, wrap64_succ (show i < 1000000000000000000 by omega)]
    by_cases hc : cutAt t i = true
    · rw [if_pos hc, if_pos (show (((i : Int) == ((t.length : Nat) : Int)) || (byteAt t i == 32)) = true from hc), if_pos (by simp only [Sl.of, List.length_cons, List.length_nil]; omega)]
      rfl
    · rw [if_neg hc, if_neg (show ¬ (((i : Int) == ((t.length : Nat) : Int)) || (byteAt t i == 32)) = true from hc)]
  · rw [if_neg (by simp only [decide_eq_true_eq]; omega), if_neg h]
    have : i = t.length + 1 := by omega
    subst this
    rfl
end Go.AM
set_option linter.unusedVariables false
namespace Go.AM
open Go.Proofs
def fpos (s : Sl Str) (z : Str) : Option Nat := (List.range s.n).find? fun i => s.g i == z
theorem fpos_lt {s : Sl Str} {z : Str} {i : Nat} (h : fpos s z = some i) : i < s.n := List.mem_range.1 (List.mem_of_find?_eq_some h)
theorem alook_map (f : Nat → Str) (z : Str) : ∀ l : List Nat, alook eqS z (l.map fun i => (f i, (i : Int))) = (l.find? fun i => f i == z).map fun i => ((i : Nat) : Int)
  | [] => rfl
  | a :: l => by
    simp only [List.map_cons, alook, List.find?_cons]
    have e : eqS z (f a) = (f a == z) := by simp only [eqS]; rw [Bool.eq_iff_iff]; simp only [beq_iff_eq]; exact eq_comm
    rw [e]
    cases h : (f a == z)
    · simp only [Bool.false_eq_true, if_false]; exact alook_map f z l
    · simp
theorem alook_numL (s : Sl Str) (z : Str) : alook eqS z (numL s s.n) = (fpos s z).map fun i => ((i : Nat) : Int) := alook_map s.g z _
theorem rFeat_eq {N : Nat} (v : O_ablautref03_Inv) (hmade : v.Made = true) (z : Str) (hn : v.F.n < N) (hn2 : v.F.n < 1000000000) :
    m_ablautref03_Inv_Feat N v z = some (match fpos v.F z with | some i => ((i : Int), true) | none => (0, false)) := by
  unfold m_ablautref03_Inv_Feat
  simp only [m_ablautref03_Inv_made, hmade, Option.bind_some]
  rw [if_neg (by simp)]
  refine (loop_st (fun i : Nat => (i : Int)) (fun i => !(v.F.g i == z)) v.F.n (some (0, false)) (fun i => some ((i : Int), true)) (fun self i hi _ => ?_) N 0 (by omega) (fun j hj => by omega) (by omega)).trans ?_
  · by_cases h : i < v.F.n
    · rw [if_pos (by simp only [decide_eq_true_eq]; omega), if_pos (by omega), if_pos h, wrap64_succ (by omega), show ((i : Int)).toNat = i from rfl]
      by_cases e : v.F.g i = z <;> simp [e]
    · rw [if_neg (by simp only [decide_eq_true_eq]; omega), if_neg h]
  · simp only [Bool.not_not, fpos]
    cases (List.range v.F.n).find? fun i => v.F.g i == z <;> rfl
end Go.AM
set_option linter.unusedVariables false
namespace Go.AM
open Go.Proofs
def setB (x : BitVec 32) (i : Nat) : BitVec 32 := x ||| (1#32 <<< i)
theorem one_bit {i j : Nat} (hj : j < 32) : (1#32 <<< i).getLsbD j = decide (j = i) := by
  rw [BitVec.getLsbD_shiftLeft, BitVec.getLsbD_one]
  by_cases h : j = i
  · subst h; simp [hj]
  · by_cases h2 : j < i
    · simp [h, h2]
    · have : j - i ≠ 0 := by omega
      simp [h, this]
theorem get_setB {x : BitVec 32} {i j : Nat} (hj : j < 32) : (setB x i).getLsbD j = (x.getLsbD j || decide (j = i)) := by
  rw [setB, BitVec.getLsbD_or, one_bit hj]
theorem andNot_bit {x : BitVec 32} {i : Nat} (h : x.getLsbD i = false) : x &&& ~~~(1#32 <<< i) = x := by
  apply BitVec.eq_of_getLsbD_eq
  intro j hj
  rw [BitVec.getLsbD_and, BitVec.getLsbD_not, one_bit hj]
  by_cases e : j = i
  · subst e; simp [h]
  · simp [e, hj]
theorem shl_bit (i : Nat) : shI .shl .u32 1 (i : Int) = ((1#32 <<< i).toNat : Int) := by
  rw [show (1 : Int) = ((1#32).toNat : Int) from rfl, sh_shl]
theorem valid_set {p m : BitVec 32} {i : Nat} (hv : validB p m = true) (hi : i < 24) (h1 : p.getLsbD i = false) (h2 : m.getLsbD i = false) : validB (setB p i) m = true ∧ validB p (setB m i) = true := by
  have hv' := List.all_eq_true.1 hv
  constructor
  · refine List.all_eq_true.2 fun j hj => ?_
    have hj32 := List.mem_range.1 hj
    have h := hv' j hj
    simp only [badB, get_setB hj32] at h ⊢
    by_cases e : j = i
    · subst e; simp [h2]; omega
    · simpa [e] using h
  · refine List.all_eq_true.2 fun j hj => ?_
    have hj32 := List.mem_range.1 hj
    have h := hv' j hj
    simp only [badB, get_setB hj32] at h ⊢
    by_cases e : j = i
    · subst e; simp [h1]; omega
    · simpa [e] using h
theorem With_pos {N : Nat} (p m : BitVec 32) (i : Nat) (hN : 1000 ≤ N) (hv : validB p m = true) (hi : i < 24) (h1 : p.getLsbD i = false) (h2 : m.getLsbD i = false) :
    m_ablautref01_With N (sOf p m) (i : Int) 1 = some (sOf (setB p i) m, 0) := by
  unfold m_ablautref01_With m_ablautref01_put
  rw [Valid_eq p m hN]
  simp only [Option.bind_some, hv, m_ablautref01_feature]
  have e : (decide ((0 : Int) ≤ (i : Int)) && decide ((i : Int) < 24)) = true := by simp; omega
  rw [if_neg (by simp), if_neg (by rw [e]; simp), if_neg (by decide), if_pos (by omega), if_pos (by decide), if_neg (by decide)]
  simp only [shl_bit, bit_andNot, bit_or, andNot_bit h1, andNot_bit h2, Option.bind_some, setB]
theorem With_neg {N : Nat} (p m : BitVec 32) (i : Nat) (hN : 1000 ≤ N) (hv : validB p m = true) (hi : i < 24) (h1 : p.getLsbD i = false) (h2 : m.getLsbD i = false) :
    m_ablautref01_With N (sOf p m) (i : Int) (-1) = some (sOf p (setB m i), 0) := by
  unfold m_ablautref01_With m_ablautref01_put
  rw [Valid_eq p m hN]
  simp only [Option.bind_some, hv, m_ablautref01_feature]
  have e : (decide ((0 : Int) ≤ (i : Int)) && decide ((i : Int) < 24)) = true := by simp; omega
  rw [if_neg (by simp), if_neg (by rw [e]; simp), if_neg (by decide), if_pos (by omega), if_neg (by decide), if_pos (by decide)]
  simp only [shl_bit, bit_andNot, bit_or, andNot_bit h1, andNot_bit h2, Option.bind_some, setB]
end Go.AM
set_option linter.unusedVariables false
namespace Go.AM
open Go.Proofs
def stepB (s : Sl Str) (x : Str) (p m : BitVec 32) : Option (BitVec 32 × BitVec 32) := match x with
  | [] => none
  | c :: z => if c = 45 then (match fpos s z with
      | some i => if (p.getLsbD i || m.getLsbD i) = true then none else some (p, setB m i)
      | none => none)
    else if c = 43 then (match fpos s z with
      | some i => if (p.getLsbD i || m.getLsbD i) = true then none else some (setB p i, m)
      | none => none)
    else none
def foldB (s : Sl Str) : List Str → BitVec 32 → BitVec 32 → Option (BitVec 32 × BitVec 32)
  | [], p, m => some (p, m)
  | x :: L, p, m => match stepB s x p m with
    | some (p', m') => foldB s L p' m'
    | none => none
def bunR : Option (BitVec 32 × BitVec 32) → Sound × Int
  | some (p, m) => (sOf p m, 0)
  | none => (⟨0, 0⟩, 10)
theorem has1 (a c : UInt8) (z : Str) : Lib.hasPrefix (c :: z) [a] = (a == c) := by simp [Lib.hasPrefix, List.isPrefixOf]
theorem has0 (a : UInt8) : Lib.hasPrefix [] [a] = false := rfl
theorem trim1 (a : UInt8) (z : Str) : Lib.trimPrefix (a :: z) [a] = z := by simp [Lib.trimPrefix, has1]
theorem iBundle_eq {N : Nat} (v : O_inventory_Inv) (s : Sl Str) (hv : v.number = numL s s.n) (hn : s.n ≤ 24) (t : Str) (ht : t.length + 1 < N) (ht2 : t.length < 1000000000) :
    m_inventory_Inv_Bundle N v t = some (if t = [] then (⟨0, 0⟩, 0) else bunR (foldB s (splitR t) 0#32 0#32)) := by
  unfold m_inventory_Inv_Bundle m_strings_SplitSeq m_strings_splitSeq
  simp only [m_inventory_Inv_made, Option.bind_some]
  rw [if_neg (by simp)]
  by_cases h0 : t = []
  · subst h0; simp
  rw [if_neg (by simpa using h0), if_neg h0, SplitSeq_eq t ht ht2]
  simp only [Option.bind_some]
  have go : ∀ (L : List Str) (p m : BitVec 32), iter1 L (fun (self1 : Int × Int → Option (Sound × Int)) (x1 : Str) (z3 : Int × Int) =>
          (m_strings_CutPrefix N x1 [45]).bind fun y9 =>
          lt (fun (z4 : Str) =>
              optE (alook eqS z4 v.number) (
                  some ((⟨0, 0⟩ : Sound), 10)
                ) fun v3 =>
                if (0 : Int) ≤ v3 then
                  if ((bitI .and .u32 (shI .shr .u32 (bitI .or .u32 z3.1 z3.2) v3) 1) == 1) = true then
                    some ((⟨0, 0⟩ : Sound), 10)
                  else
                    if y9.2 = true then
                      if (0 : Int) ≤ v3 then
                        self1 (z3.1, bitI .or .u32 z3.2 (shI .shl .u32 1 v3))
                      else none
                    else
                      if (0 : Int) ≤ v3 then
                        self1 (bitI .or .u32 z3.1 (shI .shl .u32 1 v3), z3.2)
                      else none
                else none
            ) fun k3 =>
            if (!y9.2) = true then
              (m_strings_CutPrefix N x1 [43]).bind fun y11 =>
              if (!y11.2) = true then
                some ((⟨0, 0⟩ : Sound), 10)
              else
                k3 y11.1
            else
              k3 y9.1
        ) (fun (z3 : Int × Int) =>
          some ((⟨z3.1, z3.2⟩ : Sound), 0)
        ) ((p.toNat : Int), (m.toNat : Int)) = some (bunR (foldB s L p m)) := by
    intro L
    induction L with
    | nil => intro p m; rfl
    | cons x L ih =>
      intro p m
      rw [iter1]
      generalize iter1 L _ _ = self at ih ⊢
      simp only [m_strings_CutPrefix, Option.bind_some, lt, foldB]
      cases x with
      | nil => simp [has0, stepB, bunR]
      | cons c z =>
        simp only [has1, stepB]
        by_cases h45 : c = 45
        · subst h45
          simp only [BEq.rfl, Bool.not_true, Bool.false_eq_true, if_false, if_true, trim1, hv, alook_numL]
          cases hf : fpos s z with
          | none => simp [optE, bunR]
          | some i =>
            simp only [Option.map_some, optE_some, if_pos (show (0 : Int) ≤ (i : Int) by omega), bit_or, bit_eq, BitVec.getLsbD_or, shl_bit]
            by_cases hb : (p.getLsbD i || m.getLsbD i) = true
            · simp only [if_pos hb]; rfl
            · simp only [if_neg hb]; exact ih p (setB m i)
        · have e45 : ((45 : UInt8) == c) = false := by simpa using fun h => h45 h.symm
          simp only [e45, Bool.not_false, if_true, if_neg h45]
          by_cases h43 : c = 43
          · subst h43
            simp only [BEq.rfl, Bool.not_true, Bool.false_eq_true, if_false, if_true, trim1, hv, alook_numL]
            cases hf : fpos s z with
            | none => simp [optE, bunR]
            | some i =>
              simp only [Option.map_some, optE_some, if_pos (show (0 : Int) ≤ (i : Int) by omega), bit_or, bit_eq, BitVec.getLsbD_or, shl_bit]
              by_cases hb : (p.getLsbD i || m.getLsbD i) = true
              · simp only [if_pos hb]; rfl
              · simp only [if_neg hb]; exact ih (setB p i) m
          · have e43 : ((43 : UInt8) == c) = false := by simpa using fun h => h43 h.symm
            simp [e43, h43, bunR]
  exact go (splitR t) 0#32 0#32
end Go.AM
set_option linter.unusedVariables false
namespace Go.AM
open Go.Proofs
theorem step_valid {s : Sl Str} (hn : s.n ≤ 24) {x : Str} {p m p' m' : BitVec 32} (hv : validB p m = true) (h : stepB s x p m = some (p', m')) : validB p' m' = true := by
  unfold stepB at h
  split at h
  · cases h
  · split at h
    · split at h
      · rename_i i hf
        split at h
        · cases h
        · rename_i hb
          cases h
          simp only [Bool.or_eq_true, not_or, Bool.not_eq_true] at hb
          exact (valid_set hv (by have := fpos_lt hf; omega) hb.1 hb.2).2
      · cases h
    · split at h
      · split at h
        · rename_i i hf
          split at h
          · cases h
          · rename_i hb
            cases h
            simp only [Bool.or_eq_true, not_or, Bool.not_eq_true] at hb
            exact (valid_set hv (by have := fpos_lt hf; omega) hb.1 hb.2).1
        · cases h
      · cases h
end Go.AM
set_option linter.unusedVariables false
namespace Go.AM
open Go.Proofs
theorem lst_drop (Y : Sl Str) {k : Nat} (h : k < Y.n) : (lst Y).drop k = Y.g k :: (lst Y).drop (k + 1) := by
  have hl : k < (lst Y).length := by simp [lst]; exact h
  rw [List.drop_eq_getElem_cons hl]
  simp [lst]
theorem rBundle_eq {N : Nat} (v : O_ablautref03_Inv) (hmade : v.Made = true) (hn : v.F.n ≤ 24) (t : Str) (ht : t.length + 1000 < N) (ht2 : t.length < 1000000000) :
    m_ablautref03_Inv_Bundle N v t = some (if t = [] then (⟨0, 0⟩, 0) else bunR (foldB v.F (splitR t) 0#32 0#32)) := by
  unfold m_ablautref03_Inv_Bundle
  simp only [m_ablautref03_Inv_made, hmade, Option.bind_some]
  rw [if_neg (by simp)]
  by_cases h0 : t = []
  · subst h0; simp
  rw [if_neg (by simpa using h0), if_neg h0, items_eq t (by omega) ht2, ← itP_end t]
  have hYn := (itP_le t (t.length + 1)).1
  simp only [Option.bind_some]
  generalize (itP t (t.length + 1)).1 = Y at hYn ⊢
  unfold fix3
  refine (fix1_eq (fun a : Int × Int × Int => some (bunR (foldB v.F ((lst Y).drop a.2.2.toNat) (BitVec.ofInt 32 a.1) (BitVec.ofInt 32 a.2.1))))
    (fun a => ∃ (p m : BitVec 32) (k : Nat), a = ((p.toNat : Int), (m.toNat : Int), (k : Int)) ∧ k ≤ Y.n ∧ validB p m = true) (fun a => Y.n - a.2.2.toNat) ?_ N (0, 0, 0) ⟨0#32, 0#32, 0, rfl, by omega, by decide⟩ (by simp; omega)).trans ?_
  · rintro self _ ⟨p, m, k, rfl, hk, hv⟩ hself
    dsimp only
    simp only [ofInt_toNat, Int.toNat_natCast]
    by_cases h : k < Y.n
    · rw [if_pos (by simp only [decide_eq_true_eq]; omega), if_pos (by omega), lst_drop Y h]
      have hnext : ∀ p' m' : BitVec 32, validB p' m' = true → self ((p'.toNat : Int), (m'.toNat : Int), IntKind.wrap .i64 ((k : Int) + 1)) = some (bunR (foldB v.F ((lst Y).drop (k + 1)) p' m')) := fun p' m' hv' => by
        rw [wrap64_succ (by omega), hself _ ⟨p', m', k + 1, rfl, by omega, hv'⟩ (by simp only [Int.toNat_natCast]; omega)]
        simp only [ofInt_toNat, Int.toNat_natCast]
      rcases (by cases hx : Y.g k with
        | nil => exact .inl rfl
        | cons c z => exact .inr ⟨c, z, rfl⟩ : Y.g k = [] ∨ ∃ c z, Y.g k = c :: z) with hx | ⟨c, z, hx⟩
      · simp [hx, foldB, stepB, bunR]
      · simp only [hx]
        have hb0 : byteAt (c :: z) 0 = ((c.toNat : Nat) : Int) := rfl
        have hl : (((c :: z).length : Nat) : Int) = (z.length : Int) + 1 := by simp
        rw [if_pos ⟨fun _ => ⟨by omega, by omega⟩, fun _ _ => ⟨by omega, by omega⟩⟩]
        simp only [hb0, foldB, stepB]
        have hd : decide ((((c :: z).length : Nat) : Int) < 1) = false := by simp only [decide_eq_false_iff_not]; omega
        rw [hd, if_pos (by omega : (((0 : Int) ≤ (k : Int) ∧ (k : Int) < ((Y.n : Nat) : Int)) ∧ k < Y.n) ∧ ((0 : Int) ≤ 1 ∧ (1 : Int) ≤ (((c :: z).length : Nat) : Int)))]
        simp only [List.drop_succ_cons, List.drop_zero, rFeat_eq (N := N) v hmade z (by omega) (by omega), Option.bind_some, lt]
        rcases (by cases hf : fpos v.F z with
          | none => exact .inl rfl
          | some i => exact .inr ⟨i, rfl⟩ : fpos v.F z = none ∨ ∃ i, fpos v.F z = some i) with hf | ⟨i, hf⟩
        · simp only [hf]
          by_cases h45 : c = 45
          · subst h45; simp [bunR]
          · by_cases h43 : c = 43
            · subst h43; simp [bunR]
            · simp [h45, h43, bunR]
        · have hi := fpos_lt hf
          simp only [hf, Get_eq (N := N) p m i (by omega), Option.bind_some]
          by_cases hb : (p.getLsbD i || m.getLsbD i) = true
          · have hg : (getB p m i != 0) = true := by
              simp only [getB, hv, true_and, if_pos (show i < 24 by omega)]
              cases hp : p.getLsbD i <;> cases hm : m.getLsbD i <;> simp_all
            by_cases h45 : c = 45
            · subst h45; simp [bunR, hg, hb]
            · by_cases h43 : c = 43
              · subst h43; simp [bunR, hg, hb]
              · simp [h45, h43, bunR, hg]
          · have hb' := hb
            simp only [Bool.or_eq_true, not_or, Bool.not_eq_true] at hb'
            have hg : (getB p m i != 0) = false := by
              simp [getB, hb'.1, hb'.2]
            have h1 := With_neg (N := N) p m i (by omega) hv (by omega) hb'.1 hb'.2
            have h2 := With_pos (N := N) p m i (by omega) hv (by omega) hb'.1 hb'.2
            have h3 := valid_set hv (by omega) hb'.1 hb'.2
            have n1 := hnext _ _ h3.2
            have n2 := hnext _ _ h3.1
            have hgu : (((0 : Int) ≤ (k : Int) ∧ (k : Int) < ((Y.n : Nat) : Int)) ∧ k < Y.n) ∧ ((0 : Int) ≤ 0 ∧ (0 : Int) < (((c :: z).length : Nat) : Int)) := by omega
            simp only [hg, if_pos hgu, h1, h2, Option.bind_some, n1, n2, if_neg hb]
            by_cases h45 : c = 45
            · subst h45; simp
            · by_cases h43 : c = 43
              · subst h43; simp
              · have n43 : (((c.toNat : Nat) : Int) != 43) = true := by
                  simp only [bne_iff_ne, ne_eq]; intro h; exact h43 (UInt8.toNat_inj.1 (by show c.toNat = 43; omega))
                have n45 : (((c.toNat : Nat) : Int) != 45) = true := by
                  simp only [bne_iff_ne, ne_eq]; intro h; exact h45 (UInt8.toNat_inj.1 (by show c.toNat = 45; omega))
                simp [n43, n45, h45, h43, bunR]
    · rw [if_neg (by simp only [decide_eq_true_eq]; omega)]
      have e : (lst Y).drop k = [] := by apply List.drop_eq_nil_of_le; simp [lst]; omega
      rw [e]; rfl
  · simp only [Int.toNat_zero, List.drop_zero]; rfl
end Go.AM
set_option linter.unusedVariables false
namespace Go.AM
open Go.Proofs
def few1B (s : Sl Str) (t : Str) : Bool := decide (s.n ≤ 100) && decide (sumS s s.n + t.length ≤ 4000)
theorem few1_eq {N : Nat} (s : Sl Str) (t : Str) (hn : s.n < N) (hN : 10 ≤ N) (hn2 : s.n < 1000000000) (hs : sumS s s.n < 1000000000) (ht : t.length < 1000000000) : m_ablautlaw03_few N s (Sl.of [t]) = some (few1B s t) := by
  unfold m_ablautlaw03_few fix2
  refine (loop_end (fun i : Nat => (((sumS s i : Nat) : Int), (i : Int))) s.n (some (few1B s t)) hn fun self i hi => ?_)
  dsimp only
  simp only [decide_eq_true_eq]
  by_cases h : i < s.n
  · rw [if_pos (by omega), if_pos (by omega), if_pos h, wrap64_succ (by omega)]
    have h1 := sumS_le s (show i + 1 ≤ s.n from h)
    have e : ((sumS s i : Nat) : Int) + ((s.g ((i : Int)).toNat).length : Nat) = ((sumS s (i + 1) : Nat) : Int) := by simp [sumS]
    rw [e, wrap64_in (by omega) (by omega)]
  · rw [if_neg (by omega), if_neg h]
    have : i = s.n := by omega
    subst this
    refine (loop_end (fun j : Nat => (((sumS s s.n + sumS (Sl.of [t]) j : Nat) : Int), (j : Int))) 1 (some (few1B s t)) (by omega) fun self j hj => ?_)
    dsimp only
    by_cases h' : j < 1
    · have : j = 0 := by omega
      subst this
      rw [if_pos (by simp [Sl.of]), if_pos (by simp [Sl.of]), if_pos h', wrap64_succ (by omega)]
      have e : (((sumS s s.n + sumS (Sl.of [t]) 0 : Nat) : Int)) + ((((Sl.of [t] : Sl Str).g (((0 : Nat) : Int)).toNat).length : Nat) : Int) = ((sumS s s.n + sumS (Sl.of [t]) (0 + 1) : Nat) : Int) := by simp [sumS, Sl.of]
      rw [e, wrap64_in (by omega) (by simp [sumS, Sl.of]; omega)]
    · have : j = 1 := by omega
      subst this
      rw [if_neg (by simp [Sl.of]), if_neg (by omega)]
      simp only [few1B, Option.some.injEq]
      congr 1
      · exact decide_eq_decide.2 (by omega)
      · exact decide_eq_decide.2 (by simp [sumS, Sl.of]; omega)
theorem Bundles_eq (s : Sl Str) (t : Str) (hn : s.n < 2097152) (hs : sumS s s.n < 2097152) (ht : t.length < 2097152) : m_ablautlaw03_InventoryBundles NN s t = some true := by
  have hNN : NN = 4194304 := rfl
  unfold m_ablautlaw03_InventoryBundles
  rw [few1_eq s t (by omega) (by omega) (by omega) (by omega) (by omega), works_N]
  simp only [Option.bind_some]
  by_cases hf : few1B s t = true
  · rw [if_neg (by simp [hf])]
    simp only [few1B, Bool.and_eq_true, decide_eq_true_eq] at hf
    have hl : ∀ i, i < s.n → (s.g i).length < 1000000 := fun i hi => by
      have := len_le_sumS s hi
      omega
    rw [both_eq s (by omega) hl]
    simp only [Option.bind_some]
    by_cases h0 : newE s = 0
    · obtain ⟨h1, h2⟩ := newE_ok h0
      simp only [h0, if_true, optE_some, app_nil]
      rw [iBundle_eq _ s rfl h1 t (by omega) (by omega), rBundle_eq _ rfl h1 t (by omega) (by omega)]
      simp [lt]
    · simp only [h0, if_false, optE_none, m_inventory_Inv_Bundle_nil, m_inventory_Inv_made_nil, m_ablautref03_Inv_Bundle_nil, m_ablautref03_Inv_made_nil, Option.bind_some]
      simp [lt]
  · rw [if_pos (by simpa using hf)]
end Go.AM
set_option linter.unusedVariables false
namespace Go.AM
open Go.RowKit Go.ChangeShapes Go.WideShapes Go.ChangeAt Go.Deep Go.Proofs Go.Proofs.YtnpknmmlpjnpeaaDoor
theorem kids1 : Kids Tryd.prog (· < Tryd.prog.types.size) := kids_rows (by kernel_rfl) (by kernel_rfl)
theorem bulk_all {H : Type} : ∀ es : List (DataW H), sumN (es.map Rows.uptoBulk) = Rows.uptoBulkAll es
  | [] => rfl
  | d :: r => by simp only [List.map_cons, sumN_cons, Rows.uptoBulkAll, bulk_all r]
theorem bulkU {H : Type} : Bulk (H := H) Rows.uptoBulk where
  int k n := by simp [Rows.uptoBulk]
  bool b := by simp [Rows.uptoBulk]
  str l := by simp [Rows.uptoBulk]
  nil := by simp [Rows.uptoBulk]
  slice es sp := by simp only [Rows.uptoBulk, bulk_all]; omega
  agg ps := by simp only [Rows.uptoBulk, bulk_all]; omega
section
variable {H : Type} {enc : TypeId × Value → H} {P : Program} {W : World}
theorem sumN_app (a b : List Nat) : sumN (a ++ b) = sumN a + sumN b := by
  induction a with
  | nil => simp [sumN]
  | cons x r ih => simp only [List.cons_append, sumN_cons, ih]; omega
theorem sumN_ge (s : Sl Str) (ms : Nat → Nat) : ∀ n, (∀ i, i < n → (s.g i).length + 1 ≤ ms i) → n + sumS s n ≤ sumN ((List.range n).map ms)
  | 0, _ => by simp [sumS]
  | n + 1, h => by
    have h1 := sumN_ge s ms n fun i hi => h i (by omega)
    have h2 := h n (by omega)
    rw [List.range_succ, List.map_append, sumN_app]
    simp only [List.map_cons, List.map_nil, sumN_cons, sumS]
    have : sumN [] = 0 := rfl
    omega
theorem open_strs {t e : TypeId} (ht : P.underlying t = some (.slice e)) (he : P.underlying e = some .string) (hc : P.cellsOf e = 1) {m : Nat} {pvs : List PV} (h : Shape P m t pvs) :
    ∃ (s : Sl Str) (x : PV), pvs = [x] ∧ s.n + sumS s s.n + 1 ≤ m ∧ ∀ (W : World) (Pi : Nat → Nat → Prop) (v : Value), RepP W Pi v x → RepP W Pi v (vSl 1 cS s) := by
  cases h with
  | int ht' => rw [ht] at ht'; cases ht'
  | bool ht' => rw [ht] at ht'; cases ht'
  | str ht' => rw [ht] at ht'; cases ht'
  | struct ht' => rw [ht] at ht'; cases ht'
  | @slice _ _ e' n f ms ht' hl h hm =>
    rw [ht] at ht'
    cases ht'
    rw [hc]
    have each : ∀ i, i < n → ∃ l : Str, f i = [.str l] ∧ l.length + 1 ≤ ms i := fun i hi => by
      have := h i hi
      generalize f i = y at this
      cases this with
      | int ht' => rw [he] at ht'; cases ht'
      | bool ht' => rw [he] at ht'; cases ht'
      | slice _ ht' => rw [he] at ht'; cases ht'
      | struct ht' => rw [he] at ht'; cases ht'
      | str ht' hm => exact ⟨_, rfl, hm⟩
    let g : Nat → Str := fun i => match f i with
      | [.str l] => l
      | _ => []
    have hg : ∀ i, i < n → f i = [.str (g i)] ∧ (g i).length + 1 ≤ ms i := fun i hi => by
      obtain ⟨l, h1, h2⟩ := each i hi
      have : g i = l := by simp only [g, h1]
      rw [this]; exact ⟨h1, h2⟩
    refine ⟨⟨n, g⟩, _, rfl, ?_, fun W Pi v hr => hr.leP (.inr (.inl ⟨false, 1, n, f, _, rfl, rfl, fun i hi => (hg i hi).1⟩))⟩
    have := sumN_ge ⟨n, g⟩ ms n fun i hi => (hg i hi).2
    simp only at this ⊢
    omega
theorem open_u32 {t : TypeId} (ht : P.underlying t = some (.int .u32)) {m : Nat} {pvs : List PV} (h : Shape P m t pvs) : ∃ x : BitVec 32, pvs = [pI .u32 (x.toNat : Int)] := by
  cases h with
  | bool ht' => rw [ht] at ht'; cases ht'
  | str ht' => rw [ht] at ht'; cases ht'
  | slice _ ht' => rw [ht] at ht'; cases ht'
  | struct ht' => rw [ht] at ht'; cases ht'
  | @int _ _ _ n ht' hw hm =>
    rw [ht] at ht'
    cases ht'
    simp only [Lit.wf, IntKind.min, IntKind.max, IntKind.signed, IntKind.bits, Bool.and_eq_true, decide_eq_true_eq] at hw
    refine ⟨BitVec.ofNat 32 n.toNat, ?_⟩
    rw [BitVec.toNat_ofNat]
    have h0 : 0 ≤ n := by have := hw.1; simpa using this
    have h1 : n < 4294967296 := by have := hw.2; simp at this; omega
    rw [Nat.mod_eq_of_lt (by omega), Int.toNat_of_nonneg h0]
theorem open_sound {t : TypeId} {f0 f1 : Field} (ht : P.underlying t = some (.struct #[f0, f1])) (h0 : P.underlying f0.type = some (.int .u32)) (h1 : P.underlying f1.type = some (.int .u32)) {m : Nat} {pvs : List PV} (h : Shape P m t pvs) :
    ∃ p q : BitVec 32, pvs = c_Sound (sOf p q) := by
  cases h with
  | int ht' => rw [ht] at ht'; cases ht'
  | bool ht' => rw [ht] at ht'; cases ht'
  | str ht' => rw [ht] at ht'; cases ht'
  | slice _ ht' => rw [ht] at ht'; cases ht'
  | struct ht' h hm =>
    rw [ht] at ht'
    cases ht'
    cases h with
    | cons ha hb _ => cases hb with
      | cons hb hn _ => cases hn with
        | nil =>
          obtain ⟨p, rfl⟩ := open_u32 h0 ha
          obtain ⟨q, rfl⟩ := open_u32 h1 hb
          exact ⟨p, q, rfl⟩
theorem rep_one {v : Value} {x : PV} (hv : v.cells.toList = [v]) (h : CRep W v.cells.toList [x]) : RepP W (fun _ _ => False) v x := by
  have := (h.2 0 (by simp)).1
  rw [hv] at this
  exact this
theorem rep_agg {cs : Array Value} {pvs : List PV} (h : CRep W (Value.agg cs).cells.toList pvs) : RepP W (fun _ _ => False) (.agg cs) (.agg pvs) := by
  obtain ⟨h1, h2⟩ := h
  have hc : (Value.agg cs).cells.toList = cs.toList := rfl
  rw [hc] at h1 h2
  have e : ∀ i, cs.toList.getD i undef = cs.getD i undef := fun i => by simp [List.getD_eq_getElem?_getD, Array.getD_eq_getD_getElem?]
  exact .agg cs pvs (by simpa using h1) (fun i hi => by rw [← e]; exact (h2 i hi).2) fun i hi => by rw [← e]; exact (h2 i hi).1
end
end Go.AM