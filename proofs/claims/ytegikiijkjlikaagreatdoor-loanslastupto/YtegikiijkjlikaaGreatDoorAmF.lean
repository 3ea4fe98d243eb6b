/- What a law's walk and its plain proof need, part 6: no condition of its own. -/
import Derived.Test.YtegikiijkjlikaaGreatDoorAmE
import Derived.Test.YtegikiijkjlikaaGreatDoorAmD
set_option linter.unusedSimpArgs false
set_option linter.unusedVariables false
set_option linter.unusedSectionVars false
set_option linter.unusedVariables false
set_option linter.unusedSectionVars false
namespace Go.AM
open Go.Proofs
set_option maxRecDepth 10000
set_option maxHeartbeats 2000000
variable {S:Af9} (hS:I3 S Tryz.prog) (hL:BL4 S)
include hS hL
def Ae6 (N:Nat) (p_s:Str):Option Bool:=
 lt (fun (z1:Bool)=>
  some z1
  ) fun k1=>
  if ((p_s == []) != true)=true then
   if (decide ((p_s.length:Int)<=24))=true then
    (An1 N p_s [97,98,99,100,101,102,103,104,105,106,107,108,109,110,111,112,113,114,115,116,117,118,119,120,121,122,65,66,67,68,69,70,71,72,73,74,75,76,77,78,79,80,81,82,83,84,85,86,87,88,89,90,48,49,50,51,52,53,54,55,56,57,45]).bind fun y2=>
    k1 ((y2 == []) != false)
   else
    k1 false
  else
   k1 false
theorem BF7 {N:Nat} {p_s:Str}   {y:Bool} (h:Ae6 N p_s=some y) :
 FunO S AX2 [(.p (.str p_s))] [] (pB y) ([]) []:=by
 unfold Ae6 at h
 refine A7 hS BE1 ?_
 refine Bb4 hS trivial (B4 hS) h 0 (fun z1=>⟨[(2,(pB z1))], []⟩) (fun M1 k1 hb1 h=>?_) (fun z1 h=>?_)
 ·refine A9 hS trivial (b:=((p_s == []) != true)) (fun c5=>?_) (fun c5=>?_)
  ·replace h:=itT c5 h
   refine A9 hS trivial (b:=decide ((p_s.length:Int)<=24)) (fun c6=>?_) (fun c6=>?_)
   ·replace h:=itT c6 h
    obtain ⟨y2,e2,h⟩:=A4 h
    refine A3 hS [] trivial (Bd7 hS hL e2) ?_
    exact hb1 _ [] _ ((y2 == []) != false) trivial h
   ·replace h:=itF c6 h
    exact hb1 _ [] _ false trivial h
  ·replace h:=itF c5 h
   exact hb1 _ [] _ false trivial h
 ·obtain rfl:=A5 h
  exact B5 hS trivial [] ⟨rfl,rfl,rfl⟩
def R7 (N:Nat) (p_x:Ad8) (p_k:Int):Option Bool:=
 lt (fun (z1:Bool)=>
  if z1=true then
   some false
  else
   if ((((E7 .andNot .u32 (E7 .or .u32 p_x.Clear p_x.Take) 16777215) != 0) || ((E7 .and .u32 p_x.Clear (E7 .or .u32 p_x.Set.Plus p_x.Set.Minus)) != 0)) || ((E7 .and .u32 p_x.Take (E7 .or .u32 (E7 .or .u32 p_x.Set.Plus p_x.Set.Minus) p_x.Clear)) != 0))=true then
    some false
   else
    if (p_x.Take == 0)=true then
     some (p_x.Of == 0)
    else
     some ((decide (0<=p_x.Of)) && (decide (p_x.Of < p_k)))
  ) fun k1=>
  if (decide (p_x.From < (-1)))=true then
   k1 true
  else
   if (decide (p_k<=p_x.From))=true then
    k1 true
   else
    (F4 N p_x.Set).bind fun y2=>
    k1 (!y2)
theorem BR9 {N:Nat} {p_x:Ad8} {p_k:Int}   {y:Bool} (h:R7 N p_x p_k=some y) :
 FunO S Bi1 [(.p (.agg (X9 p_x))),(pN p_k)] [] (pB y) ([]) []:=by
 unfold R7 at h
 refine A7 hS BR5 ?_
 refine Bb4 hS trivial (B4 hS) h 0 (fun z1=>⟨[(13,(pB z1)),(5,(pU (E7 .or .u32 p_x.Set.Plus p_x.Set.Minus))),(2,(.reg 3000 0)),(1,(pN p_k))], [(3000,(.cells ((X9 p_x).map .p)))]⟩) (fun M1 k1 hb1 h=>?_) (fun z1 h=>?_)
 ·refine A9 hS trivial (b:=decide (p_x.From < (-1))) (fun c5=>?_) (fun c5=>?_)
  ·replace h:=itT c5 h
   exact hb1 _ [(3000,3000)] _ true trivial h
  ·replace h:=itF c5 h
   refine A9 hS trivial (b:=decide (p_k<=p_x.From)) (fun c6=>?_) (fun c6=>?_)
   ·replace h:=itT c6 h
    exact hb1 _ [(3000,3000)] _ true trivial h
   ·replace h:=itF c6 h
    obtain ⟨y2,e2,h⟩:=A4 h
    refine A3 hS [] trivial (O5 hS hL e2) ?_
    exact hb1 _ [(3000,3000)] _ (!y2) trivial h
 ·refine A1 hS trivial (b:=z1) (fun c7=>?_) (fun c7=>?_)
  ·replace h:=itT c7 h
   obtain rfl:=A5 h
   exact B5 hS trivial [] ⟨rfl,rfl,rfl⟩
  ·replace h:=itF c7 h
   obtain ⟨t1,ht1⟩:∃ x:Bool,x=((((E7 .andNot .u32 (E7 .or .u32 p_x.Clear p_x.Take) 16777215) != 0) || ((E7 .and .u32 p_x.Clear (E7 .or .u32 p_x.Set.Plus p_x.Set.Minus)) != 0)) || ((E7 .and .u32 p_x.Take (E7 .or .u32 (E7 .or .u32 p_x.Set.Plus p_x.Set.Minus) p_x.Clear)) != 0)):=⟨_,rfl⟩
   refine Ai3 hS trivial (B4 hS) 0 ⟨[(29,(pB t1)),(2,(.reg 3000 0)),(1,(pN p_k))], [(3000,(.cells ((X9 p_x).map .p)))]⟩ (fun M2 hb2=>?_) ?_
   ·refine A9 hS trivial (b:=(E7 .andNot .u32 (E7 .or .u32 p_x.Clear p_x.Take) 16777215) != 0) (fun c10=>?_) (fun c10=>?_)
    ·exact hb2 _ [(3000,3000)] _ trivial (by kernel_rfl) (by kernel_rfl) (klR [(0, .eq (.bb true) (.bb t1))] (al1 (by simp only [ht1,c10,Leaf.ok,pm,if_true,if_false]) al0))
    ·refine A9 hS trivial (b:=(E7 .and .u32 p_x.Clear (E7 .or .u32 p_x.Set.Plus p_x.Set.Minus)) != 0) (fun c11=>?_) (fun c11=>?_)
     ·exact hb2 _ [(3000,3000)] _ trivial (by kernel_rfl) (by kernel_rfl) (klR [(0, .eq (.bb true) (.bb t1))] (al1 (by simp only [ht1,c10,c11,Leaf.ok,pm,if_true,if_false]) al0))
     ·exact hb2 _ [(3000,3000)] _ trivial (by kernel_rfl) (by kernel_rfl) (klR [(0, .eq (.bb ((E7 .and .u32 p_x.Take (E7 .or .u32 (E7 .or .u32 p_x.Set.Plus p_x.Set.Minus) p_x.Clear)) != 0)) (.bb t1))] (al1 (by simp only [ht1,c10,c11,Leaf.ok,pm,if_true,if_false]) al0))
   ·subst ht1
    refine A1 hS trivial (b:=((((E7 .andNot .u32 (E7 .or .u32 p_x.Clear p_x.Take) 16777215) != 0) || ((E7 .and .u32 p_x.Clear (E7 .or .u32 p_x.Set.Plus p_x.Set.Minus)) != 0)) || ((E7 .and .u32 p_x.Take (E7 .or .u32 (E7 .or .u32 p_x.Set.Plus p_x.Set.Minus) p_x.Clear)) != 0))) (fun c12=>?_) (fun c12=>?_)
    ·replace h:=itT c12 h
     obtain rfl:=A5 h
     exact B5 hS trivial [] ⟨rfl,rfl,rfl⟩
    ·replace h:=itF c12 h
     refine A1 hS trivial (b:=p_x.Take == 0) (fun c13=>?_) (fun c13=>?_)
     ·replace h:=itT c13 h
      obtain rfl:=A5 h
      exact B5 hS trivial [] ⟨rfl,rfl,rfl⟩
     ·replace h:=itF c13 h
      obtain ⟨t2,ht2⟩:∃ x:Bool,x=((decide (0<=p_x.Of)) && (decide (p_x.Of < p_k))):=⟨_,rfl⟩
      refine Ai3 hS trivial (B4 hS) 0 ⟨[(4,(pB t2))], []⟩ (fun M3 hb3=>?_) ?_
      ·refine A9 hS trivial (b:=decide (0<=p_x.Of)) (fun c15=>?_) (fun c15=>?_)
       ·exact hb3 _ [] _ trivial (by kernel_rfl) (by kernel_rfl) (klR [(0, .eq (.bb (decide (p_x.Of < p_k))) (.bb t2))] (al1 (by simp only [ht2,c15,Leaf.ok,pm,if_true,if_false]) al0))
       ·exact hb3 _ [] _ trivial (by kernel_rfl) (by kernel_rfl) (klR [(0, .eq (.bb false) (.bb t2))] (al1 (by simp only [ht2,c15,Leaf.ok,pm,if_true,if_false]) al0))
      ·subst ht2
       obtain rfl:=A5 h
       exact B5 hS trivial [] ⟨rfl,rfl,rfl⟩
def W1 (N:Nat) (p_x:Ad8) (q0:Int):Option Bool:=
 (R7 N p_x q0).bind fun y1=>
 some (!y1)
theorem Bo1 {N:Nat} {p_x:Ad8} {q0:Int}   {y:Bool} (h:W1 N p_x q0=some y) :
 FunO S Ar5 [(.p (.agg (X9 p_x))),(.reg 0 0)] [(.cells [(pN q0)])] (pB y) ([(.cells [(pN q0)])]) [true]:=by
 unfold W1 at h
 refine A7 hS Bm5 ?_
 obtain ⟨y1,e1,h⟩:=A4 h
 refine A3 hS [] trivial (BR9 hS hL e1) ?_
 obtain rfl:=A5 h
 exact B6 hS trivial ⟨[(3,(pB (!y1)))], [(0,(.cells [(pN q0)]))]⟩ [0] (ids:=[(0,0)]) ⟨rfl,rfl,rfl⟩
def W2 (N:Nat) (p_s:Sound):Option Bool:=
 (F4 N p_s).bind fun y1=>
 some (!y1)
theorem Bo2 {N:Nat} {p_s:Sound}   {y:Bool} (h:W2 N p_s=some y) :
 FunO S Ar6 [(.p (.agg (A0 p_s)))] [] (pB y) ([]) []:=by
 unfold W2 at h
 refine A7 hS Bm6 ?_
 obtain ⟨y1,e1,h⟩:=A4 h
 refine A3 hS [] trivial (O5 hS hL e1) ?_
 obtain rfl:=A5 h
 exact B5 hS trivial [] ⟨rfl,rfl,rfl⟩
def E1 (N:Nat) (p_s:(Sl Ad8)) (p_f:Ad8->Option Bool):Option Int:=
 Aa9 N (fun self1 (x1:Int)=>
  if (decide (x1 < (p_s.n:Int)))=true then
   if ((0:Int)<=x1/\x1 < (p_s.n:Int)) then
    (p_f (p_s.g x1.toNat)).bind fun y3=>
    if y3=true then
     some x1
    else
     self1 (IntKind.wrap .i64 (x1+1))
   else none
  else
   some (-1)
  ) 0
theorem X4 {N:Nat} {p_s:(Sl Ad8)} {p_f:Ad8->Option Bool} {p_f_0:Int} {kp_f:Nat} (hp_f:∀ {a0:Ad8} {b:Bool},p_f a0=some b->FunO S kp_f [(.p (.agg (X9 a0))), .reg 0 0] [(.cells [(pN p_f_0)])] (pB b) [(.cells [(pN p_f_0)])] [true]) {y:Int} (h:E1 N p_s p_f=some y) :
 FunO S K8 [(.p (vSl 6 X9 p_s)),(.clo kp_f [] [(.reg 0 0)])] [(.cells [(pN p_f_0)])] (pN y) ([(.cells [(pN p_f_0)])]) [true]:=by
 unfold E1 at h
 refine A7 hS X1 ?_
 refine Ai0 hS trivial h (fun x1=>⟨[(8,(pN x1)),(7,(pN (p_s.n:Int))),(1,(.clo kp_f [] [(.reg 0 0)])),(0,(.p (vSl 6 X9 p_s)))], [(0,(.cells [(pN p_f_0)]))]⟩) (ids:=[(0,0)]) (fun _ _ _ _ _ self1 x1 hb1 h=>?_)
 refine A1 hS trivial (b:=decide (x1 < (p_s.n:Int))) (fun c7=>?_) (fun c7=>?_)
 ·replace h:=itT c7 h
  obtain ⟨c8,h⟩:=P0 h
  obtain ⟨y3,e3,h⟩:=A4 h
  refine A3 hS [0] (And.intro c8 (by decide:(6:Nat)<=6)) (hp_f e3) ?_
  refine A1 hS trivial (b:=y3) (fun c9=>?_) (fun c9=>?_)
  ·replace h:=itT c9 h
   obtain rfl:=A5 h
   exact B6 hS trivial ⟨[(4,(pN x1))], [(0,(.cells [(pN p_f_0)]))]⟩ [0] (ids:=[(0,0)]) ⟨rfl,rfl,rfl⟩
  ·replace h:=itF c9 h
   exact hb1 _ [(0,0)] _ (IntKind.wrap .i64 (x1+1)) trivial h
 ·replace h:=itF c7 h
  obtain rfl:=A5 h
  exact B6 hS trivial ⟨[(4,(pN (-1)))], [(0,(.cells [(pN p_f_0)]))]⟩ [0] (ids:=[(0,0)]) ⟨rfl,rfl,rfl⟩
def C4 (N:Nat) (p_s:(Sl Ad8)) (p_f:Ad8->Option Bool):Option Bool:=
 (E1 N p_s p_f).bind fun y1=>
 some (decide (0<=y1))
theorem S8 {N:Nat} {p_s:(Sl Ad8)} {p_f:Ad8->Option Bool} {p_f_0:Int} {kp_f:Nat} (hp_f:∀ {a0:Ad8} {b:Bool},p_f a0=some b->FunO S kp_f [(.p (.agg (X9 a0))), .reg 0 0] [(.cells [(pN p_f_0)])] (pB b) [(.cells [(pN p_f_0)])] [true]) {y:Bool} (h:C4 N p_s p_f=some y) :
 FunO S I8 [(.p (vSl 6 X9 p_s)),(.clo kp_f [] [(.reg 0 0)])] [(.cells [(pN p_f_0)])] (pB y) ([(.cells [(pN p_f_0)])]) [true]:=by
 unfold C4 at h
 refine A7 hS S7 ?_
 obtain ⟨y1,e1,h⟩:=A4 h
 refine A3 hS [0] trivial (X4 hS hL (fun e=>hp_f e) e1) ?_
 obtain rfl:=A5 h
 exact B6 hS trivial ⟨[(4,(pB (decide (0<=y1))))], [(0,(.cells [(pN p_f_0)]))]⟩ [0] (ids:=[(0,0)]) ⟨rfl,rfl,rfl⟩
def Aa3 (N:Nat) (p_l:Law):Option Int:=
 (Ae6 N p_l.Name).bind fun y1=>
 if (!y1)=true then
  some 17
 else
  (U3 N p_l.Left).bind fun y2=>
  if (y2 != 0)=true then
   some 17
  else
   (U3 N p_l.Right).bind fun y3=>
   if (y3 != 0)=true then
    some 17
   else
    if (decide (4 < (p_l.If.n:Int)))=true then
     some 17
    else
     if (decide (6 < (p_l.Out.n:Int)))=true then
      some 17
     else
      if ((IntKind.wrap .i64 ((p_l.If.n:Int)+(p_l.Out.n:Int))) == 0)=true then
       some 17
      else
       if ((decide (p_l.Mode < 1)) || (decide (3 < p_l.Mode)))=true then
        some 17
       else
        (B3 N p_l.If (fun (u1:Sound)=>W2 N u1)).bind fun y4=>
        if y4=true then
         some 17
        else
         (C4 N p_l.Out (fun (u2:Ad8)=>W1 N u2 (p_l.If.n:Int))).bind fun y5=>
         if y5=true then
          some 17
         else
          some 0
theorem AZ2 {N:Nat} {p_l:Law}   {y:Int} (h:Aa3 N p_l=some y) :
 FunO S AX0 [(.p (.agg (A6 p_l)))] [] (pN y) ([]) []:=by
 unfold Aa3 at h
 refine A7 hS BD9 ?_
 obtain ⟨y1,e1,h⟩:=A4 h
 refine A3 hS [] trivial (BF7 hS hL e1) ?_
 refine A1 hS trivial (b:=!y1) (fun c1=>?_) (fun c1=>?_)
 ·replace h:=itT c1 h
  refine A1 hS trivial (b:=!y1) (fun c2=>?_) (fun c2=>?_)
  ·obtain rfl:=A5 h
   exact B5 hS trivial [] ⟨rfl,rfl,rfl⟩
  ·exact Bool.noConfusion (c1.symm.trans c2)
 ·replace h:=itF c1 h
  obtain ⟨y2,e2,h⟩:=A4 h
  refine A3 hS [] trivial (Ax6 hS hL e2) ?_
  refine A1 hS trivial (b:=y2 != 0) (fun c3=>?_) (fun c3=>?_)
  ·replace h:=itT c3 h
   refine A1 hS trivial (b:=y2 != 0) (fun c4=>?_) (fun c4=>?_)
   ·obtain rfl:=A5 h
    exact B5 hS trivial [] ⟨rfl,rfl,rfl⟩
   ·exact Bool.noConfusion (c3.symm.trans c4)
  ·replace h:=itF c3 h
   obtain ⟨y3,e3,h⟩:=A4 h
   refine A3 hS [] trivial (Ax6 hS hL e3) ?_
   refine A1 hS trivial (b:=y3 != 0) (fun c5=>?_) (fun c5=>?_)
   ·replace h:=itT c5 h
    refine A1 hS trivial (b:=y3 != 0) (fun c6=>?_) (fun c6=>?_)
    ·obtain rfl:=A5 h
     exact B5 hS trivial [] ⟨rfl,rfl,rfl⟩
    ·exact Bool.noConfusion (c5.symm.trans c6)
   ·replace h:=itF c5 h
    refine A1 hS trivial (b:=decide (4 < (p_l.If.n:Int))) (fun c7=>?_) (fun c7=>?_)
    ·replace h:=itT c7 h
     refine A1 hS trivial (b:=decide (4 < (p_l.If.n:Int))) (fun c8=>?_) (fun c8=>?_)
     ·obtain rfl:=A5 h
      exact B5 hS trivial [] ⟨rfl,rfl,rfl⟩
     ·exact Bool.noConfusion (c7.symm.trans c8)
    ·replace h:=itF c7 h
     refine A1 hS trivial (b:=decide (6 < (p_l.Out.n:Int))) (fun c9=>?_) (fun c9=>?_)
     ·replace h:=itT c9 h
      refine A1 hS trivial (b:=decide (6 < (p_l.Out.n:Int))) (fun c10=>?_) (fun c10=>?_)
      ·obtain rfl:=A5 h
       exact B5 hS trivial [] ⟨rfl,rfl,rfl⟩
      ·exact Bool.noConfusion (c9.symm.trans c10)
     ·replace h:=itF c9 h
      refine A1 hS trivial (b:=(IntKind.wrap .i64 ((p_l.If.n:Int)+(p_l.Out.n:Int))) == 0) (fun c11=>?_) (fun c11=>?_)
      ·replace h:=itT c11 h
       refine A1 hS trivial (b:=(IntKind.wrap .i64 ((p_l.If.n:Int)+(p_l.Out.n:Int))) == 0) (fun c12=>?_) (fun c12=>?_)
       ·obtain rfl:=A5 h
        exact B5 hS trivial [] ⟨rfl,rfl,rfl⟩
       ·exact Bool.noConfusion (c11.symm.trans c12)
      ·replace h:=itF c11 h
       obtain ⟨t1,ht1⟩:∃ x:Bool,x=((decide (p_l.Mode < 1)) || (decide (3 < p_l.Mode))):=⟨_,rfl⟩
       refine Ai3 hS trivial (B4 hS) 0 ⟨[(10,(pB t1)),(5,(.clo Ar6 [] [])),(4,(.clo Ar5 [] [(.reg 4000 0)])),(1,(.reg 2000 0))], [(4000,(.cells [(pN (p_l.If.n:Int))])),(2000,(.cells ((A6 p_l).map .p)))]⟩ (fun M1 hb1=>?_) ?_
       ·refine A9 hS trivial (b:=decide (p_l.Mode < 1)) (fun c14=>?_) (fun c14=>?_)
        ·exact hb1 _ [(2000,2000),(4000,4000)] _ trivial (by kernel_rfl) (by kernel_rfl) (klR [(0, .eq (.bb true) (.bb t1))] (al1 (by simp only [ht1,c14,Leaf.ok,pm,if_true,if_false]) al0))
        ·exact hb1 _ [(2000,2000),(4000,4000)] _ trivial (by kernel_rfl) (by kernel_rfl) (klR [(0, .eq (.bb (decide (3 < p_l.Mode))) (.bb t1))] (al1 (by simp only [ht1,c14,Leaf.ok,pm,if_true,if_false]) al0))
       ·subst ht1
        refine A1 hS trivial (b:=((decide (p_l.Mode < 1)) || (decide (3 < p_l.Mode)))) (fun c15=>?_) (fun c15=>?_)
        ·replace h:=itT c15 h
         refine A1 hS trivial (b:=((decide (p_l.Mode < 1)) || (decide (3 < p_l.Mode)))) (fun c16=>?_) (fun c16=>?_)
         ·obtain rfl:=A5 h
          exact B5 hS trivial [] ⟨rfl,rfl,rfl⟩
         ·exact Bool.noConfusion (c15.symm.trans c16)
        ·replace h:=itF c15 h
         obtain ⟨y4,e4,h⟩:=A4 h
         refine A3 hS [] trivial (H2 hS hL (fun e=>Bo2 hS hL e) e4) ?_
         refine A1 hS trivial (b:=y4) (fun c17=>?_) (fun c17=>?_)
         ·replace h:=itT c17 h
          refine A1 hS trivial (b:=y4) (fun c18=>?_) (fun c18=>?_)
          ·obtain rfl:=A5 h
           exact B5 hS trivial [] ⟨rfl,rfl,rfl⟩
          ·exact Bool.noConfusion (c17.symm.trans c18)
         ·replace h:=itF c17 h
          obtain ⟨y5,e5,h⟩:=A4 h
          refine A3 hS [4000] trivial (S8 hS hL (fun e=>Bo1 hS hL e) e5) ?_
          refine A1 hS trivial (b:=y5) (fun c19=>?_) (fun c19=>?_)
          ·replace h:=itT c19 h
           obtain rfl:=A5 h
           exact B5 hS trivial [] ⟨rfl,rfl,rfl⟩
          ·replace h:=itF c19 h
           obtain rfl:=A5 h
           exact B5 hS trivial [] ⟨rfl,rfl,rfl⟩
def As4 (N:Nat) (p_l:Law) (p_w:(Sl Sound)):Option Int:=
 (Aa3 N p_l).bind fun y1=>
 if (y1 != 0)=true then
  some y1
 else
  (T8 N p_w).bind fun y2=>
  some y2
theorem BF8 {N:Nat} {p_l:Law} {p_w:(Sl Sound)}   {y:Int} (h:As4 N p_l p_w=some y) :
 FunO S AX4 [(.p (.agg (A6 p_l))),(.p (vSl 2 A0 p_w))] [] (pN y) ([]) []:=by
 unfold As4 at h
 refine A7 hS BE3 ?_
 obtain ⟨y1,e1,h⟩:=A4 h
 refine A3 hS [] trivial (AZ2 hS hL e1) ?_
 refine A1 hS trivial (b:=y1 != 0) (fun c1=>?_) (fun c1=>?_)
 ·replace h:=itT c1 h
  obtain rfl:=A5 h
  exact B5 hS trivial [] ⟨rfl,rfl,rfl⟩
 ·replace h:=itF c1 h
  obtain ⟨y2,e2,h⟩:=A4 h
  refine A3 hS [] trivial (Ax2 hS hL e2) ?_
  obtain rfl:=A5 h
  exact B5 hS trivial [] ⟨rfl,rfl,rfl⟩
def R8 (N:Nat) (p_at:Int) (q0:Law) (q1:(Sl Sound)):Option Bool:=
 (Ac9 N q0.Left q1 p_at).bind fun y1=>
 if ((y1.1.n:Int) == 0)=true then
  some false
 else
  (Ak6 N q0.Right q1 (IntKind.wrap .i64 (p_at+(q0.If.n:Int)))).bind fun y2=>
  some (decide (0 < (y2.1.n:Int)))
theorem Be3 {N:Nat} {p_at:Int} {q0:Law} {q1:(Sl Sound)}   {y:Bool} (h:R8 N p_at q0 q1=some y) :
 FunO S R6 [(pN p_at),(.reg 0 0),(.reg 1 0)] [(.cells ((A6 q0).map .p)),(.cells [(.p (vSl 2 A0 q1))])] (pB y) ([(.cells ((A6 q0).map .p)),(.cells [(.p (vSl 2 A0 q1))])]) [true,true]:=by
 unfold R8 at h
 refine A7 hS Bd3 ?_
 obtain ⟨y1,e1,h⟩:=A4 h
 refine A3 hS [] trivial (Bo0 hS hL e1) ?_
 refine A1 hS trivial (b:=(y1.1.n:Int) == 0) (fun c1=>?_) (fun c1=>?_)
 ·replace h:=itT c1 h
  obtain rfl:=A5 h
  exact B6 hS trivial ⟨[(4,(pB false))], [(1,(.cells [(.p (vSl 2 A0 q1))])),(0,(.cells ((A6 q0).map .p)))]⟩ [0,1] (ids:=[(0,0),(1,1)]) ⟨rfl,rfl,rfl⟩
 ·replace h:=itF c1 h
  obtain ⟨y2,e2,h⟩:=A4 h
  refine A3 hS [] trivial (BF6 hS hL e2) ?_
  obtain rfl:=A5 h
  exact B6 hS trivial ⟨[(4,(pB (decide (0 < (y2.1.n:Int)))))], [(1,(.cells [(.p (vSl 2 A0 q1))])),(0,(.cells ((A6 q0).map .p)))]⟩ [0,1] (ids:=[(0,0),(1,1)]) ⟨rfl,rfl,rfl⟩
def Ax8 (N:Nat) (p_l:Law) (p_w:(Sl Sound)):Option (Law × (Sl Sound)):=
 some (p_l,p_w)
theorem Bx5 {N:Nat} {p_l:Law} {p_w:(Sl Sound)}   {y:(Law × (Sl Sound))} (h:Ax8 N p_l p_w=some y) :
 FunO S AP8 [(.p (.agg (A6 p_l))),(.p (vSl 2 A0 p_w))] [] (.clo R6 [] [.reg 0 0, .reg 1 0]) ([(.cells ((A6 y.1).map .p)),(.cells [(.p (vSl 2 A0 y.2))])]) []:=by
 unfold Ax8 at h
 refine A7 hS Bw6 ?_
 obtain rfl:=A5 h
 exact B6 hS trivial ⟨[(4,(.clo R6 [] [(.reg 3000 0),(.reg 4000 0)]))], [(4000,(.cells [(.p (vSl 2 A0 p_w))])),(3000,(.cells ((A6 p_l).map .p)))]⟩ [3000,4000] (ids:=[(3000,3000),(4000,4000)]) ⟨rfl,rfl,rfl⟩
def P9 (N:Nat) (p_l:Law) (p_cut:(Sl Sound)):Option (Sl Sound):=
 T0 N (fun self1 (x1:Sl Sound) (x2:Int)=>
  if (decide (x2 < (p_l.Out.n:Int)))=true then
   if ((0:Int)<=x2/\x2 < (p_l.Out.n:Int)) then
    if ((decide (0<=(p_l.Out.g x2.toNat).From))=true->((0:Int)<=(p_l.Out.g x2.toNat).From/\(p_l.Out.g x2.toNat).From < (p_cut.n:Int))) then
     (M9 N (⟨(if (decide (0<=(p_l.Out.g x2.toNat).From))=true then (p_cut.g (p_l.Out.g x2.toNat).From.toNat).Plus else 0),(if (decide (0<=(p_l.Out.g x2.toNat).From))=true then (p_cut.g (p_l.Out.g x2.toNat).From.toNat).Minus else 0)⟩:Sound) (p_l.Out.g x2.toNat).Clear (p_l.Out.g x2.toNat).Set).bind fun y5=>
     if ((p_l.Out.g x2.toNat).Take != 0)=true then
      if ((0:Int)<=(p_l.Out.g x2.toNat).Of/\(p_l.Out.g x2.toNat).Of < (p_cut.n:Int)) then
       (Q3 N y5.1 (p_cut.g (p_l.Out.g x2.toNat).Of.toNat) (p_l.Out.g x2.toNat).Take).bind fun y6=>
       if ((x1.n+(Sl.of [y6.1]:Sl Sound).n) * 8<=140737488355328/\x1.n+(Sl.of [y6.1]:Sl Sound).n<=140737488355328) then
        self1 (x1.push y6.1) (IntKind.wrap .i64 (x2+1))
       else none
      else none
     else
      if ((x1.n+(Sl.of [y5.1]:Sl Sound).n) * 8<=140737488355328/\x1.n+(Sl.of [y5.1]:Sl Sound).n<=140737488355328) then
       self1 (x1.push y5.1) (IntKind.wrap .i64 (x2+1))
      else none
    else none
   else none
  else
   some x1
  ) (Sl.nil:Sl Sound) 0
theorem Bx6 {N:Nat} {p_l:Law} {p_cut:(Sl Sound)}   {y:(Sl Sound)} (h:P9 N p_l p_cut=some y) :
 FunO S Bw3 [(.p (.agg (A6 p_l))),(.p (vSl 2 A0 p_cut))] [] (.p (vSl 2 A0 y)) ([]) []:=by
 unfold P9 at h
 refine A7 hS Ca7 ?_
 refine Ac2 hS trivial 4 3000 (A6 p_l) ?_
 refine Ab0 hS trivial h (fun x1 x2=>⟨[(12,(pN x2)),(11,(pN (p_l.Out.n:Int))),(10,(.p (vSl 6 X9 p_l.Out))),(5,(.vec 6500)),(1,(.p (vSl 2 A0 p_cut)))], [(6500,(.vec B9 2 x1.n (fun i=>A0 (x1.g i)) false))]⟩) (ids:=[]) (fun _ _ _ _ _ self1 x1 x2 hb3 h=>?_)
 refine A1 hS trivial (b:=decide (x2 < (p_l.Out.n:Int))) (fun c15=>?_) (fun c15=>?_)
 ·replace h:=itT c15 h
  obtain ⟨c16,h⟩:=P0 h
  refine Ac2 hS (And.intro c16 (by decide:(6:Nat)<=6)) 8 8000 (X9 (p_l.Out.g x2.toNat)) ?_
  obtain ⟨c18,h⟩:=P0 h
  obtain ⟨t5,ht5⟩:∃ x:Int,x=(if (decide (0<=(p_l.Out.g x2.toNat).From))=true then (p_cut.g (p_l.Out.g x2.toNat).From.toNat).Plus else 0):=⟨_,rfl⟩
  obtain ⟨t6,ht6⟩:∃ x:Int,x=(if (decide (0<=(p_l.Out.g x2.toNat).From))=true then (p_cut.g (p_l.Out.g x2.toNat).From.toNat).Minus else 0):=⟨_,rfl⟩
  refine Ai3 hS trivial (B4 hS) 0 ⟨[(12,(pN x2)),(11,(pN (p_l.Out.n:Int))),(10,(.p (vSl 6 X9 p_l.Out))),(8,(.reg 9000 0)),(7,(.p (.ptr (X9 (p_l.Out.g x2.toNat))))),(5,(.vec 6500)),(1,(.p (vSl 2 A0 p_cut)))], [(9000,(.cells [(pU t5),(pU t6)])),(6500,(.vec B9 2 x1.n (fun i=>A0 (x1.g i)) false))]⟩ (fun M3 hb4=>?_) ?_
  ·refine A1 hS trivial (b:=decide (0<=(p_l.Out.g x2.toNat).From)) (fun c19=>?_) (fun c19=>?_)
   ·exact hb4 _ [(6500,6500),(9000,9000)] _ (And.intro (c18 c19) (by decide:(2:Nat)<=2)) (by kernel_rfl) (by kernel_rfl) (klR [(5, .eq (pI .u32 (p_cut.g (p_l.Out.g x2.toNat).From.toNat).Plus) (pI .u32 t5)),(6, .eq (pI .u32 (p_cut.g (p_l.Out.g x2.toNat).From.toNat).Minus) (pI .u32 t6))] (al1 (by simp only [ht5,ht6,c19,Leaf.ok,pm,if_true,if_false]) (al1 (by simp only [ht5,ht6,c19,Leaf.ok,pm,if_true,if_false]) al0)))
   ·exact hb4 _ [(6500,6500),(9000,9000)] _ trivial (by kernel_rfl) (by kernel_rfl) (klR [(5, .eq (pI .u32 0) (pI .u32 t5)),(6, .eq (pI .u32 0) (pI .u32 t6))] (al1 (by simp only [ht5,ht6,c19,Leaf.ok,pm,if_true,if_false]) (al1 (by simp only [ht5,ht6,c19,Leaf.ok,pm,if_true,if_false]) al0)))
  ·subst ht6
   subst ht5
   obtain ⟨y5,e5,h⟩:=A4 h
   refine A3 hS [] (by decide:(2:Nat)<=4) (Bd8 hS hL e5) ?_
   refine A1 hS trivial (b:=(p_l.Out.g x2.toNat).Take != 0) (fun c20=>?_) (fun c20=>?_)
   ·replace h:=itT c20 h
    refine Q4 hS trivial [3,4,5,7,8] ?_
    obtain ⟨c21,h⟩:=P0 h
    obtain ⟨y6,e6,h⟩:=A4 h
    refine At2 (And.intro c21 (by decide:(2:Nat)<=2)) (Bx2 hS hL e6) ?_
    refine Q1 trivial ?_
    obtain ⟨c22,h⟩:=P0 h
    exact hb3 _ [(6500,52000)] _ (x1.push y6.1) (IntKind.wrap .i64 (x2+1)) (And.intro (rfl:true=true) c22) h (by kernel_rfl) (by kernel_rfl) (klR [(4, .fn (x1.n+1) (x1.push y6.1).n (An5 x1.n (fun i=>A0 (x1.g i)) (H6 [(pI .u32 0),(pI .u32 0)] [(0,A0 y6.1)])) (fun i=>A0 ((x1.push y6.1).g i)))] (al1 ⟨rfl,(Cg2 (c:=A0) (v:=x1) (x:=y6.1) (z:=[(pI .u32 0),(pI .u32 0)]) same rfl rfl)⟩ al0))
   ·replace h:=itF c20 h
    obtain ⟨c23,h⟩:=P0 h
    exact hb3 _ [(6500,52000)] _ (x1.push y5.1) (IntKind.wrap .i64 (x2+1)) (And.intro (rfl:true=true) c23) h (by kernel_rfl) (by kernel_rfl) (klR [(4, .fn (x1.n+1) (x1.push y5.1).n (An5 x1.n (fun i=>A0 (x1.g i)) (H6 [(pI .u32 0),(pI .u32 0)] [(0,A0 y5.1)])) (fun i=>A0 ((x1.push y5.1).g i)))] (al1 ⟨rfl,(Cg2 (c:=A0) (v:=x1) (x:=y5.1) (z:=[(pI .u32 0),(pI .u32 0)]) same rfl rfl)⟩ al0))
 ·replace h:=itF c15 h
  obtain rfl:=A5 h
  exact B6 hS trivial ⟨[(4,(.p (vSl 2 A0 x1)))], []⟩ [] (ids:=[]) ⟨rfl,rfl,rfl⟩
def B1 (N:Nat) (p_slices:(Sl (Sl Sound))):Option (Sl Sound):=
 T0 N (fun self1 (x1:Int) (x2:Int)=>
  if (decide (x2 < (p_slices.n:Int)))=true then
   if ((0:Int)<=x2/\x2 < (p_slices.n:Int)) then
    if (decide ((IntKind.wrap .i64 (x1+((p_slices.g x2.toNat).n:Int))) < 0))=true then
     none
    else
     self1 (IntKind.wrap .i64 (x1+((p_slices.g x2.toNat).n:Int))) (IntKind.wrap .i64 (x2+1))
   else none
  else
   (G2 N x1).bind fun y1=>
   T0 N (fun self2 (x3:Sl Sound) (x4:Int)=>
    if (decide (x4 < (p_slices.n:Int)))=true then
     if (((0:Int)<=x4/\x4 < (p_slices.n:Int))/\((x3.n+(p_slices.g x4.toNat).n) * 8<=140737488355328/\x3.n+(p_slices.g x4.toNat).n<=140737488355328)) then
      self2 (x3.app (p_slices.g x4.toNat)) (IntKind.wrap .i64 (x4+1))
     else none
    else
     some x3
    ) y1 0
  ) 0 0
theorem J9 {N:Nat} {p_slices:(Sl (Sl Sound))}   {y:(Sl Sound)} (h:B1 N p_slices=some y) :
 FunO S J7 [(.p (vSl 1 (cL 2 A0) p_slices))] [] (.vec 0) ([(.vec B9 2 y.n (fun i=>A0 (y.g i)) true)]) []:=by
 unfold B1 at h
 refine A7 hS V5 ?_
 refine Ab0 hS trivial h (fun x1 x2=>⟨[(11,(pN x2)),(10,(pN (p_slices.n:Int))),(9,(.p (vSl 1 (cL 2 A0) p_slices))),(3,(pN x1)),(0,(.p (vSl 1 (cL 2 A0) p_slices)))], []⟩) (ids:=[]) (fun _ _ _ _ _ self1 x1 x2 hb1 h=>?_)
 refine A1 hS trivial (b:=decide (x2 < (p_slices.n:Int))) (fun c7=>?_) (fun c7=>?_)
 ·replace h:=itT c7 h
  obtain ⟨c8,h⟩:=P0 h
  refine A1 hS c8 (b:=decide ((IntKind.wrap .i64 (x1+((p_slices.g x2.toNat).n:Int))) < 0)) (fun c9=>?_) (fun c9=>?_)
  ·replace h:=itT c9 h
   cases h
  ·replace h:=itF c9 h
   exact hb1 _ [] _ (IntKind.wrap .i64 (x1+((p_slices.g x2.toNat).n:Int))) (IntKind.wrap .i64 (x2+1)) trivial h
 ·replace h:=itF c7 h
  obtain ⟨y1,e1,h⟩:=A4 h
  refine A3 hS [] trivial (Y2 hS hL e1) ?_
  refine Ab0 hS trivial h (fun x3 x4=>⟨[(27,(pN x4)),(26,(pN (p_slices.n:Int))),(25,(.p (vSl 1 (cL 2 A0) p_slices))),(6,(.vec 7500))], [(7500,(.vec B9 2 x3.n (fun i=>A0 (x3.g i)) false))]⟩) (ids:=[(7500,25000)]) (fun _ _ _ _ _ self2 x3 x4 hb2 h=>?_)
  refine A1 hS trivial (b:=decide (x4 < (p_slices.n:Int))) (fun c12=>?_) (fun c12=>?_)
  ·replace h:=itT c12 h
   obtain ⟨c13,h⟩:=P0 h
   exact hb2 _ [(7500,34000)] _ (x3.app (p_slices.g x4.toNat)) (IntKind.wrap .i64 (x4+1)) c13 h (by kernel_rfl) (by kernel_rfl) (klR [(3, .fn (x3.n+(p_slices.g x4.toNat).n) (x3.app (p_slices.g x4.toNat)).n (An5 x3.n (fun i=>A0 (x3.g i)) (fun i=>A0 ((p_slices.g x4.toNat).g i))) (fun i=>A0 ((x3.app (p_slices.g x4.toNat)).g i)))] (al1 ⟨rfl,(CA7 (c:=A0) (v:=x3) (w:=(p_slices.g x4.toNat)) same rfl same rfl)⟩ al0))
  ·replace h:=itF c12 h
   obtain rfl:=A5 h
   exact B6 hS trivial ⟨[(2,(.vec 7500))], [(7500,(.vec B9 2 x3.n (fun i=>A0 (x3.g i)) true))]⟩ [7500] (ids:=[(7500,7500)]) ⟨rfl,rfl,rfl⟩
def O6 (N:Nat) (p_l:Law) (p_w:(Sl Sound)) (p_at:Int):Option (Sl Sound):=
 if (((0:Int)<=p_at/\p_at<=(p_w.n:Int))/\((0:Int)<=p_at/\p_at<=(IntKind.wrap .i64 (p_at+(p_l.If.n:Int)))/\(IntKind.wrap .i64 (p_at+(p_l.If.n:Int)))<=(p_w.n:Int))) then
  (P9 N p_l (p_w.sub p_at.toNat (IntKind.wrap .i64 (p_at+(p_l.If.n:Int))).toNat)).bind fun y1=>
  if ((0:Int)<=(IntKind.wrap .i64 (p_at+(p_l.If.n:Int)))/\(IntKind.wrap .i64 (p_at+(p_l.If.n:Int)))<=(p_w.n:Int)) then
   (B1 N (Sl.of [(p_w.take p_at.toNat),y1,(p_w.drop (IntKind.wrap .i64 (p_at+(p_l.If.n:Int))).toNat)]:Sl (Sl Sound))).bind fun y2=>
   some y2
  else none
 else none
theorem AJ0 {N:Nat} {p_l:Law} {p_w:(Sl Sound)} {p_at:Int}   {y:(Sl Sound)} (h:O6 N p_l p_w p_at=some y) :
 FunO S AI0 [(.p (.agg (A6 p_l))),(.p (vSl 2 A0 p_w)),(pN p_at)] [] (.vec 0) ([(.vec B9 2 y.n (fun i=>A0 (y.g i)) true)]) []:=by
 unfold O6 at h
 refine A7 hS Bm8 ?_
 refine Ac2 hS trivial 6 4000 (A6 p_l) ?_
 refine Q4 hS trivial [3,8] ?_
 obtain ⟨c1,h⟩:=P0 h
 obtain ⟨y1,e1,h⟩:=A4 h
 refine At2 (And.intro (And.intro c1.1 (by decide:(18:Nat)<=18)) c1.2) (Bx6 hS hL e1) ?_
 obtain ⟨c2,h⟩:=P0 h
 refine AE4 c2 (x:=(.sl true 1 3 (H6 [U7] [(0,(cL 2 A0) (p_w.take p_at.toNat)),(1,(cL 2 A0) y1),(2,(cL 2 A0) (p_w.drop (IntKind.wrap .i64 (p_at+(p_l.If.n:Int))).toNat))]))) ?_
 obtain ⟨y2,e2,h⟩:=A4 h
 refine Cq8 [] trivial (FunO.le hS (args:=[.p (.sl true 1 3 (H6 [U7] [(0,(cL 2 A0) (p_w.take p_at.toNat)),(1,(cL 2 A0) y1),(2,(cL 2 A0) (p_w.drop (IntKind.wrap .i64 (p_at+(p_l.If.n:Int))).toNat))]))]) (by exact ⟨BV2 rfl (fun i hi=>match i,hi with | 0,_=>rfl | 1,_=>rfl | 2,_=>rfl | _+3,hi=>absurd hi (by omega)),trivial⟩) (J9 hS hL e2)) ?_
 refine Q1 trivial ?_
 obtain rfl:=A5 h
 exact B6 hS trivial ⟨[(6,(.vec 27000))], [(27000,(.vec B9 2 y2.n (fun i=>A0 (y2.g i)) true))]⟩ [27000] (ids:=[(27000,27000)]) ⟨rfl,rfl,rfl⟩
def U4 (N:Nat) (q0:Law) (q1:(Sl Sound)) (q2:Int):Option (List (Int)):=
 (Ax8 N q0 q1).bind fun y1=>
 Aa9 N (fun self3 (x2:Int)=>
  if (decide ((IntKind.wrap .i64 (x2+(q0.If.n:Int)))<=(q1.n:Int)))=true then
   Aa9 N (fun self4 (x4:Int)=>
    if (decide (x4 < (q0.If.n:Int)))=true then
     if ((0:Int)<=x4/\x4 < (q0.If.n:Int)) then
      if ((0:Int)<=(IntKind.wrap .i64 (x2+x4))/\(IntKind.wrap .i64 (x2+x4)) < (q1.n:Int)) then
       (I5 N (q1.g (IntKind.wrap .i64 (x2+x4)).toNat) (q0.If.g x4.toNat)).bind fun y12=>
       if (!y12)=true then
        self3 (IntKind.wrap .i64 (x2+1))
       else
        self4 (IntKind.wrap .i64 (x4+1))
      else none
     else none
    else
     (R8 N x2 y1.1 y1.2).bind fun y13=>
     if y13=true then
      Ab4 x2 (
       self3 (IntKind.wrap .i64 (x2+1))
       )
     else
      self3 (IntKind.wrap .i64 (x2+1))
    ) 0
  else
   some []
  ) q2
theorem AQ0 {N:Nat} {q0:Law} {q1:(Sl Sound)} {q2:Int} {L:List (Int)} (h:U4 N q0 q1 q2=some L) :
 Am7 S Al7 [] [.reg 0 0, .reg 1 0, .reg 2 0] [(.cells ((A6 q0).map .p)),(.cells [(.p (vSl 2 A0 q1))]),(.cells [(pN q2)])] (L.map (fun (x:Int)=>[(pI .i64) x])):=by
 unfold U4 at h
 refine Az5 hS Bw5 ?_
 obtain ⟨y1,e1,h⟩:=A4 h
 refine A3 hS [] trivial (Bx5 hS hL e1) ?_
 refine Av9 hS trivial h (fun x2 L1=>⟨[(6,(pN x2)),(5,(.clo R6 [] [(.reg 12000 0),(.reg 12001 0)])),(2,(.reg 1 0)),(1,(.reg 0 0)),(0,(.yf 3))], [(12001,(.cells [(.p (vSl 2 A0 y1.2))])),(12000,(.cells ((A6 y1.1).map .p))),(3,(.yld (L1.map (fun (x:Int)=>[(pI .i64) x])) true)),(2,(.cells [(pN q2)])),(1,(.cells [(.p (vSl 2 A0 q1))])),(0,(.cells ((A6 q0).map .p)))]⟩) (ids:=[(0,0),(1,1),(2,2),(3,3),(12000,12000),(12001,12001)]) (fun _ _ _ _ _ self3 x2 L1 hb3 h=>?_)
 refine A1 hS trivial (b:=decide ((IntKind.wrap .i64 (x2+(q0.If.n:Int)))<=(q1.n:Int))) (fun c37=>?_) (fun c37=>?_)
 ·replace h:=itT c37 h
  refine Av9 hS trivial h (fun x4 L8=>⟨[(26,(pN x4)),(25,(pN (q0.If.n:Int))),(24,(.p (vSl 2 A0 q0.If))),(6,(pN x2)),(5,(.clo R6 [] [(.reg 12000 0),(.reg 12001 0)])),(2,(.reg 1 0)),(1,(.reg 0 0)),(0,(.yf 3))], [(12001,(.cells [(.p (vSl 2 A0 y1.2))])),(12000,(.cells ((A6 y1.1).map .p))),(3,(.yld (L8.map (fun (x:Int)=>[(pI .i64) x])) true)),(2,(.cells [(pN q2)])),(1,(.cells [(.p (vSl 2 A0 q1))])),(0,(.cells ((A6 q0).map .p)))]⟩) (ids:=[(0,0),(1,1),(2,2),(3,3),(12000,12000),(12001,12001)]) (fun _ _ _ _ _ self4 x4 L8 hb4 h=>?_)
  refine A1 hS trivial (b:=decide (x4 < (q0.If.n:Int))) (fun c46=>?_) (fun c46=>?_)
  ·replace h:=itT c46 h
   obtain ⟨c47,h⟩:=P0 h
   refine Cl0 hS (And.intro c47 (by decide:(2:Nat)<=2)) 9000 [(pI .u32 (q0.If.g x4.toNat).Plus),(pI .u32 (q0.If.g x4.toNat).Minus)] ?_
   refine Q4 hS trivial [4,5,6,7] ?_
   obtain ⟨c48,h⟩:=P0 h
   obtain ⟨y12,e12,h⟩:=A4 h
   refine At2 (And.intro (And.intro c48 (by decide:(2:Nat)<=2)) (by decide:(2:Nat)<=2)) (AL9 hS hL e12) ?_
   refine Q1 trivial ?_
   refine A1 hS trivial (b:=!y12) (fun c49=>?_) (fun c49=>?_)
   ·replace h:=itT c49 h
    exact hb3 _ [(0,0),(1,1),(2,2),(3,3),(12000,12000),(12001,12001)] _ (IntKind.wrap .i64 (x2+1)) L8 trivial h
   ·replace h:=itF c49 h
    exact hb4 _ [(0,0),(1,1),(2,2),(3,3),(12000,12000),(12001,12001)] _ (IntKind.wrap .i64 (x4+1)) L8 trivial h
  ·replace h:=itF c46 h
   obtain ⟨y13,e13,h⟩:=A4 h
   refine A3 hS [12000,12001] trivial (Be3 hS hL e13) ?_
   refine A9 hS trivial (b:=y13) (fun c52=>?_) (fun c52=>?_)
   ·replace h:=itT c52 h
    obtain ⟨L10,rfl,hcL10⟩:=Bb9 h
    replace h:=hcL10
    refine Am8 hS trivial (ys:=(fun (x:Int)=>[(pI .i64) x]) x2) (rest:=L10.map (fun (x:Int)=>[(pI .i64) x])) ?_ ?_
    ·refine A1 hS trivial (b:=false) (fun c53=>?_) (fun c53=>?_)
     ·exact Bool.noConfusion ((rfl:false=false).symm.trans c53)
     ·exact hb3 _ [(0,0),(1,1),(2,2),(3,3),(12000,12000),(12001,12001)] _ (IntKind.wrap .i64 (x2+1)) L10 trivial h
    ·refine A1 hS trivial (b:=true) (fun c54=>?_) (fun c54=>?_)
     ·exact B6 hS trivial (a:=.tup []) (objs:=[(.cells ((A6 q0).map .p)),(.cells [(.p (vSl 2 A0 q1))]),(.cells [(pN q2)]),(.yld [] false)]) ⟨[], [(3,(.yld [] false)),(2,(.cells [(pN q2)])),(1,(.cells [(.p (vSl 2 A0 q1))])),(0,(.cells ((A6 q0).map .p)))]⟩ [0,1,2,3] (ids:=[(0,0),(1,1),(2,2),(3,3)]) ⟨false,rfl,rfl,_,rfl⟩
     ·exact Bool.noConfusion ((rfl:true=true).symm.trans c54)
   ·replace h:=itF c52 h
    exact hb3 _ [(0,0),(1,1),(2,2),(3,3),(12000,12000),(12001,12001)] _ (IntKind.wrap .i64 (x2+1)) L8 trivial h
 ·replace h:=itF c37 h
  obtain rfl:=A5 h
  exact B6 hS trivial (a:=.tup []) (objs:=[(.cells ((A6 q0).map .p)),(.cells [(.p (vSl 2 A0 q1))]),(.cells [(pN q2)]),(.yld [] true)]) ⟨[], [(3,(.yld [] true)),(2,(.cells [(pN q2)])),(1,(.cells [(.p (vSl 2 A0 q1))])),(0,(.cells ((A6 q0).map .p)))]⟩ [0,1,2,3] (ids:=[(0,0),(1,1),(2,2),(3,3)]) ⟨true,rfl,rfl,_,rfl⟩
def AA2 (N:Nat) (p_l:Law) (p_w:(Sl Sound)) (p_from:Int):Option (Law × (Sl Sound) × Int):=
 some (p_l,p_w,p_from)
theorem Bi4 {N:Nat} {p_l:Law} {p_w:(Sl Sound)} {p_from:Int}   {y:(Law × (Sl Sound) × Int)} (h:AA2 N p_l p_w p_from=some y) :
 FunO S Bi2 [(.p (.agg (A6 p_l))),(.p (vSl 2 A0 p_w)),(pN p_from)] [] (.clo Al7 [] [.reg 0 0, .reg 1 0, .reg 2 0]) ([(.cells ((A6 y.1).map .p)),(.cells [(.p (vSl 2 A0 y.2.1))]),(.cells [(pN y.2.2)])]) []:=by
 unfold AA2 at h
 refine A7 hS BR6 ?_
 obtain rfl:=A5 h
 exact B6 hS trivial ⟨[(6,(.clo Al7 [] [(.reg 4000 0),(.reg 5000 0),(.reg 6000 0)]))], [(6000,(.cells [(pN p_from)])),(5000,(.cells [(.p (vSl 2 A0 p_w))])),(4000,(.cells ((A6 p_l).map .p)))]⟩ [4000,5000,6000] (ids:=[(4000,4000),(5000,5000),(6000,6000)]) ⟨rfl,rfl,rfl⟩
def Ag8 (N:Nat) (p_l:Law) (p_w:(Sl Sound)) (p_at:Int):Option Bool:=
 (AA2 N p_l p_w p_at).bind fun y1=>
 (U4 N y1.1 y1.2.1 y1.2.2).bind fun L1=>
 K4 L1 (fun self1 (x1:Int) (_:Unit)=>
  some (x1 == p_at)
  ) (fun (_:Unit)=>
   some false
  ) ()
theorem Bx7 {N:Nat} {p_l:Law} {p_w:(Sl Sound)} {p_at:Int}   {y:Bool} (h:Ag8 N p_l p_w p_at=some y) :
 FunO S Bw4 [(.p (.agg (A6 p_l))),(.p (vSl 2 A0 p_w)),(pN p_at)] [] (pB y) ([]) []:=by
 unfold Ag8 at h
 refine A7 hS Ca8 ?_
 obtain ⟨y1,e1,h⟩:=A4 h
 refine A3 hS [] trivial (Bi4 hS hL e1) ?_
 obtain ⟨L1,e2,h⟩:=A4 h
 refine AL6 hS trivial [12000,12001,12002] [6,5] 901 (fun _=>⟨[(6,(.reg 7000 0)),(5,(.reg 6000 0))], [(7000,(.cells [(.p (.v (.bool false)))])),(6000,(.cells [(pN p_at)]))]⟩) (idl:=[(6000,6000),(7000,7000)]) h (AQ0 hS hL e2) (fun _=>by kernel_rfl) (fun _=>by kernel_rfl) (fun _=>by kernel_rfl) (fun _=>by kernel_rfl) (fun x1 _ self1 _ hb1 h=>?_) (fun _ h=>?_)
 ·refine AL7 hS trivial ?_
  refine Bl8 hS trivial ⟨[(6,(.reg 7000 0)),(5,(.reg 6000 0))], [(7000,(.cells [(pB (x1 == p_at))])),(6000,(.cells [(pN p_at)]))]⟩ (ids:=[(901,901),(6000,6000),(7000,7000)]) ?_
  obtain rfl:=A5 h
  exact B5 hS trivial [] ⟨rfl,rfl,rfl⟩
 ·obtain rfl:=A5 h
  exact B5 hS trivial [] ⟨rfl,rfl,rfl⟩
def Ae7 (N:Nat) (q0:(Sl Sound)) (q1:Law) (q2:Int) (q3:Int):Option (List (Int × (Sl Sound))):=
 if (q1.Mode == 1)=true then
  (AA2 N q1 q0 0).bind fun y1=>
  (U4 N y1.1 y1.2.1 y1.2.2).bind fun L1=>
  K4 L1 (fun self1 (x1:Int) (z1:(Sl Sound) × Int × Int)=>
   if (decide (x1 < z1.2.1))=true then
    self1 (z1.1,z1.2.1,z1.2.2)
   else
    if (((0:Int)<=(IntKind.wrap .i64 (x1+z1.2.2))/\(IntKind.wrap .i64 (x1+z1.2.2))<=(z1.1.n:Int))/\((0:Int)<=x1/\x1<=(IntKind.wrap .i64 (x1+q2))/\(IntKind.wrap .i64 (x1+q2))<=(q0.n:Int))) then
     (P9 N q1 (q0.sub x1.toNat (IntKind.wrap .i64 (x1+q2)).toNat)).bind fun y6=>
     if ((0:Int)<=(IntKind.wrap .i64 (x1+q2))/\(IntKind.wrap .i64 (x1+q2))<=(q0.n:Int)) then
      (B1 N (Sl.of [(z1.1.take (IntKind.wrap .i64 (x1+z1.2.2)).toNat),y6,(q0.drop (IntKind.wrap .i64 (x1+q2)).toNat)]:Sl (Sl Sound))).bind fun y7=>
      Ab4 (x1,y7) (
       self1 (y7,IntKind.wrap .i64 (x1+(if q2 < 1 then 1 else q2)),IntKind.wrap .i64 ((IntKind.wrap .i64 (z1.2.2+q3)) - q2))
       )
     else none
    else none
   ) (fun (z1:(Sl Sound) × Int × Int)=>
    some []
   ) (q0,0,0)
 else
  if (q1.Mode == 2)=true then
   T0 N (fun self2 (x5:Sl Sound) (x6:Int)=>
    if (decide ((IntKind.wrap .i64 (x6+q2))<=(x5.n:Int)))=true then
     (Ag8 N q1 x5 x6).bind fun y12=>
     if (!y12)=true then
      self2 x5 (IntKind.wrap .i64 (x6+1))
     else
      (O6 N q1 x5 x6).bind fun y13=>
      Ab4 (x6,y13) (
       if (q2 == 0)=true then
        self2 y13 (IntKind.wrap .i64 ((IntKind.wrap .i64 (x6+q3))+1))
       else
        self2 y13 (IntKind.wrap .i64 (x6+q3))
       )
    else
     some []
    ) q0 0
  else
   if (q1.Mode == 3)=true then
    T0 N (fun self3 (x7:Sl Sound) (x8:Int)=>
     if (decide (0<=x8))=true then
      (Ag8 N q1 x7 x8).bind fun y18=>
      if (!y18)=true then
       self3 x7 (IntKind.wrap .i64 (x8 - 1))
      else
       (O6 N q1 x7 x8).bind fun y19=>
       Ab4 (x8,y19) (
        self3 y19 (IntKind.wrap .i64 (x8 - (if q2 < 1 then 1 else q2)))
        )
     else
      some []
     ) q0 (IntKind.wrap .i64 ((q0.n:Int) - q2))
   else
    some []
theorem BF9 {N:Nat} {q0:(Sl Sound)} {q1:Law} {q2:Int} {q3:Int} {L:List (Int × (Sl Sound))} (h:Ae7 N q0 q1 q2 q3=some L) :
 Am7 S Ar7 [] [.reg 0 0, .reg 1 0, .reg 2 0, .reg 3 0] [(.cells [(.p (vSl 2 A0 q0))]),(.cells ((A6 q1).map .p)),(.cells [(pN q2)]),(.cells [(pN q3)])] (L.map (fun (x:Int × (Sl Sound))=>[(pI .i64) x.1,(vSl 2 A0) x.2])):=by
 unfold Ae7 at h
 refine Az5 hS BE4 ?_
 refine A1 hS trivial (b:=q1.Mode == 1) (fun c1=>?_) (fun c1=>?_)
 ·replace h:=itT c1 h
  obtain ⟨y1,e1,h⟩:=A4 h
  refine A3 hS [] trivial (Bi4 hS hL e1) ?_
  obtain ⟨L1,e2,h⟩:=A4 h
  refine Ck9 hS trivial [20000,20001,20002] [8,7,6,5,4,3,2,1] 900 (fun z1 L2=>⟨[(8,(.reg 9000 0)),(7,(.reg 8000 0)),(6,(.reg 7000 0)),(5,(.reg 6000 0)),(4,(.reg 3 0)),(3,(.reg 2 0)),(2,(.reg 1 0)),(1,(.reg 0 0))], [(9000,(.cells [(pN z1.2.2)])),(8000,(.cells [(pN z1.2.1)])),(7000,(.cells [(.p (vSl 2 A0 z1.1))])),(6000,(.cells [(.yf 4)])),(4,(.yld (L2.map (fun (x:Int × (Sl Sound))=>[(pI .i64) x.1,(vSl 2 A0) x.2])) true)),(3,(.cells [(pN q3)])),(2,(.cells [(pN q2)])),(1,(.cells ((A6 q1).map .p))),(0,(.cells [(.p (vSl 2 A0 q0))]))]⟩) (idl:=[(0,0),(1,1),(2,2),(3,3),(4,4),(6000,6000),(7000,7000),(8000,8000),(9000,9000)]) h (AQ0 hS hL e2) (fun _=>by kernel_rfl) (fun _ _=>by kernel_rfl) (fun _ _=>by kernel_rfl) (fun _ _=>by kernel_rfl) (fun x1 _ self1 z1 L2 hb1 h=>?_) (fun z1 L2 h=>?_)
  ·refine AL7 hS trivial ?_
   refine A1 hS trivial (b:=decide (x1 < z1.2.1)) (fun c12=>?_) (fun c12=>?_)
   ·replace h:=itT c12 h
    exact hb1 _ [(0,0),(1,1),(2,2),(3,3),(4,4),(900,900),(6000,6000),(7000,7000),(8000,8000),(9000,9000)] _ (z1.1,z1.2.1,z1.2.2) L2 trivial h
   ·replace h:=itF c12 h
    refine V2 hS trivial [(0, .l [7000]),(2, .l [9000]),(5, .l [1]),(6, .l [0]),(9, .l [2]),(12, .n),(13, .l [0]),(15, .l [2]),(20, .a [7000])] ?_
    obtain ⟨c13,h⟩:=P0 h
    obtain ⟨y6,e7,h⟩:=A4 h
    refine At2 c13 (Bx6 hS hL e7) ?_
    obtain ⟨c14,h⟩:=P0 h
    refine AE4 c14 (x:=(.sl true 1 3 (H6 [U7] [(0,(cL 2 A0) (z1.1.take (IntKind.wrap .i64 (x1+z1.2.2)).toNat)),(1,(cL 2 A0) y6),(2,(cL 2 A0) (q0.drop (IntKind.wrap .i64 (x1+q2)).toNat))]))) ?_
    obtain ⟨y7,e8,h⟩:=A4 h
    refine Cq8 [] trivial (FunO.le hS (args:=[.p (.sl true 1 3 (H6 [U7] [(0,(cL 2 A0) (z1.1.take (IntKind.wrap .i64 (x1+z1.2.2)).toNat)),(1,(cL 2 A0) y6),(2,(cL 2 A0) (q0.drop (IntKind.wrap .i64 (x1+q2)).toNat))]))]) (by exact ⟨BV2 rfl (fun i hi=>match i,hi with | 0,_=>rfl | 1,_=>rfl | 2,_=>rfl | _+3,hi=>absurd hi (by omega)),trivial⟩) (J9 hS hL e8)) ?_
    refine Q1 trivial ?_
    obtain ⟨L5,rfl,hcL5⟩:=Bb9 h
    replace h:=hcL5
    refine Am8 hS trivial (ys:=(fun (x:Int × (Sl Sound))=>[(pI .i64) x.1,(vSl 2 A0) x.2]) (x1,y7)) (rest:=L5.map (fun (x:Int × (Sl Sound))=>[(pI .i64) x.1,(vSl 2 A0) x.2])) ?_ ?_
    ·refine A1 hS trivial (b:=false) (fun c15=>?_) (fun c15=>?_)
     ·exact Bool.noConfusion ((rfl:false=false).symm.trans c15)
     ·refine V2 hS trivial [(1, .l [2]),(4, .l [9000]),(5, .l [3]),(7, .l [2]),(9, .a [8000]),(10, .a [9000])] ?_
      refine Q1 trivial ?_
      exact hb1 _ [(0,0),(1,1),(2,2),(3,3),(4,4),(900,900),(6000,6000),(7000,7000),(8000,8000),(9000,9000)] _ (y7,IntKind.wrap .i64 (x1+(if q2 < 1 then 1 else q2)),IntKind.wrap .i64 ((IntKind.wrap .i64 (z1.2.2+q3)) - q2)) L5 trivial h
    ·refine A1 hS trivial (b:=true) (fun c16=>?_) (fun c16=>?_)
     ·refine Bl8 hS trivial ⟨[(8,(.reg 9000 0)),(7,(.reg 8000 0)),(6,(.reg 7000 0)),(5,(.reg 6000 0)),(4,(.reg 3 0)),(3,(.reg 2 0)),(2,(.reg 1 0)),(1,(.reg 0 0))], [(44000,(.vec B9 2 y7.n (fun i=>A0 (y7.g i)) true)),(9000,(.cells [(pN z1.2.2)])),(8000,(.cells [(pN z1.2.1)])),(7000,(.cells [(.vec 44000)])),(6000,(.cells [(.yf 4)])),(4,(.yld [] false)),(3,(.cells [(pN q3)])),(2,(.cells [(pN q2)])),(1,(.cells ((A6 q1).map .p))),(0,(.cells [(.p (vSl 2 A0 q0))]))]⟩ (ids:=[(0,0),(1,1),(2,2),(3,3),(4,4),(900,900),(6000,6000),(7000,7000),(8000,8000),(9000,9000),(44000,44000)]) ?_
      exact B6 hS trivial (a:=.tup []) (objs:=[(.cells [(.p (vSl 2 A0 q0))]),(.cells ((A6 q1).map .p)),(.cells [(pN q2)]),(.cells [(pN q3)]),(.yld [] false)]) ⟨[], [(4,(.yld [] false)),(3,(.cells [(pN q3)])),(2,(.cells [(pN q2)])),(1,(.cells ((A6 q1).map .p))),(0,(.cells [(.p (vSl 2 A0 q0))]))]⟩ [0,1,2,3,4] (ids:=[(0,0),(1,1),(2,2),(3,3),(4,4)]) ⟨false,rfl,rfl,_,rfl⟩
     ·exact Bool.noConfusion ((rfl:true=true).symm.trans c16)
  ·obtain rfl:=A5 h
   exact B6 hS trivial (a:=.tup []) (objs:=[(.cells [(.p (vSl 2 A0 q0))]),(.cells ((A6 q1).map .p)),(.cells [(pN q2)]),(.cells [(pN q3)]),(.yld [] true)]) ⟨[], [(4,(.yld [] true)),(3,(.cells [(pN q3)])),(2,(.cells [(pN q2)])),(1,(.cells ((A6 q1).map .p))),(0,(.cells [(.p (vSl 2 A0 q0))]))]⟩ [0,1,2,3,4] (ids:=[(0,0),(1,1),(2,2),(3,3),(4,4)]) ⟨true,rfl,rfl,_,rfl⟩
 ·replace h:=itF c1 h
  refine A1 hS trivial (b:=q1.Mode == 2) (fun c17=>?_) (fun c17=>?_)
  ·replace h:=itT c17 h
   refine BD3 hS trivial h (fun x5 x6 L6=>⟨[(10,(pN x6)),(6,(.reg 7000 0)),(5,(.reg 6000 0)),(4,(.reg 3 0)),(3,(.reg 2 0)),(2,(.reg 1 0))], [(7000,(.cells [(.p (vSl 2 A0 x5))])),(6000,(.cells [(.yf 4)])),(4,(.yld (L6.map (fun (x:Int × (Sl Sound))=>[(pI .i64) x.1,(vSl 2 A0) x.2])) true)),(3,(.cells [(pN q3)])),(2,(.cells [(pN q2)])),(1,(.cells ((A6 q1).map .p))),(0,(.cells [(.p (vSl 2 A0 q0))]))]⟩) (ids:=[(0,0),(1,1),(2,2),(3,3),(4,4),(6000,6000),(7000,7000)]) (fun _ _ _ _ _ self2 x5 x6 L6 hb2 h=>?_)
   refine A1 hS trivial (b:=decide ((IntKind.wrap .i64 (x6+q2))<=(x5.n:Int))) (fun c28=>?_) (fun c28=>?_)
   ·replace h:=itT c28 h
    obtain ⟨y12,e13,h⟩:=A4 h
    refine A3 hS [] trivial (Bx7 hS hL e13) ?_
    refine A1 hS trivial (b:=!y12) (fun c29=>?_) (fun c29=>?_)
    ·replace h:=itT c29 h
     exact hb2 _ [(0,0),(1,1),(2,2),(3,3),(4,4),(6000,6000),(7000,7000)] _ x5 (IntKind.wrap .i64 (x6+1)) L6 trivial h
    ·replace h:=itF c29 h
     obtain ⟨y13,e14,h⟩:=A4 h
     refine A3 hS [] trivial (AJ0 hS hL e14) ?_
     obtain ⟨L9,rfl,hcL9⟩:=Bb9 h
     replace h:=hcL9
     refine Am8 hS trivial (ys:=(fun (x:Int × (Sl Sound))=>[(pI .i64) x.1,(vSl 2 A0) x.2]) (x6,y13)) (rest:=L9.map (fun (x:Int × (Sl Sound))=>[(pI .i64) x.1,(vSl 2 A0) x.2])) ?_ ?_
     ·refine A1 hS trivial (b:=false) (fun c30=>?_) (fun c30=>?_)
      ·exact Bool.noConfusion ((rfl:false=false).symm.trans c30)
      ·refine A1 hS trivial (b:=q2 == 0) (fun c31=>?_) (fun c31=>?_)
       ·replace h:=itT c31 h
        exact hb2 _ [(0,0),(1,1),(2,2),(3,3),(4,4),(6000,6000),(7000,7000)] _ y13 (IntKind.wrap .i64 ((IntKind.wrap .i64 (x6+q3))+1)) L9 trivial h
       ·replace h:=itF c31 h
        exact hb2 _ [(0,0),(1,1),(2,2),(3,3),(4,4),(6000,6000),(7000,7000)] _ y13 (IntKind.wrap .i64 (x6+q3)) L9 trivial h
     ·refine A1 hS trivial (b:=true) (fun c32=>?_) (fun c32=>?_)
      ·exact B6 hS trivial (a:=.tup []) (objs:=[(.cells [(.p (vSl 2 A0 q0))]),(.cells ((A6 q1).map .p)),(.cells [(pN q2)]),(.cells [(pN q3)]),(.yld [] false)]) ⟨[], [(4,(.yld [] false)),(3,(.cells [(pN q3)])),(2,(.cells [(pN q2)])),(1,(.cells ((A6 q1).map .p))),(0,(.cells [(.p (vSl 2 A0 q0))]))]⟩ [0,1,2,3,4] (ids:=[(0,0),(1,1),(2,2),(3,3),(4,4)]) ⟨false,rfl,rfl,_,rfl⟩
      ·exact Bool.noConfusion ((rfl:true=true).symm.trans c32)
   ·replace h:=itF c28 h
    obtain rfl:=A5 h
    exact B6 hS trivial (a:=.tup []) (objs:=[(.cells [(.p (vSl 2 A0 q0))]),(.cells ((A6 q1).map .p)),(.cells [(pN q2)]),(.cells [(pN q3)]),(.yld [] true)]) ⟨[], [(4,(.yld [] true)),(3,(.cells [(pN q3)])),(2,(.cells [(pN q2)])),(1,(.cells ((A6 q1).map .p))),(0,(.cells [(.p (vSl 2 A0 q0))]))]⟩ [0,1,2,3,4] (ids:=[(0,0),(1,1),(2,2),(3,3),(4,4)]) ⟨true,rfl,rfl,_,rfl⟩
  ·replace h:=itF c17 h
   refine A1 hS trivial (b:=q1.Mode == 3) (fun c33=>?_) (fun c33=>?_)
   ·replace h:=itT c33 h
    refine BD3 hS trivial h (fun x7 x8 L10=>⟨[(11,(pN x8)),(6,(.reg 7000 0)),(5,(.reg 6000 0)),(3,(.reg 2 0)),(2,(.reg 1 0))], [(7000,(.cells [(.p (vSl 2 A0 x7))])),(6000,(.cells [(.yf 4)])),(4,(.yld (L10.map (fun (x:Int × (Sl Sound))=>[(pI .i64) x.1,(vSl 2 A0) x.2])) true)),(3,(.cells [(pN q3)])),(2,(.cells [(pN q2)])),(1,(.cells ((A6 q1).map .p))),(0,(.cells [(.p (vSl 2 A0 q0))]))]⟩) (ids:=[(0,0),(1,1),(2,2),(3,3),(4,4),(6000,6000),(7000,7000)]) (fun _ _ _ _ _ self3 x7 x8 L10 hb3 h=>?_)
    refine A1 hS trivial (b:=decide (0<=x8)) (fun c42=>?_) (fun c42=>?_)
    ·replace h:=itT c42 h
     obtain ⟨y18,e19,h⟩:=A4 h
     refine A3 hS [] trivial (Bx7 hS hL e19) ?_
     refine A1 hS trivial (b:=!y18) (fun c43=>?_) (fun c43=>?_)
     ·replace h:=itT c43 h
      exact hb3 _ [(0,0),(1,1),(2,2),(3,3),(4,4),(6000,6000),(7000,7000)] _ x7 (IntKind.wrap .i64 (x8 - 1)) L10 trivial h
     ·replace h:=itF c43 h
      obtain ⟨y19,e20,h⟩:=A4 h
      refine A3 hS [] trivial (AJ0 hS hL e20) ?_
      obtain ⟨L13,rfl,hcL13⟩:=Bb9 h
      replace h:=hcL13
      refine Am8 hS trivial (ys:=(fun (x:Int × (Sl Sound))=>[(pI .i64) x.1,(vSl 2 A0) x.2]) (x8,y19)) (rest:=L13.map (fun (x:Int × (Sl Sound))=>[(pI .i64) x.1,(vSl 2 A0) x.2])) ?_ ?_
      ·refine A1 hS trivial (b:=false) (fun c44=>?_) (fun c44=>?_)
       ·exact Bool.noConfusion ((rfl:false=false).symm.trans c44)
       ·exact hb3 _ [(0,0),(1,1),(2,2),(3,3),(4,4),(6000,6000),(7000,7000)] _ y19 (IntKind.wrap .i64 (x8 - (if q2 < 1 then 1 else q2))) L13 trivial h
      ·refine A1 hS trivial (b:=true) (fun c45=>?_) (fun c45=>?_)
       ·exact B6 hS trivial (a:=.tup []) (objs:=[(.cells [(.p (vSl 2 A0 q0))]),(.cells ((A6 q1).map .p)),(.cells [(pN q2)]),(.cells [(pN q3)]),(.yld [] false)]) ⟨[], [(4,(.yld [] false)),(3,(.cells [(pN q3)])),(2,(.cells [(pN q2)])),(1,(.cells ((A6 q1).map .p))),(0,(.cells [(.p (vSl 2 A0 q0))]))]⟩ [0,1,2,3,4] (ids:=[(0,0),(1,1),(2,2),(3,3),(4,4)]) ⟨false,rfl,rfl,_,rfl⟩
       ·exact Bool.noConfusion ((rfl:true=true).symm.trans c45)
    ·replace h:=itF c42 h
     obtain rfl:=A5 h
     exact B6 hS trivial (a:=.tup []) (objs:=[(.cells [(.p (vSl 2 A0 q0))]),(.cells ((A6 q1).map .p)),(.cells [(pN q2)]),(.cells [(pN q3)]),(.yld [] true)]) ⟨[], [(4,(.yld [] true)),(3,(.cells [(pN q3)])),(2,(.cells [(pN q2)])),(1,(.cells ((A6 q1).map .p))),(0,(.cells [(.p (vSl 2 A0 q0))]))]⟩ [0,1,2,3,4] (ids:=[(0,0),(1,1),(2,2),(3,3),(4,4)]) ⟨true,rfl,rfl,_,rfl⟩
   ·replace h:=itF c33 h
    obtain rfl:=A5 h
    exact B6 hS trivial (a:=.tup []) (objs:=[(.cells [(.p (vSl 2 A0 q0))]),(.cells ((A6 q1).map .p)),(.cells [(pN q2)]),(.cells [(pN q3)]),(.yld [] true)]) ⟨[], [(4,(.yld [] true)),(3,(.cells [(pN q3)])),(2,(.cells [(pN q2)])),(1,(.cells ((A6 q1).map .p))),(0,(.cells [(.p (vSl 2 A0 q0))]))]⟩ [0,1,2,3,4] (ids:=[(0,0),(1,1),(2,2),(3,3),(4,4)]) ⟨true,rfl,rfl,_,rfl⟩
def AJ1 (N:Nat) (p_l:Law) (p_w:(Sl Sound)):Option ((Sl Sound) × Law × Int × Int):=
 some (p_w,p_l,(p_l.If.n:Int),(p_l.Out.n:Int))
theorem Cb2 {N:Nat} {p_l:Law} {p_w:(Sl Sound)}   {y:((Sl Sound) × Law × Int × Int)} (h:AJ1 N p_l p_w=some y) :
 FunO S Bw1 [(.p (.agg (A6 p_l))),(.p (vSl 2 A0 p_w))] [] (.clo Ar7 [] [.reg 0 0, .reg 1 0, .reg 2 0, .reg 3 0]) ([(.cells [(.p (vSl 2 A0 y.1))]),(.cells ((A6 y.2.1).map .p)),(.cells [(pN y.2.2.1)]),(.cells [(pN y.2.2.2)])]) []:=by
 unfold AJ1 at h
 refine A7 hS Ca6 ?_
 refine V2 hS trivial [(1, .l [3000]),(2, .n),(4, .l [3000]),(5, .n),(6, .a [6000]),(7, .a [7000]),(8, .a [6000]),(9, .a [7000])] ?_
 refine Q1 trivial ?_
 obtain rfl:=A5 h
 exact B6 hS trivial ⟨[(4,(.clo Ar7 [] [(.reg 4000 0),(.reg 3000 0),(.reg 6000 0),(.reg 7000 0)]))], [(7000,(.cells [(pN (p_l.Out.n:Int))])),(6000,(.cells [(pN (p_l.If.n:Int))])),(4000,(.cells [(.p (vSl 2 A0 p_w))])),(3000,(.cells ((A6 p_l).map .p)))]⟩ [4000,3000,6000,7000] (ids:=[(3000,3000),(4000,4000),(6000,6000),(7000,7000)]) ⟨rfl,rfl,rfl⟩
def Ak7 (N:Nat) (p_l:Law) (p_w:(Sl Sound)):Option ((Sl Int) × (Sl (Sl Sound)) × Int):=
 (As4 N p_l p_w).bind fun y1=>
 if (y1 != 0)=true then
  some ((Sl.nil:Sl Int),(Sl.nil:Sl (Sl Sound)),y1)
 else
  (AJ1 N p_l p_w).bind fun y2=>
  (Ae7 N y2.1 y2.2.1 y2.2.2.1 y2.2.2.2).bind fun L1=>
  K4 L1 (fun self1 (x1:Int × (Sl Sound)) (z1:(Sl Int) × (Sl (Sl Sound)))=>
   if (decide (32 < (x1.2.n:Int)))=true then
    some ((Sl.nil:Sl Int),(Sl.nil:Sl (Sl Sound)),11)
   else
    if ((z1.1.n+(Sl.of [x1.1]:Sl Int).n) * 8<=140737488355328/\z1.1.n+(Sl.of [x1.1]:Sl Int).n<=140737488355328) then
     if ((z1.2.n+(Sl.of [x1.2]:Sl (Sl Sound)).n) * 24<=140737488355328/\z1.2.n+(Sl.of [x1.2]:Sl (Sl Sound)).n<=140737488355328) then
      self1 ((z1.1.push x1.1),(z1.2.push x1.2))
     else none
    else none
   ) (fun (z1:(Sl Int) × (Sl (Sl Sound)))=>
    some (z1.1,z1.2,0)
   ) ((Sl.nil:Sl Int),(Sl.nil:Sl (Sl Sound)))
theorem BG0 {N:Nat} {p_l:Law} {p_w:(Sl Sound)}   {y:((Sl Int) × (Sl (Sl Sound)) × Int)} (h:Ak7 N p_l p_w=some y) :
 FunO S AX3 [(.p (.agg (A6 p_l))),(.p (vSl 2 A0 p_w))] [] (.tup [(.vec 0),(.vec 1),(pN y.2.2)]) ([(.vec H7 1 y.1.n (fun i=>(cI .i64) (y.1.g i)) true),(.vec E9 1 y.2.1.n (fun i=>(cL 2 A0) (y.2.1.g i)) true)]) []:=by
 unfold Ak7 at h
 refine A7 hS BE2 ?_
 refine Ac2 hS trivial 4 3000 (A6 p_l) ?_
 obtain ⟨y1,e1,h⟩:=A4 h
 refine A3 hS [] (by decide:(18:Nat)<=18) (BF8 hS hL e1) ?_
 refine A1 hS trivial (b:=y1 != 0) (fun c1=>?_) (fun c1=>?_)
 ·replace h:=itT c1 h
  obtain rfl:=A5 h
  exact B6 hS trivial ⟨[(6,(.reg 7000 0)),(5,(.reg 6000 0)),(4,(.reg 5000 0))], [(7000,(.cells [(pN y1)])),(6701,(.vec E9 1 (Sl.nil:Sl (Sl Sound)).n (fun i=>(cL 2 A0) ((Sl.nil:Sl (Sl Sound)).g i)) true)),(6000,(.cells [(.vec 6701)])),(5700,(.vec H7 1 (Sl.nil:Sl Int).n (fun i=>(cI .i64) ((Sl.nil:Sl Int).g i)) true)),(5000,(.cells [(.vec 5700)]))]⟩ [5700,6701] (ids:=[(5000,5000),(6000,6000),(7000,7000)]) ⟨rfl,rfl,rfl⟩
 ·replace h:=itF c1 h
  obtain ⟨y2,e2,h⟩:=A4 h
  refine A3 hS [] (by decide:(18:Nat)<=18) (Cb2 hS hL e2) ?_
  obtain ⟨L1,e3,h⟩:=A4 h
  refine AL6 hS trivial [21000,21001,21002,21003] [9,8,6,5,4] 901 (fun z1=>⟨[(9,(.reg 10000 0)),(8,(.reg 9000 0)),(6,(.reg 7000 0)),(5,(.reg 6000 0)),(4,(.reg 5000 0))], [(10500,(.vec E9 1 z1.2.n (fun i=>(cL 2 A0) (z1.2.g i)) false)),(10000,(.cells [(.vec 10500)])),(9500,(.vec H7 1 z1.1.n (fun i=>(cI .i64) (z1.1.g i)) false)),(9000,(.cells [(.vec 9500)])),(7000,(.cells [(pN 0)])),(6000,(.cells [(.p U7)])),(5000,(.cells [(.p U7)]))]⟩) (idl:=[(5000,5000),(6000,6000),(7000,7000),(9000,9000),(10000,10000)]) h (BF9 hS hL e3) (fun _=>by kernel_rfl) (fun _=>by kernel_rfl) (fun _=>by kernel_rfl) (fun _=>by kernel_rfl) (fun x1 _ self1 z1 hb1 h=>?_) (fun z1 h=>?_)
  ·refine AL7 hS trivial ?_
   refine A1 hS trivial (b:=decide (32 < (x1.2.n:Int))) (fun c8=>?_) (fun c8=>?_)
   ·replace h:=itT c8 h
    refine Bl8 hS trivial ⟨[(9,(.reg 10000 0)),(8,(.reg 9000 0)),(6,(.reg 7000 0)),(5,(.reg 6000 0)),(4,(.reg 5000 0))], [(10500,(.vec E9 1 z1.2.n (fun i=>(cL 2 A0) (z1.2.g i)) false)),(10000,(.cells [(.vec 10500)])),(9500,(.vec H7 1 z1.1.n (fun i=>(cI .i64) (z1.1.g i)) false)),(9000,(.cells [(.vec 9500)])),(7000,(.cells [(pN 11)])),(6000,(.cells [(.p U7)])),(5000,(.cells [(.p U7)]))]⟩ (ids:=[(901,901),(5000,5000),(6000,6000),(7000,7000),(9000,9000),(9500,9500),(10000,10000),(10500,10500)]) ?_
    obtain rfl:=A5 h
    exact B6 hS trivial ⟨[(6,(.reg 7000 0)),(5,(.reg 6000 0)),(4,(.reg 5000 0))], [(7000,(.cells [(pN 11)])),(6701,(.vec E9 1 (Sl.nil:Sl (Sl Sound)).n (fun i=>(cL 2 A0) ((Sl.nil:Sl (Sl Sound)).g i)) true)),(6000,(.cells [(.vec 6701)])),(5700,(.vec H7 1 (Sl.nil:Sl Int).n (fun i=>(cI .i64) ((Sl.nil:Sl Int).g i)) true)),(5000,(.cells [(.vec 5700)]))]⟩ [5700,6701] (ids:=[(5000,5000),(6000,6000),(7000,7000)]) ⟨rfl,rfl,rfl⟩
   ·replace h:=itF c8 h
    refine V2 hS trivial [(0, .l [9000]),(3, .a [30000,9500]),(4, .l [10000]),(7, .a [34000,10500]),(8, .a [9000]),(9, .a [10000])] ?_
    refine AE4 trivial (x:=(.sl true 1 1 (H6 [(pI .i64 0)] [(0,(cI .i64) x1.1)]))) ?_
    obtain ⟨c9,h⟩:=P0 h
    refine AE4 c9 (x:=(.sl true 1 1 (H6 [U7] [(0,(cL 2 A0) x1.2)]))) ?_
    obtain ⟨c10,h⟩:=P0 h
    refine Q1 c10 ?_
    exact hb1 _ [(901,901),(5000,5000),(6000,6000),(7000,7000),(9000,9000),(9500,30000),(10000,10000),(10500,34000)] _ ((z1.1.push x1.1),(z1.2.push x1.2)) trivial h (by kernel_rfl) (by kernel_rfl) (klR [(0, .fn (z1.2.n+1) (z1.2.push x1.2).n (An5 z1.2.n (fun i=>(cL 2 A0) (z1.2.g i)) (H6 [U7] [(0,(cL 2 A0) x1.2)])) (fun i=>(cL 2 A0) ((z1.2.push x1.2).g i))),(1, .fn (z1.1.n+1) (z1.1.push x1.1).n (An5 z1.1.n (fun i=>(cI .i64) (z1.1.g i)) (H6 [(pI .i64 0)] [(0,(cI .i64) x1.1)])) (fun i=>(cI .i64) ((z1.1.push x1.1).g i)))] (al1 ⟨rfl,(Cg2 (c:=(cL 2 A0)) (v:=z1.2) (x:=x1.2) (z:=[U7]) same rfl rfl)⟩ (al1 ⟨rfl,(Cg2 (c:=(cI .i64)) (v:=z1.1) (x:=x1.1) (z:=[(pI .i64 0)]) same rfl rfl)⟩ al0)))
  ·refine V2 hS trivial [(0, .l [9000]),(1, .l [10000]),(2, .a [5000]),(3, .a [6000]),(4, .a [7000])] ?_
   refine Q1 trivial ?_
   obtain rfl:=A5 h
   exact B6 hS trivial ⟨[(6,(.reg 7000 0)),(5,(.reg 6000 0)),(4,(.reg 5000 0))], [(10500,(.vec E9 1 z1.2.n (fun i=>(cL 2 A0) (z1.2.g i)) true)),(9500,(.vec H7 1 z1.1.n (fun i=>(cI .i64) (z1.1.g i)) true)),(7000,(.cells [(pN 0)])),(6000,(.cells [(.vec 10500)])),(5000,(.cells [(.vec 9500)]))]⟩ [9500,10500] (ids:=[(5000,5000),(6000,6000),(7000,7000),(9500,9500),(10500,10500)]) ⟨rfl,rfl,rfl⟩
def Aa4 (N:Nat) (p_l:Law) (p_w:(Sl Sound)):Option ((Sl Sound) × Int):=
 (Ak7 N p_l p_w).bind fun y1=>
 if (y1.2.2 != 0)=true then
  some ((Sl.nil:Sl Sound),y1.2.2)
 else
  if (decide (0 < (y1.2.1.n:Int)))=true then
   if (((0:Int)<=(IntKind.wrap .i64 ((y1.2.1.n:Int) - 1))/\(IntKind.wrap .i64 ((y1.2.1.n:Int) - 1)) < (y1.2.1.n:Int))/\(IntKind.wrap .i64 ((y1.2.1.n:Int) - 1)).toNat < y1.2.1.n) then
    some ((y1.2.1.g (IntKind.wrap .i64 ((y1.2.1.n:Int) - 1)).toNat),0)
   else none
  else
   (B2 N p_w).bind fun y2=>
   some (y2,0)
theorem BG1 {N:Nat} {p_l:Law} {p_w:(Sl Sound)}   {y:((Sl Sound) × Int)} (h:Aa4 N p_l p_w=some y) :
 FunO S AX1 [(.p (.agg (A6 p_l))),(.p (vSl 2 A0 p_w))] [] (.tup [(.p (vSl 2 A0 y.1)),(pN y.2)]) ([]) []:=by
 unfold Aa4 at h
 refine A7 hS BE0 ?_
 obtain ⟨y1,e1,h⟩:=A4 h
 refine A3 hS [] trivial (BG0 hS hL e1) ?_
 refine A1 hS trivial (b:=y1.2.2 != 0) (fun c1=>?_) (fun c1=>?_)
 ·replace h:=itT c1 h
  obtain rfl:=A5 h
  exact B6 hS trivial ⟨[(5,(pN y1.2.2)),(4,(.p (vSl 2 A0 (Sl.nil:Sl Sound))))], []⟩ [] (ids:=[]) ⟨rfl,rfl,rfl⟩
 ·replace h:=itF c1 h
  refine A1 hS trivial (b:=decide (0 < (y1.2.1.n:Int))) (fun c2=>?_) (fun c2=>?_)
  ·replace h:=itT c2 h
   obtain ⟨c3,h⟩:=P0 h
   obtain rfl:=A5 h
   exact B5 hS c3 [] ⟨rfl,rfl,rfl⟩
  ·replace h:=itF c2 h
   obtain ⟨y2,e2,h⟩:=A4 h
   refine A3 hS [] trivial (K9 hS hL e2) ?_
   obtain rfl:=A5 h
   exact B6 hS trivial ⟨[(5,(pN 0)),(4,(.p (vSl 2 A0 y2)))], []⟩ [] (ids:=[]) ⟨rfl,rfl,rfl⟩
end Go.AM
set_option linter.unusedVariables false
set_option linter.unusedSectionVars false
namespace Go.AM
open Go.Proofs
set_option maxRecDepth 10000
set_option maxHeartbeats 2000000
variable {S:Af9} (hS:I3 S Tryz.prog) (hL:BL4 S)
include hS hL
def O4 (N:Nat) (p_l:Law):Option Bool:=
 (Aa3 N p_l).bind fun y1=>
 some (y1 != 0)
theorem AR6 {N:Nat} {p_l:Law}   {y:Bool} (h:O4 N p_l=some y) :
 FunO S At7 [(.p (.agg (A6 p_l)))] [] (pB y) ([]) []:=by
 unfold O4 at h
 refine A7 hS AR3 ?_
 obtain ⟨y1,e1,h⟩:=A4 h
 refine A3 hS [] trivial (AZ2 hS hL e1) ?_
 obtain rfl:=A5 h
 exact B5 hS trivial [] ⟨rfl,rfl,rfl⟩
def E2 (N:Nat) (p_s:(Sl Law)) (p_f:Law->Option Bool):Option Int:=
 Aa9 N (fun self1 (x1:Int)=>
  if (decide (x1 < (p_s.n:Int)))=true then
   if ((0:Int)<=x1/\x1 < (p_s.n:Int)) then
    (p_f (p_s.g x1.toNat)).bind fun y3=>
    if y3=true then
     some x1
    else
     self1 (IntKind.wrap .i64 (x1+1))
   else none
  else
   some (-1)
  ) 0
theorem X5 {N:Nat} {p_s:(Sl Law)} {p_f:Law->Option Bool} {kp_f:Nat} (hp_f:∀ {a0:Law} {b:Bool},p_f a0=some b->FunO S kp_f [(.p (.agg (A6 a0)))] [] (pB b) [] []) {y:Int} (h:E2 N p_s p_f=some y) :
 FunO S K7 [(.p (vSl 18 A6 p_s)),(.clo kp_f [] [])] [] (pN y) ([]) []:=by
 unfold E2 at h
 refine A7 hS X0 ?_
 refine Ai0 hS trivial h (fun x1=>⟨[(8,(pN x1)),(7,(pN (p_s.n:Int))),(1,(.clo kp_f [] [])),(0,(.p (vSl 18 A6 p_s)))], []⟩) (ids:=[]) (fun _ _ _ _ _ self1 x1 hb1 h=>?_)
 refine A1 hS trivial (b:=decide (x1 < (p_s.n:Int))) (fun c7=>?_) (fun c7=>?_)
 ·replace h:=itT c7 h
  obtain ⟨c8,h⟩:=P0 h
  obtain ⟨y3,e3,h⟩:=A4 h
  refine A3 hS [] (And.intro c8 (by decide:(18:Nat)<=18)) (hp_f e3) ?_
  refine A1 hS trivial (b:=y3) (fun c9=>?_) (fun c9=>?_)
  ·replace h:=itT c9 h
   obtain rfl:=A5 h
   exact B5 hS trivial [] ⟨rfl,rfl,rfl⟩
  ·replace h:=itF c9 h
   exact hb1 _ [] _ (IntKind.wrap .i64 (x1+1)) trivial h
 ·replace h:=itF c7 h
  obtain rfl:=A5 h
  exact B5 hS trivial [] ⟨rfl,rfl,rfl⟩
def C5 (N:Nat) (p_s:(Sl Law)) (p_f:Law->Option Bool):Option Bool:=
 (E2 N p_s p_f).bind fun y1=>
 some (decide (0<=y1))
theorem S9 {N:Nat} {p_s:(Sl Law)} {p_f:Law->Option Bool} {kp_f:Nat} (hp_f:∀ {a0:Law} {b:Bool},p_f a0=some b->FunO S kp_f [(.p (.agg (A6 a0)))] [] (pB b) [] []) {y:Bool} (h:C5 N p_s p_f=some y) :
 FunO S I7 [(.p (vSl 18 A6 p_s)),(.clo kp_f [] [])] [] (pB y) ([]) []:=by
 unfold C5 at h
 refine A7 hS S6 ?_
 obtain ⟨y1,e1,h⟩:=A4 h
 refine A3 hS [] trivial (X5 hS hL (fun e=>hp_f e) e1) ?_
 obtain rfl:=A5 h
 exact B5 hS trivial [] ⟨rfl,rfl,rfl⟩
def N1 (N:Nat) (p_laws:(Sl Law)):Option Int:=
 if (decide (64 < (p_laws.n:Int)))=true then
  some 12
 else
  (C5 N p_laws (fun (u1:Law)=>O4 N u1)).bind fun y1=>
  if y1=true then
   some 17
  else
   some 0
theorem An3 {N:Nat} {p_laws:(Sl Law)}   {y:Int} (h:N1 N p_laws=some y) :
 FunO S AC6 [(.p (vSl 18 A6 p_laws))] [] (pN y) ([]) []:=by
 unfold N1 at h
 refine A7 hS Bc8 ?_
 refine A1 hS trivial (b:=decide (64 < (p_laws.n:Int))) (fun c1=>?_) (fun c1=>?_)
 ·replace h:=itT c1 h
  obtain rfl:=A5 h
  exact B5 hS trivial [] ⟨rfl,rfl,rfl⟩
 ·replace h:=itF c1 h
  obtain ⟨y1,e1,h⟩:=A4 h
  refine A3 hS [] trivial (S9 hS hL (fun e=>AR6 hS hL e) e1) ?_
  refine A1 hS trivial (b:=y1) (fun c2=>?_) (fun c2=>?_)
  ·replace h:=itT c2 h
   obtain rfl:=A5 h
   exact B5 hS trivial [] ⟨rfl,rfl,rfl⟩
  ·replace h:=itF c2 h
   obtain rfl:=A5 h
   exact B5 hS trivial [] ⟨rfl,rfl,rfl⟩
def R9 (N:Nat) (p_laws:(Sl Law)) (p_words:(Sl (Sl Sound))):Option Int:=
 (N1 N p_laws).bind fun y1=>
 if (y1 != 0)=true then
  some y1
 else
  if (decide (256 < (p_words.n:Int)))=true then
   some 12
  else
   Aa9 N (fun self1 (x1:Int)=>
    if (decide (x1 < (p_words.n:Int)))=true then
     if ((0:Int)<=x1/\x1 < (p_words.n:Int)) then
      (T8 N (p_words.g x1.toNat)).bind fun y4=>
      if (y4 != 0)=true then
       some y4
      else
       self1 (IntKind.wrap .i64 (x1+1))
     else none
    else
     some 0
    ) 0
theorem AD2 {N:Nat} {p_laws:(Sl Law)} {p_words:(Sl (Sl Sound))}   {y:Int} (h:R9 N p_laws p_words=some y) :
 FunO S AC5 [(.p (vSl 18 A6 p_laws)),(.p (vSl 1 (cL 2 A0) p_words))] [] (pN y) ([]) []:=by
 unfold R9 at h
 refine A7 hS Bc7 ?_
 obtain ⟨y1,e1,h⟩:=A4 h
 refine A3 hS [] trivial (An3 hS hL e1) ?_
 refine A1 hS trivial (b:=y1 != 0) (fun c1=>?_) (fun c1=>?_)
 ·replace h:=itT c1 h
  obtain rfl:=A5 h
  exact B5 hS trivial [] ⟨rfl,rfl,rfl⟩
 ·replace h:=itF c1 h
  refine A1 hS trivial (b:=decide (256 < (p_words.n:Int))) (fun c2=>?_) (fun c2=>?_)
  ·replace h:=itT c2 h
   obtain rfl:=A5 h
   exact B5 hS trivial [] ⟨rfl,rfl,rfl⟩
  ·replace h:=itF c2 h
   refine Ai0 hS trivial h (fun x1=>⟨[(19,(pN x1)),(18,(pN (p_words.n:Int))),(17,(.p (vSl 1 (cL 2 A0) p_words)))], []⟩) (ids:=[]) (fun _ _ _ _ _ self1 x1 hb1 h=>?_)
   refine A1 hS trivial (b:=decide (x1 < (p_words.n:Int))) (fun c9=>?_) (fun c9=>?_)
   ·replace h:=itT c9 h
    obtain ⟨c10,h⟩:=P0 h
    obtain ⟨y4,e4,h⟩:=A4 h
    refine A3 hS [] c10 (Ax2 hS hL e4) ?_
    refine A1 hS trivial (b:=y4 != 0) (fun c11=>?_) (fun c11=>?_)
    ·replace h:=itT c11 h
     obtain rfl:=A5 h
     exact B5 hS trivial [] ⟨rfl,rfl,rfl⟩
    ·replace h:=itF c11 h
     exact hb1 _ [] _ (IntKind.wrap .i64 (x1+1)) trivial h
   ·replace h:=itF c9 h
    obtain rfl:=A5 h
    exact B5 hS trivial [] ⟨rfl,rfl,rfl⟩
end Go.AM
set_option linter.unusedVariables false
set_option linter.unusedSectionVars false
namespace Go.AM
open Go.Proofs
set_option maxRecDepth 10000
set_option maxHeartbeats 2000000
variable {S:Af9} (hS:I3 S Tryz.prog) (hL:BL4 S)
include hS hL
def Cm3 (c:Int):Option PV:=if c=0 then none else some (.iface 160 (pI .i64 c))
def Q9 (N:Nat) (c:Int) (q0:(Sl Sound)) (q1:(Sl Law)):Option (List (Int × (Sl Sound))):=
 (B2 N q0).bind fun y1=>
 Ab4 (0,y1) (
  T0 N (fun self1 (x1:Sl Sound) (x2:Int)=>
   if (decide (x2 < (q1.n:Int)))=true then
    if ((0:Int)<=x2/\x2 < (q1.n:Int)) then
     (Aa4 N (q1.g x2.toNat) x1).bind fun y4=>
     if (y4.2 != 0)=true then
      if y4.2=c then some [] else none
     else
      Ab4 (IntKind.wrap .i64 (x2+1),y4.1) (
       self1 y4.1 (IntKind.wrap .i64 (x2+1))
       )
    else none
   else
    if c=0 then some [] else none
   ) y1 0
  )
theorem Au0 {N:Nat} {q0:(Sl Sound)} {q1:(Sl Law)} {c:Int} {L:List (Int × (Sl Sound))} (h:Q9 N c q0 q1=some L) :
 AW6 S O2 [] [.reg 0 0, .reg 1 0] [(.cells [(.p (vSl 2 A0 q0))]),(.cells [(.p (vSl 18 A6 q1))])] (L.map (fun (x:Int × (Sl Sound))=>[(pI .i64) x.1,(vSl 2 A0) x.2])) (Cm3 c):=by
 unfold Q9 at h
 refine BZ4 hS AR4 ?_
 obtain ⟨y1,e1,h⟩:=A4 h
 refine A3 hS [] trivial (K9 hS hL e1) ?_
 obtain ⟨L1,rfl,hcL1⟩:=Bb9 h
 replace h:=hcL1
 refine Am8 hS trivial (ys:=(fun (x:Int × (Sl Sound))=>[(pI .i64) x.1,(vSl 2 A0) x.2]) (0,y1)) (rest:=L1.map (fun (x:Int × (Sl Sound))=>[(pI .i64) x.1,(vSl 2 A0) x.2])) ?_ ?_
 ·refine A1 hS trivial (b:=false) (fun c1=>?_) (fun c1=>?_)
  ·exact Bool.noConfusion ((rfl:false=false).symm.trans c1)
  ·refine BD3 hS trivial h (fun x1 x2 L2=>⟨[(17,(pN x2)),(16,(pN (q1.n:Int))),(15,(.p (vSl 18 A6 q1))),(4,(.p (vSl 2 A0 x1))),(0,(.yf 2))], [(2,(.yld (L2.map (fun (x:Int × (Sl Sound))=>[(pI .i64) x.1,(vSl 2 A0) x.2])) true)),(1,(.cells [(.p (vSl 18 A6 q1))])),(0,(.cells [(.p (vSl 2 A0 q0))]))]⟩) (ids:=[(0,0),(1,1),(2,2)]) (fun _ _ _ _ _ self1 x1 x2 L2 hb1 h=>?_)
   refine A1 hS trivial (b:=decide (x2 < (q1.n:Int))) (fun c12=>?_) (fun c12=>?_)
   ·replace h:=itT c12 h
    obtain ⟨c13,h⟩:=P0 h
    obtain ⟨y4,e4,h⟩:=A4 h
    refine A3 hS [] (And.intro c13 (by decide:(18:Nat)<=18)) (BG1 hS hL e4) ?_
    refine A1 hS trivial (b:=y4.2 != 0) (fun c14=>?_) (fun c14=>?_)
    ·replace h:=itT c14 h
     obtain ⟨c0,h⟩:=P0 h
     obtain rfl:=A5 h
     have hc0:Cm3 c=some (.iface 160 (pI .i64 y4.2)):=by
      have:¬ y4.2=0:=by simpa using c14
      rw [<- c0];simp [Cm3,this]
     refine Cx0 hS trivial (x:=.iface 160 (pI .i64 y4.2)) ?_
     exact Cr0 hS trivial (x:=.iface 160 (pI .i64 y4.2)) (objs:=[(.cells [(.p (vSl 2 A0 q0))]),(.cells [(.p (vSl 18 A6 q1))]),(.yld [] true)]) [0,1,2] ⟨true,rfl,rfl,fun _=>by rw [hc0];rfl,fun e=>nomatch e⟩
    ·replace h:=itF c14 h
     obtain ⟨L5,rfl,hcL5⟩:=Bb9 h
     replace h:=hcL5
     refine Am8 hS trivial (ys:=(fun (x:Int × (Sl Sound))=>[(pI .i64) x.1,(vSl 2 A0) x.2]) (IntKind.wrap .i64 (x2+1),y4.1)) (rest:=L5.map (fun (x:Int × (Sl Sound))=>[(pI .i64) x.1,(vSl 2 A0) x.2])) ?_ ?_
     ·refine A1 hS trivial (b:=false) (fun c15=>?_) (fun c15=>?_)
      ·exact Bool.noConfusion ((rfl:false=false).symm.trans c15)
      ·exact hb1 _ [(0,0),(1,1),(2,2)] _ y4.1 (IntKind.wrap .i64 (x2+1)) L5 trivial h
     ·refine A1 hS trivial (b:=true) (fun c16=>?_) (fun c16=>?_)
      ·exact B6 hS trivial (a:=.tup []) (objs:=[(.cells [(.p (vSl 2 A0 q0))]),(.cells [(.p (vSl 18 A6 q1))]),(.yld [] false)]) ⟨[], [(2,(.yld [] false)),(1,(.cells [(.p (vSl 18 A6 q1))])),(0,(.cells [(.p (vSl 2 A0 q0))]))]⟩ [0,1,2] (ids:=[(0,0),(1,1),(2,2)]) ⟨false,rfl,rfl,fun e=>(nomatch e),fun _=>⟨_,rfl⟩⟩
      ·exact Bool.noConfusion ((rfl:true=true).symm.trans c16)
   ·replace h:=itF c12 h
    obtain ⟨c0,h⟩:=P0 h
    obtain rfl:=A5 h
    exact B6 hS trivial (a:=.tup []) (objs:=[(.cells [(.p (vSl 2 A0 q0))]),(.cells [(.p (vSl 18 A6 q1))]),(.yld [] true)]) ⟨[], [(2,(.yld [] true)),(1,(.cells [(.p (vSl 18 A6 q1))])),(0,(.cells [(.p (vSl 2 A0 q0))]))]⟩ [0,1,2] (ids:=[(0,0),(1,1),(2,2)]) ⟨true,rfl,rfl,fun _=>by subst c0;exact ⟨_,rfl⟩,fun e=>(nomatch e)⟩
 ·refine A1 hS trivial (b:=true) (fun c17=>?_) (fun c17=>?_)
  ·exact B6 hS trivial (a:=.tup []) (objs:=[(.cells [(.p (vSl 2 A0 q0))]),(.cells [(.p (vSl 18 A6 q1))]),(.yld [] false)]) ⟨[], [(2,(.yld [] false)),(1,(.cells [(.p (vSl 18 A6 q1))])),(0,(.cells [(.p (vSl 2 A0 q0))]))]⟩ [0,1,2] (ids:=[(0,0),(1,1),(2,2)]) ⟨false,rfl,rfl,fun e=>(nomatch e),fun _=>⟨_,rfl⟩⟩
  ·exact Bool.noConfusion ((rfl:true=true).symm.trans c17)
def Y9 (N:Nat) (p_laws:(Sl Law)) (p_w:(Sl Sound)):Option ((Sl Sound) × (Sl Law)):=
 some (p_w,p_laws)
theorem AD3 {N:Nat} {p_laws:(Sl Law)} {p_w:(Sl Sound)}   {y:((Sl Sound) × (Sl Law))} (h:Y9 N p_laws p_w=some y) :
 FunO S AC7 [(.p (vSl 18 A6 p_laws)),(.p (vSl 2 A0 p_w))] [] (.clo O2 [] [.reg 0 0, .reg 1 0]) ([(.cells [(.p (vSl 2 A0 y.1))]),(.cells [(.p (vSl 18 A6 y.2))])]) []:=by
 unfold Y9 at h
 refine A7 hS Bc9 ?_
 obtain rfl:=A5 h
 exact B6 hS trivial ⟨[(4,(.clo O2 [] [(.reg 4000 0),(.reg 3000 0)]))], [(4000,(.cells [(.p (vSl 2 A0 p_w))])),(3000,(.cells [(.p (vSl 18 A6 p_laws))]))]⟩ [4000,3000] (ids:=[(3000,3000),(4000,4000)]) ⟨rfl,rfl,rfl⟩
def C9 (N:Nat) (c:Int) (p_laws:(Sl Law)) (p_w:(Sl Sound)):Option (Sl Sound):=
 (Y9 N p_laws p_w).bind fun y1=>
 (Q9 N c y1.1 y1.2).bind fun L1=>
 K4 L1 (fun self1 (x1:Int × (Sl Sound)) (z1:Sl Sound)=>
  self1 x1.2
  ) (fun (z1:Sl Sound)=>
   some z1
  ) (Sl.nil:Sl Sound)
theorem AM3 {N:Nat} {p_laws:(Sl Law)} {p_w:(Sl Sound)}   {y:(Sl Sound)} (h:C9 N 0 p_laws p_w=some y) :
 FunO S G8 [(.p (vSl 18 A6 p_laws)),(.p (vSl 2 A0 p_w))] [] (.p (vSl 2 A0 y)) ([]) []:=by
 unfold C9 at h
 refine A7 hS At8 ?_
 obtain ⟨y1,e1,h⟩:=A4 h
 refine A3 hS [] trivial (AD3 hS hL e1) ?_
 obtain ⟨L1,e2,h⟩:=A4 h
 have hf:AW6 S O2 [] [.reg 0 0, .reg 1 0] [(.cells [(.p (vSl 2 A0 y1.1))]),(.cells [(.p (vSl 18 A6 y1.2))])] (L1.map (fun (x:Int × (Sl Sound))=>[(pI .i64) x.1,(vSl 2 A0) x.2])) none:=Au0 hS hL e2
 refine BL1 hS trivial [8000,8001] [4] 901 (fun z1=>⟨[(4,(.reg 5000 0))], [(5000,(.cells [(.p (vSl 2 A0 z1))]))]⟩) (idl:=[(5000,5000)]) h hf (fun _=>by kernel_rfl) (fun _=>by kernel_rfl) (fun _=>by kernel_rfl) (fun _=>by kernel_rfl) (fun x1 _ self1 z1 hb1 h=>?_) (fun z1 h=>?_)
 ·refine AL7 hS trivial ?_
  exact hb1 _ [(901,901),(5000,5000)] _ x1.2 trivial h
 ·obtain rfl:=A5 h
  exact B5 hS trivial [] ⟨rfl,rfl,rfl⟩
theorem AM4 {N:Nat} {c:Int} {p_laws:(Sl Law)} {p_w:(Sl Sound)}   {y:(Sl Sound)} (hc:c ≠ 0) (h:C9 N c p_laws p_w=some y) :
 S.F G8 [(.p (vSl 18 A6 p_laws)),(.p (vSl 2 A0 p_w))] [] fun res o k=>res=.panic (.iface 160 (pI .i64 c))/\o=[]/\k=[]:=by
 unfold C9 at h
 refine Cl6 hS At8 ?_
 obtain ⟨y1,e1,h⟩:=A4 h
 refine A3 hS [] trivial (AD3 hS hL e1) ?_
 obtain ⟨L1,e2,h⟩:=A4 h
 have hf:AW6 S O2 [] [.reg 0 0, .reg 1 0] [(.cells [(.p (vSl 2 A0 y1.1))]),(.cells [(.p (vSl 18 A6 y1.2))])] (L1.map (fun (x:Int × (Sl Sound))=>[(pI .i64) x.1,(vSl 2 A0) x.2])) (some (.iface 160 (pI .i64 c))):=by
  have:=Au0 hS hL e2
  simpa [Cm3,hc] using this
 refine BL1 hS trivial [8000,8001] [4] 901 (fun z1=>⟨[(4,(.reg 5000 0))], [(5000,(.cells [(.p (vSl 2 A0 z1))]))]⟩) (idl:=[(5000,5000)]) h hf (fun _=>by kernel_rfl) (fun _=>by kernel_rfl) (fun _=>by kernel_rfl) (fun _=>by kernel_rfl) (fun x1 _ self1 z1 hb1 h=>?_) (fun z1 h=>?_)
 ·refine AL7 hS trivial ?_
  exact hb1 _ [(901,901),(5000,5000)] _ x1.2 trivial h
 ·exact Cr0 hS trivial (x:=.iface 160 (pI .i64 c)) (objs:=[]) [] ⟨rfl,rfl,rfl⟩
def H8 (N:Nat) (p_laws:(Sl Law)) (p_w:(Sl Sound)):Option ((Sl Sound) × Bool):=
 match C9 N 0 p_laws p_w with
 | some y=>some (y,true)
 | none=>(C9 N 11 p_laws p_w).bind fun _=>some ((Sl.nil:Sl Sound),false)
theorem AR7 {N:Nat} {p_laws:(Sl Law)} {p_w:(Sl Sound)}   {y:((Sl Sound) × Bool)} (h:H8 N p_laws p_w=some y) :
 FunO S At6 [(.p (vSl 18 A6 p_laws)),(.p (vSl 2 A0 p_w))] [] (.tup [(.p (vSl 2 A0 y.1)),(pB y.2)]) ([]) []:=by
 unfold H8 at h
 refine A7 hS AR2 ?_
 rcases e:C9 N 0 p_laws p_w with _ | z
 ·rw [e] at h
  obtain ⟨z,e1,h⟩:=A4 h
  obtain rfl:=A5 h
  refine A3 hS [7000,3000,4000,5000] trivial (hL.attP (AM4 hS hL (by decide) e1)) ?_
  refine V2 hS trivial [(0, .l [5000]),(1, .l [7000]),(3, .a [5000])] ?_
  refine Q1 trivial ?_
  exact B6 hS trivial ⟨[(5,(pB false)),(4,(.reg 5000 0))], [(5000,(.cells [(.p (vSl 2 A0 Sl.nil))]))]⟩ [] (ids:=[(5000,5000)]) ⟨rfl,rfl,rfl⟩
 ·rw [e] at h
  obtain rfl:=A5 h
  refine A3 hS [7000,3000,4000,5000] trivial (hL.attR (AM3 hS hL e)) ?_
  refine V2 hS trivial [(0, .l [5000]),(1, .l [7000]),(3, .a [5000])] ?_
  refine Q1 trivial ?_
  exact B6 hS trivial ⟨[(5,(pB true)),(4,(.reg 5000 0))], [(5000,(.cells [(.p (vSl 2 A0 z))]))]⟩ [] (ids:=[(5000,5000)]) ⟨rfl,rfl,rfl⟩
end Go.AM
set_option linter.unusedVariables false
set_option linter.unusedSectionVars false
namespace Go.AM
open Go.Proofs
set_option maxRecDepth 10000
set_option maxHeartbeats 2000000
variable {S:Af9} (hS:I3 S Tryz.prog) (hL:BL4 S)
include hS hL
def E8 (N:Nat) (p_laws:(Sl Law)) (p_w:(Sl Sound)):Option ((Sl Sound) × Int):=
 (R9 N p_laws (Sl.of [p_w]:Sl (Sl Sound))).bind fun y1=>
 if (y1 != 0)=true then
  some ((Sl.nil:Sl Sound),y1)
 else
  (H8 N p_laws p_w).bind fun y2=>
  if (!y2.2)=true then
   some ((Sl.nil:Sl Sound),11)
  else
   some (y2.1,0)
theorem Ax9 {N:Nat} {p_laws:(Sl Law)} {p_w:(Sl Sound)}   {y:((Sl Sound) × Int)} (h:E8 N p_laws p_w=some y) :
 FunO S Aw4 [(.p (vSl 18 A6 p_laws)),(.p (vSl 2 A0 p_w))] [] (.tup [(.p (vSl 2 A0 y.1)),(pN y.2)]) ([]) []:=by
 unfold E8 at h
 refine A7 hS AW8 ?_
 refine T3 hS (rfl:true=true) ⟨[(11,(.vec 12000)),(9,(.p (vSl 18 A6 p_laws))),(1,(.p (vSl 2 A0 p_w))),(0,(.p (vSl 18 A6 p_laws)))], [(12000,(.vec E9 1 (Sl.of [p_w]:Sl (Sl Sound)).n (fun i=>(cL 2 A0) ((Sl.of [p_w]:Sl (Sl Sound)).g i)) false))]⟩ (ids:=[(12000,12000)]) ?_ (hle:=(klR [(3, .fn 1 (Sl.of [p_w]:Sl (Sl Sound)).n (H6 [U7] [(0,(cL 2 A0) p_w)]) (fun i=>(cL 2 A0) ((Sl.of [p_w]:Sl (Sl Sound)).g i)))] (al1 ⟨rfl,(fun i hi=>match i,hi with | 0,_=>rfl | _+1,hi=>absurd hi (by omega))⟩ al0)))
 obtain ⟨y1,e1,h⟩:=A4 h
 refine A3 hS [] trivial (AD2 hS hL e1) ?_
 refine A1 hS trivial (b:=y1 != 0) (fun c1=>?_) (fun c1=>?_)
 ·replace h:=itT c1 h
  obtain rfl:=A5 h
  exact B6 hS trivial ⟨[(5,(pN y1)),(4,(.p (vSl 2 A0 (Sl.nil:Sl Sound))))], []⟩ [] (ids:=[]) ⟨rfl,rfl,rfl⟩
 ·replace h:=itF c1 h
  obtain ⟨y2,e2,h⟩:=A4 h
  refine A3 hS [] trivial (AR7 hS hL e2) ?_
  refine A1 hS trivial (b:=!y2.2) (fun c2=>?_) (fun c2=>?_)
  ·replace h:=itT c2 h
   obtain rfl:=A5 h
   exact B6 hS trivial ⟨[(5,(pN 11)),(4,(.p (vSl 2 A0 (Sl.nil:Sl Sound))))], []⟩ [] (ids:=[]) ⟨rfl,rfl,rfl⟩
  ·replace h:=itF c2 h
   obtain rfl:=A5 h
   exact B5 hS trivial [] ⟨rfl,rfl,rfl⟩
def Ad0 (N:Nat) (p_laws:(Sl Law)) (p_a:Int) (p_b:Int) (p_w:(Sl Sound)):Option ((Sl Sound) × Int):=
 (R9 N p_laws (Sl.of [p_w]:Sl (Sl Sound))).bind fun y1=>
 if (y1 != 0)=true then
  some ((Sl.nil:Sl Sound),y1)
 else
  if (((decide (p_a < 0)) || (decide (p_b < p_a))) || (decide ((p_laws.n:Int) < p_b)))=true then
   some ((Sl.nil:Sl Sound),3)
  else
   if ((0:Int)<=p_a/\p_a<=p_b/\p_b<=(p_laws.n:Int)) then
    (E8 N (p_laws.sub p_a.toNat p_b.toNat) p_w).bind fun y2=>
    some (y2.1,y2.2)
   else none
theorem Bo3 {N:Nat} {p_laws:(Sl Law)} {p_a:Int} {p_b:Int} {p_w:(Sl Sound)}   {y:((Sl Sound) × Int)} (h:Ad0 N p_laws p_a p_b p_w=some y) :
 FunO S AH4 [(.p (vSl 18 A6 p_laws)),(pN p_a),(pN p_b),(.p (vSl 2 A0 p_w))] [] (.tup [(.p (vSl 2 A0 y.1)),(pN y.2)]) ([]) []:=by
 unfold Ad0 at h
 refine A7 hS Bm0 ?_
 refine T3 hS (rfl:true=true) ⟨[(13,(.vec 14000)),(11,(.p (vSl 18 A6 p_laws))),(3,(.p (vSl 2 A0 p_w))),(2,(pN p_b)),(1,(pN p_a)),(0,(.p (vSl 18 A6 p_laws)))], [(14000,(.vec E9 1 (Sl.of [p_w]:Sl (Sl Sound)).n (fun i=>(cL 2 A0) ((Sl.of [p_w]:Sl (Sl Sound)).g i)) false))]⟩ (ids:=[(14000,14000)]) ?_ (hle:=(klR [(5, .fn 1 (Sl.of [p_w]:Sl (Sl Sound)).n (H6 [U7] [(0,(cL 2 A0) p_w)]) (fun i=>(cL 2 A0) ((Sl.of [p_w]:Sl (Sl Sound)).g i)))] (al1 ⟨rfl,(fun i hi=>match i,hi with | 0,_=>rfl | _+1,hi=>absurd hi (by omega))⟩ al0)))
 obtain ⟨y1,e1,h⟩:=A4 h
 refine A3 hS [] trivial (AD2 hS hL e1) ?_
 refine A1 hS trivial (b:=y1 != 0) (fun c1=>?_) (fun c1=>?_)
 ·replace h:=itT c1 h
  obtain rfl:=A5 h
  exact B6 hS trivial ⟨[(9,(pN y1)),(8,(.p (vSl 2 A0 (Sl.nil:Sl Sound))))], []⟩ [] (ids:=[]) ⟨rfl,rfl,rfl⟩
 ·replace h:=itF c1 h
  obtain ⟨t1,ht1⟩:∃ x:Bool,x=(((decide (p_a < 0)) || (decide (p_b < p_a))) || (decide ((p_laws.n:Int) < p_b))):=⟨_,rfl⟩
  refine Ai3 hS trivial (B4 hS) 0 ⟨[(30,(pB t1)),(3,(.p (vSl 2 A0 p_w))),(2,(pN p_b)),(1,(pN p_a)),(0,(.p (vSl 18 A6 p_laws)))], []⟩ (fun M1 hb1=>?_) ?_
  ·refine A9 hS trivial (b:=decide (p_a < 0)) (fun c4=>?_) (fun c4=>?_)
   ·exact hb1 _ [] _ trivial (by kernel_rfl) (by kernel_rfl) (klR [(0, .eq (.bb true) (.bb t1))] (al1 (by simp only [ht1,c4,Leaf.ok,pm,if_true,if_false]) al0))
   ·refine A9 hS trivial (b:=decide (p_b < p_a)) (fun c5=>?_) (fun c5=>?_)
    ·exact hb1 _ [] _ trivial (by kernel_rfl) (by kernel_rfl) (klR [(0, .eq (.bb true) (.bb t1))] (al1 (by simp only [ht1,c4,c5,Leaf.ok,pm,if_true,if_false]) al0))
    ·exact hb1 _ [] _ trivial (by kernel_rfl) (by kernel_rfl) (klR [(0, .eq (.bb (decide ((p_laws.n:Int) < p_b))) (.bb t1))] (al1 (by simp only [ht1,c4,c5,Leaf.ok,pm,if_true,if_false]) al0))
  ·subst ht1
   refine A1 hS trivial (b:=(((decide (p_a < 0)) || (decide (p_b < p_a))) || (decide ((p_laws.n:Int) < p_b)))) (fun c6=>?_) (fun c6=>?_)
   ·replace h:=itT c6 h
    obtain rfl:=A5 h
    exact B6 hS trivial ⟨[(9,(pN 3)),(8,(.p (vSl 2 A0 (Sl.nil:Sl Sound))))], []⟩ [] (ids:=[]) ⟨rfl,rfl,rfl⟩
   ·replace h:=itF c6 h
    obtain ⟨c7,h⟩:=P0 h
    obtain ⟨y2,e2,h⟩:=A4 h
    refine A3 hS [] c7 (Ax9 hS hL e2) ?_
    obtain rfl:=A5 h
    exact B5 hS trivial [] ⟨rfl,rfl,rfl⟩
def H4 (N:Nat) (p_laws:(Sl Law)) (p_l:(Sl (Sl Sound))):Option Int:=
 (N1 N p_laws).bind fun y1=>
 if (y1 != 0)=true then
  some y1
 else
  Aa9 N (fun self1 (x1:Int)=>
   if (decide (x1 < (p_l.n:Int)))=true then
    if ((0:Int)<=x1/\x1 < (p_l.n:Int)) then
     (T8 N (p_l.g x1.toNat)).bind fun y4=>
     if (y4 != 0)=true then
      some y4
     else
      self1 (IntKind.wrap .i64 (x1+1))
    else none
   else
    some 0
   ) 0
theorem Ad1 {N:Nat} {p_laws:(Sl Law)} {p_l:(Sl (Sl Sound))}   {y:Int} (h:H4 N p_laws p_l=some y) :
 FunO S AH6 [(.p (vSl 18 A6 p_laws)),(.p (vSl 1 (cL 2 A0) p_l))] [] (pN y) ([]) []:=by
 unfold H4 at h
 refine A7 hS Bm3 ?_
 obtain ⟨y1,e1,h⟩:=A4 h
 refine A3 hS [] trivial (An3 hS hL e1) ?_
 refine A1 hS trivial (b:=y1 != 0) (fun c1=>?_) (fun c1=>?_)
 ·replace h:=itT c1 h
  obtain rfl:=A5 h
  exact B5 hS trivial [] ⟨rfl,rfl,rfl⟩
 ·replace h:=itF c1 h
  refine Ai0 hS trivial h (fun x1=>⟨[(16,(pN x1)),(15,(pN (p_l.n:Int))),(14,(.p (vSl 1 (cL 2 A0) p_l)))], []⟩) (ids:=[]) (fun _ _ _ _ _ self1 x1 hb1 h=>?_)
  refine A1 hS trivial (b:=decide (x1 < (p_l.n:Int))) (fun c8=>?_) (fun c8=>?_)
  ·replace h:=itT c8 h
   obtain ⟨c9,h⟩:=P0 h
   obtain ⟨y4,e4,h⟩:=A4 h
   refine A3 hS [] c9 (Ax2 hS hL e4) ?_
   refine A1 hS trivial (b:=y4 != 0) (fun c10=>?_) (fun c10=>?_)
   ·replace h:=itT c10 h
    obtain rfl:=A5 h
    exact B5 hS trivial [] ⟨rfl,rfl,rfl⟩
   ·replace h:=itF c10 h
    exact hb1 _ [] _ (IntKind.wrap .i64 (x1+1)) trivial h
  ·replace h:=itF c8 h
   obtain rfl:=A5 h
   exact B5 hS trivial [] ⟨rfl,rfl,rfl⟩
def F5 (N:Nat) (p_laws:(Sl Law)) (p_from:(Sl Sound)) (p_to:(Sl Sound)):Option Bool:=
 (E8 N p_laws p_from).bind fun y1=>
 lt (fun (z1:Bool)=>
  some z1
  ) fun k1=>
  if (y1.2 == 0)=true then
   (T9 N y1.1 p_to).bind fun y3=>
   k1 y3
  else
   k1 false
theorem Ai5 {N:Nat} {p_laws:(Sl Law)} {p_from:(Sl Sound)} {p_to:(Sl Sound)}   {y:Bool} (h:F5 N p_laws p_from p_to=some y) :
 FunO S AH7 [(.p (vSl 18 A6 p_laws)),(.p (vSl 2 A0 p_from)),(.p (vSl 2 A0 p_to))] [] (pB y) ([]) []:=by
 unfold F5 at h
 refine A7 hS Bm4 ?_
 obtain ⟨y1,e1,h⟩:=A4 h
 refine A3 hS [] trivial (Ax9 hS hL e1) ?_
 refine Bb4 hS trivial (B4 hS) h 0 (fun z1=>⟨[(6,(pB z1))], []⟩) (fun M1 k1 hb1 h=>?_) (fun z1 h=>?_)
 ·refine A9 hS trivial (b:=y1.2 == 0) (fun c3=>?_) (fun c3=>?_)
  ·replace h:=itT c3 h
   obtain ⟨y3,e3,h⟩:=A4 h
   refine A3 hS [] trivial (Ax3 hS hL e3) ?_
   exact hb1 _ [] _ y3 trivial h
  ·replace h:=itF c3 h
   exact hb1 _ [] _ false trivial h
 ·obtain rfl:=A5 h
  exact B5 hS trivial [] ⟨rfl,rfl,rfl⟩
def D4 (N:Nat) (q0:(Sl Law)) (q1:(Sl O1)):Option (List (Int)):=
 Aa9 N (fun self3 (x2:Int)=>
  if (decide (x2 < (IntKind.wrap .i64 ((q0.n:Int)+1))))=true then
   Aa9 N (fun self4 (x4:Int)=>
    if (decide (x4 < (q1.n:Int)))=true then
     if ((0:Int)<=x4/\x4 < (q1.n:Int)) then
      if ((0:Int)<=x2/\x2<=(q0.n:Int)) then
       (F5 N (q0.drop x2.toNat) (q1.g x4.toNat).From (q1.g x4.toNat).To).bind fun y9=>
       if (!y9)=true then
        self3 (IntKind.wrap .i64 (x2+1))
       else
        self4 (IntKind.wrap .i64 (x4+1))
      else none
     else none
    else
     Ab4 x2 (
      self3 (IntKind.wrap .i64 (x2+1))
      )
    ) 0
  else
   some []
  ) 0
theorem Z6 {N:Nat} {q0:(Sl Law)} {q1:(Sl O1)} {L:List (Int)} (h:D4 N q0 q1=some L) :
 Am7 S Z2 [] [.reg 0 0, .reg 1 0] [(.cells [(.p (vSl 18 A6 q0))]),(.cells [(.p (vSl 2 D5 q1))])] (L.map (fun (x:Int)=>[(pI .i64) x])):=by
 unfold D4 at h
 refine Az5 hS Z3 ?_
 refine Av9 hS trivial h (fun x2 L1=>⟨[(10,(pN x2)),(9,(pN (IntKind.wrap .i64 ((q0.n:Int)+1)))),(2,(.reg 1 0)),(1,(.reg 0 0)),(0,(.yf 2))], [(2,(.yld (L1.map (fun (x:Int)=>[(pI .i64) x])) true)),(1,(.cells [(.p (vSl 2 D5 q1))])),(0,(.cells [(.p (vSl 18 A6 q0))]))]⟩) (ids:=[(0,0),(1,1),(2,2)]) (fun _ _ _ _ _ self3 x2 L1 hb3 h=>?_)
 refine A1 hS trivial (b:=decide (x2 < (IntKind.wrap .i64 ((q0.n:Int)+1)))) (fun c31=>?_) (fun c31=>?_)
 ·replace h:=itT c31 h
  refine Av9 hS trivial h (fun x4 L6=>⟨[(15,(pN x4)),(14,(pN (q1.n:Int))),(13,(.p (vSl 2 D5 q1))),(10,(pN x2)),(9,(pN (IntKind.wrap .i64 ((q0.n:Int)+1)))),(4,(pN x2)),(2,(.reg 1 0)),(1,(.reg 0 0)),(0,(.yf 2))], [(2,(.yld (L6.map (fun (x:Int)=>[(pI .i64) x])) true)),(1,(.cells [(.p (vSl 2 D5 q1))])),(0,(.cells [(.p (vSl 18 A6 q0))]))]⟩) (ids:=[(0,0),(1,1),(2,2)]) (fun _ _ _ _ _ self4 x4 L6 hb4 h=>?_)
  refine A1 hS trivial (b:=decide (x4 < (q1.n:Int))) (fun c40=>?_) (fun c40=>?_)
  ·replace h:=itT c40 h
   obtain ⟨c41,h⟩:=P0 h
   refine Cl0 hS (And.intro c41 (by decide:(2:Nat)<=2)) 7000 [(vSl 2 A0 (q1.g x4.toNat).From),(vSl 2 A0 (q1.g x4.toNat).To)] ?_
   refine Q4 hS trivial [4,6,7] ?_
   obtain ⟨c42,h⟩:=P0 h
   obtain ⟨y9,e9,h⟩:=A4 h
   refine At2 c42 (Ai5 hS hL e9) ?_
   refine Q1 trivial ?_
   refine A1 hS trivial (b:=!y9) (fun c43=>?_) (fun c43=>?_)
   ·replace h:=itT c43 h
    exact hb3 _ [(0,0),(1,1),(2,2)] _ (IntKind.wrap .i64 (x2+1)) L6 trivial h
   ·replace h:=itF c43 h
    exact hb4 _ [(0,0),(1,1),(2,2)] _ (IntKind.wrap .i64 (x4+1)) L6 trivial h
  ·replace h:=itF c40 h
   obtain ⟨L7,rfl,hcL7⟩:=Bb9 h
   replace h:=hcL7
   refine Am8 hS trivial (ys:=(fun (x:Int)=>[(pI .i64) x]) x2) (rest:=L7.map (fun (x:Int)=>[(pI .i64) x])) ?_ ?_
   ·refine A1 hS trivial (b:=false) (fun c44=>?_) (fun c44=>?_)
    ·exact Bool.noConfusion ((rfl:false=false).symm.trans c44)
    ·exact hb3 _ [(0,0),(1,1),(2,2)] _ (IntKind.wrap .i64 (x2+1)) L7 trivial h
   ·refine A1 hS trivial (b:=true) (fun c45=>?_) (fun c45=>?_)
    ·exact B6 hS trivial (a:=.tup []) (objs:=[(.cells [(.p (vSl 18 A6 q0))]),(.cells [(.p (vSl 2 D5 q1))]),(.yld [] false)]) ⟨[], [(2,(.yld [] false)),(1,(.cells [(.p (vSl 2 D5 q1))])),(0,(.cells [(.p (vSl 18 A6 q0))]))]⟩ [0,1,2] (ids:=[(0,0),(1,1),(2,2)]) ⟨false,rfl,rfl,_,rfl⟩
    ·exact Bool.noConfusion ((rfl:true=true).symm.trans c45)
 ·replace h:=itF c31 h
  obtain rfl:=A5 h
  exact B6 hS trivial (a:=.tup []) (objs:=[(.cells [(.p (vSl 18 A6 q0))]),(.cells [(.p (vSl 2 D5 q1))]),(.yld [] true)]) ⟨[], [(2,(.yld [] true)),(1,(.cells [(.p (vSl 2 D5 q1))])),(0,(.cells [(.p (vSl 18 A6 q0))]))]⟩ [0,1,2] (ids:=[(0,0),(1,1),(2,2)]) ⟨true,rfl,rfl,_,rfl⟩
def G4 (N:Nat) (p_laws:(Sl Law)) (p_pairs:(Sl O1)):Option ((Sl Law) × (Sl O1)):=
 some (p_laws,p_pairs)
theorem Af5 {N:Nat} {p_laws:(Sl Law)} {p_pairs:(Sl O1)}   {y:((Sl Law) × (Sl O1))} (h:G4 N p_laws p_pairs=some y) :
 FunO S AC3 [(.p (vSl 18 A6 p_laws)),(.p (vSl 2 D5 p_pairs))] [] (.clo Z2 [] [.reg 0 0, .reg 1 0]) ([(.cells [(.p (vSl 18 A6 y.1))]),(.cells [(.p (vSl 2 D5 y.2))])]) []:=by
 unfold G4 at h
 refine A7 hS Bc5 ?_
 obtain rfl:=A5 h
 exact B6 hS trivial ⟨[(4,(.clo Z2 [] [(.reg 3000 0),(.reg 4000 0)]))], [(4000,(.cells [(.p (vSl 2 D5 p_pairs))])),(3000,(.cells [(.p (vSl 18 A6 p_laws))]))]⟩ [3000,4000] (ids:=[(3000,3000),(4000,4000)]) ⟨rfl,rfl,rfl⟩
def B8 (N:Nat) (p_slices:(Sl (Sl Law))):Option (Sl Law):=
 T0 N (fun self1 (x1:Int) (x2:Int)=>
  if (decide (x2 < (p_slices.n:Int)))=true then
   if ((0:Int)<=x2/\x2 < (p_slices.n:Int)) then
    if (decide ((IntKind.wrap .i64 (x1+((p_slices.g x2.toNat).n:Int))) < 0))=true then
     none
    else
     self1 (IntKind.wrap .i64 (x1+((p_slices.g x2.toNat).n:Int))) (IntKind.wrap .i64 (x2+1))
   else none
  else
   (I0 N x1).bind fun y1=>
   T0 N (fun self2 (x3:Sl Law) (x4:Int)=>
    if (decide (x4 < (p_slices.n:Int)))=true then
     if (((0:Int)<=x4/\x4 < (p_slices.n:Int))/\((x3.n+(p_slices.g x4.toNat).n) * 200<=140737488355328/\x3.n+(p_slices.g x4.toNat).n<=140737488355328)) then
      self2 (x3.app (p_slices.g x4.toNat)) (IntKind.wrap .i64 (x4+1))
     else none
    else
     some x3
    ) y1 0
  ) 0 0
theorem Ab6 {N:Nat} {p_slices:(Sl (Sl Law))}   {y:(Sl Law)} (h:B8 N p_slices=some y) :
 FunO S O0 [(.p (vSl 1 (cL 18 A6) p_slices))] [] (.p (vSl 18 A6 y)) ([]) []:=by
 unfold B8 at h
 refine A7 hS Ab5 ?_
 refine Ab0 hS trivial h (fun x1 x2=>⟨[(11,(pN x2)),(10,(pN (p_slices.n:Int))),(9,(.p (vSl 1 (cL 18 A6) p_slices))),(3,(pN x1)),(0,(.p (vSl 1 (cL 18 A6) p_slices)))], []⟩) (ids:=[]) (fun _ _ _ _ _ self1 x1 x2 hb1 h=>?_)
 refine A1 hS trivial (b:=decide (x2 < (p_slices.n:Int))) (fun c7=>?_) (fun c7=>?_)
 ·replace h:=itT c7 h
  obtain ⟨c8,h⟩:=P0 h
  refine A1 hS c8 (b:=decide ((IntKind.wrap .i64 (x1+((p_slices.g x2.toNat).n:Int))) < 0)) (fun c9=>?_) (fun c9=>?_)
  ·replace h:=itT c9 h
   cases h
  ·replace h:=itF c9 h
   exact hb1 _ [] _ (IntKind.wrap .i64 (x1+((p_slices.g x2.toNat).n:Int))) (IntKind.wrap .i64 (x2+1)) trivial h
 ·replace h:=itF c7 h
  obtain ⟨y1,e1,h⟩:=A4 h
  refine A3 hS [] trivial (Ad6 hS hL e1) ?_
  refine Ab0 hS trivial h (fun x3 x4=>⟨[(27,(pN x4)),(26,(pN (p_slices.n:Int))),(25,(.p (vSl 1 (cL 18 A6) p_slices))),(6,(.vec 7500))], [(7500,(.vec N7 18 x3.n (fun i=>A6 (x3.g i)) false))]⟩) (ids:=[(7500,25000)]) (fun _ _ _ _ _ self2 x3 x4 hb2 h=>?_)
  refine A1 hS trivial (b:=decide (x4 < (p_slices.n:Int))) (fun c12=>?_) (fun c12=>?_)
  ·replace h:=itT c12 h
   obtain ⟨c13,h⟩:=P0 h
   exact hb2 _ [(7500,34000)] _ (x3.app (p_slices.g x4.toNat)) (IntKind.wrap .i64 (x4+1)) c13 h (by kernel_rfl) (by kernel_rfl) (klR [(3, .fn (x3.n+(p_slices.g x4.toNat).n) (x3.app (p_slices.g x4.toNat)).n (An5 x3.n (fun i=>A6 (x3.g i)) (fun i=>A6 ((p_slices.g x4.toNat).g i))) (fun i=>A6 ((x3.app (p_slices.g x4.toNat)).g i)))] (al1 ⟨rfl,(CA7 (c:=A6) (v:=x3) (w:=(p_slices.g x4.toNat)) same rfl same rfl)⟩ al0))
  ·replace h:=itF c12 h
   obtain rfl:=A5 h
   exact B6 hS trivial ⟨[(2,(.p (vSl 18 A6 x3)))], []⟩ [] (ids:=[]) ⟨rfl,rfl,rfl⟩
def R4 (N:Nat) (q0:(Sl Law)) (q1:(Sl Sound)) (q2:(Sl Sound)):Option (List (Int)):=
 (F5 N q0 q1 q2).bind fun y1=>
 if y1=true then
  some []
 else
  Aa9 N (fun self1 (x1:Int)=>
   if (decide (x1 < (q0.n:Int)))=true then
    if (((0:Int)<=x1/\x1<=(q0.n:Int))/\((0:Int)<=(IntKind.wrap .i64 (x1+1))/\(IntKind.wrap .i64 (x1+1))<=(q0.n:Int))) then
     (B8 N (Sl.of [(q0.take x1.toNat),(q0.drop (IntKind.wrap .i64 (x1+1)).toNat)]:Sl (Sl Law))).bind fun y6=>
     (F5 N y6 q1 q2).bind fun y7=>
     if y7=true then
      Ab4 x1 (
       self1 (IntKind.wrap .i64 (x1+1))
       )
     else
      self1 (IntKind.wrap .i64 (x1+1))
    else none
   else
    some []
   ) 0
theorem AR8 {N:Nat} {q0:(Sl Law)} {q1:(Sl Sound)} {q2:(Sl Sound)} {L:List (Int)} (h:R4 N q0 q1 q2=some L) :
 Am7 S Z4 [] [.reg 0 0, .reg 1 0, .reg 2 0] [(.cells [(.p (vSl 18 A6 q0))]),(.cells [(.p (vSl 2 A0 q1))]),(.cells [(.p (vSl 2 A0 q2))])] (L.map (fun (x:Int)=>[(pI .i64) x])):=by
 unfold R4 at h
 refine Az5 hS At5 ?_
 obtain ⟨y1,e1,h⟩:=A4 h
 refine A3 hS [] trivial (Ai5 hS hL e1) ?_
 refine A1 hS trivial (b:=y1) (fun c1=>?_) (fun c1=>?_)
 ·replace h:=itT c1 h
  obtain rfl:=A5 h
  exact B6 hS trivial (a:=.tup []) (objs:=[(.cells [(.p (vSl 18 A6 q0))]),(.cells [(.p (vSl 2 A0 q1))]),(.cells [(.p (vSl 2 A0 q2))]),(.yld [] true)]) ⟨[], [(3,(.yld [] true)),(2,(.cells [(.p (vSl 2 A0 q2))])),(1,(.cells [(.p (vSl 2 A0 q1))])),(0,(.cells [(.p (vSl 18 A6 q0))]))]⟩ [0,1,2,3] (ids:=[(0,0),(1,1),(2,2),(3,3)]) ⟨true,rfl,rfl,_,rfl⟩
 ·replace h:=itF c1 h
  refine Av9 hS trivial h (fun x1 L1=>⟨[(12,(pN x1)),(11,(pN (q0.n:Int))),(3,(.reg 2 0)),(2,(.reg 1 0)),(1,(.reg 0 0)),(0,(.yf 3))], [(3,(.yld (L1.map (fun (x:Int)=>[(pI .i64) x])) true)),(2,(.cells [(.p (vSl 2 A0 q2))])),(1,(.cells [(.p (vSl 2 A0 q1))])),(0,(.cells [(.p (vSl 18 A6 q0))]))]⟩) (ids:=[(0,0),(1,1),(2,2),(3,3)]) (fun _ _ _ _ _ self1 x1 L1 hb1 h=>?_)
  refine A1 hS trivial (b:=decide (x1 < (q0.n:Int))) (fun c24=>?_) (fun c24=>?_)
  ·replace h:=itT c24 h
   refine Cl8 hS trivial 15 [(0, .l [0]),(3, .l [0]),(8, .n),(9, .l [1]),(10, .l [2]),(11, .n)] ?_
   obtain ⟨c25,h⟩:=P0 h
   refine AE4 c25 (x:=(.sl true 1 2 (H6 [U7] [(0,(cL 18 A6) (q0.take x1.toNat)),(1,(cL 18 A6) (q0.drop (IntKind.wrap .i64 (x1+1)).toNat))]))) ?_
   obtain ⟨y6,e6,h⟩:=A4 h
   refine At2 trivial (FunO.le hS (args:=[.p (.sl true 1 2 (H6 [U7] [(0,(cL 18 A6) (q0.take x1.toNat)),(1,(cL 18 A6) (q0.drop (IntKind.wrap .i64 (x1+1)).toNat))]))]) (by exact ⟨BV2 rfl (fun i hi=>match i,hi with | 0,_=>rfl | 1,_=>rfl | _+2,hi=>absurd hi (by omega)),trivial⟩) (Ab6 hS hL e6)) ?_
   obtain ⟨y7,e7,h⟩:=A4 h
   refine At2 trivial (Ai5 hS hL e7) ?_
   refine Av8 trivial (b:=y7) (fun c26=>?_) (fun c26=>?_)
   ·replace h:=itT c26 h
    refine Q1 trivial ?_
    refine A9 hS trivial (b:=true) (fun c29=>?_) (fun c29=>?_)
    ·obtain ⟨L7,rfl,hcL7⟩:=Bb9 h
     replace h:=hcL7
     refine Am8 hS trivial (ys:=(fun (x:Int)=>[(pI .i64) x]) x1) (rest:=L7.map (fun (x:Int)=>[(pI .i64) x])) ?_ ?_
     ·refine A1 hS trivial (b:=false) (fun c30=>?_) (fun c30=>?_)
      ·exact Bool.noConfusion ((rfl:false=false).symm.trans c30)
      ·exact hb1 _ [(0,0),(1,1),(2,2),(3,3)] _ (IntKind.wrap .i64 (x1+1)) L7 trivial h
     ·refine A1 hS trivial (b:=true) (fun c31=>?_) (fun c31=>?_)
      ·exact B6 hS trivial (a:=.tup []) (objs:=[(.cells [(.p (vSl 18 A6 q0))]),(.cells [(.p (vSl 2 A0 q1))]),(.cells [(.p (vSl 2 A0 q2))]),(.yld [] false)]) ⟨[], [(3,(.yld [] false)),(2,(.cells [(.p (vSl 2 A0 q2))])),(1,(.cells [(.p (vSl 2 A0 q1))])),(0,(.cells [(.p (vSl 18 A6 q0))]))]⟩ [0,1,2,3] (ids:=[(0,0),(1,1),(2,2),(3,3)]) ⟨false,rfl,rfl,_,rfl⟩
      ·exact Bool.noConfusion ((rfl:true=true).symm.trans c31)
    ·exact Bool.noConfusion ((rfl:true=true).symm.trans c29)
   ·replace h:=itF c26 h
    refine Q1 trivial ?_
    refine A9 hS trivial (b:=false) (fun c34=>?_) (fun c34=>?_)
    ·exact Bool.noConfusion ((rfl:false=false).symm.trans c34)
    ·exact hb1 _ [(0,0),(1,1),(2,2),(3,3)] _ (IntKind.wrap .i64 (x1+1)) L1 trivial h
  ·replace h:=itF c24 h
   obtain rfl:=A5 h
   exact B6 hS trivial (a:=.tup []) (objs:=[(.cells [(.p (vSl 18 A6 q0))]),(.cells [(.p (vSl 2 A0 q1))]),(.cells [(.p (vSl 2 A0 q2))]),(.yld [] true)]) ⟨[], [(3,(.yld [] true)),(2,(.cells [(.p (vSl 2 A0 q2))])),(1,(.cells [(.p (vSl 2 A0 q1))])),(0,(.cells [(.p (vSl 18 A6 q0))]))]⟩ [0,1,2,3] (ids:=[(0,0),(1,1),(2,2),(3,3)]) ⟨true,rfl,rfl,_,rfl⟩
def Af6 (N:Nat) (p_laws:(Sl Law)) (p_proto:(Sl Sound)) (p_attested:(Sl Sound)):Option ((Sl Law) × (Sl Sound) × (Sl Sound)):=
 some (p_laws,p_proto,p_attested)
theorem Be4 {N:Nat} {p_laws:(Sl Law)} {p_proto:(Sl Sound)} {p_attested:(Sl Sound)}   {y:((Sl Law) × (Sl Sound) × (Sl Sound))} (h:Af6 N p_laws p_proto p_attested=some y) :
 FunO S AC4 [(.p (vSl 18 A6 p_laws)),(.p (vSl 2 A0 p_proto)),(.p (vSl 2 A0 p_attested))] [] (.clo Z4 [] [.reg 0 0, .reg 1 0, .reg 2 0]) ([(.cells [(.p (vSl 18 A6 y.1))]),(.cells [(.p (vSl 2 A0 y.2.1))]),(.cells [(.p (vSl 2 A0 y.2.2))])]) []:=by
 unfold Af6 at h
 refine A7 hS Bc6 ?_
 obtain rfl:=A5 h
 exact B6 hS trivial ⟨[(6,(.clo Z4 [] [(.reg 4000 0),(.reg 5000 0),(.reg 6000 0)]))], [(6000,(.cells [(.p (vSl 2 A0 p_attested))])),(5000,(.cells [(.p (vSl 2 A0 p_proto))])),(4000,(.cells [(.p (vSl 18 A6 p_laws))]))]⟩ [4000,5000,6000] (ids:=[(4000,4000),(5000,5000),(6000,6000)]) ⟨rfl,rfl,rfl⟩
def F9 (N:Nat) (p_seq:List (Int)):Option (Sl Int):=
 K4 p_seq (fun self1 (x1:Int) (z1:Sl Int)=>
  if ((z1.n+(Sl.of [x1]:Sl Int).n) * 8<=140737488355328/\z1.n+(Sl.of [x1]:Sl Int).n<=140737488355328) then
   self1 (z1.push x1)
  else none
  ) (fun (z1:Sl Int)=>
   some z1
  ) (Sl.nil:Sl Int)
theorem Ag9 {N:Nat} {p_seq:List (Int)} {p_seq_0:(Sl Law)} {p_seq_1:(Sl O1)} {kp_seq:Nat} (fp_seq:∃ fn,Tryz.prog.funcs[kp_seq]? = some fn/\fn.body.isSome=true/\(fn.name == "runtime.NumGoroutine")=false) (hp_seq:Am7 S kp_seq [] [.reg 0 0, .reg 1 0] [(.cells [(.p (vSl 18 A6 p_seq_0))]),(.cells [(.p (vSl 2 D5 p_seq_1))])] (p_seq.map (fun (x:Int)=>[(pI .i64) x]))) {y:(Sl Int)} (h:F9 N p_seq=some y) :
 FunO S G7 [(.p U7),(.clo kp_seq [] [(.reg 0 0),(.reg 1 0)])] [(.cells [(.p (vSl 18 A6 p_seq_0))]),(.cells [(.p (vSl 2 D5 p_seq_1))])] (.vec 0) ([(.vec H7 1 y.n (fun i=>(cI .i64) (y.g i)) true)]) [false,false]:=by
 unfold F9 at h
 refine A7 hS K3 ?_
 refine AH2 hS trivial fp_seq [0,1] [2] 901 (fun z1=>⟨[(2,(.reg 3000 0))], [(3500,(.vec H7 1 z1.n (fun i=>(cI .i64) (z1.g i)) false)),(3000,(.cells [(.vec 3500)]))]⟩) (idl:=[(3000,3000)]) h hp_seq (fun _=>by kernel_rfl) (fun _=>by kernel_rfl) (fun _=>by kernel_rfl) (fun _=>by kernel_rfl) (fun x1 _ self1 z1 hb1 h=>?_) (fun z1 h=>?_)
 ·refine AL7 hS trivial ?_
  obtain ⟨c1,h⟩:=P0 h
  exact hb1 _ [(901,901),(3000,3000),(3500,12000)] _ (z1.push x1) (And.intro (rfl:true=true) c1) h (by kernel_rfl) (by kernel_rfl) (klR [(0, .fn (z1.n+1) (z1.push x1).n (An5 z1.n (fun i=>(cI .i64) (z1.g i)) (H6 [(pI .i64 0)] [(0,(cI .i64) x1)])) (fun i=>(cI .i64) ((z1.push x1).g i)))] (al1 ⟨rfl,(Cg2 (c:=(cI .i64)) (v:=z1) (x:=x1) (z:=[(pI .i64 0)]) same rfl rfl)⟩ al0))
 ·obtain rfl:=A5 h
  exact B6 hS trivial ⟨[(4,(.vec 3500))], [(3500,(.vec H7 1 z1.n (fun i=>(cI .i64) (z1.g i)) true))]⟩ [3500] (ids:=[(3500,3500)]) ⟨rfl,rfl,rfl⟩
def J3 (N:Nat) (p_seq:List (Int)):Option (Sl Int):=
 (F9 N p_seq).bind fun y1=>
 some y1
theorem Ay0 {N:Nat} {p_seq:List (Int)} {p_seq_0:(Sl Law)} {p_seq_1:(Sl O1)} {kp_seq:Nat} (fp_seq:∃ fn,Tryz.prog.funcs[kp_seq]? = some fn/\fn.body.isSome=true/\(fn.name == "runtime.NumGoroutine")=false) (hp_seq:Am7 S kp_seq [] [.reg 0 0, .reg 1 0] [(.cells [(.p (vSl 18 A6 p_seq_0))]),(.cells [(.p (vSl 2 D5 p_seq_1))])] (p_seq.map (fun (x:Int)=>[(pI .i64) x]))) {y:(Sl Int)} (h:J3 N p_seq=some y) :
 FunO S P2 [(.clo kp_seq [] [(.reg 0 0),(.reg 1 0)])] [(.cells [(.p (vSl 18 A6 p_seq_0))]),(.cells [(.p (vSl 2 D5 p_seq_1))])] (.vec 0) ([(.vec H7 1 y.n (fun i=>(cI .i64) (y.g i)) true)]) [false,false]:=by
 unfold J3 at h
 refine A7 hS W7 ?_
 obtain ⟨y1,e1,h⟩:=A4 h
 refine A3 hS [0,1] trivial (Ag9 hS hL fp_seq hp_seq e1) ?_
 obtain rfl:=A5 h
 exact B6 hS trivial ⟨[(2,(.vec 5000))], [(5000,(.vec H7 1 y1.n (fun i=>(cI .i64) (y1.g i)) true))]⟩ [5000] (ids:=[(5000,5000)]) ⟨rfl,rfl,rfl⟩
def W3 (N:Nat) (p_l:List (Int)):Option (G0 × Bool):=
 K4 p_l (fun self1 (x1:Int) (z1:Int × Int × Bool)=>
  if (!z1.2.2)=true then
   self1 (x1,x1,true)
  else
   self1 (z1.1,x1,z1.2.2)
  ) (fun (z1:Int × Int × Bool)=>
   some ((⟨z1.1,z1.2.1⟩:G0),z1.2.2)
  ) (0,0,false)
theorem AJ2 {N:Nat} {p_l:List (Int)} {p_l_0:(Sl Law)} {p_l_1:(Sl O1)} {kp_l:Nat} (fp_l:∃ fn,Tryz.prog.funcs[kp_l]? = some fn/\fn.body.isSome=true/\(fn.name == "runtime.NumGoroutine")=false) (hp_l:Am7 S kp_l [] [.reg 0 0, .reg 1 0] [(.cells [(.p (vSl 18 A6 p_l_0))]),(.cells [(.p (vSl 2 D5 p_l_1))])] (p_l.map (fun (x:Int)=>[(pI .i64) x]))) {y:(G0 × Bool)} (h:W3 N p_l=some y) :
 FunO S AP3 [(.clo kp_l [] [(.reg 0 0),(.reg 1 0)])] [(.cells [(.p (vSl 18 A6 p_l_0))]),(.cells [(.p (vSl 2 D5 p_l_1))])] (.tup [(.p (.agg (Al3 y.1))),(pB y.2)]) ([]) [false,false]:=by
 unfold W3 at h
 refine A7 hS Bv7 ?_
 refine AH2 hS trivial fp_l [0,1] [3,2] 901 (fun z1=>⟨[(3,(.reg 4000 0)),(2,(.reg 3000 0))], [(4000,(.cells [(pB z1.2.2)])),(3000,(.cells [(pN z1.1),(pN z1.2.1)]))]⟩) (idl:=[(3000,3000),(4000,4000)]) h hp_l (fun _=>by kernel_rfl) (fun _=>by kernel_rfl) (fun _=>by kernel_rfl) (fun _=>by kernel_rfl) (fun x1 _ self1 z1 hb1 h=>?_) (fun z1 h=>?_)
 ·refine AL7 hS trivial ?_
  refine A1 hS trivial (b:=!z1.2.2) (fun c2=>?_) (fun c2=>?_)
  ·replace h:=itT c2 h
   exact hb1 _ [(901,901),(3000,3000),(4000,4000)] _ (x1,x1,true) trivial h
  ·replace h:=itF c2 h
   exact hb1 _ [(901,901),(3000,3000),(4000,4000)] _ (z1.1,x1,z1.2.2) trivial h
 ·refine V2 hS trivial [(0, .l [3000]),(1, .l [4000]),(2, .a [3000]),(3, .a [4000])] ?_
  refine Q1 trivial ?_
  obtain rfl:=A5 h
  exact B6 hS trivial ⟨[(3,(.reg 4000 0)),(2,(.reg 3000 0))], [(4000,(.cells [(pB z1.2.2)])),(3000,(.cells [(pN z1.1),(pN z1.2.1)]))]⟩ [] (ids:=[(3000,3000),(4000,4000)]) ⟨rfl,rfl,rfl⟩
def I9 (N:Nat) (p_laws:(Sl Law)) (p_foreign:(Sl Sound)) (p_attested:(Sl Sound)):Option ((Sl Int) × Int):=
 (H4 N p_laws (Sl.of [p_foreign,p_attested]:Sl (Sl Sound))).bind fun y1=>
 if (y1 != 0)=true then
  some ((Sl.nil:Sl Int),y1)
 else
  (G4 N p_laws (Sl.of [(⟨p_foreign,p_attested⟩:O1)]:Sl O1)).bind fun y2=>
  (D4 N y2.1 y2.2).bind fun L1=>
  (J3 N L1).bind fun y3=>
  some (y3,0)
theorem Af7 {N:Nat} {p_laws:(Sl Law)} {p_foreign:(Sl Sound)} {p_attested:(Sl Sound)}   {y:((Sl Int) × Int)} (h:I9 N p_laws p_foreign p_attested=some y) :
 FunO S AB9 [(.p (vSl 18 A6 p_laws)),(.p (vSl 2 A0 p_foreign)),(.p (vSl 2 A0 p_attested))] [] (.tup [(.vec 0),(pN y.2)]) ([(.vec H7 1 y.1.n (fun i=>(cI .i64) (y.1.g i)) true)]) []:=by
 unfold I9 at h
 refine A7 hS Bc1 ?_
 refine T3 hS (rfl:true=true) ⟨[(12,(.vec 13000)),(9,(.p (vSl 18 A6 p_laws))),(2,(.p (vSl 2 A0 p_attested))),(1,(.p (vSl 2 A0 p_foreign))),(0,(.p (vSl 18 A6 p_laws)))], [(13000,(.vec E9 1 (Sl.of [p_foreign,p_attested]:Sl (Sl Sound)).n (fun i=>(cL 2 A0) ((Sl.of [p_foreign,p_attested]:Sl (Sl Sound)).g i)) false))]⟩ (ids:=[(13000,13000)]) ?_ (hle:=(klR [(4, .fn 2 (Sl.of [p_foreign,p_attested]:Sl (Sl Sound)).n (H6 [U7] [(0,(cL 2 A0) p_foreign),(1,(cL 2 A0) p_attested)]) (fun i=>(cL 2 A0) ((Sl.of [p_foreign,p_attested]:Sl (Sl Sound)).g i)))] (al1 ⟨rfl,(fun i hi=>match i,hi with | 0,_=>rfl | 1,_=>rfl | _+2,hi=>absurd hi (by omega))⟩ al0)))
 obtain ⟨y1,e1,h⟩:=A4 h
 refine A3 hS [] trivial (Ad1 hS hL e1) ?_
 refine A1 hS trivial (b:=y1 != 0) (fun c1=>?_) (fun c1=>?_)
 ·replace h:=itT c1 h
  obtain rfl:=A5 h
  exact B6 hS trivial ⟨[(7,(pN y1)),(6,(.vec 7700))], [(7700,(.vec H7 1 (Sl.nil:Sl Int).n (fun i=>(cI .i64) ((Sl.nil:Sl Int).g i)) true))]⟩ [7700] (ids:=[]) ⟨rfl,rfl,rfl⟩
 ·replace h:=itF c1 h
  refine T3 hS (rfl:true=true) ⟨[(21,(.vec 22000)),(17,(.p (vSl 18 A6 p_laws)))], [(22000,(.vec Ap0 2 (Sl.of [(⟨p_foreign,p_attested⟩:O1)]:Sl O1).n (fun i=>D5 ((Sl.of [(⟨p_foreign,p_attested⟩:O1)]:Sl O1).g i)) false))]⟩ (ids:=[(22000,22000)]) ?_ (hle:=(klR [(1, .fn 1 (Sl.of [(⟨p_foreign,p_attested⟩:O1)]:Sl O1).n (H6 [U7,U7] [(0,D5 (⟨p_foreign,p_attested⟩:O1))]) (fun i=>D5 ((Sl.of [(⟨p_foreign,p_attested⟩:O1)]:Sl O1).g i)))] (al1 ⟨rfl,(fun i hi=>match i,hi with | 0,_=>rfl | _+1,hi=>absurd hi (by omega))⟩ al0)))
  obtain ⟨y2,e2,h⟩:=A4 h
  refine A3 hS [] trivial (Af5 hS hL e2) ?_
  obtain ⟨L1,e3,h⟩:=A4 h
  obtain ⟨y3,e4,h⟩:=A4 h
  refine A3 hS [23000,23001] trivial (Ay0 hS hL ⟨_,Z3,by decide +kernel,by decide +kernel⟩ (Z6 hS hL e3) e4) ?_
  obtain rfl:=A5 h
  exact B6 hS trivial ⟨[(7,(pN 0)),(6,(.vec 24000))], [(24000,(.vec H7 1 y3.n (fun i=>(cI .i64) (y3.g i)) true))]⟩ [24000] (ids:=[(24000,24000)]) ⟨rfl,rfl,rfl⟩
def O7 (N:Nat) (p_laws:(Sl Law)) (p_foreign:(Sl Sound)) (p_attested:(Sl Sound)):Option (G0 × Bool × Int):=
 (H4 N p_laws (Sl.of [p_foreign,p_attested]:Sl (Sl Sound))).bind fun y1=>
 if (y1 != 0)=true then
  some ((⟨0,0⟩:G0),false,y1)
 else
  (G4 N p_laws (Sl.of [(⟨p_foreign,p_attested⟩:O1)]:Sl O1)).bind fun y2=>
  (D4 N y2.1 y2.2).bind fun L1=>
  (W3 N L1).bind fun y3=>
  some (y3.1,y3.2,0)
theorem Am2 {N:Nat} {p_laws:(Sl Law)} {p_foreign:(Sl Sound)} {p_attested:(Sl Sound)}   {y:(G0 × Bool × Int)} (h:O7 N p_laws p_foreign p_attested=some y) :
 FunO S AP1 [(.p (vSl 18 A6 p_laws)),(.p (vSl 2 A0 p_foreign)),(.p (vSl 2 A0 p_attested))] [] (.tup [(.p (.agg (Al3 y.1))),(pB y.2.1),(pN y.2.2)]) ([]) []:=by
 unfold O7 at h
 refine A7 hS Bv3 ?_
 refine T3 hS (rfl:true=true) ⟨[(15,(.vec 16000)),(12,(.p (vSl 18 A6 p_laws))),(6,(.reg 7000 0)),(2,(.p (vSl 2 A0 p_attested))),(1,(.p (vSl 2 A0 p_foreign))),(0,(.p (vSl 18 A6 p_laws)))], [(16000,(.vec E9 1 (Sl.of [p_foreign,p_attested]:Sl (Sl Sound)).n (fun i=>(cL 2 A0) ((Sl.of [p_foreign,p_attested]:Sl (Sl Sound)).g i)) false)),(7000,(.cells [(pN 0),(pN 0)]))]⟩ (ids:=[(7000,7000),(16000,16000)]) ?_ (hle:=(klR [(4, .fn 2 (Sl.of [p_foreign,p_attested]:Sl (Sl Sound)).n (H6 [U7] [(0,(cL 2 A0) p_foreign),(1,(cL 2 A0) p_attested)]) (fun i=>(cL 2 A0) ((Sl.of [p_foreign,p_attested]:Sl (Sl Sound)).g i)))] (al1 ⟨rfl,(fun i hi=>match i,hi with | 0,_=>rfl | 1,_=>rfl | _+2,hi=>absurd hi (by omega))⟩ al0)))
 obtain ⟨y1,e1,h⟩:=A4 h
 refine A3 hS [] trivial (Ad1 hS hL e1) ?_
 refine A1 hS trivial (b:=y1 != 0) (fun c1=>?_) (fun c1=>?_)
 ·replace h:=itT c1 h
  obtain rfl:=A5 h
  exact B5 hS trivial [] ⟨rfl,rfl,rfl⟩
 ·replace h:=itF c1 h
  refine T3 hS (rfl:true=true) ⟨[(26,(.vec 27000)),(22,(.p (vSl 18 A6 p_laws))),(6,(.reg 7000 0))], [(27000,(.vec Ap0 2 (Sl.of [(⟨p_foreign,p_attested⟩:O1)]:Sl O1).n (fun i=>D5 ((Sl.of [(⟨p_foreign,p_attested⟩:O1)]:Sl O1).g i)) false)),(7000,(.cells [(pN 0),(pN 0)]))]⟩ (ids:=[(7000,7000),(27000,27000)]) ?_ (hle:=(klR [(1, .fn 1 (Sl.of [(⟨p_foreign,p_attested⟩:O1)]:Sl O1).n (H6 [U7,U7] [(0,D5 (⟨p_foreign,p_attested⟩:O1))]) (fun i=>D5 ((Sl.of [(⟨p_foreign,p_attested⟩:O1)]:Sl O1).g i)))] (al1 ⟨rfl,(fun i hi=>match i,hi with | 0,_=>rfl | _+1,hi=>absurd hi (by omega))⟩ al0)))
  obtain ⟨y2,e2,h⟩:=A4 h
  refine A3 hS [] trivial (Af5 hS hL e2) ?_
  obtain ⟨L1,e3,h⟩:=A4 h
  obtain ⟨y3,e4,h⟩:=A4 h
  refine A3 hS [28000,28001] trivial (AJ2 hS hL ⟨_,Z3,by decide +kernel,by decide +kernel⟩ (Z6 hS hL e3) e4) ?_
  obtain rfl:=A5 h
  exact B5 hS trivial [] ⟨rfl,rfl,rfl⟩
def J0 (N:Nat) (p_laws:(Sl Law)) (p_proto:(Sl Sound)) (p_attested:(Sl Sound)):Option (Bool × Int):=
 (H4 N p_laws (Sl.of [p_proto,p_attested]:Sl (Sl Sound))).bind fun y1=>
 if (y1 != 0)=true then
  some (false,y1)
 else
  (F5 N p_laws p_proto p_attested).bind fun y2=>
  some (y2,0)
theorem Af8 {N:Nat} {p_laws:(Sl Law)} {p_proto:(Sl Sound)} {p_attested:(Sl Sound)}   {y:(Bool × Int)} (h:J0 N p_laws p_proto p_attested=some y) :
 FunO S AC0 [(.p (vSl 18 A6 p_laws)),(.p (vSl 2 A0 p_proto)),(.p (vSl 2 A0 p_attested))] [] (.tup [(pB y.1),(pN y.2)]) ([]) []:=by
 unfold J0 at h
 refine A7 hS Bc2 ?_
 refine T3 hS (rfl:true=true) ⟨[(12,(.vec 13000)),(9,(.p (vSl 18 A6 p_laws))),(2,(.p (vSl 2 A0 p_attested))),(1,(.p (vSl 2 A0 p_proto))),(0,(.p (vSl 18 A6 p_laws)))], [(13000,(.vec E9 1 (Sl.of [p_proto,p_attested]:Sl (Sl Sound)).n (fun i=>(cL 2 A0) ((Sl.of [p_proto,p_attested]:Sl (Sl Sound)).g i)) false))]⟩ (ids:=[(13000,13000)]) ?_ (hle:=(klR [(4, .fn 2 (Sl.of [p_proto,p_attested]:Sl (Sl Sound)).n (H6 [U7] [(0,(cL 2 A0) p_proto),(1,(cL 2 A0) p_attested)]) (fun i=>(cL 2 A0) ((Sl.of [p_proto,p_attested]:Sl (Sl Sound)).g i)))] (al1 ⟨rfl,(fun i hi=>match i,hi with | 0,_=>rfl | 1,_=>rfl | _+2,hi=>absurd hi (by omega))⟩ al0)))
 obtain ⟨y1,e1,h⟩:=A4 h
 refine A3 hS [] trivial (Ad1 hS hL e1) ?_
 refine A1 hS trivial (b:=y1 != 0) (fun c1=>?_) (fun c1=>?_)
 ·replace h:=itT c1 h
  obtain rfl:=A5 h
  exact B5 hS trivial [] ⟨rfl,rfl,rfl⟩
 ·replace h:=itF c1 h
  obtain ⟨y2,e2,h⟩:=A4 h
  refine A3 hS [] trivial (Ai5 hS hL e2) ?_
  obtain rfl:=A5 h
  exact B5 hS trivial [] ⟨rfl,rfl,rfl⟩
def J4 (N:Nat) (p_seq:List (Int)):Option (Sl Int):=
 K4 p_seq (fun self1 (x1:Int) (z1:Sl Int)=>
  if ((z1.n+(Sl.of [x1]:Sl Int).n) * 8<=140737488355328/\z1.n+(Sl.of [x1]:Sl Int).n<=140737488355328) then
   self1 (z1.push x1)
  else none
  ) (fun (z1:Sl Int)=>
   some z1
  ) (Sl.nil:Sl Int)
theorem Ah0 {N:Nat} {p_seq:List (Int)} {p_seq_0:(Sl Law)} {p_seq_1:(Sl Sound)} {p_seq_2:(Sl Sound)} {kp_seq:Nat} (fp_seq:∃ fn,Tryz.prog.funcs[kp_seq]? = some fn/\fn.body.isSome=true/\(fn.name == "runtime.NumGoroutine")=false) (hp_seq:Am7 S kp_seq [] [.reg 0 0, .reg 1 0, .reg 2 0] [(.cells [(.p (vSl 18 A6 p_seq_0))]),(.cells [(.p (vSl 2 A0 p_seq_1))]),(.cells [(.p (vSl 2 A0 p_seq_2))])] (p_seq.map (fun (x:Int)=>[(pI .i64) x]))) {y:(Sl Int)} (h:J4 N p_seq=some y) :
 FunO S G7 [(.p U7),(.clo kp_seq [] [(.reg 0 0),(.reg 1 0),(.reg 2 0)])] [(.cells [(.p (vSl 18 A6 p_seq_0))]),(.cells [(.p (vSl 2 A0 p_seq_1))]),(.cells [(.p (vSl 2 A0 p_seq_2))])] (.vec 0) ([(.vec H7 1 y.n (fun i=>(cI .i64) (y.g i)) true)]) [false,false,false]:=by
 unfold J4 at h
 refine A7 hS K3 ?_
 refine AH2 hS trivial fp_seq [0,1,2] [2] 901 (fun z1=>⟨[(2,(.reg 3000 0))], [(3500,(.vec H7 1 z1.n (fun i=>(cI .i64) (z1.g i)) false)),(3000,(.cells [(.vec 3500)]))]⟩) (idl:=[(3000,3000)]) h hp_seq (fun _=>by kernel_rfl) (fun _=>by kernel_rfl) (fun _=>by kernel_rfl) (fun _=>by kernel_rfl) (fun x1 _ self1 z1 hb1 h=>?_) (fun z1 h=>?_)
 ·refine AL7 hS trivial ?_
  obtain ⟨c1,h⟩:=P0 h
  exact hb1 _ [(901,901),(3000,3000),(3500,12000)] _ (z1.push x1) (And.intro (rfl:true=true) c1) h (by kernel_rfl) (by kernel_rfl) (klR [(0, .fn (z1.n+1) (z1.push x1).n (An5 z1.n (fun i=>(cI .i64) (z1.g i)) (H6 [(pI .i64 0)] [(0,(cI .i64) x1)])) (fun i=>(cI .i64) ((z1.push x1).g i)))] (al1 ⟨rfl,(Cg2 (c:=(cI .i64)) (v:=z1) (x:=x1) (z:=[(pI .i64 0)]) same rfl rfl)⟩ al0))
 ·obtain rfl:=A5 h
  exact B6 hS trivial ⟨[(4,(.vec 3500))], [(3500,(.vec H7 1 z1.n (fun i=>(cI .i64) (z1.g i)) true))]⟩ [3500] (ids:=[(3500,3500)]) ⟨rfl,rfl,rfl⟩
def O8 (N:Nat) (p_seq:List (Int)):Option (Sl Int):=
 (J4 N p_seq).bind fun y1=>
 some y1
theorem Ay1 {N:Nat} {p_seq:List (Int)} {p_seq_0:(Sl Law)} {p_seq_1:(Sl Sound)} {p_seq_2:(Sl Sound)} {kp_seq:Nat} (fp_seq:∃ fn,Tryz.prog.funcs[kp_seq]? = some fn/\fn.body.isSome=true/\(fn.name == "runtime.NumGoroutine")=false) (hp_seq:Am7 S kp_seq [] [.reg 0 0, .reg 1 0, .reg 2 0] [(.cells [(.p (vSl 18 A6 p_seq_0))]),(.cells [(.p (vSl 2 A0 p_seq_1))]),(.cells [(.p (vSl 2 A0 p_seq_2))])] (p_seq.map (fun (x:Int)=>[(pI .i64) x]))) {y:(Sl Int)} (h:O8 N p_seq=some y) :
 FunO S P2 [(.clo kp_seq [] [(.reg 0 0),(.reg 1 0),(.reg 2 0)])] [(.cells [(.p (vSl 18 A6 p_seq_0))]),(.cells [(.p (vSl 2 A0 p_seq_1))]),(.cells [(.p (vSl 2 A0 p_seq_2))])] (.vec 0) ([(.vec H7 1 y.n (fun i=>(cI .i64) (y.g i)) true)]) [false,false,false]:=by
 unfold O8 at h
 refine A7 hS W7 ?_
 obtain ⟨y1,e1,h⟩:=A4 h
 refine A3 hS [0,1,2] trivial (Ah0 hS hL fp_seq hp_seq e1) ?_
 obtain rfl:=A5 h
 exact B6 hS trivial ⟨[(2,(.vec 5000))], [(5000,(.vec H7 1 y1.n (fun i=>(cI .i64) (y1.g i)) true))]⟩ [5000] (ids:=[(5000,5000)]) ⟨rfl,rfl,rfl⟩
def S0 (N:Nat) (p_laws:(Sl Law)) (p_proto:(Sl Sound)) (p_attested:(Sl Sound)):Option ((Sl Int) × Int):=
 (H4 N p_laws (Sl.of [p_proto,p_attested]:Sl (Sl Sound))).bind fun y1=>
 if (y1 != 0)=true then
  some ((Sl.nil:Sl Int),y1)
 else
  (Af6 N p_laws p_proto p_attested).bind fun y2=>
  (R4 N y2.1 y2.2.1 y2.2.2).bind fun L1=>
  (O8 N L1).bind fun y3=>
  some (y3,0)
theorem AD4 {N:Nat} {p_laws:(Sl Law)} {p_proto:(Sl Sound)} {p_attested:(Sl Sound)}   {y:((Sl Int) × Int)} (h:S0 N p_laws p_proto p_attested=some y) :
 FunO S AC1 [(.p (vSl 18 A6 p_laws)),(.p (vSl 2 A0 p_proto)),(.p (vSl 2 A0 p_attested))] [] (.tup [(.vec 0),(pN y.2)]) ([(.vec H7 1 y.1.n (fun i=>(cI .i64) (y.1.g i)) true)]) []:=by
 unfold S0 at h
 refine A7 hS Bc3 ?_
 refine T3 hS (rfl:true=true) ⟨[(12,(.vec 13000)),(9,(.p (vSl 18 A6 p_laws))),(2,(.p (vSl 2 A0 p_attested))),(1,(.p (vSl 2 A0 p_proto))),(0,(.p (vSl 18 A6 p_laws)))], [(13000,(.vec E9 1 (Sl.of [p_proto,p_attested]:Sl (Sl Sound)).n (fun i=>(cL 2 A0) ((Sl.of [p_proto,p_attested]:Sl (Sl Sound)).g i)) false))]⟩ (ids:=[(13000,13000)]) ?_ (hle:=(klR [(4, .fn 2 (Sl.of [p_proto,p_attested]:Sl (Sl Sound)).n (H6 [U7] [(0,(cL 2 A0) p_proto),(1,(cL 2 A0) p_attested)]) (fun i=>(cL 2 A0) ((Sl.of [p_proto,p_attested]:Sl (Sl Sound)).g i)))] (al1 ⟨rfl,(fun i hi=>match i,hi with | 0,_=>rfl | 1,_=>rfl | _+2,hi=>absurd hi (by omega))⟩ al0)))
 obtain ⟨y1,e1,h⟩:=A4 h
 refine A3 hS [] trivial (Ad1 hS hL e1) ?_
 refine A1 hS trivial (b:=y1 != 0) (fun c1=>?_) (fun c1=>?_)
 ·replace h:=itT c1 h
  obtain rfl:=A5 h
  exact B6 hS trivial ⟨[(7,(pN y1)),(6,(.vec 7700))], [(7700,(.vec H7 1 (Sl.nil:Sl Int).n (fun i=>(cI .i64) ((Sl.nil:Sl Int).g i)) true))]⟩ [7700] (ids:=[]) ⟨rfl,rfl,rfl⟩
 ·replace h:=itF c1 h
  obtain ⟨y2,e2,h⟩:=A4 h
  refine A3 hS [] trivial (Be4 hS hL e2) ?_
  obtain ⟨L1,e3,h⟩:=A4 h
  obtain ⟨y3,e4,h⟩:=A4 h
  refine A3 hS [21000,21001,21002] trivial (Ay1 hS hL ⟨_,At5,by decide +kernel,by decide +kernel⟩ (AR8 hS hL e3) e4) ?_
  obtain rfl:=A5 h
  exact B6 hS trivial ⟨[(7,(pN 0)),(6,(.vec 22000))], [(22000,(.vec H7 1 y3.n (fun i=>(cI .i64) (y3.g i)) true))]⟩ [22000] (ids:=[(22000,22000)]) ⟨rfl,rfl,rfl⟩
end Go.AM
set_option linter.unusedVariables false
set_option linter.unusedSectionVars false
namespace Go.AM
open Go.Proofs
set_option maxRecDepth 10000
set_option maxHeartbeats 2000000
variable {S:Af9} (hS:I3 S Tryz.prog) (hL:BL4 S)
include hS hL
def K0 (N:Nat) (p_laws:(Sl Law)) (p_l:(Sl O1)):Option Int:=
 (N1 N p_laws).bind fun y1=>
 if (y1 != 0)=true then
  some y1
 else
  if (decide (256 < (p_l.n:Int)))=true then
   some 12
  else
   Aa9 N (fun self1 (x1:Int)=>
    if (decide (x1 < (p_l.n:Int)))=true then
     if ((0:Int)<=x1/\x1 < (p_l.n:Int)) then
      (H4 N (Sl.nil:Sl Law) (Sl.of [(p_l.g x1.toNat).From,(p_l.g x1.toNat).To]:Sl (Sl Sound))).bind fun y4=>
      if (y4 != 0)=true then
       some y4
      else
       self1 (IntKind.wrap .i64 (x1+1))
     else none
    else
     some 0
    ) 0
theorem Am3 {N:Nat} {p_laws:(Sl Law)} {p_l:(Sl O1)}   {y:Int} (h:K0 N p_laws p_l=some y) :
 FunO S Al5 [(.p (vSl 18 A6 p_laws)),(.p (vSl 2 D5 p_l))] [] (pN y) ([]) []:=by
 unfold K0 at h
 refine A7 hS AH8 ?_
 obtain ⟨y1,e1,h⟩:=A4 h
 refine A3 hS [] trivial (An3 hS hL e1) ?_
 refine A1 hS trivial (b:=y1 != 0) (fun c1=>?_) (fun c1=>?_)
 ·replace h:=itT c1 h
  obtain rfl:=A5 h
  exact B5 hS trivial [] ⟨rfl,rfl,rfl⟩
 ·replace h:=itF c1 h
  refine A1 hS trivial (b:=decide (256 < (p_l.n:Int))) (fun c2=>?_) (fun c2=>?_)
  ·replace h:=itT c2 h
   obtain rfl:=A5 h
   exact B5 hS trivial [] ⟨rfl,rfl,rfl⟩
  ·replace h:=itF c2 h
   refine Ai0 hS trivial h (fun x1=>⟨[(19,(pN x1)),(18,(pN (p_l.n:Int))),(17,(.p (vSl 2 D5 p_l)))], []⟩) (ids:=[]) (fun _ _ _ _ _ self1 x1 hb1 h=>?_)
   refine A1 hS trivial (b:=decide (x1 < (p_l.n:Int))) (fun c9=>?_) (fun c9=>?_)
   ·replace h:=itT c9 h
    obtain ⟨c10,h⟩:=P0 h
    refine T3 hS (And.intro (And.intro c10 (by decide:(2:Nat)<=2)) (rfl:true=true)) ⟨[(27,(.vec 28000)),(19,(pN x1)),(18,(pN (p_l.n:Int))),(17,(.p (vSl 2 D5 p_l)))], [(28000,(.vec E9 1 (Sl.of [(p_l.g x1.toNat).From,(p_l.g x1.toNat).To]:Sl (Sl Sound)).n (fun i=>(cL 2 A0) ((Sl.of [(p_l.g x1.toNat).From,(p_l.g x1.toNat).To]:Sl (Sl Sound)).g i)) false))]⟩ (ids:=[(28000,28000)]) ?_ (hle:=(klR [(3, .fn 2 (Sl.of [(p_l.g x1.toNat).From,(p_l.g x1.toNat).To]:Sl (Sl Sound)).n (H6 [U7] [(0,(cL 2 A0) (p_l.g x1.toNat).From),(1,(cL 2 A0) (p_l.g x1.toNat).To)]) (fun i=>(cL 2 A0) ((Sl.of [(p_l.g x1.toNat).From,(p_l.g x1.toNat).To]:Sl (Sl Sound)).g i)))] (al1 ⟨rfl,(fun i hi=>match i,hi with | 0,_=>rfl | 1,_=>rfl | _+2,hi=>absurd hi (by omega))⟩ al0)))
    obtain ⟨y4,e4,h⟩:=A4 h
    refine A3 hS [] trivial (FunO.le hS (args:=[.p U7,(.p (vSl 1 (cL 2 A0) (Sl.of [(p_l.g x1.toNat).From,(p_l.g x1.toNat).To]:Sl (Sl Sound))))]) (by exact ⟨CF9,⟨.inl rfl,trivial⟩⟩) (Ad1 hS hL e4)) ?_
    refine A1 hS trivial (b:=y4 != 0) (fun c11=>?_) (fun c11=>?_)
    ·replace h:=itT c11 h
     obtain rfl:=A5 h
     exact B5 hS trivial [] ⟨rfl,rfl,rfl⟩
    ·replace h:=itF c11 h
     exact hb1 _ [] _ (IntKind.wrap .i64 (x1+1)) trivial h
   ·replace h:=itF c9 h
    obtain rfl:=A5 h
    exact B5 hS trivial [] ⟨rfl,rfl,rfl⟩
def Z0 (N:Nat) (p_laws:(Sl Law)) (p_l:(Sl O1)):Option ((Sl Int) × Int):=
 (K0 N p_laws p_l).bind fun y1=>
 if (y1 != 0)=true then
  some ((Sl.nil:Sl Int),y1)
 else
  T0 N (fun self3 (x3:Sl Int) (x4:Int)=>
   if (decide (x4 < (p_l.n:Int)))=true then
    if ((0:Int)<=x4/\x4 < (p_l.n:Int)) then
     (G4 N p_laws (Sl.of [(p_l.g x4.toNat)]:Sl O1)).bind fun y4=>
     (D4 N y4.1 y4.2).bind fun L3=>
     K4 L3 (fun self4 (x7:Int) (z3:Int)=>
      self4 x7
      ) (fun (z3:Int)=>
       if ((x3.n+(Sl.of [z3]:Sl Int).n) * 8<=140737488355328/\x3.n+(Sl.of [z3]:Sl Int).n<=140737488355328) then
        self3 (x3.push z3) (IntKind.wrap .i64 (x4+1))
       else none
      ) (-1)
    else none
   else
    some (x3,0)
   ) (Sl.nil:Sl Int) 0
theorem Be5 {N:Nat} {p_laws:(Sl Law)} {p_l:(Sl O1)}   {y:((Sl Int) × Int)} (h:Z0 N p_laws p_l=some y) :
 FunO S AC2 [(.p (vSl 18 A6 p_laws)),(.p (vSl 2 D5 p_l))] [] (.tup [(.vec 0),(pN y.2)]) ([(.vec H7 1 y.1.n (fun i=>(cI .i64) (y.1.g i)) true)]) []:=by
 unfold Z0 at h
 refine A7 hS Bc4 ?_
 obtain ⟨y1,e1,h⟩:=A4 h
 refine A3 hS [] trivial (Am3 hS hL e1) ?_
 refine A1 hS trivial (b:=y1 != 0) (fun c1=>?_) (fun c1=>?_)
 ·replace h:=itT c1 h
  obtain rfl:=A5 h
  exact B6 hS trivial ⟨[(5,(pN y1)),(4,(.vec 5700))], [(5700,(.vec H7 1 (Sl.nil:Sl Int).n (fun i=>(cI .i64) ((Sl.nil:Sl Int).g i)) true))]⟩ [5700] (ids:=[]) ⟨rfl,rfl,rfl⟩
 ·replace h:=itF c1 h
  refine Ab0 hS trivial h (fun x3 x4=>⟨[(20,(pN x4)),(19,(pN (p_l.n:Int))),(18,(.p (vSl 2 D5 p_l))),(7,(.vec 8500)),(0,(.p (vSl 18 A6 p_laws)))], [(8500,(.vec H7 1 x3.n (fun i=>(cI .i64) (x3.g i)) false))]⟩) (ids:=[]) (fun _ _ _ _ _ self3 x3 x4 hb3 h=>?_)
  refine A1 hS trivial (b:=decide (x4 < (p_l.n:Int))) (fun c6=>?_) (fun c6=>?_)
  ·replace h:=itT c6 h
   obtain ⟨c7,h⟩:=P0 h
   refine T3 hS (And.intro (And.intro c7 (by decide:(2:Nat)<=2)) (rfl:true=true)) ⟨[(26,(.vec 27000)),(24,(.p (vSl 18 A6 p_laws))),(20,(pN x4)),(19,(pN (p_l.n:Int))),(18,(.p (vSl 2 D5 p_l))),(10,(.reg 11000 0)),(7,(.vec 8500)),(0,(.p (vSl 18 A6 p_laws)))], [(27000,(.vec Ap0 2 (Sl.of [(p_l.g x4.toNat)]:Sl O1).n (fun i=>D5 ((Sl.of [(p_l.g x4.toNat)]:Sl O1).g i)) false)),(11000,(.cells [(pN (-1))])),(8500,(.vec H7 1 x3.n (fun i=>(cI .i64) (x3.g i)) false))]⟩ (ids:=[(8500,8500),(11000,11000),(27000,27000)]) ?_ (hle:=(klR [(5, .fn 1 (Sl.of [(p_l.g x4.toNat)]:Sl O1).n (H6 [U7,U7] [(0,D5 (p_l.g x4.toNat))]) (fun i=>D5 ((Sl.of [(p_l.g x4.toNat)]:Sl O1).g i)))] (al1 ⟨rfl,(fun i hi=>match i,hi with | 0,_=>rfl | _+1,hi=>absurd hi (by omega))⟩ al0)))
   obtain ⟨y4,e6,h⟩:=A4 h
   refine A3 hS [] trivial (Af5 hS hL e6) ?_
   obtain ⟨L3,e7,h⟩:=A4 h
   refine AL6 hS trivial [28000,28001] [20,19,18,10,7,0] 905 (fun z3=>⟨[(20,(pN x4)),(19,(pN (p_l.n:Int))),(18,(.p (vSl 2 D5 p_l))),(10,(.reg 11000 0)),(7,(.vec 8500)),(0,(.p (vSl 18 A6 p_laws)))], [(11000,(.cells [(pN z3)])),(8500,(.vec H7 1 x3.n (fun i=>(cI .i64) (x3.g i)) false))]⟩) (idl:=[(8500,8500),(11000,11000)]) h (Z6 hS hL e7) (fun _=>by kernel_rfl) (fun _=>by kernel_rfl) (fun _=>by kernel_rfl) (fun _=>by kernel_rfl) (fun x7 _ self4 z3 hb4 h=>?_) (fun z3 h=>?_)
   ·refine AL7 hS trivial ?_
    exact hb4 _ [(905,905),(8500,8500),(11000,11000)] _ x7 trivial h
   ·obtain ⟨c8,h⟩:=P0 h
    exact hb3 _ [(8500,34000)] _ (x3.push z3) (IntKind.wrap .i64 (x4+1)) (And.intro (rfl:true=true) c8) h (by kernel_rfl) (by kernel_rfl) (klR [(4, .fn (x3.n+1) (x3.push z3).n (An5 x3.n (fun i=>(cI .i64) (x3.g i)) (H6 [(pI .i64 0)] [(0,(cI .i64) z3)])) (fun i=>(cI .i64) ((x3.push z3).g i)))] (al1 ⟨rfl,(Cg2 (c:=(cI .i64)) (v:=x3) (x:=z3) (z:=[(pI .i64 0)]) same rfl rfl)⟩ al0))
  ·replace h:=itF c6 h
   obtain rfl:=A5 h
   exact B6 hS trivial ⟨[(5,(pN 0)),(4,(.vec 8500))], [(8500,(.vec H7 1 x3.n (fun i=>(cI .i64) (x3.g i)) true))]⟩ [8500] (ids:=[(8500,8500)]) ⟨rfl,rfl,rfl⟩
def O9 (N:Nat) (p_laws:(Sl Law)) (p_l:(Sl O1)):Option (G0 × Bool × Int):=
 (K0 N p_laws p_l).bind fun y1=>
 if (y1 != 0)=true then
  some ((⟨0,0⟩:G0),false,y1)
 else
  (G4 N p_laws p_l).bind fun y2=>
  (D4 N y2.1 y2.2).bind fun L1=>
  (W3 N L1).bind fun y3=>
  some (y3.1,y3.2,0)
theorem Ai6 {N:Nat} {p_laws:(Sl Law)} {p_l:(Sl O1)}   {y:(G0 × Bool × Int)} (h:O9 N p_laws p_l=some y) :
 FunO S AH5 [(.p (vSl 18 A6 p_laws)),(.p (vSl 2 D5 p_l))] [] (.tup [(.p (.agg (Al3 y.1))),(pB y.2.1),(pN y.2.2)]) ([]) []:=by
 unfold O9 at h
 refine A7 hS Bm1 ?_
 obtain ⟨y1,e1,h⟩:=A4 h
 refine A3 hS [] trivial (Am3 hS hL e1) ?_
 refine A1 hS trivial (b:=y1 != 0) (fun c1=>?_) (fun c1=>?_)
 ·replace h:=itT c1 h
  obtain rfl:=A5 h
  exact B5 hS trivial [] ⟨rfl,rfl,rfl⟩
 ·replace h:=itF c1 h
  obtain ⟨y2,e2,h⟩:=A4 h
  refine A3 hS [] trivial (Af5 hS hL e2) ?_
  obtain ⟨L1,e3,h⟩:=A4 h
  obtain ⟨y3,e4,h⟩:=A4 h
  refine A3 hS [21000,21001] trivial (AJ2 hS hL ⟨_,Z3,by decide +kernel,by decide +kernel⟩ (Z6 hS hL e3) e4) ?_
  obtain rfl:=A5 h
  exact B5 hS trivial [] ⟨rfl,rfl,rfl⟩
def Ay2 (N:Nat)  : Option Sound:=
 some (⟨5,2⟩:Sound)
theorem AM5 {N:Nat}    {y:Sound} (h:Ay2 N  = some y) :
 FunO S Ca2 [] [] (.p (.agg (A0 y))) ([]) []:=by
 unfold Ay2 at h
 refine A7 hS Cx7 ?_
 obtain rfl:=A5 h
 exact B5 hS trivial [] ⟨rfl,rfl,rfl⟩
def AE8 (N:Nat)  : Option Sound:=
 some (⟨2,5⟩:Sound)
theorem AZ3 {N:Nat}    {y:Sound} (h:AE8 N  = some y) :
 FunO S Ca3 [] [] (.p (.agg (A0 y))) ([]) []:=by
 unfold AE8 at h
 refine A7 hS Cx8 ?_
 obtain rfl:=A5 h
 exact B5 hS trivial [] ⟨rfl,rfl,rfl⟩
def BG2 (N:Nat)  : Option Sound:=
 some (⟨3,4⟩:Sound)
theorem Cy3 {N:Nat}    {y:Sound} (h:BG2 N  = some y) :
 FunO S Ca5 [] [] (.p (.agg (A0 y))) ([]) []:=by
 unfold BG2 at h
 refine A7 hS Cx9 ?_
 obtain rfl:=A5 h
 exact B5 hS trivial [] ⟨rfl,rfl,rfl⟩
def Ap6 (N:Nat)  : Option (Sl Law):=
 some (Sl.of [(⟨[86],(Pat.mk 1 (⟨4,0⟩:Sound) false 0 0 (Sl.nil:Sl Pat).n (Sl.nil:Sl Pat).g),(Pat.mk 1 (⟨4,0⟩:Sound) false 0 0 (Sl.nil:Sl Pat).n (Sl.nil:Sl Pat).g),(Sl.of [(⟨2,0⟩:Sound)]:Sl Sound),(Sl.of [(⟨0,0,(⟨1,0⟩:Sound),0,0⟩:Ad8)]:Sl Ad8),1⟩:Law),(⟨[70],(Pat.mk 0 (⟨0,0⟩:Sound) false 0 0 (Sl.nil:Sl Pat).n (Sl.nil:Sl Pat).g),(Pat.mk 6 (⟨0,0⟩:Sound) false 0 0 (Sl.nil:Sl Pat).n (Sl.nil:Sl Pat).g),(Sl.of [(⟨4,0⟩:Sound)]:Sl Sound),(Sl.nil:Sl Ad8),1⟩:Law)]:Sl Law)
theorem AJ3 {N:Nat}    {y:(Sl Law)} (h:Ap6 N  = some y) :
 FunO S Bv6 [] [] (.vec 0) ([(.vec N7 18 y.n (fun i=>A6 (y.g i)) true)]) []:=by
 unfold Ap6 at h
 refine A7 hS Ca4 ?_
 refine Aa1 hS trivial 6 ⟨[(1,(.reg 2000 0))], [(2000,(.cells [(pN 1),(pU 4),(pU 0),(pB false),(pN 0),(pN 0),(.p (vSl 7 C6 (Sl.nil:Sl Pat)))]))]⟩ (ids:=[(2000,2000)]) ?_
 refine Aa1 hS (And.intro (rfl:true=true) (rfl:true=true)) 13 ⟨[(12,(.p (vSl 6 X9 (Sl.of [(⟨0,0,(⟨1,0⟩:Sound),0,0⟩:Ad8)]:Sl Ad8)))),(9,(.p (vSl 2 A0 (Sl.of [(⟨2,0⟩:Sound)]:Sl Sound)))),(7,(.p (.agg [(pI .i64 1),(pI .u32 4),(pI .u32 0),(.bb false),(pI .i64 0),(pI .i64 0),(vSl 7 C6 (Sl.nil:Sl Pat))]))),(6,(.p (.agg [(pI .i64 1),(pI .u32 4),(pI .u32 0),(.bb false),(pI .i64 0),(pI .i64 0),(vSl 7 C6 (Sl.nil:Sl Pat))])))], []⟩ (ids:=[]) ?_ (hle:=(klR [(0, .fn 1 (Sl.of [(⟨0,0,(⟨1,0⟩:Sound),0,0⟩:Ad8)]:Sl Ad8).n (H6 [(pI .i64 0),(pI .u32 0),(pI .u32 0),(pI .u32 0),(pI .u32 0),(pI .i64 0)] [(0,X9 (⟨0,0,(⟨1,0⟩:Sound),0,0⟩:Ad8))]) (fun i=>X9 ((Sl.of [(⟨0,0,(⟨1,0⟩:Sound),0,0⟩:Ad8)]:Sl Ad8).g i))),(1, .fn 1 (Sl.of [(⟨2,0⟩:Sound)]:Sl Sound).n (H6 [(pI .u32 0),(pI .u32 0)] [(0,A0 (⟨2,0⟩:Sound))]) (fun i=>A0 ((Sl.of [(⟨2,0⟩:Sound)]:Sl Sound).g i)))] (al1 ⟨rfl,(fun i hi=>match i,hi with | 0,_=>rfl | _+1,hi=>absurd hi (by omega))⟩ (al1 ⟨rfl,(fun i hi=>match i,hi with | 0,_=>rfl | _+1,hi=>absurd hi (by omega))⟩ al0))))
 refine Aa1 hS (rfl:true=true) 17 ⟨[(16,(.p (vSl 2 A0 (Sl.of [(⟨4,0⟩:Sound)]:Sl Sound)))),(14,(.p (.agg [(pI .i64 6),(pI .u32 0),(pI .u32 0),(.v (.bool false)),(pI .i64 0),(pI .i64 0),U7]))),(2,(.reg 3000 0))], [(3000,(.cells [(.p (.str [86])),(pN 1),(pU 4),(pU 0),(pB false),(pN 0),(pN 0),(.p (vSl 7 C6 (Sl.nil:Sl Pat))),(pN 1),(pU 4),(pU 0),(pB false),(pN 0),(pN 0),(.p (vSl 7 C6 (Sl.nil:Sl Pat))),(.p (vSl 2 A0 (Sl.of [(⟨2,0⟩:Sound)]:Sl Sound))),(.p (vSl 6 X9 (Sl.of [(⟨0,0,(⟨1,0⟩:Sound),0,0⟩:Ad8)]:Sl Ad8))),(pN 1)]))]⟩ (ids:=[(3000,3000)]) ?_ (hle:=(klR [(0, .fn 1 (Sl.of [(⟨4,0⟩:Sound)]:Sl Sound).n (H6 [(pI .u32 0),(pI .u32 0)] [(0,A0 (⟨4,0⟩:Sound))]) (fun i=>A0 ((Sl.of [(⟨4,0⟩:Sound)]:Sl Sound).g i)))] (al1 ⟨rfl,(fun i hi=>match i,hi with | 0,_=>rfl | _+1,hi=>absurd hi (by omega))⟩ al0)))
 refine Aa1 hS trivial 19 ⟨[(18,(.p (.agg [(.str [86]),(pI .i64 1),(pI .u32 4),(pI .u32 0),(.bb false),(pI .i64 0),(pI .i64 0),(vSl 7 C6 (Sl.nil:Sl Pat)),(pI .i64 1),(pI .u32 4),(pI .u32 0),(.bb false),(pI .i64 0),(pI .i64 0),(vSl 7 C6 (Sl.nil:Sl Pat)),(vSl 2 A0 (Sl.of [(⟨2,0⟩:Sound)]:Sl Sound)),(vSl 6 X9 (Sl.of [(⟨0,0,(⟨1,0⟩:Sound),0,0⟩:Ad8)]:Sl Ad8)),(pI .i64 1)]))),(3,(.reg 4000 0))], [(4000,(.cells [(.p (.str [70])),(pN 0),(pU 0),(pU 0),(pB false),(pN 0),(pN 0),(.p (vSl 7 C6 (Sl.nil:Sl Pat))),(pN 6),(pU 0),(pU 0),(pB false),(pN 0),(pN 0),(.p (vSl 7 C6 (Sl.nil:Sl Pat))),(.p (vSl 2 A0 (Sl.of [(⟨4,0⟩:Sound)]:Sl Sound))),(.p (vSl 6 X9 (Sl.nil:Sl Ad8))),(pN 1)]))]⟩ (ids:=[(4000,4000)]) ?_
 obtain rfl:=A5 h
 exact B6 hS (rfl:true=true) ⟨[(0,(.vec 21000))], [(21000,(.vec N7 18 (Sl.of [(⟨[86],(Pat.mk 1 (⟨4,0⟩:Sound) false 0 0 (Sl.nil:Sl Pat).n (Sl.nil:Sl Pat).g),(Pat.mk 1 (⟨4,0⟩:Sound) false 0 0 (Sl.nil:Sl Pat).n (Sl.nil:Sl Pat).g),(Sl.of [(⟨2,0⟩:Sound)]:Sl Sound),(Sl.of [(⟨0,0,(⟨1,0⟩:Sound),0,0⟩:Ad8)]:Sl Ad8),1⟩:Law),(⟨[70],(Pat.mk 0 (⟨0,0⟩:Sound) false 0 0 (Sl.nil:Sl Pat).n (Sl.nil:Sl Pat).g),(Pat.mk 6 (⟨0,0⟩:Sound) false 0 0 (Sl.nil:Sl Pat).n (Sl.nil:Sl Pat).g),(Sl.of [(⟨4,0⟩:Sound)]:Sl Sound),(Sl.nil:Sl Ad8),1⟩:Law)]:Sl Law).n (fun i=>A6 ((Sl.of [(⟨[86],(Pat.mk 1 (⟨4,0⟩:Sound) false 0 0 (Sl.nil:Sl Pat).n (Sl.nil:Sl Pat).g),(Pat.mk 1 (⟨4,0⟩:Sound) false 0 0 (Sl.nil:Sl Pat).n (Sl.nil:Sl Pat).g),(Sl.of [(⟨2,0⟩:Sound)]:Sl Sound),(Sl.of [(⟨0,0,(⟨1,0⟩:Sound),0,0⟩:Ad8)]:Sl Ad8),1⟩:Law),(⟨[70],(Pat.mk 0 (⟨0,0⟩:Sound) false 0 0 (Sl.nil:Sl Pat).n (Sl.nil:Sl Pat).g),(Pat.mk 6 (⟨0,0⟩:Sound) false 0 0 (Sl.nil:Sl Pat).n (Sl.nil:Sl Pat).g),(Sl.of [(⟨4,0⟩:Sound)]:Sl Sound),(Sl.nil:Sl Ad8),1⟩:Law)]:Sl Law).g i)) true))]⟩ [21000] (ids:=[(21000,21000)]) ⟨rfl,rfl,rfl⟩ (hle:=(klR [(0, .fn 2 (Sl.of [(⟨[86],(Pat.mk 1 (⟨4,0⟩:Sound) false 0 0 (Sl.nil:Sl Pat).n (Sl.nil:Sl Pat).g),(Pat.mk 1 (⟨4,0⟩:Sound) false 0 0 (Sl.nil:Sl Pat).n (Sl.nil:Sl Pat).g),(Sl.of [(⟨2,0⟩:Sound)]:Sl Sound),(Sl.of [(⟨0,0,(⟨1,0⟩:Sound),0,0⟩:Ad8)]:Sl Ad8),1⟩:Law),(⟨[70],(Pat.mk 0 (⟨0,0⟩:Sound) false 0 0 (Sl.nil:Sl Pat).n (Sl.nil:Sl Pat).g),(Pat.mk 6 (⟨0,0⟩:Sound) false 0 0 (Sl.nil:Sl Pat).n (Sl.nil:Sl Pat).g),(Sl.of [(⟨4,0⟩:Sound)]:Sl Sound),(Sl.nil:Sl Ad8),1⟩:Law)]:Sl Law).n (H6 [(.str []),(pI .i64 0),(pI .u32 0),(pI .u32 0),(.v (.bool false)),(pI .i64 0),(pI .i64 0),U7,(pI .i64 0),(pI .u32 0),(pI .u32 0),(.v (.bool false)),(pI .i64 0),(pI .i64 0),U7,U7,U7,(pI .i64 0)] [(0,A6 (⟨[86],(Pat.mk 1 (⟨4,0⟩:Sound) false 0 0 (Sl.nil:Sl Pat).n (Sl.nil:Sl Pat).g),(Pat.mk 1 (⟨4,0⟩:Sound) false 0 0 (Sl.nil:Sl Pat).n (Sl.nil:Sl Pat).g),(Sl.of [(⟨2,0⟩:Sound)]:Sl Sound),(Sl.of [(⟨0,0,(⟨1,0⟩:Sound),0,0⟩:Ad8)]:Sl Ad8),1⟩:Law)),(1,A6 (⟨[70],(Pat.mk 0 (⟨0,0⟩:Sound) false 0 0 (Sl.nil:Sl Pat).n (Sl.nil:Sl Pat).g),(Pat.mk 6 (⟨0,0⟩:Sound) false 0 0 (Sl.nil:Sl Pat).n (Sl.nil:Sl Pat).g),(Sl.of [(⟨4,0⟩:Sound)]:Sl Sound),(Sl.nil:Sl Ad8),1⟩:Law))]) (fun i=>A6 ((Sl.of [(⟨[86],(Pat.mk 1 (⟨4,0⟩:Sound) false 0 0 (Sl.nil:Sl Pat).n (Sl.nil:Sl Pat).g),(Pat.mk 1 (⟨4,0⟩:Sound) false 0 0 (Sl.nil:Sl Pat).n (Sl.nil:Sl Pat).g),(Sl.of [(⟨2,0⟩:Sound)]:Sl Sound),(Sl.of [(⟨0,0,(⟨1,0⟩:Sound),0,0⟩:Ad8)]:Sl Ad8),1⟩:Law),(⟨[70],(Pat.mk 0 (⟨0,0⟩:Sound) false 0 0 (Sl.nil:Sl Pat).n (Sl.nil:Sl Pat).g),(Pat.mk 6 (⟨0,0⟩:Sound) false 0 0 (Sl.nil:Sl Pat).n (Sl.nil:Sl Pat).g),(Sl.of [(⟨4,0⟩:Sound)]:Sl Sound),(Sl.nil:Sl Ad8),1⟩:Law)]:Sl Law).g i)))] (al1 ⟨rfl,(fun i hi=>match i,hi with | 0,_=>rfl | 1,_=>rfl | _+2,hi=>absurd hi (by omega))⟩ al0)))
def Ab2 (N:Nat) (p_l:(Sl Int)) (p_m:(Sl Int)):Option Bool:=
 if ((p_l.n:Int) != (p_m.n:Int))=true then
  some false
 else
  Aa9 N (fun self1 (x1:Int)=>
   if (decide (x1 < (p_l.n:Int)))=true then
    if (((0:Int)<=x1/\x1 < (p_l.n:Int))/\((0:Int)<=x1/\x1 < (p_m.n:Int))) then
     if ((p_l.g x1.toNat) != (p_m.g x1.toNat))=true then
      some false
     else
      self1 (IntKind.wrap .i64 (x1+1))
    else none
   else
    some true
   ) 0
theorem Bi5 {N:Nat} {p_l:(Sl Int)} {p_m:(Sl Int)}   {y:Bool} (h:Ab2 N p_l p_m=some y) :
 FunO S Bh8 [(.p (vSl 1 (cI .i64) p_l)),(.p (vSl 1 (cI .i64) p_m))] [] (pB y) ([]) []:=by
 unfold Ab2 at h
 refine A7 hS BR2 ?_
 refine A1 hS trivial (b:=(p_l.n:Int) != (p_m.n:Int)) (fun c1=>?_) (fun c1=>?_)
 ·replace h:=itT c1 h
  obtain rfl:=A5 h
  exact B5 hS trivial [] ⟨rfl,rfl,rfl⟩
 ·replace h:=itF c1 h
  refine Ai0 hS trivial h (fun x1=>⟨[(5,(pN x1)),(1,(.p (vSl 1 (cI .i64) p_m))),(0,(.p (vSl 1 (cI .i64) p_l)))], []⟩) (ids:=[]) (fun _ _ _ _ _ self1 x1 hb1 h=>?_)
  refine A1 hS trivial (b:=decide (x1 < (p_l.n:Int))) (fun c8=>?_) (fun c8=>?_)
  ·replace h:=itT c8 h
   refine Q4 hS trivial [2,3,6,7] ?_
   obtain ⟨c9,h⟩:=P0 h
   refine Q1 c9 ?_
   refine A1 hS trivial (b:=(p_l.g x1.toNat) != (p_m.g x1.toNat)) (fun c10=>?_) (fun c10=>?_)
   ·replace h:=itT c10 h
    obtain rfl:=A5 h
    exact B5 hS trivial [] ⟨rfl,rfl,rfl⟩
   ·replace h:=itF c10 h
    exact hb1 _ [] _ (IntKind.wrap .i64 (x1+1)) trivial h
  ·replace h:=itF c8 h
   obtain rfl:=A5 h
   exact B5 hS trivial [] ⟨rfl,rfl,rfl⟩
def AA3 (N:Nat) (p_x:G0) (p_y:S4):Option Bool:=
 some ((p_x.First == p_y.First) && (p_x.Last == p_y.Last))
theorem CB1 {N:Nat} {p_x:G0} {p_y:S4}   {y:Bool} (h:AA3 N p_x p_y=some y) :
 FunO S Bh9 [(.p (.agg (Al3 p_x))),(.p (.agg (BR0 p_y)))] [] (pB y) ([]) []:=by
 unfold AA3 at h
 refine A7 hS BR3 ?_
 obtain ⟨t1,ht1⟩:∃ x:Bool,x=((p_x.First == p_y.First) && (p_x.Last == p_y.Last)):=⟨_,rfl⟩
 refine Ai3 hS trivial (B4 hS) 0 ⟨[(4,(pB t1))], []⟩ (fun M1 hb1=>?_) ?_
 ·refine A9 hS trivial (b:=p_x.First == p_y.First) (fun c2=>?_) (fun c2=>?_)
  ·exact hb1 _ [] _ trivial (by kernel_rfl) (by kernel_rfl) (klR [(0, .eq (.bb (p_x.Last == p_y.Last)) (.bb t1))] (al1 (by simp only [ht1,c2,Leaf.ok,pm,if_true,if_false]) al0))
  ·exact hb1 _ [] _ trivial (by kernel_rfl) (by kernel_rfl) (klR [(0, .eq (.bb false) (.bb t1))] (al1 (by simp only [ht1,c2,Leaf.ok,pm,if_true,if_false]) al0))
 ·subst ht1
  obtain rfl:=A5 h
  exact B5 hS trivial [] ⟨rfl,rfl,rfl⟩
def Q0 (N:Nat) (p_l:(Sl Int)) (p_n:Int):Option Bool:=
 Aa9 N (fun self1 (x1:Int)=>
  if (decide (x1 < (p_l.n:Int)))=true then
   if ((0:Int)<=x1/\x1 < (p_l.n:Int)) then
    if ((p_l.g x1.toNat) == p_n)=true then
     some true
    else
     self1 (IntKind.wrap .i64 (x1+1))
   else none
  else
   some false
  ) 0
theorem Ap7 {N:Nat} {p_l:(Sl Int)} {p_n:Int}   {y:Bool} (h:Q0 N p_l p_n=some y) :
 FunO S Bv4 [(.p (vSl 1 (cI .i64) p_l)),(pN p_n)] [] (pB y) ([]) []:=by
 unfold Q0 at h
 refine A7 hS Ca1 ?_
 refine Ai0 hS trivial h (fun x1=>⟨[(5,(pN x1)),(1,(pN p_n)),(0,(.p (vSl 1 (cI .i64) p_l)))], []⟩) (ids:=[]) (fun _ _ _ _ _ self1 x1 hb1 h=>?_)
 refine A1 hS trivial (b:=decide (x1 < (p_l.n:Int))) (fun c7=>?_) (fun c7=>?_)
 ·replace h:=itT c7 h
  obtain ⟨c8,h⟩:=P0 h
  refine A1 hS c8 (b:=(p_l.g x1.toNat) == p_n) (fun c9=>?_) (fun c9=>?_)
  ·replace h:=itT c9 h
   obtain rfl:=A5 h
   exact B5 hS trivial [] ⟨rfl,rfl,rfl⟩
  ·replace h:=itF c9 h
   exact hb1 _ [] _ (IntKind.wrap .i64 (x1+1)) trivial h
 ·replace h:=itF c7 h
  obtain rfl:=A5 h
  exact B5 hS trivial [] ⟨rfl,rfl,rfl⟩
def B7 (N:Nat)  : Option Bool:=
 (Ay2 N ).bind fun y1=>
 (AE8 N ).bind fun y2=>
 (Ay2 N ).bind fun y3=>
 (AE8 N ).bind fun y4=>
 (Ay2 N ).bind fun y5=>
 (AE8 N ).bind fun y6=>
 (Ap6 N ).bind fun y7=>
 (Ay2 N ).bind fun y8=>
 (AE8 N ).bind fun y9=>
 (I9 N y7 (Sl.of [y1,y2,y3]:Sl Sound) (Sl.of [y8,y9]:Sl Sound)).bind fun y10=>
 (Ap6 N ).bind fun y11=>
 (O7 N y11 (Sl.of [y4,y5,y6]:Sl Sound) (Sl.of [y4,y5,y6]:Sl Sound)).bind fun y12=>
 (Ap6 N ).bind fun y13=>
 (Ay2 N ).bind fun y14=>
 (AE8 N ).bind fun y15=>
 (S0 N y13 (Sl.of [y1,y2,y3]:Sl Sound) (Sl.of [y14,y15]:Sl Sound)).bind fun y16=>
 (Ap6 N ).bind fun y17=>
 (Ay2 N ).bind fun y18=>
 (BG2 N ).bind fun y19=>
 (J0 N y17 (Sl.of [y1,y2,y3]:Sl Sound) (Sl.of [y18,y19]:Sl Sound)).bind fun y20=>
 lt (fun (z1:Bool)=>
  some z1
  ) fun k1=>
  if (y10.2 == 0)=true then
   (Ab2 N y10.1 (Sl.of [1]:Sl Int)).bind fun y23=>
   if y23=true then
    if (y12.2.2 == 0)=true then
     if y12.2.1=true then
      if (((y12.1.First == 0) && (y12.1.Last == 2)) != false)=true then
       if (y16.2 == 0)=true then
        (Ab2 N y16.1 (Sl.of [0]:Sl Int)).bind fun y24=>
        if y24=true then
         if (y20.2 == 0)=true then
          k1 y20.1
         else
          k1 false
        else
         k1 false
       else
        k1 false
      else
       k1 false
     else
      k1 false
    else
     k1 false
   else
    k1 false
  else
   k1 false
theorem E6 {N:Nat}    {y:Bool} (h:B7 N  = some y) :
 FunO S AW7 [] [] (pB y) ([]) []:=by
 unfold B7 at h
 refine A7 hS BD6 ?_
 obtain ⟨y1,e1,h⟩:=A4 h
 refine A3 hS [] trivial (AM5 hS hL e1) ?_
 obtain ⟨y2,e2,h⟩:=A4 h
 refine A3 hS [] trivial (AZ3 hS hL e2) ?_
 obtain ⟨y3,e3,h⟩:=A4 h
 refine A3 hS [] trivial (AM5 hS hL e3) ?_
 obtain ⟨y4,e4,h⟩:=A4 h
 refine A3 hS [] (rfl:true=true) (AZ3 hS hL e4) ?_
 obtain ⟨y5,e5,h⟩:=A4 h
 refine A3 hS [] trivial (AM5 hS hL e5) ?_
 obtain ⟨y6,e6,h⟩:=A4 h
 refine A3 hS [] trivial (AZ3 hS hL e6) ?_
 obtain ⟨y7,e7,h⟩:=A4 h
 refine A3 hS [] (rfl:true=true) (AJ3 hS hL e7) ?_
 obtain ⟨y8,e8,h⟩:=A4 h
 refine A3 hS [] trivial (AM5 hS hL e8) ?_
 obtain ⟨y9,e9,h⟩:=A4 h
 refine A3 hS [] trivial (AZ3 hS hL e9) ?_
 refine T3 hS (rfl:true=true) ⟨[(25,(.vec 26000)),(22,(.vec 16000)),(21,(.vec 22000)),(2,(.vec 20000)),(1,(.vec 16000))], [(26000,(.vec B9 2 (Sl.of [y8,y9]:Sl Sound).n (fun i=>A0 ((Sl.of [y8,y9]:Sl Sound).g i)) false)),(22000,(.vec N7 18 y7.n (fun i=>A6 (y7.g i)) true)),(20000,(.vec B9 2 (Sl.of [y4,y5,y6]:Sl Sound).n (fun i=>A0 ((Sl.of [y4,y5,y6]:Sl Sound).g i)) false)),(16000,(.vec B9 2 (Sl.of [y1,y2,y3]:Sl Sound).n (fun i=>A0 ((Sl.of [y1,y2,y3]:Sl Sound).g i)) false))]⟩ (ids:=[(16000,16000),(20000,20000),(22000,22000),(26000,26000)]) ?_ (hle:=(klR [(0, .fn 2 (Sl.of [y8,y9]:Sl Sound).n (H6 [(pI .u32 0),(pI .u32 0)] [(0,A0 y8),(1,A0 y9)]) (fun i=>A0 ((Sl.of [y8,y9]:Sl Sound).g i))),(2, .fn 3 (Sl.of [y4,y5,y6]:Sl Sound).n (H6 [(pI .u32 0),(pI .u32 0)] [(0,A0 y4),(1,A0 y5),(2,A0 y6)]) (fun i=>A0 ((Sl.of [y4,y5,y6]:Sl Sound).g i))),(3, .fn 3 (Sl.of [y1,y2,y3]:Sl Sound).n (H6 [(pI .u32 0),(pI .u32 0)] [(0,A0 y1),(1,A0 y2),(2,A0 y3)]) (fun i=>A0 ((Sl.of [y1,y2,y3]:Sl Sound).g i)))] (al1 ⟨rfl,(fun i hi=>match i,hi with | 0,_=>rfl | 1,_=>rfl | _+2,hi=>absurd hi (by omega))⟩ (al1 ⟨rfl,(fun i hi=>match i,hi with | 0,_=>rfl | 1,_=>rfl | 2,_=>rfl | _+3,hi=>absurd hi (by omega))⟩ (al1 ⟨rfl,(fun i hi=>match i,hi with | 0,_=>rfl | 1,_=>rfl | 2,_=>rfl | _+3,hi=>absurd hi (by omega))⟩ al0)))))
 obtain ⟨y10,e10,h⟩:=A4 h
 refine A3 hS [] trivial (Af7 hS hL e10) ?_
 obtain ⟨y11,e11,h⟩:=A4 h
 refine A3 hS [] trivial (AJ3 hS hL e11) ?_
 obtain ⟨y12,e12,h⟩:=A4 h
 refine A3 hS [] trivial (Am2 hS hL e12) ?_
 obtain ⟨y13,e13,h⟩:=A4 h
 refine A3 hS [] trivial (AJ3 hS hL e13) ?_
 obtain ⟨y14,e14,h⟩:=A4 h
 refine A3 hS [] trivial (AM5 hS hL e14) ?_
 obtain ⟨y15,e15,h⟩:=A4 h
 refine A3 hS [] trivial (AZ3 hS hL e15) ?_
 refine T3 hS (rfl:true=true) ⟨[(42,(.vec 43000)),(39,(.vec 16000)),(38,(.vec 39000)),(7,(pN y12.2.2)),(6,(pB y12.2.1)),(5,(.reg 6000 0)),(4,(pN y10.2)),(3,(.vec 27000)),(1,(.vec 16000))], [(43000,(.vec B9 2 (Sl.of [y14,y15]:Sl Sound).n (fun i=>A0 ((Sl.of [y14,y15]:Sl Sound).g i)) false)),(39000,(.vec N7 18 y13.n (fun i=>A6 (y13.g i)) true)),(27000,(.vec H7 1 y10.1.n (fun i=>(cI .i64) (y10.1.g i)) true)),(16000,(.vec B9 2 (Sl.of [y1,y2,y3]:Sl Sound).n (fun i=>A0 ((Sl.of [y1,y2,y3]:Sl Sound).g i)) true)),(6000,(.cells [(pN y12.1.First),(pN y12.1.Last)]))]⟩ (ids:=[(6000,6000),(16000,16000),(27000,27000),(39000,39000),(43000,43000)]) ?_ (hle:=(klR [(3, .fn 2 (Sl.of [y14,y15]:Sl Sound).n (H6 [(pI .u32 0),(pI .u32 0)] [(0,A0 y14),(1,A0 y15)]) (fun i=>A0 ((Sl.of [y14,y15]:Sl Sound).g i)))] (al1 ⟨rfl,(fun i hi=>match i,hi with | 0,_=>rfl | 1,_=>rfl | _+2,hi=>absurd hi (by omega))⟩ al0)))
 obtain ⟨y16,e16,h⟩:=A4 h
 refine A3 hS [] trivial (AD4 hS hL e16) ?_
 obtain ⟨y17,e17,h⟩:=A4 h
 refine A3 hS [] trivial (AJ3 hS hL e17) ?_
 obtain ⟨y18,e18,h⟩:=A4 h
 refine A3 hS [] trivial (AM5 hS hL e18) ?_
 obtain ⟨y19,e19,h⟩:=A4 h
 refine A3 hS [] trivial (Cy3 hS hL e19) ?_
 refine T3 hS (rfl:true=true) ⟨[(51,(.vec 52000)),(48,(.vec 16000)),(47,(.vec 48000)),(9,(pN y16.2)),(8,(.vec 44000)),(7,(pN y12.2.2)),(6,(pB y12.2.1)),(5,(.reg 6000 0)),(4,(pN y10.2)),(3,(.vec 27000))], [(52000,(.vec B9 2 (Sl.of [y18,y19]:Sl Sound).n (fun i=>A0 ((Sl.of [y18,y19]:Sl Sound).g i)) false)),(48000,(.vec N7 18 y17.n (fun i=>A6 (y17.g i)) true)),(44000,(.vec H7 1 y16.1.n (fun i=>(cI .i64) (y16.1.g i)) true)),(27000,(.vec H7 1 y10.1.n (fun i=>(cI .i64) (y10.1.g i)) true)),(16000,(.vec B9 2 (Sl.of [y1,y2,y3]:Sl Sound).n (fun i=>A0 ((Sl.of [y1,y2,y3]:Sl Sound).g i)) true)),(6000,(.cells [(pN y12.1.First),(pN y12.1.Last)]))]⟩ (ids:=[(6000,6000),(16000,16000),(27000,27000),(44000,44000),(48000,48000),(52000,52000)]) ?_ (hle:=(klR [(4, .fn 2 (Sl.of [y18,y19]:Sl Sound).n (H6 [(pI .u32 0),(pI .u32 0)] [(0,A0 y18),(1,A0 y19)]) (fun i=>A0 ((Sl.of [y18,y19]:Sl Sound).g i)))] (al1 ⟨rfl,(fun i hi=>match i,hi with | 0,_=>rfl | 1,_=>rfl | _+2,hi=>absurd hi (by omega))⟩ al0)))
 obtain ⟨y20,e20,h⟩:=A4 h
 refine A3 hS [] trivial (Af8 hS hL e20) ?_
 refine Bb4 hS trivial (B4 hS) h 0 (fun z1=>⟨[(0,(pB z1))], []⟩) (fun M1 k1 hb1 h=>?_) (fun z1 h=>?_)
 ·refine A9 hS trivial (b:=y10.2 == 0) (fun c10=>?_) (fun c10=>?_)
  ·replace h:=itT c10 h
   refine T3 hS (rfl:true=true) ⟨[(59,(.vec 60000)),(58,(.vec 27000)),(57,(.p (.v (.bool true)))),(11,(pN y20.2)),(10,(pB y20.1)),(9,(pN y16.2)),(8,(.vec 44000)),(7,(pN y12.2.2)),(6,(pB y12.2.1)),(5,(.reg 6000 0))], [(60000,(.vec H7 1 (Sl.of [1]:Sl Int).n (fun i=>(cI .i64) ((Sl.of [1]:Sl Int).g i)) false)),(44000,(.vec H7 1 y16.1.n (fun i=>(cI .i64) (y16.1.g i)) true)),(27000,(.vec H7 1 y10.1.n (fun i=>(cI .i64) (y10.1.g i)) true)),(6000,(.cells [(pN y12.1.First),(pN y12.1.Last)]))]⟩ (ids:=[(6000,6000),(27000,27000),(44000,44000),(60000,60000)]) ?_ (hle:=(klR [(6, .fn 1 (Sl.of [1]:Sl Int).n (H6 [(pI .i64 0)] [(0,(cI .i64) 1)]) (fun i=>(cI .i64) ((Sl.of [1]:Sl Int).g i)))] (al1 ⟨rfl,(fun i hi=>match i,hi with | 0,_=>rfl | _+1,hi=>absurd hi (by omega))⟩ al0)))
   obtain ⟨y23,e23,h⟩:=A4 h
   refine A3 hS [] trivial (Bi5 hS hL e23) ?_
   refine A9 hS trivial (b:=y23) (fun c11=>?_) (fun c11=>?_)
   ·replace h:=itT c11 h
    refine A9 hS trivial (b:=y12.2.2 == 0) (fun c12=>?_) (fun c12=>?_)
    ·replace h:=itT c12 h
     refine A9 hS trivial (b:=y12.2.1) (fun c13=>?_) (fun c13=>?_)
     ·replace h:=itT c13 h
      refine A9 hS (by decide +kernel:Cg0 Tryz.prog Aw9=true) (b:=(((y12.1.First == 0) && (y12.1.Last == 2)) != false)) (fun c14=>?_) (fun c14=>?_)
      ·replace h:=itT c14 h
       refine A9 hS trivial (b:=y16.2 == 0) (fun c15=>?_) (fun c15=>?_)
       ·replace h:=itT c15 h
        refine T3 hS (rfl:true=true) ⟨[(80,(.vec 81000)),(79,(.vec 44000)),(78,(.p (.v (.bool true)))),(11,(pN y20.2)),(10,(pB y20.1))], [(81000,(.vec H7 1 (Sl.of [0]:Sl Int).n (fun i=>(cI .i64) ((Sl.of [0]:Sl Int).g i)) false)),(44000,(.vec H7 1 y16.1.n (fun i=>(cI .i64) (y16.1.g i)) true))]⟩ (ids:=[(44000,44000),(81000,81000)]) ?_ (hle:=(klR [(3, .fn 1 (Sl.of [0]:Sl Int).n (H6 [(pI .i64 0)] [(0,(cI .i64) 0)]) (fun i=>(cI .i64) ((Sl.of [0]:Sl Int).g i)))] (al1 ⟨rfl,(fun i hi=>match i,hi with | 0,_=>rfl | _+1,hi=>absurd hi (by omega))⟩ al0)))
        obtain ⟨y24,e24,h⟩:=A4 h
        refine A3 hS [] trivial (Bi5 hS hL e24) ?_
        refine A9 hS trivial (b:=y24) (fun c16=>?_) (fun c16=>?_)
        ·replace h:=itT c16 h
         refine A9 hS trivial (b:=y20.2 == 0) (fun c17=>?_) (fun c17=>?_)
         ·replace h:=itT c17 h
          exact hb1 _ [] _ y20.1 trivial h
         ·replace h:=itF c17 h
          exact hb1 _ [] _ false trivial h
        ·replace h:=itF c16 h
         exact hb1 _ [] _ false trivial h
       ·replace h:=itF c15 h
        exact hb1 _ [] _ false trivial h
      ·replace h:=itF c14 h
       exact hb1 _ [] _ false trivial h
     ·replace h:=itF c13 h
      exact hb1 _ [] _ false trivial h
    ·replace h:=itF c12 h
     exact hb1 _ [] _ false trivial h
   ·replace h:=itF c11 h
    exact hb1 _ [] _ false trivial h
  ·replace h:=itF c10 h
   exact hb1 _ [] _ false trivial h
 ·obtain rfl:=A5 h
  exact B5 hS trivial [] ⟨rfl,rfl,rfl⟩
def Ad2 (N:Nat) (p_laws:(Sl Law)) (p_v:(Sl Sound)) (p_w:(Sl Sound)):Option Bool:=
 (P7 N p_laws).bind fun y1=>
 if (decide (4 < y1))=true then
  (B7 N ).bind fun y2=>
  some y2
 else
  (I9 N p_laws p_v p_w).bind fun y3=>
  if ((decide (8 < (p_laws.n:Int))) || (y3.2 != 0))=true then
   lt (fun (z1:Bool)=>
    some z1
    ) fun k1=>
    if (decide (8 < (p_laws.n:Int)))=true then
     (B7 N ).bind fun y6=>
     k1 y6
    else
     if ((y3.1.n:Int) == 0)=true then
      (B7 N ).bind fun y7=>
      k1 y7
     else
      k1 false
  else
   (J0 N p_laws p_v p_w).bind fun y8=>
   (O7 N p_laws p_v p_w).bind fun y9=>
   lt (fun (z2:Bool)=>
    if z2=true then
     some false
    else
     if (!y9.2.1)=true then
      lt (fun (z3:Bool)=>
       some z3
       ) fun k3=>
       if (((y9.1.First == 0) && (y9.1.Last == 0)) != false)=true then
        (B7 N ).bind fun y17=>
        k3 y17
       else
        k3 false
     else
      if (((0:Int)<=0/\0 < (y3.1.n:Int))/\0 < y3.1.n) then
       if (y9.1.First == (y3.1.g 0))=true then
        if (((0:Int)<=(IntKind.wrap .i64 ((y3.1.n:Int) - 1))/\(IntKind.wrap .i64 ((y3.1.n:Int) - 1)) < (y3.1.n:Int))/\(IntKind.wrap .i64 ((y3.1.n:Int) - 1)).toNat < y3.1.n) then
         if (y9.1.Last == (y3.1.g (IntKind.wrap .i64 ((y3.1.n:Int) - 1)).toNat))=true then
          (B7 N ).bind fun y18=>
          some y18
         else
          some false
        else none
       else
        some false
      else none
    ) fun k2=>
    if (y8.2 != 0)=true then
     k2 true
    else
     if (y9.2.2 != 0)=true then
      k2 true
     else
      (Q0 N y3.1 0).bind fun y13=>
      if ((y13 == y8.1) != true)=true then
       k2 true
      else
       (Q0 N y3.1 (p_laws.n:Int)).bind fun y14=>
       (T9 N p_v p_w).bind fun y15=>
       if ((y14 == y15) != true)=true then
        k2 true
       else
        k2 ((y9.2.1 == (decide (0 < (y3.1.n:Int)))) != true)
theorem AZ4 {N:Nat} {p_laws:(Sl Law)} {p_v:(Sl Sound)} {p_w:(Sl Sound)}   {y:Bool} (h:Ad2 N p_laws p_v p_w=some y) :
 FunO S Aj5 [(.p (vSl 18 A6 p_laws)),(.p (vSl 2 A0 p_v)),(.p (vSl 2 A0 p_w))] [] (pB y) ([]) []:=by
 unfold Ad2 at h
 refine A7 hS Aw2 ?_
 obtain ⟨y1,e1,h⟩:=A4 h
 refine A3 hS [] trivial (Ap3 hS hL e1) ?_
 refine A1 hS trivial (b:=decide (4 < y1)) (fun c1=>?_) (fun c1=>?_)
 ·replace h:=itT c1 h
  obtain ⟨y2,e2,h⟩:=A4 h
  refine A3 hS [] trivial (E6 hS hL e2) ?_
  obtain rfl:=A5 h
  exact B5 hS trivial [] ⟨rfl,rfl,rfl⟩
 ·replace h:=itF c1 h
  obtain ⟨y3,e3,h⟩:=A4 h
  refine A3 hS [] trivial (Af7 hS hL e3) ?_
  obtain ⟨t1,ht1⟩:∃ x:Bool,x=((decide (8 < (p_laws.n:Int))) || (y3.2 != 0)):=⟨_,rfl⟩
  refine Ai3 hS trivial (B4 hS) 0 ⟨[(31,(pB t1)),(7,(.vec 23000)),(2,(.p (vSl 2 A0 p_w))),(1,(.p (vSl 2 A0 p_v))),(0,(.p (vSl 18 A6 p_laws)))], [(23000,(.vec H7 1 y3.1.n (fun i=>(cI .i64) (y3.1.g i)) true))]⟩ (fun M1 hb1=>?_) ?_
  ·refine A9 hS trivial (b:=decide (8 < (p_laws.n:Int))) (fun c3=>?_) (fun c3=>?_)
   ·exact hb1 _ [(23000,23000)] _ trivial (by kernel_rfl) (by kernel_rfl) (klR [(0, .eq (.bb true) (.bb t1))] (al1 (by simp only [ht1,c3,Leaf.ok,pm,if_true,if_false]) al0))
   ·exact hb1 _ [(23000,23000)] _ trivial (by kernel_rfl) (by kernel_rfl) (klR [(0, .eq (.bb (y3.2 != 0)) (.bb t1))] (al1 (by simp only [ht1,c3,Leaf.ok,pm,if_true,if_false]) al0))
  ·subst ht1
   refine A1 hS trivial (b:=((decide (8 < (p_laws.n:Int))) || (y3.2 != 0))) (fun c4=>?_) (fun c4=>?_)
   ·replace h:=itT c4 h
    refine Bb4 hS trivial (B4 hS) h 0 (fun z1=>⟨[(6,(pB z1))], []⟩) (fun M2 k1 hb2 h=>?_) (fun z1 h=>?_)
    ·refine A9 hS trivial (b:=decide (8 < (p_laws.n:Int))) (fun c8=>?_) (fun c8=>?_)
     ·replace h:=itT c8 h
      obtain ⟨y6,e6,h⟩:=A4 h
      refine A3 hS [] trivial (E6 hS hL e6) ?_
      exact hb2 _ [] _ y6 trivial h
     ·replace h:=itF c8 h
      refine A9 hS trivial (b:=(y3.1.n:Int) == 0) (fun c9=>?_) (fun c9=>?_)
      ·replace h:=itT c9 h
       obtain ⟨y7,e7,h⟩:=A4 h
       refine A3 hS [] trivial (E6 hS hL e7) ?_
       exact hb2 _ [] _ y7 trivial h
      ·replace h:=itF c9 h
       exact hb2 _ [] _ false trivial h
    ·obtain rfl:=A5 h
     exact B5 hS trivial [] ⟨rfl,rfl,rfl⟩
   ·replace h:=itF c4 h
    obtain ⟨y8,e8,h⟩:=A4 h
    refine A3 hS [] trivial (Af8 hS hL e8) ?_
    obtain ⟨y9,e9,h⟩:=A4 h
    refine A3 hS [] trivial (Am2 hS hL e9) ?_
    refine Ac2 hS trivial 12 12000 [(pI .i64 y9.1.First),(pI .i64 y9.1.Last)] ?_
    refine Bb4 hS trivial (B4 hS) h 0 (fun z2=>⟨[(86,(pB z2)),(12,(pB y9.2.1)),(11,(.p (.ptr [(pI .i64 y9.1.First),(pI .i64 y9.1.Last)]))),(7,(.vec 23000))], [(23000,(.vec H7 1 y3.1.n (fun i=>(cI .i64) (y3.1.g i)) true))]⟩) (fun M3 k2 hb3 h=>?_) (fun z2 h=>?_)
    ·refine A9 hS trivial (b:=y8.2 != 0) (fun c16=>?_) (fun c16=>?_)
     ·replace h:=itT c16 h
      exact hb3 _ [(23000,23000)] _ true trivial h
     ·replace h:=itF c16 h
      refine A9 hS trivial (b:=y9.2.2 != 0) (fun c17=>?_) (fun c17=>?_)
      ·replace h:=itT c17 h
       exact hb3 _ [(23000,23000)] _ true trivial h
      ·replace h:=itF c17 h
       obtain ⟨y13,e13,h⟩:=A4 h
       refine A3 hS [] trivial (Ap7 hS hL e13) ?_
       refine A9 hS trivial (b:=((y13 == y8.1) != true)) (fun c18=>?_) (fun c18=>?_)
       ·replace h:=itT c18 h
        exact hb3 _ [(23000,23000)] _ true trivial h
       ·replace h:=itF c18 h
        obtain ⟨y14,e14,h⟩:=A4 h
        refine A3 hS [] trivial (Ap7 hS hL e14) ?_
        obtain ⟨y15,e15,h⟩:=A4 h
        refine A3 hS [] trivial (Ax3 hS hL e15) ?_
        refine A9 hS trivial (b:=((y14 == y15) != true)) (fun c19=>?_) (fun c19=>?_)
        ·replace h:=itT c19 h
         exact hb3 _ [(23000,23000)] _ true trivial h
        ·replace h:=itF c19 h
         exact hb3 _ [(23000,23000)] _ ((y9.2.1 == (decide (0 < (y3.1.n:Int)))) != true) trivial h
    ·refine A1 hS trivial (b:=z2) (fun c20=>?_) (fun c20=>?_)
     ·replace h:=itT c20 h
      obtain rfl:=A5 h
      exact B5 hS trivial [] ⟨rfl,rfl,rfl⟩
     ·replace h:=itF c20 h
      refine A1 hS trivial (b:=!y9.2.1) (fun c21=>?_) (fun c21=>?_)
      ·replace h:=itT c21 h
       refine Bb4 hS (And.intro (by decide:(2:Nat)<=2) (by decide +kernel:Cg0 Tryz.prog Aw9=true)) (B4 hS) h 0 (fun z3=>⟨[(6,(pB z3))], []⟩) (fun M4 k3 hb4 h=>?_) (fun z3 h=>?_)
       ·refine A9 hS trivial (b:=(((y9.1.First == 0) && (y9.1.Last == 0)) != false)) (fun c24=>?_) (fun c24=>?_)
        ·replace h:=itT c24 h
         obtain ⟨y17,e17,h⟩:=A4 h
         refine A3 hS [] trivial (E6 hS hL e17) ?_
         exact hb4 _ [] _ y17 trivial h
        ·replace h:=itF c24 h
         exact hb4 _ [] _ false trivial h
       ·obtain rfl:=A5 h
        exact B5 hS trivial [] ⟨rfl,rfl,rfl⟩
      ·replace h:=itF c21 h
       refine Q4 hS trivial [1,8,18] ?_
       obtain ⟨c25,h⟩:=P0 h
       refine Av8 c25 (b:=y9.1.First == (y3.1.g 0)) (fun c26=>?_) (fun c26=>?_)
       ·replace h:=itT c26 h
        obtain ⟨c27,h⟩:=P0 h
        refine Av8 c27 (b:=y9.1.Last == (y3.1.g (IntKind.wrap .i64 ((y3.1.n:Int) - 1)).toNat)) (fun c28=>?_) (fun c28=>?_)
        ·replace h:=itT c28 h
         obtain ⟨y18,e18,h⟩:=A4 h
         refine At2 trivial (E6 hS hL e18) ?_
         refine Q1 trivial ?_
         obtain rfl:=A5 h
         exact B5 hS trivial [] ⟨rfl,rfl,rfl⟩
        ·replace h:=itF c28 h
         refine Q1 trivial ?_
         obtain rfl:=A5 h
         exact B5 hS trivial [] ⟨rfl,rfl,rfl⟩
       ·replace h:=itF c26 h
        refine Q1 trivial ?_
        obtain rfl:=A5 h
        exact B5 hS trivial [] ⟨rfl,rfl,rfl⟩
def S5 (N:Nat) (p_laws:(Sl Law)) (p_v:(Sl Sound)) (p_w:(Sl Sound)):Option Bool:=
 (P7 N p_laws).bind fun y1=>
 if (decide (4 < y1))=true then
  (B7 N ).bind fun y2=>
  some y2
 else
  (S0 N p_laws p_v p_w).bind fun y3=>
  if ((decide (8 < (p_laws.n:Int))) || (y3.2 != 0))=true then
   lt (fun (z1:Bool)=>
    some z1
    ) fun k1=>
    if (decide (8 < (p_laws.n:Int)))=true then
     (B7 N ).bind fun y6=>
     k1 y6
    else
     if ((y3.1.n:Int) == 0)=true then
      (B7 N ).bind fun y7=>
      k1 y7
     else
      k1 false
  else
   (J0 N p_laws p_v p_w).bind fun y8=>
   if (y8.2 != 0)=true then
    some false
   else
    Aa9 N (fun self1 (x3:Int)=>
     if (decide (x3 < (p_laws.n:Int)))=true then
      if (((((0:Int)<=x3/\x3<=(p_laws.n:Int))/\(((Sl.of []:Sl Law).n+(p_laws.take x3.toNat).n) * 200<=140737488355328/\(Sl.of []:Sl Law).n+(p_laws.take x3.toNat).n<=140737488355328))/\((0:Int)<=(IntKind.wrap .i64 (x3+1))/\(IntKind.wrap .i64 (x3+1))<=(p_laws.n:Int)))/\((((Sl.of []:Sl Law).app (p_laws.take x3.toNat)).n+(p_laws.drop (IntKind.wrap .i64 (x3+1)).toNat).n) * 200<=140737488355328/\((Sl.of []:Sl Law).app (p_laws.take x3.toNat)).n+(p_laws.drop (IntKind.wrap .i64 (x3+1)).toNat).n<=140737488355328)) then
       (J0 N (((Sl.of []:Sl Law).app (p_laws.take x3.toNat)).app (p_laws.drop (IntKind.wrap .i64 (x3+1)).toNat)) p_v p_w).bind fun y15=>
       lt (fun (z4:Bool)=>
        if z4=true then
         some false
        else
         self1 (IntKind.wrap .i64 (x3+1))
        ) fun k4=>
        if (y15.2 != 0)=true then
         k4 true
        else
         (Q0 N y3.1 x3).bind fun y17=>
         if y15.1=true then
          k4 ((y17 == (!y8.1)) != true)
         else
          k4 ((y17 == false) != true)
      else none
     else
      (B7 N ).bind fun y18=>
      some y18
     ) 0
theorem AJ4 {N:Nat} {p_laws:(Sl Law)} {p_v:(Sl Sound)} {p_w:(Sl Sound)}   {y:Bool} (h:S5 N p_laws p_v p_w=some y) :
 FunO S Ac3 [(.p (vSl 18 A6 p_laws)),(.p (vSl 2 A0 p_v)),(.p (vSl 2 A0 p_w))] [] (pB y) ([]) []:=by
 unfold S5 at h
 refine A7 hS Al4 ?_
 obtain ⟨y1,e1,h⟩:=A4 h
 refine A3 hS [] trivial (Ap3 hS hL e1) ?_
 refine A1 hS trivial (b:=decide (4 < y1)) (fun c1=>?_) (fun c1=>?_)
 ·replace h:=itT c1 h
  obtain ⟨y2,e2,h⟩:=A4 h
  refine A3 hS [] trivial (E6 hS hL e2) ?_
  obtain rfl:=A5 h
  exact B5 hS trivial [] ⟨rfl,rfl,rfl⟩
 ·replace h:=itF c1 h
  obtain ⟨y3,e3,h⟩:=A4 h
  refine A3 hS [] trivial (AD4 hS hL e3) ?_
  obtain ⟨t1,ht1⟩:∃ x:Bool,x=((decide (8 < (p_laws.n:Int))) || (y3.2 != 0)):=⟨_,rfl⟩
  refine Ai3 hS trivial (B4 hS) 0 ⟨[(32,(pB t1)),(7,(.vec 24000)),(2,(.p (vSl 2 A0 p_w))),(1,(.p (vSl 2 A0 p_v))),(0,(.p (vSl 18 A6 p_laws)))], [(24000,(.vec H7 1 y3.1.n (fun i=>(cI .i64) (y3.1.g i)) true))]⟩ (fun M1 hb1=>?_) ?_
  ·refine A9 hS trivial (b:=decide (8 < (p_laws.n:Int))) (fun c3=>?_) (fun c3=>?_)
   ·exact hb1 _ [(24000,24000)] _ trivial (by kernel_rfl) (by kernel_rfl) (klR [(0, .eq (.bb true) (.bb t1))] (al1 (by simp only [ht1,c3,Leaf.ok,pm,if_true,if_false]) al0))
   ·exact hb1 _ [(24000,24000)] _ trivial (by kernel_rfl) (by kernel_rfl) (klR [(0, .eq (.bb (y3.2 != 0)) (.bb t1))] (al1 (by simp only [ht1,c3,Leaf.ok,pm,if_true,if_false]) al0))
  ·subst ht1
   refine A1 hS trivial (b:=((decide (8 < (p_laws.n:Int))) || (y3.2 != 0))) (fun c4=>?_) (fun c4=>?_)
   ·replace h:=itT c4 h
    refine Bb4 hS trivial (B4 hS) h 0 (fun z1=>⟨[(6,(pB z1))], []⟩) (fun M2 k1 hb2 h=>?_) (fun z1 h=>?_)
    ·refine A9 hS trivial (b:=decide (8 < (p_laws.n:Int))) (fun c8=>?_) (fun c8=>?_)
     ·replace h:=itT c8 h
      obtain ⟨y6,e6,h⟩:=A4 h
      refine A3 hS [] trivial (E6 hS hL e6) ?_
      exact hb2 _ [] _ y6 trivial h
     ·replace h:=itF c8 h
      refine A9 hS trivial (b:=(y3.1.n:Int) == 0) (fun c9=>?_) (fun c9=>?_)
      ·replace h:=itT c9 h
       obtain ⟨y7,e7,h⟩:=A4 h
       refine A3 hS [] trivial (E6 hS hL e7) ?_
       exact hb2 _ [] _ y7 trivial h
      ·replace h:=itF c9 h
       exact hb2 _ [] _ false trivial h
    ·obtain rfl:=A5 h
     exact B5 hS trivial [] ⟨rfl,rfl,rfl⟩
   ·replace h:=itF c4 h
    obtain ⟨y8,e8,h⟩:=A4 h
    refine A3 hS [] trivial (Af8 hS hL e8) ?_
    refine A1 hS trivial (b:=y8.2 != 0) (fun c10=>?_) (fun c10=>?_)
    ·replace h:=itT c10 h
     obtain rfl:=A5 h
     exact B5 hS trivial [] ⟨rfl,rfl,rfl⟩
    ·replace h:=itF c10 h
     refine Ai0 hS trivial h (fun x3=>⟨[(11,(pN x3)),(9,(pB y8.1)),(7,(.vec 24000)),(2,(.p (vSl 2 A0 p_w))),(1,(.p (vSl 2 A0 p_v))),(0,(.p (vSl 18 A6 p_laws)))], [(24000,(.vec H7 1 y3.1.n (fun i=>(cI .i64) (y3.1.g i)) true))]⟩) (ids:=[(24000,24000)]) (fun _ _ _ _ _ self1 x3 hb5 h=>?_)
     refine A1 hS trivial (b:=decide (x3 < (p_laws.n:Int))) (fun c27=>?_) (fun c27=>?_)
     ·replace h:=itT c27 h
      refine Q4 hS trivial [1000] ?_
      obtain ⟨c28,h⟩:=P0 h
      refine Q1 (And.intro (And.intro (And.intro (And.intro (rfl:true=true) c28.1.1.1) c28.1.1.2) c28.1.2) c28.2) ?_
      refine T3 hS trivial ⟨[(72,(.p (vSl 2 A0 p_w))),(71,(.p (vSl 2 A0 p_v))),(70,(.vec 69000)),(11,(pN x3)),(9,(pB y8.1)),(7,(.vec 24000)),(2,(.p (vSl 2 A0 p_w))),(1,(.p (vSl 2 A0 p_v))),(0,(.p (vSl 18 A6 p_laws)))], [(69000,(.vec N7 18 (((Sl.of []:Sl Law).app (p_laws.take x3.toNat)).app (p_laws.drop (IntKind.wrap .i64 (x3+1)).toNat)).n (fun i=>A6 ((((Sl.of []:Sl Law).app (p_laws.take x3.toNat)).app (p_laws.drop (IntKind.wrap .i64 (x3+1)).toNat)).g i)) false)),(24000,(.vec H7 1 y3.1.n (fun i=>(cI .i64) (y3.1.g i)) true))]⟩ (ids:=[(24000,24000),(69000,69000)]) ?_ (hle:=(klR [(7, .fn ((0+(p_laws.take x3.toNat).n)+(p_laws.drop (IntKind.wrap .i64 (x3+1)).toNat).n) (((Sl.of []:Sl Law).app (p_laws.take x3.toNat)).app (p_laws.drop (IntKind.wrap .i64 (x3+1)).toNat)).n (An5 (0+(p_laws.take x3.toNat).n) (An5 0 (H6 [(.str []),(pI .i64 0),(pI .u32 0),(pI .u32 0),(.v (.bool false)),(pI .i64 0),(pI .i64 0),U7,(pI .i64 0),(pI .u32 0),(pI .u32 0),(.v (.bool false)),(pI .i64 0),(pI .i64 0),U7,U7,U7,(pI .i64 0)] []) (fun i=>A6 ((p_laws.take x3.toNat).g i))) (fun i=>A6 ((p_laws.drop (IntKind.wrap .i64 (x3+1)).toNat).g i))) (fun i=>A6 ((((Sl.of []:Sl Law).app (p_laws.take x3.toNat)).app (p_laws.drop (IntKind.wrap .i64 (x3+1)).toNat)).g i)))] (al1 ⟨rfl,(CA7 (c:=A6) (v:=((Sl.of []:Sl Law).app (p_laws.take x3.toNat))) (w:=(p_laws.drop (IntKind.wrap .i64 (x3+1)).toNat)) (CA7 (c:=A6) (v:=(Sl.of []:Sl Law)) (w:=(p_laws.take x3.toNat)) (fun i hi=>absurd hi (by omega)) rfl same rfl) rfl same rfl)⟩ al0)))
      obtain ⟨y15,e15,h⟩:=A4 h
      refine A3 hS [] trivial (Af8 hS hL e15) ?_
      refine Bb4 hS trivial (B4 hS) h 0 (fun z4=>⟨[(88,(pB z4)),(11,(pN x3)),(9,(pB y8.1)),(7,(.vec 24000)),(2,(.p (vSl 2 A0 p_w))),(1,(.p (vSl 2 A0 p_v))),(0,(.p (vSl 18 A6 p_laws)))], [(24000,(.vec H7 1 y3.1.n (fun i=>(cI .i64) (y3.1.g i)) true))]⟩) (fun M5 k4 hb6 h=>?_) (fun z4 h=>?_)
      ·refine A9 hS trivial (b:=y15.2 != 0) (fun c32=>?_) (fun c32=>?_)
       ·replace h:=itT c32 h
        exact hb6 _ [(24000,24000)] _ true trivial h
       ·replace h:=itF c32 h
        obtain ⟨y17,e17,h⟩:=A4 h
        refine A3 hS [] trivial (Ap7 hS hL e17) ?_
        refine A9 hS trivial (b:=y15.1) (fun c33=>?_) (fun c33=>?_)
        ·replace h:=itT c33 h
         exact hb6 _ [(24000,24000)] _ ((y17 == (!y8.1)) != true) trivial h
        ·replace h:=itF c33 h
         exact hb6 _ [(24000,24000)] _ ((y17 == false) != true) trivial h
      ·refine A1 hS trivial (b:=z4) (fun c34=>?_) (fun c34=>?_)
       ·replace h:=itT c34 h
        obtain rfl:=A5 h
        exact B5 hS trivial [] ⟨rfl,rfl,rfl⟩
       ·replace h:=itF c34 h
        exact hb5 _ [(24000,24000)] _ (IntKind.wrap .i64 (x3+1)) trivial h
     ·replace h:=itF c27 h
      obtain ⟨y18,e18,h⟩:=A4 h
      refine A3 hS [] trivial (E6 hS hL e18) ?_
      obtain rfl:=A5 h
      exact B5 hS trivial [] ⟨rfl,rfl,rfl⟩
def Z7 (N:Nat) (p_laws:(Sl Law)) (p_v:(Sl Sound)) (p_w:(Sl Sound)) (p_at:Int):Option Bool:=
 (P7 N p_laws).bind fun y1=>
 if (decide (4 < y1))=true then
  (B7 N ).bind fun y2=>
  some y2
 else
  (I9 N p_laws p_v p_w).bind fun y3=>
  if ((decide (8 < (p_laws.n:Int))) || (y3.2 != 0))=true then
   (B7 N ).bind fun y4=>
   some y4
  else
   if ((IntKind.wrap .i64 ((p_laws.n:Int)+1)) ≠ 0/\((0:Int)<=((IntKind.wrap .i64 p_at).tmod (IntKind.wrap .i64 ((p_laws.n:Int)+1)))/\((IntKind.wrap .i64 p_at).tmod (IntKind.wrap .i64 ((p_laws.n:Int)+1)))<=(p_laws.n:Int))) then
    (I9 N (p_laws.drop ((IntKind.wrap .i64 p_at).tmod (IntKind.wrap .i64 ((p_laws.n:Int)+1))).toNat) p_v p_w).bind fun y5=>
    (Ad0 N p_laws ((IntKind.wrap .i64 p_at).tmod (IntKind.wrap .i64 ((p_laws.n:Int)+1))) (p_laws.n:Int) p_v).bind fun y6=>
    lt (fun (z1:Bool)=>
     lt (fun (z2:Bool)=>
      some z2
      ) fun k2=>
      if (y5.2 == 0)=true then
       (Q0 N y3.1 ((IntKind.wrap .i64 p_at).tmod (IntKind.wrap .i64 ((p_laws.n:Int)+1)))).bind fun y13=>
       (Q0 N y5.1 0).bind fun y14=>
       if ((y13 == y14) != false)=true then
        (Q0 N y3.1 ((IntKind.wrap .i64 p_at).tmod (IntKind.wrap .i64 ((p_laws.n:Int)+1)))).bind fun y15=>
        if ((y15 == z1) != false)=true then
         (B7 N ).bind fun y16=>
         k2 y16
        else
         k2 false
       else
        k2 false
      else
       k2 false
     ) fun k1=>
     if (y6.2 == 0)=true then
      (T9 N y6.1 p_w).bind fun y8=>
      k1 y8
     else
      k1 false
   else none
theorem AR9 {N:Nat} {p_laws:(Sl Law)} {p_v:(Sl Sound)} {p_w:(Sl Sound)} {p_at:Int}   {y:Bool} (h:Z7 N p_laws p_v p_w p_at=some y) :
 FunO S Ah5 [(.p (vSl 18 A6 p_laws)),(.p (vSl 2 A0 p_v)),(.p (vSl 2 A0 p_w)),(.p (pI .u8 p_at))] [] (pB y) ([]) []:=by
 unfold Z7 at h
 refine A7 hS At3 ?_
 obtain ⟨y1,e1,h⟩:=A4 h
 refine A3 hS [] trivial (Ap3 hS hL e1) ?_
 refine A1 hS trivial (b:=decide (4 < y1)) (fun c1=>?_) (fun c1=>?_)
 ·replace h:=itT c1 h
  obtain ⟨y2,e2,h⟩:=A4 h
  refine A3 hS [] trivial (E6 hS hL e2) ?_
  obtain rfl:=A5 h
  exact B5 hS trivial [] ⟨rfl,rfl,rfl⟩
 ·replace h:=itF c1 h
  obtain ⟨y3,e3,h⟩:=A4 h
  refine A3 hS [] trivial (Af7 hS hL e3) ?_
  obtain ⟨t1,ht1⟩:∃ x:Bool,x=((decide (8 < (p_laws.n:Int))) || (y3.2 != 0)):=⟨_,rfl⟩
  refine Ai3 hS trivial (B4 hS) 0 ⟨[(34,(pB t1)),(9,(.vec 26000)),(3,(.p (pI .u8 p_at))),(2,(.p (vSl 2 A0 p_w))),(1,(.p (vSl 2 A0 p_v))),(0,(.p (vSl 18 A6 p_laws)))], [(26000,(.vec H7 1 y3.1.n (fun i=>(cI .i64) (y3.1.g i)) true))]⟩ (fun M1 hb1=>?_) ?_
  ·refine A9 hS trivial (b:=decide (8 < (p_laws.n:Int))) (fun c3=>?_) (fun c3=>?_)
   ·exact hb1 _ [(26000,26000)] _ trivial (by kernel_rfl) (by kernel_rfl) (klR [(0, .eq (.bb true) (.bb t1))] (al1 (by simp only [ht1,c3,Leaf.ok,pm,if_true,if_false]) al0))
   ·exact hb1 _ [(26000,26000)] _ trivial (by kernel_rfl) (by kernel_rfl) (klR [(0, .eq (.bb (y3.2 != 0)) (.bb t1))] (al1 (by simp only [ht1,c3,Leaf.ok,pm,if_true,if_false]) al0))
  ·subst ht1
   refine A1 hS trivial (b:=((decide (8 < (p_laws.n:Int))) || (y3.2 != 0))) (fun c4=>?_) (fun c4=>?_)
   ·replace h:=itT c4 h
    obtain ⟨y4,e4,h⟩:=A4 h
    refine A3 hS [] trivial (E6 hS hL e4) ?_
    obtain rfl:=A5 h
    exact B5 hS trivial [] ⟨rfl,rfl,rfl⟩
   ·replace h:=itF c4 h
    obtain ⟨c5,h⟩:=P0 h
    obtain ⟨y5,e5,h⟩:=A4 h
    refine A3 hS [] c5 (Af7 hS hL e5) ?_
    obtain ⟨y6,e6,h⟩:=A4 h
    refine A3 hS [] trivial (Bo3 hS hL e6) ?_
    refine Bb4 hS trivial (B4 hS) h 0 (fun z1=>⟨[(16,(pB z1)),(13,(pN y5.2)),(12,(.vec 49000)),(11,(pN ((IntKind.wrap .i64 p_at).tmod (IntKind.wrap .i64 ((p_laws.n:Int)+1))))),(9,(.vec 26000))], [(49000,(.vec H7 1 y5.1.n (fun i=>(cI .i64) (y5.1.g i)) true)),(26000,(.vec H7 1 y3.1.n (fun i=>(cI .i64) (y3.1.g i)) true))]⟩) (fun M2 k1 hb2 h=>?_) (fun z1 h=>?_)
    ·refine A9 hS trivial (b:=y6.2 == 0) (fun c8=>?_) (fun c8=>?_)
     ·replace h:=itT c8 h
      obtain ⟨y8,e8,h⟩:=A4 h
      refine A3 hS [] trivial (Ax3 hS hL e8) ?_
      exact hb2 _ [(26000,26000),(49000,49000)] _ y8 trivial h
     ·replace h:=itF c8 h
      exact hb2 _ [(26000,26000),(49000,49000)] _ false trivial h
    ·refine Bb4 hS trivial (B4 hS) h 0 (fun z2=>⟨[(8,(pB z2))], []⟩) (fun M3 k2 hb3 h=>?_) (fun z2 h=>?_)
     ·refine A9 hS trivial (b:=y5.2 == 0) (fun c13=>?_) (fun c13=>?_)
      ·replace h:=itT c13 h
       obtain ⟨y13,e13,h⟩:=A4 h
       refine A3 hS [] trivial (Ap7 hS hL e13) ?_
       obtain ⟨y14,e14,h⟩:=A4 h
       refine A3 hS [] trivial (Ap7 hS hL e14) ?_
       refine A9 hS trivial (b:=((y13 == y14) != false)) (fun c14=>?_) (fun c14=>?_)
       ·replace h:=itT c14 h
        obtain ⟨y15,e15,h⟩:=A4 h
        refine A3 hS [] trivial (Ap7 hS hL e15) ?_
        refine A9 hS trivial (b:=((y15 == z1) != false)) (fun c15=>?_) (fun c15=>?_)
        ·replace h:=itT c15 h
         obtain ⟨y16,e16,h⟩:=A4 h
         refine A3 hS [] trivial (E6 hS hL e16) ?_
         exact hb3 _ [] _ y16 trivial h
        ·replace h:=itF c15 h
         exact hb3 _ [] _ false trivial h
       ·replace h:=itF c14 h
        exact hb3 _ [] _ false trivial h
      ·replace h:=itF c13 h
       exact hb3 _ [] _ false trivial h
     ·obtain rfl:=A5 h
      exact B5 hS trivial [] ⟨rfl,rfl,rfl⟩
def Z8 (N:Nat) (p_laws:(Sl Law)) (p_l:(Sl O1)) (p_m:(Sl O1)):Option Bool:=
 (P7 N p_laws).bind fun y1=>
 if ((((decide (4 < y1)) || (decide (8 < (p_laws.n:Int)))) || (decide (20 < (p_l.n:Int)))) || (decide (20 < (p_m.n:Int))))=true then
  (B7 N ).bind fun y2=>
  some y2
 else
  if ((((Sl.of []:Sl O1).n+p_l.n) * 48<=140737488355328/\(Sl.of []:Sl O1).n+p_l.n<=140737488355328)/\((((Sl.of []:Sl O1).app p_l).n+p_m.n) * 48<=140737488355328/\((Sl.of []:Sl O1).app p_l).n+p_m.n<=140737488355328)) then
   (O9 N p_laws (((Sl.of []:Sl O1).app p_l).app p_m)).bind fun y3=>
   (O9 N p_laws p_l).bind fun y4=>
   (O9 N p_laws p_m).bind fun y5=>
   if (y3.2.2 != 0)=true then
    lt (fun (z1:Bool)=>
     some z1
     ) fun k1=>
     if (!y3.2.1)=true then
      if (y4.2.2 != 0)=true then
       (B7 N ).bind fun y8=>
       k1 y8
      else
       if (y5.2.2 != 0)=true then
        (B7 N ).bind fun y9=>
        k1 y9
       else
        k1 false
     else
      k1 false
   else
    if (((y4.2.2 != 0) || (y5.2.2 != 0)) || (y3.2.1 && ((((((!y4.2.1) || (!y5.2.1)) || (decide (y3.1.First < y4.1.First))) || (decide (y3.1.First < y5.1.First))) || (decide (y4.1.Last < y3.1.Last))) || (decide (y5.1.Last < y3.1.Last)))))=true then
     some false
    else
     Aa9 N (fun self1 (x2:Int)=>
      if (decide (x2 < (p_l.n:Int)))=true then
       if (((0:Int)<=x2/\x2 < (p_l.n:Int))/\((0:Int)<=x2/\x2 < (p_l.n:Int))) then
        (O7 N p_laws (p_l.g x2.toNat).From (p_l.g x2.toNat).To).bind fun y14=>
        if ((0:Int)<=x2/\x2<=(IntKind.wrap .i64 (x2+1))/\(IntKind.wrap .i64 (x2+1))<=(p_l.n:Int)) then
         (O9 N p_laws (p_l.sub x2.toNat (IntKind.wrap .i64 (x2+1)).toNat)).bind fun y15=>
         if ((((y14.2.2 != 0) || (y15.2.2 != 0)) || (((y14.1.First == y15.1.First) && (y14.1.Last == y15.1.Last)) != true)) || ((y14.2.1 == y15.2.1) != true))=true then
          some false
         else
          self1 (IntKind.wrap .i64 (x2+1))
        else none
       else none
      else
       (B7 N ).bind fun y16=>
       some y16
      ) 0
  else none
theorem AS0 {N:Nat} {p_laws:(Sl Law)} {p_l:(Sl O1)} {p_m:(Sl O1)}   {y:Bool} (h:Z8 N p_laws p_l p_m=some y) :
 FunO S Ah6 [(.p (vSl 18 A6 p_laws)),(.p (vSl 2 D5 p_l)),(.p (vSl 2 D5 p_m))] [] (pB y) ([]) []:=by
 unfold Z8 at h
 refine A7 hS At4 ?_
 obtain ⟨y1,e1,h⟩:=A4 h
 refine A3 hS [] trivial (Ap3 hS hL e1) ?_
 obtain ⟨t1,ht1⟩:∃ x:Bool,x=((((decide (4 < y1)) || (decide (8 < (p_laws.n:Int)))) || (decide (20 < (p_l.n:Int)))) || (decide (20 < (p_m.n:Int)))):=⟨_,rfl⟩
 refine Ai3 hS trivial (B4 hS) 0 ⟨[(40,(pB t1)),(2,(.p (vSl 2 D5 p_m))),(1,(.p (vSl 2 D5 p_l))),(0,(.p (vSl 18 A6 p_laws)))], []⟩ (fun M1 hb1=>?_) ?_
 ·refine A9 hS trivial (b:=decide (4 < y1)) (fun c4=>?_) (fun c4=>?_)
  ·exact hb1 _ [] _ trivial (by kernel_rfl) (by kernel_rfl) (klR [(0, .eq (.bb true) (.bb t1))] (al1 (by simp only [ht1,c4,Leaf.ok,pm,if_true,if_false]) al0))
  ·refine A9 hS trivial (b:=decide (8 < (p_laws.n:Int))) (fun c5=>?_) (fun c5=>?_)
   ·exact hb1 _ [] _ trivial (by kernel_rfl) (by kernel_rfl) (klR [(0, .eq (.bb true) (.bb t1))] (al1 (by simp only [ht1,c4,c5,Leaf.ok,pm,if_true,if_false]) al0))
   ·refine A9 hS trivial (b:=decide (20 < (p_l.n:Int))) (fun c6=>?_) (fun c6=>?_)
    ·exact hb1 _ [] _ trivial (by kernel_rfl) (by kernel_rfl) (klR [(0, .eq (.bb true) (.bb t1))] (al1 (by simp only [ht1,c4,c5,c6,Leaf.ok,pm,if_true,if_false]) al0))
    ·exact hb1 _ [] _ trivial (by kernel_rfl) (by kernel_rfl) (klR [(0, .eq (.bb (decide (20 < (p_m.n:Int)))) (.bb t1))] (al1 (by simp only [ht1,c4,c5,c6,Leaf.ok,pm,if_true,if_false]) al0))
 ·subst ht1
  refine A1 hS trivial (b:=((((decide (4 < y1)) || (decide (8 < (p_laws.n:Int)))) || (decide (20 < (p_l.n:Int)))) || (decide (20 < (p_m.n:Int))))) (fun c7=>?_) (fun c7=>?_)
  ·replace h:=itT c7 h
   obtain ⟨y2,e2,h⟩:=A4 h
   refine A3 hS [] trivial (E6 hS hL e2) ?_
   obtain rfl:=A5 h
   exact B5 hS trivial [] ⟨rfl,rfl,rfl⟩
  ·replace h:=itF c7 h
   obtain ⟨c8,h⟩:=P0 h
   refine T3 hS (And.intro (And.intro (rfl:true=true) c8.1) c8.2) ⟨[(48,(.vec 49000)),(43,(.p (vSl 18 A6 p_laws))),(2,(.p (vSl 2 D5 p_m))),(1,(.p (vSl 2 D5 p_l))),(0,(.p (vSl 18 A6 p_laws)))], [(49000,(.vec Ap0 2 (((Sl.of []:Sl O1).app p_l).app p_m).n (fun i=>D5 ((((Sl.of []:Sl O1).app p_l).app p_m).g i)) false))]⟩ (ids:=[(49000,49000)]) ?_ (hle:=(klR [(4, .fn ((0+p_l.n)+p_m.n) (((Sl.of []:Sl O1).app p_l).app p_m).n (An5 (0+p_l.n) (An5 0 (H6 [U7,U7] []) (fun i=>D5 (p_l.g i))) (fun i=>D5 (p_m.g i))) (fun i=>D5 ((((Sl.of []:Sl O1).app p_l).app p_m).g i)))] (al1 ⟨rfl,(CA7 (c:=D5) (v:=((Sl.of []:Sl O1).app p_l)) (w:=p_m) (CA7 (c:=D5) (v:=(Sl.of []:Sl O1)) (w:=p_l) (fun i hi=>absurd hi (by omega)) rfl same rfl) rfl same rfl)⟩ al0)))
   obtain ⟨y3,e3,h⟩:=A4 h
   refine A3 hS [] trivial (Ai6 hS hL e3) ?_
   refine Ac2 hS trivial 8 8000 [(pI .i64 y3.1.First),(pI .i64 y3.1.Last)] ?_
   obtain ⟨y4,e4,h⟩:=A4 h
   refine A3 hS [] trivial (Ai6 hS hL e4) ?_
   refine Ac2 hS trivial 11 11000 [(pI .i64 y4.1.First),(pI .i64 y4.1.Last)] ?_
   obtain ⟨y5,e5,h⟩:=A4 h
   refine A3 hS [] trivial (Ai6 hS hL e5) ?_
   refine Ac2 hS trivial 14 14000 [(pI .i64 y5.1.First),(pI .i64 y5.1.Last)] ?_
   refine A1 hS trivial (b:=y3.2.2 != 0) (fun c9=>?_) (fun c9=>?_)
   ·replace h:=itT c9 h
    refine Bb4 hS trivial (B4 hS) h 0 (fun z1=>⟨[(6,(pB z1))], []⟩) (fun M2 k1 hb2 h=>?_) (fun z1 h=>?_)
    ·refine A9 hS trivial (b:=!y3.2.1) (fun c15=>?_) (fun c15=>?_)
     ·replace h:=itT c15 h
      refine A9 hS trivial (b:=y4.2.2 != 0) (fun c16=>?_) (fun c16=>?_)
      ·replace h:=itT c16 h
       obtain ⟨y8,e8,h⟩:=A4 h
       refine A3 hS [] trivial (E6 hS hL e8) ?_
       exact hb2 _ [] _ y8 trivial h
      ·replace h:=itF c16 h
       refine A9 hS trivial (b:=y5.2.2 != 0) (fun c17=>?_) (fun c17=>?_)
       ·replace h:=itT c17 h
        obtain ⟨y9,e9,h⟩:=A4 h
        refine A3 hS [] trivial (E6 hS hL e9) ?_
        exact hb2 _ [] _ y9 trivial h
       ·replace h:=itF c17 h
        exact hb2 _ [] _ false trivial h
     ·replace h:=itF c15 h
      exact hb2 _ [] _ false trivial h
    ·obtain rfl:=A5 h
     exact B5 hS trivial [] ⟨rfl,rfl,rfl⟩
   ·replace h:=itF c9 h
    obtain ⟨t2,ht2⟩:∃ x:Bool,x=(((y4.2.2 != 0) || (y5.2.2 != 0)) || (y3.2.1 && ((((((!y4.2.1) || (!y5.2.1)) || (decide (y3.1.First < y4.1.First))) || (decide (y3.1.First < y5.1.First))) || (decide (y4.1.Last < y3.1.Last))) || (decide (y5.1.Last < y3.1.Last))))):=⟨_,rfl⟩
    refine Ai3 hS trivial (B4 hS) 0 ⟨[(126,(pB t2)),(1,(.p (vSl 2 D5 p_l))),(0,(.p (vSl 18 A6 p_laws)))], []⟩ (fun M3 hb3=>?_) ?_
    ·refine A9 hS trivial (b:=y4.2.2 != 0) (fun c26=>?_) (fun c26=>?_)
     ·exact hb3 _ [] _ trivial (by kernel_rfl) (by kernel_rfl) (klR [(0, .eq (.bb true) (.bb t2))] (al1 (by simp only [ht2,c26,Leaf.ok,pm,if_true,if_false]) al0))
     ·refine A9 hS trivial (b:=y5.2.2 != 0) (fun c27=>?_) (fun c27=>?_)
      ·exact hb3 _ [] _ trivial (by kernel_rfl) (by kernel_rfl) (klR [(0, .eq (.bb true) (.bb t2))] (al1 (by simp only [ht2,c26,c27,Leaf.ok,pm,if_true,if_false]) al0))
      ·refine A9 hS trivial (b:=y3.2.1) (fun c28=>?_) (fun c28=>?_)
       ·refine A9 hS trivial (b:=!y4.2.1) (fun c29=>?_) (fun c29=>?_)
        ·exact hb3 _ [] _ trivial (by kernel_rfl) (by kernel_rfl) (klR [(0, .eq (.bb true) (.bb t2))] (al1 (by simp only [ht2,c26,c27,c28,c29,Leaf.ok,pm,if_true,if_false]) al0))
        ·refine A9 hS trivial (b:=!y5.2.1) (fun c30=>?_) (fun c30=>?_)
         ·exact hb3 _ [] _ trivial (by kernel_rfl) (by kernel_rfl) (klR [(0, .eq (.bb true) (.bb t2))] (al1 (by simp only [ht2,c26,c27,c28,c29,c30,Leaf.ok,pm,if_true,if_false]) al0))
         ·refine A9 hS trivial (b:=decide (y3.1.First < y4.1.First)) (fun c31=>?_) (fun c31=>?_)
          ·exact hb3 _ [] _ trivial (by kernel_rfl) (by kernel_rfl) (klR [(0, .eq (.bb true) (.bb t2))] (al1 (by simp only [ht2,c26,c27,c28,c29,c30,c31,Leaf.ok,pm,if_true,if_false]) al0))
          ·refine A9 hS trivial (b:=decide (y3.1.First < y5.1.First)) (fun c32=>?_) (fun c32=>?_)
           ·exact hb3 _ [] _ trivial (by kernel_rfl) (by kernel_rfl) (klR [(0, .eq (.bb true) (.bb t2))] (al1 (by simp only [ht2,c26,c27,c28,c29,c30,c31,c32,Leaf.ok,pm,if_true,if_false]) al0))
           ·refine A9 hS trivial (b:=decide (y4.1.Last < y3.1.Last)) (fun c33=>?_) (fun c33=>?_)
            ·exact hb3 _ [] _ trivial (by kernel_rfl) (by kernel_rfl) (klR [(0, .eq (.bb true) (.bb t2))] (al1 (by simp only [ht2,c26,c27,c28,c29,c30,c31,c32,c33,Leaf.ok,pm,if_true,if_false]) al0))
            ·exact hb3 _ [] _ trivial (by kernel_rfl) (by kernel_rfl) (klR [(0, .eq (.bb (decide (y5.1.Last < y3.1.Last))) (.bb t2))] (al1 (by simp only [ht2,c26,c27,c28,c29,c30,c31,c32,c33,Leaf.ok,pm,if_true,if_false]) al0))
       ·exact hb3 _ [] _ trivial (by kernel_rfl) (by kernel_rfl) (klR [(0, .eq (.bb false) (.bb t2))] (al1 (by simp only [ht2,c26,c27,c28,Leaf.ok,pm,if_true,if_false]) al0))
    ·subst ht2
     refine A1 hS trivial (b:=(((y4.2.2 != 0) || (y5.2.2 != 0)) || (y3.2.1 && ((((((!y4.2.1) || (!y5.2.1)) || (decide (y3.1.First < y4.1.First))) || (decide (y3.1.First < y5.1.First))) || (decide (y4.1.Last < y3.1.Last))) || (decide (y5.1.Last < y3.1.Last)))))) (fun c34=>?_) (fun c34=>?_)
     ·replace h:=itT c34 h
      obtain rfl:=A5 h
      exact B5 hS trivial [] ⟨rfl,rfl,rfl⟩
     ·replace h:=itF c34 h
      refine Ai0 hS trivial h (fun x2=>⟨[(16,(pN x2)),(1,(.p (vSl 2 D5 p_l))),(0,(.p (vSl 18 A6 p_laws)))], []⟩) (ids:=[]) (fun _ _ _ _ _ self1 x2 hb6 h=>?_)
      refine A1 hS trivial (b:=decide (x2 < (p_l.n:Int))) (fun c55=>?_) (fun c55=>?_)
      ·replace h:=itT c55 h
       refine Q4 hS trivial [3,5,8,10,11] ?_
       obtain ⟨c56,h⟩:=P0 h
       obtain ⟨y14,e14,h⟩:=A4 h
       refine At2 c56 (Am2 hS hL e14) ?_
       refine Q1 trivial ?_
       refine Ac2 hS trivial 150 18000 [(pI .i64 y14.1.First),(pI .i64 y14.1.Last)] ?_
       obtain ⟨c57,h⟩:=P0 h
       obtain ⟨y15,e15,h⟩:=A4 h
       refine A3 hS [] c57 (Ai6 hS hL e15) ?_
       refine Ac2 hS trivial 21 21000 [(pI .i64 y15.1.First),(pI .i64 y15.1.Last)] ?_
       obtain ⟨t5,ht5⟩:∃ x:Bool,x=((((y14.2.2 != 0) || (y15.2.2 != 0)) || (((y14.1.First == y15.1.First) && (y14.1.Last == y15.1.Last)) != true)) || ((y14.2.1 == y15.2.1) != true)):=⟨_,rfl⟩
       refine Ai3 hS trivial (B4 hS) 0 ⟨[(175,(pB t5)),(16,(pN x2)),(1,(.p (vSl 2 D5 p_l))),(0,(.p (vSl 18 A6 p_laws)))], []⟩ (fun M6 hb7=>?_) ?_
       ·refine A9 hS trivial (b:=y14.2.2 != 0) (fun c61=>?_) (fun c61=>?_)
        ·exact hb7 _ [] _ trivial (by kernel_rfl) (by kernel_rfl) (klR [(0, .eq (.bb true) (.bb t5))] (al1 (by simp only [ht5,c61,Leaf.ok,pm,if_true,if_false]) al0))
        ·refine A9 hS trivial (b:=y15.2.2 != 0) (fun c62=>?_) (fun c62=>?_)
         ·exact hb7 _ [] _ trivial (by kernel_rfl) (by kernel_rfl) (klR [(0, .eq (.bb true) (.bb t5))] (al1 (by simp only [ht5,c61,c62,Leaf.ok,pm,if_true,if_false]) al0))
         ·refine A9 hS (And.intro (And.intro (by decide:(2:Nat)<=2) (by decide:(2:Nat)<=2)) (by decide +kernel:Cg0 Tryz.prog Aw9=true)) (b:=(((y14.1.First == y15.1.First) && (y14.1.Last == y15.1.Last)) != true)) (fun c63=>?_) (fun c63=>?_)
          ·exact hb7 _ [] _ trivial (by kernel_rfl) (by kernel_rfl) (klR [(0, .eq (.bb true) (.bb t5))] (al1 (by simp only [ht5,c61,c62,c63,Leaf.ok,pm,if_true,if_false]) al0))
          ·exact hb7 _ [] _ trivial (by kernel_rfl) (by kernel_rfl) (klR [(0, .eq (.bb ((y14.2.1 == y15.2.1) != true)) (.bb t5))] (al1 (by simp only [ht5,c61,c62,c63,Leaf.ok,pm,if_true,if_false]) al0))
       ·subst ht5
        refine A1 hS trivial (b:=((((y14.2.2 != 0) || (y15.2.2 != 0)) || (((y14.1.First == y15.1.First) && (y14.1.Last == y15.1.Last)) != true)) || ((y14.2.1 == y15.2.1) != true))) (fun c64=>?_) (fun c64=>?_)
        ·replace h:=itT c64 h
         obtain rfl:=A5 h
         exact B5 hS trivial [] ⟨rfl,rfl,rfl⟩
        ·replace h:=itF c64 h
         exact hb6 _ [] _ (IntKind.wrap .i64 (x2+1)) trivial h
      ·replace h:=itF c55 h
       obtain ⟨y16,e16,h⟩:=A4 h
       refine A3 hS [] trivial (E6 hS hL e16) ?_
       obtain rfl:=A5 h
       exact B5 hS trivial [] ⟨rfl,rfl,rfl⟩
def Ad3 (N:Nat) (p_laws:(Sl Law)) (p_l:(Sl O1)):Option Bool:=
 (P7 N p_laws).bind fun y1=>
 if (((decide (4 < y1)) || (decide (8 < (p_laws.n:Int)))) || (decide (20 < (p_l.n:Int))))=true then
  (B7 N ).bind fun y2=>
  some y2
 else
  (Z0 N p_laws p_l).bind fun y3=>
  if (y3.2 != 0)=true then
   lt (fun (z1:Bool)=>
    some z1
    ) fun k1=>
    if ((y3.1.n:Int) == 0)=true then
     (B7 N ).bind fun y5=>
     k1 y5
    else
     k1 false
  else
   if ((y3.1.n:Int) != (p_l.n:Int))=true then
    some false
   else
    Aa9 N (fun self1 (x2:Int)=>
     if (decide (x2 < (p_l.n:Int)))=true then
      if (((0:Int)<=x2/\x2 < (p_l.n:Int))/\((0:Int)<=x2/\x2 < (p_l.n:Int))) then
       (O7 N p_laws (p_l.g x2.toNat).From (p_l.g x2.toNat).To).bind fun y8=>
       if (y8.2.2 != 0)=true then
        some false
       else
        if y8.2.1=true then
         if (((0:Int)<=x2/\x2 < (y3.1.n:Int))/\x2.toNat < y3.1.n) then
          if ((y3.1.g x2.toNat) != y8.1.Last)=true then
           some false
          else
           if (!y8.2.1)=true then
            if (((0:Int)<=x2/\x2 < (y3.1.n:Int))/\x2.toNat < y3.1.n) then
             if ((y3.1.g x2.toNat) != (-1))=true then
              some false
             else
              self1 (IntKind.wrap .i64 (x2+1))
            else none
           else
            self1 (IntKind.wrap .i64 (x2+1))
         else none
        else
         if (!y8.2.1)=true then
          if (((0:Int)<=x2/\x2 < (y3.1.n:Int))/\x2.toNat < y3.1.n) then
           if ((y3.1.g x2.toNat) != (-1))=true then
            some false
           else
            self1 (IntKind.wrap .i64 (x2+1))
          else none
         else
          self1 (IntKind.wrap .i64 (x2+1))
      else none
     else
      (B7 N ).bind fun y9=>
      some y9
     ) 0
theorem AZ5 {N:Nat} {p_laws:(Sl Law)} {p_l:(Sl O1)}   {y:Bool} (h:Ad3 N p_laws p_l=some y) :
 FunO S Aj6 [(.p (vSl 18 A6 p_laws)),(.p (vSl 2 D5 p_l))] [] (pB y) ([]) []:=by
 unfold Ad3 at h
 refine A7 hS Aw3 ?_
 obtain ⟨y1,e1,h⟩:=A4 h
 refine A3 hS [] trivial (Ap3 hS hL e1) ?_
 obtain ⟨t1,ht1⟩:∃ x:Bool,x=(((decide (4 < y1)) || (decide (8 < (p_laws.n:Int)))) || (decide (20 < (p_l.n:Int)))):=⟨_,rfl⟩
 refine Ai3 hS trivial (B4 hS) 0 ⟨[(23,(pB t1)),(1,(.p (vSl 2 D5 p_l))),(0,(.p (vSl 18 A6 p_laws)))], []⟩ (fun M1 hb1=>?_) ?_
 ·refine A9 hS trivial (b:=decide (4 < y1)) (fun c3=>?_) (fun c3=>?_)
  ·exact hb1 _ [] _ trivial (by kernel_rfl) (by kernel_rfl) (klR [(0, .eq (.bb true) (.bb t1))] (al1 (by simp only [ht1,c3,Leaf.ok,pm,if_true,if_false]) al0))
  ·refine A9 hS trivial (b:=decide (8 < (p_laws.n:Int))) (fun c4=>?_) (fun c4=>?_)
   ·exact hb1 _ [] _ trivial (by kernel_rfl) (by kernel_rfl) (klR [(0, .eq (.bb true) (.bb t1))] (al1 (by simp only [ht1,c3,c4,Leaf.ok,pm,if_true,if_false]) al0))
   ·exact hb1 _ [] _ trivial (by kernel_rfl) (by kernel_rfl) (klR [(0, .eq (.bb (decide (20 < (p_l.n:Int)))) (.bb t1))] (al1 (by simp only [ht1,c3,c4,Leaf.ok,pm,if_true,if_false]) al0))
 ·subst ht1
  refine A1 hS trivial (b:=(((decide (4 < y1)) || (decide (8 < (p_laws.n:Int)))) || (decide (20 < (p_l.n:Int))))) (fun c5=>?_) (fun c5=>?_)
  ·replace h:=itT c5 h
   obtain ⟨y2,e2,h⟩:=A4 h
   refine A3 hS [] trivial (E6 hS hL e2) ?_
   obtain rfl:=A5 h
   exact B5 hS trivial [] ⟨rfl,rfl,rfl⟩
  ·replace h:=itF c5 h
   obtain ⟨y3,e3,h⟩:=A4 h
   refine A3 hS [] trivial (Be5 hS hL e3) ?_
   refine A1 hS trivial (b:=y3.2 != 0) (fun c6=>?_) (fun c6=>?_)
   ·replace h:=itT c6 h
    refine Bb4 hS trivial (B4 hS) h 0 (fun z1=>⟨[(4,(pB z1))], []⟩) (fun M2 k1 hb2 h=>?_) (fun z1 h=>?_)
    ·refine A9 hS trivial (b:=(y3.1.n:Int) == 0) (fun c9=>?_) (fun c9=>?_)
     ·replace h:=itT c9 h
      obtain ⟨y5,e5,h⟩:=A4 h
      refine A3 hS [] trivial (E6 hS hL e5) ?_
      exact hb2 _ [] _ y5 trivial h
     ·replace h:=itF c9 h
      exact hb2 _ [] _ false trivial h
    ·obtain rfl:=A5 h
     exact B5 hS trivial [] ⟨rfl,rfl,rfl⟩
   ·replace h:=itF c6 h
    refine A1 hS trivial (b:=(y3.1.n:Int) != (p_l.n:Int)) (fun c10=>?_) (fun c10=>?_)
    ·replace h:=itT c10 h
     obtain rfl:=A5 h
     exact B5 hS trivial [] ⟨rfl,rfl,rfl⟩
    ·replace h:=itF c10 h
     refine Ai0 hS trivial h (fun x2=>⟨[(7,(pN x2)),(5,(.vec 29000)),(1,(.p (vSl 2 D5 p_l))),(0,(.p (vSl 18 A6 p_laws)))], [(29000,(.vec H7 1 y3.1.n (fun i=>(cI .i64) (y3.1.g i)) true))]⟩) (ids:=[(29000,29000)]) (fun _ _ _ _ _ self1 x2 hb3 h=>?_)
     refine A1 hS trivial (b:=decide (x2 < (p_l.n:Int))) (fun c35=>?_) (fun c35=>?_)
     ·replace h:=itT c35 h
      refine Q4 hS trivial [3,5,8,10,11] ?_
      obtain ⟨c36,h⟩:=P0 h
      obtain ⟨y8,e8,h⟩:=A4 h
      refine At2 c36 (Am2 hS hL e8) ?_
      refine Q1 trivial ?_
      refine Cl0 hS trivial 9000 [(pI .i64 y8.1.First),(pI .i64 y8.1.Last)] ?_
      refine Q4 hS trivial [10] ?_
      refine Av8 trivial (b:=y8.2.2 != 0) (fun c37=>?_) (fun c37=>?_)
      ·replace h:=itT c37 h
       refine Q1 trivial ?_
       obtain rfl:=A5 h
       exact B5 hS trivial [] ⟨rfl,rfl,rfl⟩
      ·replace h:=itF c37 h
       refine Av8 trivial (b:=y8.2.1) (fun c38=>?_) (fun c38=>?_)
       ·replace h:=itT c38 h
        obtain ⟨c39,h⟩:=P0 h
        refine Av8 c39 (b:=(y3.1.g x2.toNat) != y8.1.Last) (fun c40=>?_) (fun c40=>?_)
        ·replace h:=itT c40 h
         refine Q1 trivial ?_
         obtain rfl:=A5 h
         exact B5 hS trivial [] ⟨rfl,rfl,rfl⟩
        ·replace h:=itF c40 h
         refine Av8 trivial (b:=!y8.2.1) (fun c41=>?_) (fun c41=>?_)
         ·replace h:=itT c41 h
          obtain ⟨c42,h⟩:=P0 h
          refine Q1 c42 ?_
          refine A1 hS trivial (b:=(y3.1.g x2.toNat) != (-1)) (fun c43=>?_) (fun c43=>?_)
          ·replace h:=itT c43 h
           obtain rfl:=A5 h
           exact B5 hS trivial [] ⟨rfl,rfl,rfl⟩
          ·replace h:=itF c43 h
           exact hb3 _ [(29000,29000)] _ (IntKind.wrap .i64 (x2+1)) trivial h
         ·replace h:=itF c41 h
          refine Q1 trivial ?_
          exact hb3 _ [(29000,29000)] _ (IntKind.wrap .i64 (x2+1)) trivial h
       ·replace h:=itF c38 h
        refine Av8 trivial (b:=!y8.2.1) (fun c44=>?_) (fun c44=>?_)
        ·replace h:=itT c44 h
         obtain ⟨c45,h⟩:=P0 h
         refine Q1 c45 ?_
         refine A1 hS trivial (b:=(y3.1.g x2.toNat) != (-1)) (fun c46=>?_) (fun c46=>?_)
         ·replace h:=itT c46 h
          obtain rfl:=A5 h
          exact B5 hS trivial [] ⟨rfl,rfl,rfl⟩
         ·replace h:=itF c46 h
          exact hb3 _ [(29000,29000)] _ (IntKind.wrap .i64 (x2+1)) trivial h
        ·replace h:=itF c44 h
         refine Q1 trivial ?_
         exact hb3 _ [(29000,29000)] _ (IntKind.wrap .i64 (x2+1)) trivial h
     ·replace h:=itF c35 h
      obtain ⟨y9,e9,h⟩:=A4 h
      refine A3 hS [] trivial (E6 hS hL e9) ?_
      obtain rfl:=A5 h
      exact B5 hS trivial [] ⟨rfl,rfl,rfl⟩
end Go.AM
set_option linter.unusedVariables false
set_option linter.unusedSectionVars false
namespace Go.AM
open Go.Proofs
set_option maxRecDepth 10000
set_option maxHeartbeats 2000000
variable {S:Af9} (hS:I3 S Tryz.prog) (hL:BL4 S)
include hS hL
def U5 (N:Nat) (p_laws:(Sl Law)) (p_a:(Sl Sound)) (p_b:(Sl Sound)):Option Int:=
 (Ae5 N p_laws).bind fun y1=>
 if (y1 != 0)=true then
  some y1
 else
  (Ae4 N p_a).bind fun y2=>
  if (y2 != 0)=true then
   some y2
  else
   (Ae4 N p_b).bind fun y3=>
   some y3
def H5 (N:Nat) (p_laws:(Sl Law)) (p_from:(Sl Sound)) (p_to:(Sl Sound)):Option Bool:=
 (Ax5 N p_laws p_from).bind fun y1=>
 lt (fun (z1:Bool)=>
  some z1
  ) fun k1=>
  if (y1.2 == 0)=true then
   (As1 N y1.1 p_to).bind fun y3=>
   k1 y3
  else
   k1 false
def Ah1 (N:Nat) (p_laws:(Sl Law)) (p_foreign:(Sl Sound)) (p_attested:(Sl Sound)):Option (Sl Int):=
 T0 N (fun self1 (x1:Sl Int) (x2:Int)=>
  if (decide (x2<=(p_laws.n:Int)))=true then
   if ((0:Int)<=x2/\x2<=(p_laws.n:Int)) then
    (H5 N (p_laws.drop x2.toNat) p_foreign p_attested).bind fun y3=>
    if y3=true then
     if ((x1.n+(Sl.of [x2]:Sl Int).n) * 8<=140737488355328/\x1.n+(Sl.of [x2]:Sl Int).n<=140737488355328) then
      self1 (x1.push x2) (IntKind.wrap .i64 (x2+1))
     else none
    else
     self1 x1 (IntKind.wrap .i64 (x2+1))
   else none
  else
   some x1
  ) (Sl.nil:Sl Int) 0
def Ab3 (N:Nat) (p_laws:(Sl Law)) (p_foreign:(Sl Sound)) (p_attested:(Sl Sound)):Option ((Sl Int) × Int):=
 (U5 N p_laws p_foreign p_attested).bind fun y1=>
 if (y1 != 0)=true then
  some ((Sl.nil:Sl Int),y1)
 else
  (Ah1 N p_laws p_foreign p_attested).bind fun y2=>
  some (y2,0)
def W4 (N:Nat) (p_l:(Sl Int)):Option (S4 × Bool):=
 if ((p_l.n:Int) == 0)=true then
  some ((⟨0,0⟩:S4),false)
 else
  if (((0:Int)<=0/\0 < (p_l.n:Int))/\((0:Int)<=(IntKind.wrap .i64 ((p_l.n:Int) - 1))/\(IntKind.wrap .i64 ((p_l.n:Int) - 1)) < (p_l.n:Int))) then
   some ((⟨(p_l.g 0),(p_l.g (IntKind.wrap .i64 ((p_l.n:Int) - 1)).toNat)⟩:S4),true)
  else none
def AM6 (N:Nat) (p_laws:(Sl Law)) (p_foreign:(Sl Sound)) (p_attested:(Sl Sound)):Option (S4 × Bool × Int):=
 (Ab3 N p_laws p_foreign p_attested).bind fun y1=>
 (W4 N y1.1).bind fun y2=>
 some (y2.1,y2.2,y1.2)
def Ay3 (N:Nat) (p_laws:(Sl Law)) (p_proto:(Sl Sound)) (p_attested:(Sl Sound)):Option (Bool × Int):=
 (U5 N p_laws p_proto p_attested).bind fun y1=>
 if (y1 != 0)=true then
  some (false,y1)
 else
  (H5 N p_laws p_proto p_attested).bind fun y2=>
  some (y2,0)
def Ay4 (N:Nat) (p_laws:(Sl Law)) (p_proto:(Sl Sound)) (p_attested:(Sl Sound)):Option (Sl Int):=
 (H5 N p_laws p_proto p_attested).bind fun y1=>
 if y1=true then
  some (Sl.nil:Sl Int)
 else
  T0 N (fun self1 (x1:Sl Int) (x2:Int)=>
   if (decide (x2 < (p_laws.n:Int)))=true then
    if (((((0:Int)<=x2/\x2<=(p_laws.n:Int))/\(((Sl.of []:Sl Law).n+(p_laws.take x2.toNat).n) * 200<=140737488355328/\(Sl.of []:Sl Law).n+(p_laws.take x2.toNat).n<=140737488355328))/\((0:Int)<=(IntKind.wrap .i64 (x2+1))/\(IntKind.wrap .i64 (x2+1))<=(p_laws.n:Int)))/\((((Sl.of []:Sl Law).app (p_laws.take x2.toNat)).n+(p_laws.drop (IntKind.wrap .i64 (x2+1)).toNat).n) * 200<=140737488355328/\((Sl.of []:Sl Law).app (p_laws.take x2.toNat)).n+(p_laws.drop (IntKind.wrap .i64 (x2+1)).toNat).n<=140737488355328)) then
     (H5 N (((Sl.of []:Sl Law).app (p_laws.take x2.toNat)).app (p_laws.drop (IntKind.wrap .i64 (x2+1)).toNat)) p_proto p_attested).bind fun y4=>
     if y4=true then
      if ((x1.n+(Sl.of [x2]:Sl Int).n) * 8<=140737488355328/\x1.n+(Sl.of [x2]:Sl Int).n<=140737488355328) then
       self1 (x1.push x2) (IntKind.wrap .i64 (x2+1))
      else none
     else
      self1 x1 (IntKind.wrap .i64 (x2+1))
    else none
   else
    some x1
   ) (Sl.nil:Sl Int) 0
def AQ1 (N:Nat) (p_laws:(Sl Law)) (p_proto:(Sl Sound)) (p_attested:(Sl Sound)):Option ((Sl Int) × Int):=
 (U5 N p_laws p_proto p_attested).bind fun y1=>
 if (y1 != 0)=true then
  some ((Sl.nil:Sl Int),y1)
 else
  (Ay4 N p_laws p_proto p_attested).bind fun y2=>
  some (y2,0)
def As5 (N:Nat) (p_laws:(Sl Law)) (p_l:(Sl O1)):Option Int:=
 (Ae5 N p_laws).bind fun y1=>
 if (y1 != 0)=true then
  some y1
 else
  if (decide (256 < (p_l.n:Int)))=true then
   some 12
  else
   Aa9 N (fun self1 (x1:Int)=>
    if (decide (x1 < (p_l.n:Int)))=true then
     if (((0:Int)<=x1/\x1 < (p_l.n:Int))/\((0:Int)<=x1/\x1 < (p_l.n:Int))) then
      (U5 N (Sl.nil:Sl Law) (p_l.g x1.toNat).From (p_l.g x1.toNat).To).bind fun y4=>
      if (y4 != 0)=true then
       some y4
      else
       self1 (IntKind.wrap .i64 (x1+1))
     else none
    else
     some 0
    ) 0
def AQ2 (N:Nat) (p_laws:(Sl Law)) (p_l:(Sl O1)):Option ((Sl Int) × Int):=
 (As5 N p_laws p_l).bind fun y1=>
 if (y1 != 0)=true then
  some ((Sl.nil:Sl Int),y1)
 else
  T0 N (fun self1 (x1:Sl Int) (x2:Int)=>
   if (decide (x2 < (p_l.n:Int)))=true then
    if (((0:Int)<=x2/\x2 < (p_l.n:Int))/\((0:Int)<=x2/\x2 < (p_l.n:Int))) then
     (Ah1 N p_laws (p_l.g x2.toNat).From (p_l.g x2.toNat).To).bind fun y6=>
     (W4 N y6).bind fun y7=>
     if (!y7.2)=true then
      if ((x1.n+(Sl.of [(-1)]:Sl Int).n) * 8<=140737488355328/\x1.n+(Sl.of [(-1)]:Sl Int).n<=140737488355328) then
       self1 (x1.push (-1)) (IntKind.wrap .i64 (x2+1))
      else none
     else
      if ((x1.n+(Sl.of [y7.1.Last]:Sl Int).n) * 8<=140737488355328/\x1.n+(Sl.of [y7.1.Last]:Sl Int).n<=140737488355328) then
       self1 (x1.push y7.1.Last) (IntKind.wrap .i64 (x2+1))
      else none
    else none
   else
    some (x1,0)
   ) (Sl.nil:Sl Int) 0
def AZ6 (N:Nat) (p_laws:(Sl Law)) (p_l:(Sl O1)):Option (S4 × Bool × Int):=
 (As5 N p_laws p_l).bind fun y1=>
 if (y1 != 0)=true then
  some ((⟨0,0⟩:S4),false,y1)
 else
  T0 N (fun self3 (x3:Sl Int) (x4:Int)=>
   if (decide (x4<=(p_laws.n:Int)))=true then
    T0 N (fun self4 (x7:Bool) (x8:Int)=>
     if (decide (x8 < (p_l.n:Int)))=true then
      if x7=true then
       if ((((0:Int)<=x4/\x4<=(p_laws.n:Int))/\((0:Int)<=x8/\x8 < (p_l.n:Int)))/\((0:Int)<=x8/\x8 < (p_l.n:Int))) then
        (H5 N (p_laws.drop x4.toNat) (p_l.g x8.toNat).From (p_l.g x8.toNat).To).bind fun y10=>
        self4 y10 (IntKind.wrap .i64 (x8+1))
       else none
      else
       self4 false (IntKind.wrap .i64 (x8+1))
     else
      if x7=true then
       if ((x3.n+(Sl.of [x4]:Sl Int).n) * 8<=140737488355328/\x3.n+(Sl.of [x4]:Sl Int).n<=140737488355328) then
        self3 (x3.push x4) (IntKind.wrap .i64 (x4+1))
       else none
      else
       self3 x3 (IntKind.wrap .i64 (x4+1))
     ) true 0
   else
    (W4 N x3).bind fun y11=>
    some (y11.1,y11.2,0)
   ) (Sl.nil:Sl Int) 0
def Ap8 (N:Nat) (p_laws:(Sl Law)) (p_v:(Sl Sound)) (p_w:(Sl Sound)):Option Bool:=
 (P7 N p_laws).bind fun y1=>
 if ((decide (4 < y1)) || ((decide (8 < (p_laws.n:Int))) && (decide ((p_laws.n:Int)<=64))))=true then
  (B7 N ).bind fun y2=>
  some y2
 else
  (I9 N p_laws p_v p_w).bind fun y3=>
  (Ab3 N p_laws p_v p_w).bind fun y4=>
  (O7 N p_laws p_v p_w).bind fun y5=>
  (AM6 N p_laws p_v p_w).bind fun y6=>
  (J0 N p_laws p_v p_w).bind fun y7=>
  (Ay3 N p_laws p_v p_w).bind fun y8=>
  (Ab2 N y3.1 y4.1).bind fun y9=>
  lt (fun (z1:Bool)=>
   some z1
   ) fun k1=>
   if y9=true then
    if (y3.2 == y4.2)=true then
     (AA3 N y5.1 y6.1).bind fun y12=>
     if y12=true then
      if ((y5.2.1 == y6.2.1) != false)=true then
       if (y5.2.2 == y6.2.2)=true then
        if ((y7.1 == y8.1) != false)=true then
         if (y7.2 == y8.2)=true then
          (B7 N ).bind fun y13=>
          k1 y13
         else
          k1 false
        else
         k1 false
       else
        k1 false
      else
       k1 false
     else
      k1 false
    else
     k1 false
   else
    k1 false
end Go.AM
set_option linter.unusedVariables false
namespace Go.AM
open Go.Proofs
theorem Cm4 {A R:Type} {body:(A->Option R)->A->Option R} (I:Nat->A->Prop) (n:Nat) (J5:R->Prop)
 (hstep:∀ self i a,i<=n->I i a->(i < n->∀ a',I (i+1) a' -> ∃ r,self a' = some r/\J5 r)->∃ r,body self a=some r/\J5 r) :
 ∀ (N i:Nat) (a:A),i<=n->I i a->n - i < N->∃ r,Aa9 N body a=some r/\J5 r
 | 0,_,_,_,_,h=>by omega
 | N+1,i,a,hi,hI,h=>by
  rw [Q6]
  exact hstep _ i a hi hI fun hlt a' hI'=>Cm4 I n J5 hstep N (i+1) a' hlt hI' (by omega)
theorem Ak9 {A R:Type} {body:(A->Option R)->A->Option R} (I:Nat->A->Prop) (n:Nat) (J5:R->Prop) {N:Nat} (hN:n < N) {a:A} (h0:I 0 a)
 (hstep:∀ self i a,i<=n->I i a->(i < n->∀ a',I (i+1) a' -> ∃ r,self a' = some r/\J5 r)->∃ r,body self a=some r/\J5 r):∃ r,Aa9 N body a=some r/\J5 r:=
 Cm4 I n J5 hstep N 0 a (Nat.zero_le _) h0 hN
theorem Z1 {A B R:Type} {body:(A->B->Option R)->A->B->Option R} (I:Nat->A->B->Prop) (n:Nat) (J5:R->Prop) {N:Nat} (hN:n < N) {a:A} {b:B} (h0:I 0 a b)
 (hstep:∀ self i a b,i<=n->I i a b->(i < n->∀ a' b',I (i+1) a' b' -> ∃ r,self a' b' = some r/\J5 r)->∃ r,body self a b=some r/\J5 r):∃ r,T0 N body a b=some r/\J5 r:=
 Cm4 (fun i x=>I i x.1 x.2) n J5 (fun self i x hi hI h=>hstep (fun a b=>self (a,b)) i x.1 x.2 hi hI fun hl a' b' hI'=>h hl (a',b') hI') N 0 (a,b) (Nat.zero_le _) h0 hN
theorem Cm5 {A B C R:Type} {body:(A->B->C->Option R)->A->B->C->Option R} (I:Nat->A->B->C->Prop) (n:Nat) (J5:R->Prop) {N:Nat} (hN:n < N) {a:A} {b:B} {c:C} (h0:I 0 a b c)
 (hstep:∀ self i a b c,i<=n->I i a b c->(i < n->∀ a' b' c',I (i+1) a' b' c' -> ∃ r,self a' b' c' = some r/\J5 r)->∃ r,body self a b c=some r/\J5 r):∃ r,CA6 N body a b c=some r/\J5 r:=
 Cm4 (fun i x=>I i x.1 x.2.1 x.2.2) n J5 (fun self i x hi hI h=>hstep (fun a b c=>self (a,b,c)) i x.1 x.2.1 x.2.2 hi hI fun hl a' b' c' hI'=>h hl (a',b',c') hI') N 0 (a,b,c) (Nat.zero_le _) h0 hN
theorem B0 {X R:Type} {Q:R->Prop} {o:Option X} {f:X->Option R} {x:X} (h:o=some x) (h2:∃ r,f x=some r/\Q r):∃ r,o.bind f=some r/\Q r:=by subst h;exact h2
theorem ltX {R A:Type} {Q:R->Prop} {k:A->Option R} {f:(A->Option R)->Option R} (h:∃ r,f k=some r/\Q r):∃ r,lt k f=some r/\Q r:=h
theorem ifT {R:Type} {Q:R->Prop} {p:Prop} [Decidable p] {a b:Option R} (h:p) (h2:∃ r,a=some r/\Q r):∃ r,(if p then a else b)=some r/\Q r:=by rw [if_pos h];exact h2
theorem ifF {R:Type} {Q:R->Prop} {p:Prop} [Decidable p] {a b:Option R} (h:¬ p) (h2:∃ r,b=some r/\Q r):∃ r,(if p then a else b)=some r/\Q r:=by rw [if_neg h];exact h2
theorem F2 {n:Int} (h : -9223372036854775808<=n) (h' : n<=9223372036854775807):IntKind.i64.wrap n=n:=by
 by_cases h0:0<=n
 ·have h1:n % (2 ^ 64:Int)=n:=Int.emod_eq_of_lt h0 (by omega)
  unfold IntKind.wrap
  simp only [IntKind.bits,IntKind.signed,h1]
  rw [if_neg]
  simp;omega
 ·have h1:n % (2 ^ 64:Int)=n+2 ^ 64:=by
   rw [<- Int.add_emod_right];exact Int.emod_eq_of_lt (by omega) (by omega)
  unfold IntKind.wrap
  simp only [IntKind.bits,IntKind.signed,h1]
  rw [if_pos]
  ·omega
  ·simp;omega
theorem C0 {i:Nat} (h:i < 1000000000000000000):IntKind.i64.wrap ((i:Int)+1)=((i+1:Nat):Int):=by
 rw [F2 (by omega) (by omega)];rfl
theorem Cy4 {i:Nat} (h0:1<=i) (h:i < 1000000000000000000):IntKind.i64.wrap ((i:Int) - 1)=((i - 1:Nat):Int):=by
 rw [F2 (by omega) (by omega)];omega
theorem Al0 {i j:Nat} (h:i+j < 1000000000000000000):IntKind.i64.wrap ((i:Int)+(j:Int))=((i+j:Nat):Int):=by
 rw [F2 (by omega) (by omega)];rfl
theorem BL7 {N n:Nat} (hn:n<=32) (hN:1000<=N):∃ s,Az8 N (n:Int)=some s/\s.n=n+1/\TabR n (fun a b=>a=b) s.g:=by
 unfold Az8
 rw [C0 (by omega)]
 refine ifT (by omega) ?_
 refine Z1 (fun i x1 x2=>x2=(i:Int)/\x1.n=n+1/\∀ a,a < i->x1.g a=U (1#64 <<< a)) (n+1) _ (by omega) ⟨rfl,by show (((n+1:Nat):Int)).toNat=n+1;omega,fun a ha=>absurd ha (by omega)⟩ ?_
 rintro self i x1 x2 hi ⟨rfl,h1,h2⟩ hs
 by_cases hl:i<=n
 ·refine ifT (by simp;omega) (ifT ⟨⟨by omega,by omega,by omega⟩,by omega⟩ (hs (by omega) _ _ ⟨C0 (by omega),h1,fun a ha=>?_⟩))
  show (if a=(i:Int).toNat then shI .shl .u64 1 (i:Int) else x1.g a)=_
  by_cases e:a=i
  ·subst e;rw [if_pos (by omega),Bw8 _ (by omega)]
  ·rw [if_neg (by omega)];exact h2 a (by omega)
 ·refine ifF (by simp;omega) ⟨x1,rfl,h1,fun a ha=>⟨1#64 <<< a,h2 a (by omega),fun b hb=>?_⟩⟩
  rw [Ax1 (by omega) hb,decide_eq_true_eq];omega
theorem Cm6 {n:Nat} {f:Nat->Int} (h:∀ a,a<=n->f a=0):TabR n (fun _ _=>False) f:=fun a ha=>⟨0#64,h a ha,fun b hb=>by simp⟩
theorem BL8 {N n:Nat} {R S:Nat->Nat->Prop} {x y:Sl Int} (hn:n<=32) (hN:1000<=N) (hx:x.n=n+1) (hy:y.n=n+1) (hR:TabR n R x.g) (hS:TabR n S y.g) :
 ∃ s,Az9 N x y=some s/\s.n=n+1/\TabR n (fun a b=>R a b \/ S a b) s.g:=by
 unfold Az9
 refine ifT (by omega) ?_
 refine Z1 (fun i x1 x2=>x2=(i:Int)/\x1.n=n+1/\∀ a,a < i->x1.g a=E7 .or .u64 (x.g a) (y.g a)) (n+1) _ (by omega) ⟨rfl,by show ((x.n:Int)).toNat=n+1;omega,fun a ha=>absurd ha (by omega)⟩ ?_
 rintro self i x1 x2 hi ⟨rfl,h1,h2⟩ hs
 by_cases hl:i<=n
 ·refine ifT (by simp;omega) (ifT (by omega) (hs (by omega) _ _ ⟨C0 (by omega),h1,fun a ha=>?_⟩))
  show (if a=(i:Int).toNat then _ else x1.g a)=_
  by_cases e:a=i
  ·subst e;rw [if_pos (by omega),Int.toNat_natCast]
  ·rw [if_neg (by omega)];exact h2 a (by omega)
 ·refine ifF (by simp;omega) ⟨x1,rfl,h1,fun a ha=>?_⟩
  obtain ⟨u,e1,g1⟩:=hR a ha
  obtain ⟨v,e2,g2⟩:=hS a ha
  refine ⟨u ||| v,by rw [h2 a (by omega),e1,e2,CI5],fun b hb=>?_⟩
  rw [BitVec.getLsbD_or,Bool.or_eq_true,g1 b hb,g2 b hb]
  constructor
  ·rintro (⟨h1,h2⟩ | ⟨h1,h2⟩)
   ·exact ⟨h1, .inl h2⟩
   ·exact ⟨h1, .inr h2⟩
  ·rintro ⟨h1,h2 | h2⟩
   ·exact .inl ⟨h1,h2⟩
   ·exact .inr ⟨h1,h2⟩
theorem Cb3 {N n:Nat} {x y:Sl Int} (hn:n<=32) (hN:1000<=N) (hx:x.n=n+1) (hy:y.n=n+1) :
 ∃ b,AE5 N x y=some b/\(b=true ↔ ∀ a,a<=n->x.g a=y.g a):=by
 unfold AE5
 refine Ak9 (fun i x1=>x1=(i:Int)/\∀ a,a < i->x.g a=y.g a) (n+1) _ (by omega) ⟨rfl,fun a ha=>absurd ha (by omega)⟩ ?_
 rintro self i x1 hi ⟨rfl,h2⟩ hs
 by_cases hl:i<=n
 ·refine ifT (by simp;omega) (ifT (by omega) ?_)
  rw [Int.toNat_natCast]
  by_cases e:x.g i=y.g i
  ·refine ifF (by simp [e]) (hs (by omega) _ ⟨C0 (by omega),fun a ha=>?_⟩)
   by_cases h:a=i
   ·subst h;exact e
   ·exact h2 a (by omega)
  ·refine ifT (by simp [e]) ⟨false,rfl,by simp;exact ⟨i,hl,e⟩⟩
 ·exact ifF (by simp;omega) ⟨true,rfl,by simp;exact fun a ha=>h2 a (by omega)⟩
theorem Bi6 {N n:Nat} {R S:Nat->Nat->Prop} {x y:Sl Int} (hn:n<=32) (hN:1000<=N) (hx:x.n=n+1) (hy:y.n=n+1) (hR:TabR n R x.g) (hS:TabR n S y.g) :
 ∃ s,Ag3 N x y=some s/\s.n=n+1/\TabR n (fun a b=>∃ c,c<=n/\R a c/\S c b) s.g:=by
 unfold Ag3
 refine ifT (by omega) ?_
 let Row (z:BitVec 64) (a j:Nat):Prop:=∀ b,b < 64->(z.getLsbD b=true ↔ b<=n/\∃ c,c < j/\c<=n/\R a c/\S c b)
 refine Z1 (fun i x1 x2=>x2=(i:Int)/\x1.n=n+1/\(∀ a,a < i->∃ z,x1.g a=U z/\Row z a (n+1))/\∀ a,i<=a->x1.g a=0) (n+1) _ (by omega) ⟨rfl,by show ((x.n:Int)).toNat=n+1;omega,fun a ha=>absurd ha (by omega),fun a _=>rfl⟩ ?_
 rintro self i x1 x2 hi ⟨rfl,h1,h2,h3⟩ hs
 by_cases hl:i<=n
 ·refine ifT (by simp;omega) ?_
  refine Z1 (fun j x7 x8=>x8=(j:Int)/\x7.n=n+1/\(∀ a,a < i->∃ z,x7.g a=U z/\Row z a (n+1))/\(∃ z,x7.g i=U z/\Row z i j)/\∀ a,i < a->x7.g a=0) (n+1) _ (by omega)
   ⟨rfl,h1,h2,⟨0#64,h3 i (Nat.le_refl _),fun b hb=>by simp⟩,fun a ha=>h3 a (by omega)⟩ ?_
  rintro self2 j x7 x8 hj ⟨rfl,g1,g2,⟨z,g3,g4⟩,g5⟩ hs2
  by_cases hl2:j<=n
  ·refine ifT (by simp;omega) (ifT (by omega) ?_)
   rw [Int.toNat_natCast,Int.toNat_natCast]
   have hbit:=hR.bit hl (b:=j) (by omega)
   by_cases hc:R i j
   ·refine ifT (hbit.2 ⟨hl2,hc⟩) (ifT (by omega) (hs2 (by omega) _ _ ⟨C0 (by omega),g1,fun a ha=>?_, ?_,fun a ha=>?_⟩))
    ·obtain ⟨z',e,hz⟩:=g2 a ha
     exact ⟨z',by show (if a=i then _ else x7.g a)=_;rw [if_neg (by omega)];exact e,hz⟩
    ·obtain ⟨v,e,hv⟩:=hS j hl2
     refine ⟨z ||| v,by show (if i=i then _ else _)=_;rw [if_pos rfl,g3,e,CI5],fun b hb=>?_⟩
     rw [BitVec.getLsbD_or,Bool.or_eq_true,g4 b hb,hv b hb]
     constructor
     ·rintro (⟨k1,c,k2,k3⟩ | ⟨k1,k2⟩)
      ·exact ⟨k1,c,by omega,k3⟩
      ·exact ⟨k1,j,by omega,hl2,hc,k2⟩
     ·rintro ⟨k1,c,k2,k3,k4,k5⟩
      by_cases e:c=j
      ·subst e;exact .inr ⟨k1,k5⟩
      ·exact .inl ⟨k1,c,by omega,k3,k4,k5⟩
    ·show (if a=i then _ else x7.g a)=_
     rw [if_neg (by omega)];exact g5 a ha
   ·refine ifF (fun h=>hc (hbit.1 h).2) (hs2 (by omega) _ _ ⟨C0 (by omega),g1,g2,⟨z,g3,fun b hb=>?_⟩,g5⟩)
    rw [g4 b hb]
    constructor
    ·rintro ⟨k1,c,k2,k3⟩;exact ⟨k1,c,by omega,k3⟩
    ·rintro ⟨k1,c,k2,k3,k4,k5⟩
     by_cases e:c=j
     ·subst e;exact absurd k4 hc
     ·exact ⟨k1,c,by omega,k3,k4,k5⟩
  ·refine ifF (by simp;omega) (hs (by omega) _ _ ⟨C0 (by omega),g1,fun a ha=>?_,fun a ha=>g5 a (by omega)⟩)
   by_cases e:a=i
   ·subst e
    obtain rfl:j=n+1:=by omega
    exact ⟨z,g3,g4⟩
   ·exact g2 a (by omega)
 ·refine ifF (by simp;omega) ⟨x1,rfl,h1,fun a ha=>?_⟩
  obtain ⟨z,e,hz⟩:=h2 a (by omega)
  refine ⟨z,e,fun b hb=>(hz b hb).trans ⟨fun ⟨k1,c,_,k3⟩=>⟨k1,c,k3⟩,fun ⟨k1,c,k3⟩=>⟨k1,c,by omega,k3⟩⟩⟩
end Go.AM
