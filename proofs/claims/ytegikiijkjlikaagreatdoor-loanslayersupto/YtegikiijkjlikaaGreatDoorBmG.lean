/- What a law's walk and its plain proof need, part 7: no condition of its own. -/
import Derived.Test.YtegikiijkjlikaaGreatDoorBmF
import Derived.Test.YtegikiijkjlikaaGreatDoorBmD
import Derived.Test.YtegikiijkjlikaaGreatDoorBmE
set_option linter.unusedSimpArgs false
set_option linter.unusedVariables false
set_option linter.unusedSectionVars false
set_option linter.unusedVariables false
set_option linter.unusedSectionVars false
namespace Go.AM
open Go.Proofs
set_option maxRecDepth 10000
set_option maxHeartbeats 2000000
variable {S:Ag9} (hS:I2 S Tryz.prog) (hL:BV2 S)
include hS hL
def Af8 (N:Nat) (p_s:Str):Option Bool:=
 lt (fun (z1:Bool)=>
  some z1
  ) fun k1=>
  if ((p_s == []) != true)=true then
   if (decide ((p_s.length:Int)<=24))=true then
    (Ao6 N p_s [97,98,99,100,101,102,103,104,105,106,107,108,109,110,111,112,113,114,115,116,117,118,119,120,121,122,65,66,67,68,69,70,71,72,73,74,75,76,77,78,79,80,81,82,83,84,85,86,87,88,89,90,48,49,50,51,52,53,54,55,56,57,45]).bind fun y2=>
    k1 ((y2 == []) != false)
   else
    k1 false
  else
   k1 false
theorem BO9 {N:Nat} {p_s:Str}   {y:Bool} (h:Af8 N p_s=some y) :
 FunO S AY0 [(.p (.str p_s))] [] (pB y) ([]) []:=by
 unfold Af8 at h
 refine A6 hS BL7 ?_
 refine AH1 hS trivial (B0 hS) h 0 (fun z1=>⟨[(2,(pB z1))], []⟩) (fun M1 k1 hb1 h=>?_) (fun z1 h=>?_)
 ·refine A7 hS trivial (b:=((p_s == []) != true)) (fun c5=>?_) (fun c5=>?_)
  ·replace h:=itT c5 h
   refine A7 hS trivial (b:=decide ((p_s.length:Int)<=24)) (fun c6=>?_) (fun c6=>?_)
   ·replace h:=itT c6 h
    obtain ⟨y2,e2,h⟩:=A4 h
    refine A2 hS [] trivial (Bf8 hS hL e2) ?_
    exact hb1 _ [] _ ((y2 == []) != false) trivial h
   ·replace h:=itF c6 h
    exact hb1 _ [] _ false trivial h
  ·replace h:=itF c5 h
   exact hb1 _ [] _ false trivial h
 ·obtain rfl:=A3 h
  exact B1 hS trivial [] ⟨rfl,rfl,rfl⟩
def S1 (N:Nat) (p_x:Ae4) (p_k:Int):Option Bool:=
 lt (fun (z1:Bool)=>
  if z1=true then
   some false
  else
   if ((((C6 .andNot .u32 (C6 .or .u32 p_x.Clear p_x.Take) 16777215) != 0) || ((C6 .and .u32 p_x.Clear (C6 .or .u32 p_x.Set.Plus p_x.Set.Minus)) != 0)) || ((C6 .and .u32 p_x.Take (C6 .or .u32 (C6 .or .u32 p_x.Set.Plus p_x.Set.Minus) p_x.Clear)) != 0))=true then
    some false
   else
    if (p_x.Take == 0)=true then
     some (p_x.Of == 0)
    else
     some ((decide (0<=p_x.Of)) && (decide (p_x.Of < p_k)))
  ) fun k1=>
  if (decide (p_x.From < (-1)))=true then
   k1 true
  else
   if (decide (p_k<=p_x.From))=true then
    k1 true
   else
    (F5 N p_x.Set).bind fun y2=>
    k1 (!y2)
theorem Cd7 {N:Nat} {p_x:Ae4} {p_k:Int}   {y:Bool} (h:S1 N p_x p_k=some y) :
 FunO S Bk3 [(.p (.agg (Q6 p_x))),(pN p_k)] [] (pB y) ([]) []:=by
 unfold S1 at h
 refine A6 hS Cb4 ?_
 refine AH1 hS trivial (B0 hS) h 0 (fun z1=>⟨[(13,(pB z1)),(5,(pU (C6 .or .u32 p_x.Set.Plus p_x.Set.Minus))),(2,(.reg 3000 0)),(1,(pN p_k))], [(3000,(.cells ((Q6 p_x).map .p)))]⟩) (fun M1 k1 hb1 h=>?_) (fun z1 h=>?_)
 ·refine A7 hS trivial (b:=decide (p_x.From < (-1))) (fun c5=>?_) (fun c5=>?_)
  ·replace h:=itT c5 h
   exact hb1 _ [(3000,3000)] _ true trivial h
  ·replace h:=itF c5 h
   refine A7 hS trivial (b:=decide (p_k<=p_x.From)) (fun c6=>?_) (fun c6=>?_)
   ·replace h:=itT c6 h
    exact hb1 _ [(3000,3000)] _ true trivial h
   ·replace h:=itF c6 h
    obtain ⟨y2,e2,h⟩:=A4 h
    refine A2 hS [] trivial (O7 hS hL e2) ?_
    exact hb1 _ [(3000,3000)] _ (!y2) trivial h
 ·refine A1 hS trivial (b:=z1) (fun c7=>?_) (fun c7=>?_)
  ·replace h:=itT c7 h
   obtain rfl:=A3 h
   exact B1 hS trivial [] ⟨rfl,rfl,rfl⟩
  ·replace h:=itF c7 h
   obtain ⟨t1,ht1⟩:∃ x:Bool,x=((((C6 .andNot .u32 (C6 .or .u32 p_x.Clear p_x.Take) 16777215) != 0) || ((C6 .and .u32 p_x.Clear (C6 .or .u32 p_x.Set.Plus p_x.Set.Minus)) != 0)) || ((C6 .and .u32 p_x.Take (C6 .or .u32 (C6 .or .u32 p_x.Set.Plus p_x.Set.Minus) p_x.Clear)) != 0)):=⟨_,rfl⟩
   refine S9 hS trivial (B0 hS) 0 ⟨[(29,(pB t1)),(2,(.reg 3000 0)),(1,(pN p_k))], [(3000,(.cells ((Q6 p_x).map .p)))]⟩ (fun M2 hb2=>?_) ?_
   ·refine A7 hS trivial (b:=(C6 .andNot .u32 (C6 .or .u32 p_x.Clear p_x.Take) 16777215) != 0) (fun c10=>?_) (fun c10=>?_)
    ·exact hb2 _ [(3000,3000)] _ trivial (by kernel_rfl) (by kernel_rfl) (klR [(0, .eq (.bb true) (.bb t1))] (al1 (by simp only [ht1,c10,Leaf.ok,pm,if_true,if_false]) al0))
    ·refine A7 hS trivial (b:=(C6 .and .u32 p_x.Clear (C6 .or .u32 p_x.Set.Plus p_x.Set.Minus)) != 0) (fun c11=>?_) (fun c11=>?_)
     ·exact hb2 _ [(3000,3000)] _ trivial (by kernel_rfl) (by kernel_rfl) (klR [(0, .eq (.bb true) (.bb t1))] (al1 (by simp only [ht1,c10,c11,Leaf.ok,pm,if_true,if_false]) al0))
     ·exact hb2 _ [(3000,3000)] _ trivial (by kernel_rfl) (by kernel_rfl) (klR [(0, .eq (.bb ((C6 .and .u32 p_x.Take (C6 .or .u32 (C6 .or .u32 p_x.Set.Plus p_x.Set.Minus) p_x.Clear)) != 0)) (.bb t1))] (al1 (by simp only [ht1,c10,c11,Leaf.ok,pm,if_true,if_false]) al0))
   ·subst ht1
    refine A1 hS trivial (b:=((((C6 .andNot .u32 (C6 .or .u32 p_x.Clear p_x.Take) 16777215) != 0) || ((C6 .and .u32 p_x.Clear (C6 .or .u32 p_x.Set.Plus p_x.Set.Minus)) != 0)) || ((C6 .and .u32 p_x.Take (C6 .or .u32 (C6 .or .u32 p_x.Set.Plus p_x.Set.Minus) p_x.Clear)) != 0))) (fun c12=>?_) (fun c12=>?_)
    ·replace h:=itT c12 h
     obtain rfl:=A3 h
     exact B1 hS trivial [] ⟨rfl,rfl,rfl⟩
    ·replace h:=itF c12 h
     refine A1 hS trivial (b:=p_x.Take == 0) (fun c13=>?_) (fun c13=>?_)
     ·replace h:=itT c13 h
      obtain rfl:=A3 h
      exact B1 hS trivial [] ⟨rfl,rfl,rfl⟩
     ·replace h:=itF c13 h
      obtain ⟨t2,ht2⟩:∃ x:Bool,x=((decide (0<=p_x.Of)) && (decide (p_x.Of < p_k))):=⟨_,rfl⟩
      refine S9 hS trivial (B0 hS) 0 ⟨[(4,(pB t2))], []⟩ (fun M3 hb3=>?_) ?_
      ·refine A7 hS trivial (b:=decide (0<=p_x.Of)) (fun c15=>?_) (fun c15=>?_)
       ·exact hb3 _ [] _ trivial (by kernel_rfl) (by kernel_rfl) (klR [(0, .eq (.bb (decide (p_x.Of < p_k))) (.bb t2))] (al1 (by simp only [ht2,c15,Leaf.ok,pm,if_true,if_false]) al0))
       ·exact hb3 _ [] _ trivial (by kernel_rfl) (by kernel_rfl) (klR [(0, .eq (.bb false) (.bb t2))] (al1 (by simp only [ht2,c15,Leaf.ok,pm,if_true,if_false]) al0))
      ·subst ht2
       obtain rfl:=A3 h
       exact B1 hS trivial [] ⟨rfl,rfl,rfl⟩
def W9 (N:Nat) (p_x:Ae4) (q0:Int):Option Bool:=
 (S1 N p_x q0).bind fun y1=>
 some (!y1)
theorem Bs3 {N:Nat} {p_x:Ae4} {q0:Int}   {y:Bool} (h:W9 N p_x q0=some y) :
 FunO S As9 [(.p (.agg (Q6 p_x))),(.reg 0 0)] [(.cells [(pN q0)])] (pB y) ([(.cells [(pN q0)])]) [true]:=by
 unfold W9 at h
 refine A6 hS Bq4 ?_
 obtain ⟨y1,e1,h⟩:=A4 h
 refine A2 hS [] trivial (Cd7 hS hL e1) ?_
 obtain rfl:=A3 h
 exact B4 hS trivial ⟨[(3,(pB (!y1)))], [(0,(.cells [(pN q0)]))]⟩ [0] (ids:=[(0,0)]) ⟨rfl,rfl,rfl⟩
def X0 (N:Nat) (p_s:Sound):Option Bool:=
 (F5 N p_s).bind fun y1=>
 some (!y1)
theorem Bs4 {N:Nat} {p_s:Sound}   {y:Bool} (h:X0 N p_s=some y) :
 FunO S At0 [(.p (.agg (A0 p_s)))] [] (pB y) ([]) []:=by
 unfold X0 at h
 refine A6 hS Bq5 ?_
 obtain ⟨y1,e1,h⟩:=A4 h
 refine A2 hS [] trivial (O7 hS hL e1) ?_
 obtain rfl:=A3 h
 exact B1 hS trivial [] ⟨rfl,rfl,rfl⟩
def E3 (N:Nat) (p_s:(Sl Ae4)) (p_f:Ae4->Option Bool):Option Int:=
 Ae3 N (fun self1 (x1:Int)=>
  if (decide (x1 < (p_s.n:Int)))=true then
   if ((0:Int)<=x1/\x1 < (p_s.n:Int)) then
    (p_f (p_s.g x1.toNat)).bind fun y3=>
    if y3=true then
     some x1
    else
     self1 (IntKind.wrap .i64 (x1+1))
   else none
  else
   some (-1)
  ) 0
theorem Y4 {N:Nat} {p_s:(Sl Ae4)} {p_f:Ae4->Option Bool} {p_f_0:Int} {kp_f:Nat} (hp_f:∀ {a0:Ae4} {b:Bool},p_f a0=some b->FunO S kp_f [(.p (.agg (Q6 a0))), .reg 0 0] [(.cells [(pN p_f_0)])] (pB b) [(.cells [(pN p_f_0)])] [true]) {y:Int} (h:E3 N p_s p_f=some y) :
 FunO S K8 [(.p (vSl 6 Q6 p_s)),(.clo kp_f [] [(.reg 0 0)])] [(.cells [(pN p_f_0)])] (pN y) ([(.cells [(pN p_f_0)])]) [true]:=by
 unfold E3 at h
 refine A6 hS Y1 ?_
 refine U1 hS trivial h (fun x1=>⟨[(8,(pN x1)),(7,(pN (p_s.n:Int))),(1,(.clo kp_f [] [(.reg 0 0)])),(0,(.p (vSl 6 Q6 p_s)))], [(0,(.cells [(pN p_f_0)]))]⟩) (ids:=[(0,0)]) (fun _ _ _ _ _ self1 x1 hb1 h=>?_)
 refine A1 hS trivial (b:=decide (x1 < (p_s.n:Int))) (fun c7=>?_) (fun c7=>?_)
 ·replace h:=itT c7 h
  obtain ⟨c8,h⟩:=F3 h
  obtain ⟨y3,e3,h⟩:=A4 h
  refine A2 hS [0] (And.intro c8 (by decide:(6:Nat)<=6)) (hp_f e3) ?_
  refine A1 hS trivial (b:=y3) (fun c9=>?_) (fun c9=>?_)
  ·replace h:=itT c9 h
   obtain rfl:=A3 h
   exact B4 hS trivial ⟨[(4,(pN x1))], [(0,(.cells [(pN p_f_0)]))]⟩ [0] (ids:=[(0,0)]) ⟨rfl,rfl,rfl⟩
  ·replace h:=itF c9 h
   exact hb1 _ [(0,0)] _ (IntKind.wrap .i64 (x1+1)) trivial h
 ·replace h:=itF c7 h
  obtain rfl:=A3 h
  exact B4 hS trivial ⟨[(4,(pN (-1)))], [(0,(.cells [(pN p_f_0)]))]⟩ [0] (ids:=[(0,0)]) ⟨rfl,rfl,rfl⟩
def C4 (N:Nat) (p_s:(Sl Ae4)) (p_f:Ae4->Option Bool):Option Bool:=
 (E3 N p_s p_f).bind fun y1=>
 some (decide (0<=y1))
theorem T7 {N:Nat} {p_s:(Sl Ae4)} {p_f:Ae4->Option Bool} {p_f_0:Int} {kp_f:Nat} (hp_f:∀ {a0:Ae4} {b:Bool},p_f a0=some b->FunO S kp_f [(.p (.agg (Q6 a0))), .reg 0 0] [(.cells [(pN p_f_0)])] (pB b) [(.cells [(pN p_f_0)])] [true]) {y:Bool} (h:C4 N p_s p_f=some y) :
 FunO S I6 [(.p (vSl 6 Q6 p_s)),(.clo kp_f [] [(.reg 0 0)])] [(.cells [(pN p_f_0)])] (pB y) ([(.cells [(pN p_f_0)])]) [true]:=by
 unfold C4 at h
 refine A6 hS T6 ?_
 obtain ⟨y1,e1,h⟩:=A4 h
 refine A2 hS [0] trivial (Y4 hS hL (fun e=>hp_f e) e1) ?_
 obtain rfl:=A3 h
 exact B4 hS trivial ⟨[(4,(pB (decide (0<=y1))))], [(0,(.cells [(pN p_f_0)]))]⟩ [0] (ids:=[(0,0)]) ⟨rfl,rfl,rfl⟩
def Ab5 (N:Nat) (p_l:Law):Option Int:=
 (Af8 N p_l.Name).bind fun y1=>
 if (!y1)=true then
  some 17
 else
  (V5 N p_l.Left).bind fun y2=>
  if (y2 != 0)=true then
   some 17
  else
   (V5 N p_l.Right).bind fun y3=>
   if (y3 != 0)=true then
    some 17
   else
    if (decide (4 < (p_l.If.n:Int)))=true then
     some 17
    else
     if (decide (6 < (p_l.Out.n:Int)))=true then
      some 17
     else
      if ((IntKind.wrap .i64 ((p_l.If.n:Int)+(p_l.Out.n:Int))) == 0)=true then
       some 17
      else
       if ((decide (p_l.Mode < 1)) || (decide (3 < p_l.Mode)))=true then
        some 17
       else
        (B8 N p_l.If (fun (u1:Sound)=>X0 N u1)).bind fun y4=>
        if y4=true then
         some 17
        else
         (C4 N p_l.Out (fun (u2:Ae4)=>W9 N u2 (p_l.If.n:Int))).bind fun y5=>
         if y5=true then
          some 17
         else
          some 0
theorem Bb1 {N:Nat} {p_l:Law}   {y:Int} (h:Ab5 N p_l=some y) :
 FunO S AX5 [(.p (.agg (A8 p_l)))] [] (pN y) ([]) []:=by
 unfold Ab5 at h
 refine A6 hS BL2 ?_
 obtain ⟨y1,e1,h⟩:=A4 h
 refine A2 hS [] trivial (BO9 hS hL e1) ?_
 refine A1 hS trivial (b:=!y1) (fun c1=>?_) (fun c1=>?_)
 ·replace h:=itT c1 h
  refine A1 hS trivial (b:=!y1) (fun c2=>?_) (fun c2=>?_)
  ·obtain rfl:=A3 h
   exact B1 hS trivial [] ⟨rfl,rfl,rfl⟩
  ·exact Bool.noConfusion (c1.symm.trans c2)
 ·replace h:=itF c1 h
  obtain ⟨y2,e2,h⟩:=A4 h
  refine A2 hS [] trivial (Ay6 hS hL e2) ?_
  refine A1 hS trivial (b:=y2 != 0) (fun c3=>?_) (fun c3=>?_)
  ·replace h:=itT c3 h
   refine A1 hS trivial (b:=y2 != 0) (fun c4=>?_) (fun c4=>?_)
   ·obtain rfl:=A3 h
    exact B1 hS trivial [] ⟨rfl,rfl,rfl⟩
   ·exact Bool.noConfusion (c3.symm.trans c4)
  ·replace h:=itF c3 h
   obtain ⟨y3,e3,h⟩:=A4 h
   refine A2 hS [] trivial (Ay6 hS hL e3) ?_
   refine A1 hS trivial (b:=y3 != 0) (fun c5=>?_) (fun c5=>?_)
   ·replace h:=itT c5 h
    refine A1 hS trivial (b:=y3 != 0) (fun c6=>?_) (fun c6=>?_)
    ·obtain rfl:=A3 h
     exact B1 hS trivial [] ⟨rfl,rfl,rfl⟩
    ·exact Bool.noConfusion (c5.symm.trans c6)
   ·replace h:=itF c5 h
    refine A1 hS trivial (b:=decide (4 < (p_l.If.n:Int))) (fun c7=>?_) (fun c7=>?_)
    ·replace h:=itT c7 h
     refine A1 hS trivial (b:=decide (4 < (p_l.If.n:Int))) (fun c8=>?_) (fun c8=>?_)
     ·obtain rfl:=A3 h
      exact B1 hS trivial [] ⟨rfl,rfl,rfl⟩
     ·exact Bool.noConfusion (c7.symm.trans c8)
    ·replace h:=itF c7 h
     refine A1 hS trivial (b:=decide (6 < (p_l.Out.n:Int))) (fun c9=>?_) (fun c9=>?_)
     ·replace h:=itT c9 h
      refine A1 hS trivial (b:=decide (6 < (p_l.Out.n:Int))) (fun c10=>?_) (fun c10=>?_)
      ·obtain rfl:=A3 h
       exact B1 hS trivial [] ⟨rfl,rfl,rfl⟩
      ·exact Bool.noConfusion (c9.symm.trans c10)
     ·replace h:=itF c9 h
      refine A1 hS trivial (b:=(IntKind.wrap .i64 ((p_l.If.n:Int)+(p_l.Out.n:Int))) == 0) (fun c11=>?_) (fun c11=>?_)
      ·replace h:=itT c11 h
       refine A1 hS trivial (b:=(IntKind.wrap .i64 ((p_l.If.n:Int)+(p_l.Out.n:Int))) == 0) (fun c12=>?_) (fun c12=>?_)
       ·obtain rfl:=A3 h
        exact B1 hS trivial [] ⟨rfl,rfl,rfl⟩
       ·exact Bool.noConfusion (c11.symm.trans c12)
      ·replace h:=itF c11 h
       obtain ⟨t1,ht1⟩:∃ x:Bool,x=((decide (p_l.Mode < 1)) || (decide (3 < p_l.Mode))):=⟨_,rfl⟩
       refine S9 hS trivial (B0 hS) 0 ⟨[(10,(pB t1)),(5,(.clo At0 [] [])),(4,(.clo As9 [] [(.reg 4000 0)])),(1,(.reg 2000 0))], [(4000,(.cells [(pN (p_l.If.n:Int))])),(2000,(.cells ((A8 p_l).map .p)))]⟩ (fun M1 hb1=>?_) ?_
       ·refine A7 hS trivial (b:=decide (p_l.Mode < 1)) (fun c14=>?_) (fun c14=>?_)
        ·exact hb1 _ [(2000,2000),(4000,4000)] _ trivial (by kernel_rfl) (by kernel_rfl) (klR [(0, .eq (.bb true) (.bb t1))] (al1 (by simp only [ht1,c14,Leaf.ok,pm,if_true,if_false]) al0))
        ·exact hb1 _ [(2000,2000),(4000,4000)] _ trivial (by kernel_rfl) (by kernel_rfl) (klR [(0, .eq (.bb (decide (3 < p_l.Mode))) (.bb t1))] (al1 (by simp only [ht1,c14,Leaf.ok,pm,if_true,if_false]) al0))
       ·subst ht1
        refine A1 hS trivial (b:=((decide (p_l.Mode < 1)) || (decide (3 < p_l.Mode)))) (fun c15=>?_) (fun c15=>?_)
        ·replace h:=itT c15 h
         refine A1 hS trivial (b:=((decide (p_l.Mode < 1)) || (decide (3 < p_l.Mode)))) (fun c16=>?_) (fun c16=>?_)
         ·obtain rfl:=A3 h
          exact B1 hS trivial [] ⟨rfl,rfl,rfl⟩
         ·exact Bool.noConfusion (c15.symm.trans c16)
        ·replace h:=itF c15 h
         obtain ⟨y4,e4,h⟩:=A4 h
         refine A2 hS [] trivial (H6 hS hL (fun e=>Bs4 hS hL e) e4) ?_
         refine A1 hS trivial (b:=y4) (fun c17=>?_) (fun c17=>?_)
         ·replace h:=itT c17 h
          refine A1 hS trivial (b:=y4) (fun c18=>?_) (fun c18=>?_)
          ·obtain rfl:=A3 h
           exact B1 hS trivial [] ⟨rfl,rfl,rfl⟩
          ·exact Bool.noConfusion (c17.symm.trans c18)
         ·replace h:=itF c17 h
          obtain ⟨y5,e5,h⟩:=A4 h
          refine A2 hS [4000] trivial (T7 hS hL (fun e=>Bs3 hS hL e) e5) ?_
          refine A1 hS trivial (b:=y5) (fun c19=>?_) (fun c19=>?_)
          ·replace h:=itT c19 h
           obtain rfl:=A3 h
           exact B1 hS trivial [] ⟨rfl,rfl,rfl⟩
          ·replace h:=itF c19 h
           obtain rfl:=A3 h
           exact B1 hS trivial [] ⟨rfl,rfl,rfl⟩
def At9 (N:Nat) (p_l:Law) (p_w:(Sl Sound)):Option Int:=
 (Ab5 N p_l).bind fun y1=>
 if (y1 != 0)=true then
  some y1
 else
  (U5 N p_w).bind fun y2=>
  some y2
theorem BP0 {N:Nat} {p_l:Law} {p_w:(Sl Sound)}   {y:Int} (h:At9 N p_l p_w=some y) :
 FunO S AY6 [(.p (.agg (A8 p_l))),(.p (vSl 2 A0 p_w))] [] (pN y) ([]) []:=by
 unfold At9 at h
 refine A6 hS BM3 ?_
 obtain ⟨y1,e1,h⟩:=A4 h
 refine A2 hS [] trivial (Bb1 hS hL e1) ?_
 refine A1 hS trivial (b:=y1 != 0) (fun c1=>?_) (fun c1=>?_)
 ·replace h:=itT c1 h
  obtain rfl:=A3 h
  exact B1 hS trivial [] ⟨rfl,rfl,rfl⟩
 ·replace h:=itF c1 h
  obtain ⟨y2,e2,h⟩:=A4 h
  refine A2 hS [] trivial (Ay3 hS hL e2) ?_
  obtain rfl:=A3 h
  exact B1 hS trivial [] ⟨rfl,rfl,rfl⟩
def S2 (N:Nat) (p_at:Int) (q0:Law) (q1:(Sl Sound)):Option Bool:=
 (Ad9 N q0.Left q1 p_at).bind fun y1=>
 if ((y1.1.n:Int) == 0)=true then
  some false
 else
  (Am1 N q0.Right q1 (IntKind.wrap .i64 (p_at+(q0.If.n:Int)))).bind fun y2=>
  some (decide (0 < (y2.1.n:Int)))
theorem Bg4 {N:Nat} {p_at:Int} {q0:Law} {q1:(Sl Sound)}   {y:Bool} (h:S2 N p_at q0 q1=some y) :
 FunO S S0 [(pN p_at),(.reg 0 0),(.reg 1 0)] [(.cells ((A8 q0).map .p)),(.cells [(.p (vSl 2 A0 q1))])] (pB y) ([(.cells ((A8 q0).map .p)),(.cells [(.p (vSl 2 A0 q1))])]) [true,true]:=by
 unfold S2 at h
 refine A6 hS Bf4 ?_
 obtain ⟨y1,e1,h⟩:=A4 h
 refine A2 hS [] trivial (Bs2 hS hL e1) ?_
 refine A1 hS trivial (b:=(y1.1.n:Int) == 0) (fun c1=>?_) (fun c1=>?_)
 ·replace h:=itT c1 h
  obtain rfl:=A3 h
  exact B4 hS trivial ⟨[(4,(pB false))], [(1,(.cells [(.p (vSl 2 A0 q1))])),(0,(.cells ((A8 q0).map .p)))]⟩ [0,1] (ids:=[(0,0),(1,1)]) ⟨rfl,rfl,rfl⟩
 ·replace h:=itF c1 h
  obtain ⟨y2,e2,h⟩:=A4 h
  refine A2 hS [] trivial (BO8 hS hL e2) ?_
  obtain rfl:=A3 h
  exact B4 hS trivial ⟨[(4,(pB (decide (0 < (y2.1.n:Int)))))], [(1,(.cells [(.p (vSl 2 A0 q1))])),(0,(.cells ((A8 q0).map .p)))]⟩ [0,1] (ids:=[(0,0),(1,1)]) ⟨rfl,rfl,rfl⟩
def Ay8 (N:Nat) (p_l:Law) (p_w:(Sl Sound)):Option (Law × (Sl Sound)):=
 some (p_l,p_w)
theorem BD7 {N:Nat} {p_l:Law} {p_w:(Sl Sound)}   {y:(Law × (Sl Sound))} (h:Ay8 N p_l p_w=some y) :
 FunO S AQ1 [(.p (.agg (A8 p_l))),(.p (vSl 2 A0 p_w))] [] (.clo S0 [] [.reg 0 0, .reg 1 0]) ([(.cells ((A8 y.1).map .p)),(.cells [(.p (vSl 2 A0 y.2))])]) []:=by
 unfold Ay8 at h
 refine A6 hS BB6 ?_
 obtain rfl:=A3 h
 exact B4 hS trivial ⟨[(4,(.clo S0 [] [(.reg 3000 0),(.reg 4000 0)]))], [(4000,(.cells [(.p (vSl 2 A0 p_w))])),(3000,(.cells ((A8 p_l).map .p)))]⟩ [3000,4000] (ids:=[(3000,3000),(4000,4000)]) ⟨rfl,rfl,rfl⟩
def Q4 (N:Nat) (p_l:Law) (p_cut:(Sl Sound)):Option (Sl Sound):=
 V9 N (fun self1 (x1:Sl Sound) (x2:Int)=>
  if (decide (x2 < (p_l.Out.n:Int)))=true then
   if ((0:Int)<=x2/\x2 < (p_l.Out.n:Int)) then
    if ((decide (0<=(p_l.Out.g x2.toNat).From))=true->((0:Int)<=(p_l.Out.g x2.toNat).From/\(p_l.Out.g x2.toNat).From < (p_cut.n:Int))) then
     (N1 N (⟨(if (decide (0<=(p_l.Out.g x2.toNat).From))=true then (p_cut.g (p_l.Out.g x2.toNat).From.toNat).Plus else 0),(if (decide (0<=(p_l.Out.g x2.toNat).From))=true then (p_cut.g (p_l.Out.g x2.toNat).From.toNat).Minus else 0)⟩:Sound) (p_l.Out.g x2.toNat).Clear (p_l.Out.g x2.toNat).Set).bind fun y5=>
     if ((p_l.Out.g x2.toNat).Take != 0)=true then
      if ((0:Int)<=(p_l.Out.g x2.toNat).Of/\(p_l.Out.g x2.toNat).Of < (p_cut.n:Int)) then
       (Q7 N y5.1 (p_cut.g (p_l.Out.g x2.toNat).Of.toNat) (p_l.Out.g x2.toNat).Take).bind fun y6=>
       if ((x1.n+(Sl.of [y6.1]:Sl Sound).n) * 8<=140737488355328/\x1.n+(Sl.of [y6.1]:Sl Sound).n<=140737488355328) then
        self1 (x1.push y6.1) (IntKind.wrap .i64 (x2+1))
       else none
      else none
     else
      if ((x1.n+(Sl.of [y5.1]:Sl Sound).n) * 8<=140737488355328/\x1.n+(Sl.of [y5.1]:Sl Sound).n<=140737488355328) then
       self1 (x1.push y5.1) (IntKind.wrap .i64 (x2+1))
      else none
    else none
   else none
  else
   some x1
  ) (Sl.nil:Sl Sound) 0
theorem BD8 {N:Nat} {p_l:Law} {p_cut:(Sl Sound)}   {y:(Sl Sound)} (h:Q4 N p_l p_cut=some y) :
 FunO S BB1 [(.p (.agg (A8 p_l))),(.p (vSl 2 A0 p_cut))] [] (.p (vSl 2 A0 y)) ([]) []:=by
 unfold Q4 at h
 refine A6 hS Cm7 ?_
 refine R7 hS trivial 4 3000 (A8 p_l) ?_
 refine H9 hS trivial h (fun x1 x2=>⟨[(12,(pN x2)),(11,(pN (p_l.Out.n:Int))),(10,(.p (vSl 6 Q6 p_l.Out))),(5,(.vec 6500)),(1,(.p (vSl 2 A0 p_cut)))], [(6500,(.vec B2 2 x1.n (fun i=>A0 (x1.g i)) false))]⟩) (ids:=[]) (fun _ _ _ _ _ self1 x1 x2 hb3 h=>?_)
 refine A1 hS trivial (b:=decide (x2 < (p_l.Out.n:Int))) (fun c15=>?_) (fun c15=>?_)
 ·replace h:=itT c15 h
  obtain ⟨c16,h⟩:=F3 h
  refine R7 hS (And.intro c16 (by decide:(6:Nat)<=6)) 8 8000 (Q6 (p_l.Out.g x2.toNat)) ?_
  obtain ⟨c18,h⟩:=F3 h
  obtain ⟨t5,ht5⟩:∃ x:Int,x=(if (decide (0<=(p_l.Out.g x2.toNat).From))=true then (p_cut.g (p_l.Out.g x2.toNat).From.toNat).Plus else 0):=⟨_,rfl⟩
  obtain ⟨t6,ht6⟩:∃ x:Int,x=(if (decide (0<=(p_l.Out.g x2.toNat).From))=true then (p_cut.g (p_l.Out.g x2.toNat).From.toNat).Minus else 0):=⟨_,rfl⟩
  refine S9 hS trivial (B0 hS) 0 ⟨[(12,(pN x2)),(11,(pN (p_l.Out.n:Int))),(10,(.p (vSl 6 Q6 p_l.Out))),(8,(.reg 9000 0)),(7,(.p (.ptr (Q6 (p_l.Out.g x2.toNat))))),(5,(.vec 6500)),(1,(.p (vSl 2 A0 p_cut)))], [(9000,(.cells [(pU t5),(pU t6)])),(6500,(.vec B2 2 x1.n (fun i=>A0 (x1.g i)) false))]⟩ (fun M3 hb4=>?_) ?_
  ·refine A1 hS trivial (b:=decide (0<=(p_l.Out.g x2.toNat).From)) (fun c19=>?_) (fun c19=>?_)
   ·exact hb4 _ [(6500,6500),(9000,9000)] _ (And.intro (c18 c19) (by decide:(2:Nat)<=2)) (by kernel_rfl) (by kernel_rfl) (klR [(5, .eq (pI .u32 (p_cut.g (p_l.Out.g x2.toNat).From.toNat).Plus) (pI .u32 t5)),(6, .eq (pI .u32 (p_cut.g (p_l.Out.g x2.toNat).From.toNat).Minus) (pI .u32 t6))] (al1 (by simp only [ht5,ht6,c19,Leaf.ok,pm,if_true,if_false]) (al1 (by simp only [ht5,ht6,c19,Leaf.ok,pm,if_true,if_false]) al0)))
   ·exact hb4 _ [(6500,6500),(9000,9000)] _ trivial (by kernel_rfl) (by kernel_rfl) (klR [(5, .eq (pI .u32 0) (pI .u32 t5)),(6, .eq (pI .u32 0) (pI .u32 t6))] (al1 (by simp only [ht5,ht6,c19,Leaf.ok,pm,if_true,if_false]) (al1 (by simp only [ht5,ht6,c19,Leaf.ok,pm,if_true,if_false]) al0)))
  ·subst ht6
   subst ht5
   obtain ⟨y5,e5,h⟩:=A4 h
   refine A2 hS [] (by decide:(2:Nat)<=4) (Bf9 hS hL e5) ?_
   refine A1 hS trivial (b:=(p_l.Out.g x2.toNat).Take != 0) (fun c20=>?_) (fun c20=>?_)
   ·replace h:=itT c20 h
    refine F0 hS trivial [3,4,5,7,8] ?_
    obtain ⟨c21,h⟩:=F3 h
    obtain ⟨y6,e6,h⟩:=A4 h
    refine U2 (And.intro c21 (by decide:(2:Nat)<=2)) (BC8 hS hL e6) ?_
    refine M0 trivial ?_
    obtain ⟨c22,h⟩:=F3 h
    exact hb3 _ [(6500,52000)] _ (x1.push y6.1) (IntKind.wrap .i64 (x2+1)) (And.intro (rfl:true=true) c22) h (by kernel_rfl) (by kernel_rfl) (klR [(4, .fn (x1.n+1) (x1.push y6.1).n (T4 x1.n (fun i=>A0 (x1.g i)) (D9 [(pI .u32 0),(pI .u32 0)] [(0,A0 y6.1)])) (fun i=>A0 ((x1.push y6.1).g i)))] (al1 ⟨rfl,(Aw9 (c:=A0) (v:=x1) (x:=y6.1) (z:=[(pI .u32 0),(pI .u32 0)]) same rfl rfl)⟩ al0))
   ·replace h:=itF c20 h
    obtain ⟨c23,h⟩:=F3 h
    exact hb3 _ [(6500,52000)] _ (x1.push y5.1) (IntKind.wrap .i64 (x2+1)) (And.intro (rfl:true=true) c23) h (by kernel_rfl) (by kernel_rfl) (klR [(4, .fn (x1.n+1) (x1.push y5.1).n (T4 x1.n (fun i=>A0 (x1.g i)) (D9 [(pI .u32 0),(pI .u32 0)] [(0,A0 y5.1)])) (fun i=>A0 ((x1.push y5.1).g i)))] (al1 ⟨rfl,(Aw9 (c:=A0) (v:=x1) (x:=y5.1) (z:=[(pI .u32 0),(pI .u32 0)]) same rfl rfl)⟩ al0))
 ·replace h:=itF c15 h
  obtain rfl:=A3 h
  exact B4 hS trivial ⟨[(4,(.p (vSl 2 A0 x1)))], []⟩ [] (ids:=[]) ⟨rfl,rfl,rfl⟩
def B5 (N:Nat) (p_slices:(Sl (Sl Sound))):Option (Sl Sound):=
 V9 N (fun self1 (x1:Int) (x2:Int)=>
  if (decide (x2 < (p_slices.n:Int)))=true then
   if ((0:Int)<=x2/\x2 < (p_slices.n:Int)) then
    if (decide ((IntKind.wrap .i64 (x1+((p_slices.g x2.toNat).n:Int))) < 0))=true then
     none
    else
     self1 (IntKind.wrap .i64 (x1+((p_slices.g x2.toNat).n:Int))) (IntKind.wrap .i64 (x2+1))
   else none
  else
   (G5 N x1).bind fun y1=>
   V9 N (fun self2 (x3:Sl Sound) (x4:Int)=>
    if (decide (x4 < (p_slices.n:Int)))=true then
     if (((0:Int)<=x4/\x4 < (p_slices.n:Int))/\((x3.n+(p_slices.g x4.toNat).n) * 8<=140737488355328/\x3.n+(p_slices.g x4.toNat).n<=140737488355328)) then
      self2 (x3.app (p_slices.g x4.toNat)) (IntKind.wrap .i64 (x4+1))
     else none
    else
     some x3
    ) y1 0
  ) 0 0
theorem J5 {N:Nat} {p_slices:(Sl (Sl Sound))}   {y:(Sl Sound)} (h:B5 N p_slices=some y) :
 FunO S J3 [(.p (vSl 1 (cL 2 A0) p_slices))] [] (.vec 0) ([(.vec B2 2 y.n (fun i=>A0 (y.g i)) true)]) []:=by
 unfold B5 at h
 refine A6 hS W3 ?_
 refine H9 hS trivial h (fun x1 x2=>⟨[(11,(pN x2)),(10,(pN (p_slices.n:Int))),(9,(.p (vSl 1 (cL 2 A0) p_slices))),(3,(pN x1)),(0,(.p (vSl 1 (cL 2 A0) p_slices)))], []⟩) (ids:=[]) (fun _ _ _ _ _ self1 x1 x2 hb1 h=>?_)
 refine A1 hS trivial (b:=decide (x2 < (p_slices.n:Int))) (fun c7=>?_) (fun c7=>?_)
 ·replace h:=itT c7 h
  obtain ⟨c8,h⟩:=F3 h
  refine A1 hS c8 (b:=decide ((IntKind.wrap .i64 (x1+((p_slices.g x2.toNat).n:Int))) < 0)) (fun c9=>?_) (fun c9=>?_)
  ·replace h:=itT c9 h
   cases h
  ·replace h:=itF c9 h
   exact hb1 _ [] _ (IntKind.wrap .i64 (x1+((p_slices.g x2.toNat).n:Int))) (IntKind.wrap .i64 (x2+1)) trivial h
 ·replace h:=itF c7 h
  obtain ⟨y1,e1,h⟩:=A4 h
  refine A2 hS [] trivial (Z2 hS hL e1) ?_
  refine H9 hS trivial h (fun x3 x4=>⟨[(27,(pN x4)),(26,(pN (p_slices.n:Int))),(25,(.p (vSl 1 (cL 2 A0) p_slices))),(6,(.vec 7500))], [(7500,(.vec B2 2 x3.n (fun i=>A0 (x3.g i)) false))]⟩) (ids:=[(7500,25000)]) (fun _ _ _ _ _ self2 x3 x4 hb2 h=>?_)
  refine A1 hS trivial (b:=decide (x4 < (p_slices.n:Int))) (fun c12=>?_) (fun c12=>?_)
  ·replace h:=itT c12 h
   obtain ⟨c13,h⟩:=F3 h
   exact hb2 _ [(7500,34000)] _ (x3.app (p_slices.g x4.toNat)) (IntKind.wrap .i64 (x4+1)) c13 h (by kernel_rfl) (by kernel_rfl) (klR [(3, .fn (x3.n+(p_slices.g x4.toNat).n) (x3.app (p_slices.g x4.toNat)).n (T4 x3.n (fun i=>A0 (x3.g i)) (fun i=>A0 ((p_slices.g x4.toNat).g i))) (fun i=>A0 ((x3.app (p_slices.g x4.toNat)).g i)))] (al1 ⟨rfl,(Ca2 (c:=A0) (v:=x3) (w:=(p_slices.g x4.toNat)) same rfl same rfl)⟩ al0))
  ·replace h:=itF c12 h
   obtain rfl:=A3 h
   exact B4 hS trivial ⟨[(2,(.vec 7500))], [(7500,(.vec B2 2 x3.n (fun i=>A0 (x3.g i)) true))]⟩ [7500] (ids:=[(7500,7500)]) ⟨rfl,rfl,rfl⟩
def P0 (N:Nat) (p_l:Law) (p_w:(Sl Sound)) (p_at:Int):Option (Sl Sound):=
 if (((0:Int)<=p_at/\p_at<=(p_w.n:Int))/\((0:Int)<=p_at/\p_at<=(IntKind.wrap .i64 (p_at+(p_l.If.n:Int)))/\(IntKind.wrap .i64 (p_at+(p_l.If.n:Int)))<=(p_w.n:Int))) then
  (Q4 N p_l (p_w.sub p_at.toNat (IntKind.wrap .i64 (p_at+(p_l.If.n:Int))).toNat)).bind fun y1=>
  if ((0:Int)<=(IntKind.wrap .i64 (p_at+(p_l.If.n:Int)))/\(IntKind.wrap .i64 (p_at+(p_l.If.n:Int)))<=(p_w.n:Int)) then
   (B5 N (Sl.of [(p_w.take p_at.toNat),y1,(p_w.drop (IntKind.wrap .i64 (p_at+(p_l.If.n:Int))).toNat)]:Sl (Sl Sound))).bind fun y2=>
   some y2
  else none
 else none
theorem AJ2 {N:Nat} {p_l:Law} {p_w:(Sl Sound)} {p_at:Int}   {y:(Sl Sound)} (h:P0 N p_l p_w p_at=some y) :
 FunO S AH9 [(.p (.agg (A8 p_l))),(.p (vSl 2 A0 p_w)),(pN p_at)] [] (.vec 0) ([(.vec B2 2 y.n (fun i=>A0 (y.g i)) true)]) []:=by
 unfold P0 at h
 refine A6 hS Bq7 ?_
 refine R7 hS trivial 6 4000 (A8 p_l) ?_
 refine F0 hS trivial [3,8] ?_
 obtain ⟨c1,h⟩:=F3 h
 obtain ⟨y1,e1,h⟩:=A4 h
 refine U2 (And.intro (And.intro c1.1 (by decide:(18:Nat)<=18)) c1.2) (BD8 hS hL e1) ?_
 obtain ⟨c2,h⟩:=F3 h
 refine AE8 c2 (x:=(.sl true 1 3 (D9 [P6] [(0,(cL 2 A0) (p_w.take p_at.toNat)),(1,(cL 2 A0) y1),(2,(cL 2 A0) (p_w.drop (IntKind.wrap .i64 (p_at+(p_l.If.n:Int))).toNat))]))) ?_
 obtain ⟨y2,e2,h⟩:=A4 h
 refine Bj4 [] trivial (FunO.le hS (args:=[.p (.sl true 1 3 (D9 [P6] [(0,(cL 2 A0) (p_w.take p_at.toNat)),(1,(cL 2 A0) y1),(2,(cL 2 A0) (p_w.drop (IntKind.wrap .i64 (p_at+(p_l.If.n:Int))).toNat))]))]) (by exact ⟨BR5 rfl (fun i hi=>match i,hi with | 0,_=>rfl | 1,_=>rfl | 2,_=>rfl | _+3,hi=>absurd hi (by omega)),trivial⟩) (J5 hS hL e2)) ?_
 refine M0 trivial ?_
 obtain rfl:=A3 h
 exact B4 hS trivial ⟨[(6,(.vec 27000))], [(27000,(.vec B2 2 y2.n (fun i=>A0 (y2.g i)) true))]⟩ [27000] (ids:=[(27000,27000)]) ⟨rfl,rfl,rfl⟩
def V6 (N:Nat) (q0:Law) (q1:(Sl Sound)) (q2:Int):Option (List (Int)):=
 (Ay8 N q0 q1).bind fun y1=>
 Ae3 N (fun self3 (x2:Int)=>
  if (decide ((IntKind.wrap .i64 (x2+(q0.If.n:Int)))<=(q1.n:Int)))=true then
   Ae3 N (fun self4 (x4:Int)=>
    if (decide (x4 < (q0.If.n:Int)))=true then
     if ((0:Int)<=x4/\x4 < (q0.If.n:Int)) then
      if ((0:Int)<=(IntKind.wrap .i64 (x2+x4))/\(IntKind.wrap .i64 (x2+x4)) < (q1.n:Int)) then
       (I4 N (q1.g (IntKind.wrap .i64 (x2+x4)).toNat) (q0.If.g x4.toNat)).bind fun y12=>
       if (!y12)=true then
        self3 (IntKind.wrap .i64 (x2+1))
       else
        self4 (IntKind.wrap .i64 (x4+1))
      else none
     else none
    else
     (S2 N x2 y1.1 y1.2).bind fun y13=>
     if y13=true then
      Ad1 x2 (
       self3 (IntKind.wrap .i64 (x2+1))
       )
     else
      self3 (IntKind.wrap .i64 (x2+1))
    ) 0
  else
   some []
  ) q2
theorem AQ6 {N:Nat} {q0:Law} {q1:(Sl Sound)} {q2:Int} {L:List (Int)} (h:V6 N q0 q1 q2=some L) :
 Ao2 S An2 [] [.reg 0 0, .reg 1 0, .reg 2 0] [(.cells ((A8 q0).map .p)),(.cells [(.p (vSl 2 A0 q1))]),(.cells [(pN q2)])] (L.map (fun (x:Int)=>[(pI .i64) x])):=by
 unfold V6 at h
 refine AA1 hS BB5 ?_
 obtain ⟨y1,e1,h⟩:=A4 h
 refine A2 hS [] trivial (BD7 hS hL e1) ?_
 refine Ax1 hS trivial h (fun x2 L1=>⟨[(6,(pN x2)),(5,(.clo S0 [] [(.reg 12000 0),(.reg 12001 0)])),(2,(.reg 1 0)),(1,(.reg 0 0)),(0,(.yf 3))], [(12001,(.cells [(.p (vSl 2 A0 y1.2))])),(12000,(.cells ((A8 y1.1).map .p))),(3,(.yld (L1.map (fun (x:Int)=>[(pI .i64) x])) true)),(2,(.cells [(pN q2)])),(1,(.cells [(.p (vSl 2 A0 q1))])),(0,(.cells ((A8 q0).map .p)))]⟩) (ids:=[(0,0),(1,1),(2,2),(3,3),(12000,12000),(12001,12001)]) (fun _ _ _ _ _ self3 x2 L1 hb3 h=>?_)
 refine A1 hS trivial (b:=decide ((IntKind.wrap .i64 (x2+(q0.If.n:Int)))<=(q1.n:Int))) (fun c37=>?_) (fun c37=>?_)
 ·replace h:=itT c37 h
  refine Ax1 hS trivial h (fun x4 L8=>⟨[(26,(pN x4)),(25,(pN (q0.If.n:Int))),(24,(.p (vSl 2 A0 q0.If))),(6,(pN x2)),(5,(.clo S0 [] [(.reg 12000 0),(.reg 12001 0)])),(2,(.reg 1 0)),(1,(.reg 0 0)),(0,(.yf 3))], [(12001,(.cells [(.p (vSl 2 A0 y1.2))])),(12000,(.cells ((A8 y1.1).map .p))),(3,(.yld (L8.map (fun (x:Int)=>[(pI .i64) x])) true)),(2,(.cells [(pN q2)])),(1,(.cells [(.p (vSl 2 A0 q1))])),(0,(.cells ((A8 q0).map .p)))]⟩) (ids:=[(0,0),(1,1),(2,2),(3,3),(12000,12000),(12001,12001)]) (fun _ _ _ _ _ self4 x4 L8 hb4 h=>?_)
  refine A1 hS trivial (b:=decide (x4 < (q0.If.n:Int))) (fun c46=>?_) (fun c46=>?_)
  ·replace h:=itT c46 h
   obtain ⟨c47,h⟩:=F3 h
   refine CJ0 hS (And.intro c47 (by decide:(2:Nat)<=2)) 9000 [(pI .u32 (q0.If.g x4.toNat).Plus),(pI .u32 (q0.If.g x4.toNat).Minus)] ?_
   refine F0 hS trivial [4,5,6,7] ?_
   obtain ⟨c48,h⟩:=F3 h
   obtain ⟨y12,e12,h⟩:=A4 h
   refine U2 (And.intro (And.intro c48 (by decide:(2:Nat)<=2)) (by decide:(2:Nat)<=2)) (AL8 hS hL e12) ?_
   refine M0 trivial ?_
   refine A1 hS trivial (b:=!y12) (fun c49=>?_) (fun c49=>?_)
   ·replace h:=itT c49 h
    exact hb3 _ [(0,0),(1,1),(2,2),(3,3),(12000,12000),(12001,12001)] _ (IntKind.wrap .i64 (x2+1)) L8 trivial h
   ·replace h:=itF c49 h
    exact hb4 _ [(0,0),(1,1),(2,2),(3,3),(12000,12000),(12001,12001)] _ (IntKind.wrap .i64 (x4+1)) L8 trivial h
  ·replace h:=itF c46 h
   obtain ⟨y13,e13,h⟩:=A4 h
   refine A2 hS [12000,12001] trivial (Bg4 hS hL e13) ?_
   refine A7 hS trivial (b:=y13) (fun c52=>?_) (fun c52=>?_)
   ·replace h:=itT c52 h
    obtain ⟨L10,rfl,hcL10⟩:=Be0 h
    replace h:=hcL10
    refine Ao3 hS trivial (ys:=(fun (x:Int)=>[(pI .i64) x]) x2) (rest:=L10.map (fun (x:Int)=>[(pI .i64) x])) ?_ ?_
    ·refine A1 hS trivial (b:=false) (fun c53=>?_) (fun c53=>?_)
     ·exact Bool.noConfusion ((rfl:false=false).symm.trans c53)
     ·exact hb3 _ [(0,0),(1,1),(2,2),(3,3),(12000,12000),(12001,12001)] _ (IntKind.wrap .i64 (x2+1)) L10 trivial h
    ·refine A1 hS trivial (b:=true) (fun c54=>?_) (fun c54=>?_)
     ·exact B4 hS trivial (a:=.tup []) (objs:=[(.cells ((A8 q0).map .p)),(.cells [(.p (vSl 2 A0 q1))]),(.cells [(pN q2)]),(.yld [] false)]) ⟨[], [(3,(.yld [] false)),(2,(.cells [(pN q2)])),(1,(.cells [(.p (vSl 2 A0 q1))])),(0,(.cells ((A8 q0).map .p)))]⟩ [0,1,2,3] (ids:=[(0,0),(1,1),(2,2),(3,3)]) ⟨false,rfl,rfl,_,rfl⟩
     ·exact Bool.noConfusion ((rfl:true=true).symm.trans c54)
   ·replace h:=itF c52 h
    exact hb3 _ [(0,0),(1,1),(2,2),(3,3),(12000,12000),(12001,12001)] _ (IntKind.wrap .i64 (x2+1)) L8 trivial h
 ·replace h:=itF c37 h
  obtain rfl:=A3 h
  exact B4 hS trivial (a:=.tup []) (objs:=[(.cells ((A8 q0).map .p)),(.cells [(.p (vSl 2 A0 q1))]),(.cells [(pN q2)]),(.yld [] true)]) ⟨[], [(3,(.yld [] true)),(2,(.cells [(pN q2)])),(1,(.cells [(.p (vSl 2 A0 q1))])),(0,(.cells ((A8 q0).map .p)))]⟩ [0,1,2,3] (ids:=[(0,0),(1,1),(2,2),(3,3)]) ⟨true,rfl,rfl,_,rfl⟩
def AA6 (N:Nat) (p_l:Law) (p_w:(Sl Sound)) (p_from:Int):Option (Law × (Sl Sound) × Int):=
 some (p_l,p_w,p_from)
theorem Bl9 {N:Nat} {p_l:Law} {p_w:(Sl Sound)} {p_from:Int}   {y:(Law × (Sl Sound) × Int)} (h:AA6 N p_l p_w p_from=some y) :
 FunO S Bk9 [(.p (.agg (A8 p_l))),(.p (vSl 2 A0 p_w)),(pN p_from)] [] (.clo An2 [] [.reg 0 0, .reg 1 0, .reg 2 0]) ([(.cells ((A8 y.1).map .p)),(.cells [(.p (vSl 2 A0 y.2.1))]),(.cells [(pN y.2.2)])]) []:=by
 unfold AA6 at h
 refine A6 hS Cc1 ?_
 obtain rfl:=A3 h
 exact B4 hS trivial ⟨[(6,(.clo An2 [] [(.reg 4000 0),(.reg 5000 0),(.reg 6000 0)]))], [(6000,(.cells [(pN p_from)])),(5000,(.cells [(.p (vSl 2 A0 p_w))])),(4000,(.cells ((A8 p_l).map .p)))]⟩ [4000,5000,6000] (ids:=[(4000,4000),(5000,5000),(6000,6000)]) ⟨rfl,rfl,rfl⟩
def Ah9 (N:Nat) (p_l:Law) (p_w:(Sl Sound)) (p_at:Int):Option Bool:=
 (AA6 N p_l p_w p_at).bind fun y1=>
 (V6 N y1.1 y1.2.1 y1.2.2).bind fun L1=>
 K4 L1 (fun self1 (x1:Int) (_:Unit)=>
  some (x1 == p_at)
  ) (fun (_:Unit)=>
   some false
  ) ()
theorem BD9 {N:Nat} {p_l:Law} {p_w:(Sl Sound)} {p_at:Int}   {y:Bool} (h:Ah9 N p_l p_w p_at=some y) :
 FunO S BB2 [(.p (.agg (A8 p_l))),(.p (vSl 2 A0 p_w)),(pN p_at)] [] (pB y) ([]) []:=by
 unfold Ah9 at h
 refine A6 hS Cm8 ?_
 obtain ⟨y1,e1,h⟩:=A4 h
 refine A2 hS [] trivial (Bl9 hS hL e1) ?_
 obtain ⟨L1,e2,h⟩:=A4 h
 refine AL5 hS trivial [12000,12001,12002] [6,5] 901 (fun _=>⟨[(6,(.reg 7000 0)),(5,(.reg 6000 0))], [(7000,(.cells [(.p (.v (.bool false)))])),(6000,(.cells [(pN p_at)]))]⟩) (idl:=[(6000,6000),(7000,7000)]) h (AQ6 hS hL e2) (fun _=>by kernel_rfl) (fun _=>by kernel_rfl) (fun _=>by kernel_rfl) (fun _=>by kernel_rfl) (fun x1 _ self1 _ hb1 h=>?_) (fun _ h=>?_)
 ·refine AL6 hS trivial ?_
  refine Bp8 hS trivial ⟨[(6,(.reg 7000 0)),(5,(.reg 6000 0))], [(7000,(.cells [(pB (x1 == p_at))])),(6000,(.cells [(pN p_at)]))]⟩ (ids:=[(901,901),(6000,6000),(7000,7000)]) ?_
  obtain rfl:=A3 h
  exact B1 hS trivial [] ⟨rfl,rfl,rfl⟩
 ·obtain rfl:=A3 h
  exact B1 hS trivial [] ⟨rfl,rfl,rfl⟩
def Af9 (N:Nat) (q0:(Sl Sound)) (q1:Law) (q2:Int) (q3:Int):Option (List (Int × (Sl Sound))):=
 if (q1.Mode == 1)=true then
  (AA6 N q1 q0 0).bind fun y1=>
  (V6 N y1.1 y1.2.1 y1.2.2).bind fun L1=>
  K4 L1 (fun self1 (x1:Int) (z1:(Sl Sound) × Int × Int)=>
   if (decide (x1 < z1.2.1))=true then
    self1 (z1.1,z1.2.1,z1.2.2)
   else
    if (((0:Int)<=(IntKind.wrap .i64 (x1+z1.2.2))/\(IntKind.wrap .i64 (x1+z1.2.2))<=(z1.1.n:Int))/\((0:Int)<=x1/\x1<=(IntKind.wrap .i64 (x1+q2))/\(IntKind.wrap .i64 (x1+q2))<=(q0.n:Int))) then
     (Q4 N q1 (q0.sub x1.toNat (IntKind.wrap .i64 (x1+q2)).toNat)).bind fun y6=>
     if ((0:Int)<=(IntKind.wrap .i64 (x1+q2))/\(IntKind.wrap .i64 (x1+q2))<=(q0.n:Int)) then
      (B5 N (Sl.of [(z1.1.take (IntKind.wrap .i64 (x1+z1.2.2)).toNat),y6,(q0.drop (IntKind.wrap .i64 (x1+q2)).toNat)]:Sl (Sl Sound))).bind fun y7=>
      Ad1 (x1,y7) (
       self1 (y7,IntKind.wrap .i64 (x1+(if q2 < 1 then 1 else q2)),IntKind.wrap .i64 ((IntKind.wrap .i64 (z1.2.2+q3)) - q2))
       )
     else none
    else none
   ) (fun (z1:(Sl Sound) × Int × Int)=>
    some []
   ) (q0,0,0)
 else
  if (q1.Mode == 2)=true then
   V9 N (fun self2 (x5:Sl Sound) (x6:Int)=>
    if (decide ((IntKind.wrap .i64 (x6+q2))<=(x5.n:Int)))=true then
     (Ah9 N q1 x5 x6).bind fun y12=>
     if (!y12)=true then
      self2 x5 (IntKind.wrap .i64 (x6+1))
     else
      (P0 N q1 x5 x6).bind fun y13=>
      Ad1 (x6,y13) (
       if (q2 == 0)=true then
        self2 y13 (IntKind.wrap .i64 ((IntKind.wrap .i64 (x6+q3))+1))
       else
        self2 y13 (IntKind.wrap .i64 (x6+q3))
       )
    else
     some []
    ) q0 0
  else
   if (q1.Mode == 3)=true then
    V9 N (fun self3 (x7:Sl Sound) (x8:Int)=>
     if (decide (0<=x8))=true then
      (Ah9 N q1 x7 x8).bind fun y18=>
      if (!y18)=true then
       self3 x7 (IntKind.wrap .i64 (x8 - 1))
      else
       (P0 N q1 x7 x8).bind fun y19=>
       Ad1 (x8,y19) (
        self3 y19 (IntKind.wrap .i64 (x8 - (if q2 < 1 then 1 else q2)))
        )
     else
      some []
     ) q0 (IntKind.wrap .i64 ((q0.n:Int) - q2))
   else
    some []
theorem BP1 {N:Nat} {q0:(Sl Sound)} {q1:Law} {q2:Int} {q3:Int} {L:List (Int × (Sl Sound))} (h:Af9 N q0 q1 q2 q3=some L) :
 Ao2 S At1 [] [.reg 0 0, .reg 1 0, .reg 2 0, .reg 3 0] [(.cells [(.p (vSl 2 A0 q0))]),(.cells ((A8 q1).map .p)),(.cells [(pN q2)]),(.cells [(pN q3)])] (L.map (fun (x:Int × (Sl Sound))=>[(pI .i64) x.1,(vSl 2 A0) x.2])):=by
 unfold Af9 at h
 refine AA1 hS BM6 ?_
 refine A1 hS trivial (b:=q1.Mode == 1) (fun c1=>?_) (fun c1=>?_)
 ·replace h:=itT c1 h
  obtain ⟨y1,e1,h⟩:=A4 h
  refine A2 hS [] trivial (Bl9 hS hL e1) ?_
  obtain ⟨L1,e2,h⟩:=A4 h
  refine Cx0 hS trivial [20000,20001,20002] [8,7,6,5,4,3,2,1] 900 (fun z1 L2=>⟨[(8,(.reg 9000 0)),(7,(.reg 8000 0)),(6,(.reg 7000 0)),(5,(.reg 6000 0)),(4,(.reg 3 0)),(3,(.reg 2 0)),(2,(.reg 1 0)),(1,(.reg 0 0))], [(9000,(.cells [(pN z1.2.2)])),(8000,(.cells [(pN z1.2.1)])),(7000,(.cells [(.p (vSl 2 A0 z1.1))])),(6000,(.cells [(.yf 4)])),(4,(.yld (L2.map (fun (x:Int × (Sl Sound))=>[(pI .i64) x.1,(vSl 2 A0) x.2])) true)),(3,(.cells [(pN q3)])),(2,(.cells [(pN q2)])),(1,(.cells ((A8 q1).map .p))),(0,(.cells [(.p (vSl 2 A0 q0))]))]⟩) (idl:=[(0,0),(1,1),(2,2),(3,3),(4,4),(6000,6000),(7000,7000),(8000,8000),(9000,9000)]) h (AQ6 hS hL e2) (fun _=>by kernel_rfl) (fun _ _=>by kernel_rfl) (fun _ _=>by kernel_rfl) (fun _ _=>by kernel_rfl) (fun x1 _ self1 z1 L2 hb1 h=>?_) (fun z1 L2 h=>?_)
  ·refine AL6 hS trivial ?_
   refine A1 hS trivial (b:=decide (x1 < z1.2.1)) (fun c12=>?_) (fun c12=>?_)
   ·replace h:=itT c12 h
    exact hb1 _ [(0,0),(1,1),(2,2),(3,3),(4,4),(900,900),(6000,6000),(7000,7000),(8000,8000),(9000,9000)] _ (z1.1,z1.2.1,z1.2.2) L2 trivial h
   ·replace h:=itF c12 h
    refine T2 hS trivial [(0, .l [7000]),(2, .l [9000]),(5, .l [1]),(6, .l [0]),(9, .l [2]),(12, .n),(13, .l [0]),(15, .l [2]),(20, .a [7000])] ?_
    obtain ⟨c13,h⟩:=F3 h
    obtain ⟨y6,e7,h⟩:=A4 h
    refine U2 c13 (BD8 hS hL e7) ?_
    obtain ⟨c14,h⟩:=F3 h
    refine AE8 c14 (x:=(.sl true 1 3 (D9 [P6] [(0,(cL 2 A0) (z1.1.take (IntKind.wrap .i64 (x1+z1.2.2)).toNat)),(1,(cL 2 A0) y6),(2,(cL 2 A0) (q0.drop (IntKind.wrap .i64 (x1+q2)).toNat))]))) ?_
    obtain ⟨y7,e8,h⟩:=A4 h
    refine Bj4 [] trivial (FunO.le hS (args:=[.p (.sl true 1 3 (D9 [P6] [(0,(cL 2 A0) (z1.1.take (IntKind.wrap .i64 (x1+z1.2.2)).toNat)),(1,(cL 2 A0) y6),(2,(cL 2 A0) (q0.drop (IntKind.wrap .i64 (x1+q2)).toNat))]))]) (by exact ⟨BR5 rfl (fun i hi=>match i,hi with | 0,_=>rfl | 1,_=>rfl | 2,_=>rfl | _+3,hi=>absurd hi (by omega)),trivial⟩) (J5 hS hL e8)) ?_
    refine M0 trivial ?_
    obtain ⟨L5,rfl,hcL5⟩:=Be0 h
    replace h:=hcL5
    refine Ao3 hS trivial (ys:=(fun (x:Int × (Sl Sound))=>[(pI .i64) x.1,(vSl 2 A0) x.2]) (x1,y7)) (rest:=L5.map (fun (x:Int × (Sl Sound))=>[(pI .i64) x.1,(vSl 2 A0) x.2])) ?_ ?_
    ·refine A1 hS trivial (b:=false) (fun c15=>?_) (fun c15=>?_)
     ·exact Bool.noConfusion ((rfl:false=false).symm.trans c15)
     ·refine T2 hS trivial [(1, .l [2]),(4, .l [9000]),(5, .l [3]),(7, .l [2]),(9, .a [8000]),(10, .a [9000])] ?_
      refine M0 trivial ?_
      exact hb1 _ [(0,0),(1,1),(2,2),(3,3),(4,4),(900,900),(6000,6000),(7000,7000),(8000,8000),(9000,9000)] _ (y7,IntKind.wrap .i64 (x1+(if q2 < 1 then 1 else q2)),IntKind.wrap .i64 ((IntKind.wrap .i64 (z1.2.2+q3)) - q2)) L5 trivial h
    ·refine A1 hS trivial (b:=true) (fun c16=>?_) (fun c16=>?_)
     ·refine Bp8 hS trivial ⟨[(8,(.reg 9000 0)),(7,(.reg 8000 0)),(6,(.reg 7000 0)),(5,(.reg 6000 0)),(4,(.reg 3 0)),(3,(.reg 2 0)),(2,(.reg 1 0)),(1,(.reg 0 0))], [(44000,(.vec B2 2 y7.n (fun i=>A0 (y7.g i)) true)),(9000,(.cells [(pN z1.2.2)])),(8000,(.cells [(pN z1.2.1)])),(7000,(.cells [(.vec 44000)])),(6000,(.cells [(.yf 4)])),(4,(.yld [] false)),(3,(.cells [(pN q3)])),(2,(.cells [(pN q2)])),(1,(.cells ((A8 q1).map .p))),(0,(.cells [(.p (vSl 2 A0 q0))]))]⟩ (ids:=[(0,0),(1,1),(2,2),(3,3),(4,4),(900,900),(6000,6000),(7000,7000),(8000,8000),(9000,9000),(44000,44000)]) ?_
      exact B4 hS trivial (a:=.tup []) (objs:=[(.cells [(.p (vSl 2 A0 q0))]),(.cells ((A8 q1).map .p)),(.cells [(pN q2)]),(.cells [(pN q3)]),(.yld [] false)]) ⟨[], [(4,(.yld [] false)),(3,(.cells [(pN q3)])),(2,(.cells [(pN q2)])),(1,(.cells ((A8 q1).map .p))),(0,(.cells [(.p (vSl 2 A0 q0))]))]⟩ [0,1,2,3,4] (ids:=[(0,0),(1,1),(2,2),(3,3),(4,4)]) ⟨false,rfl,rfl,_,rfl⟩
     ·exact Bool.noConfusion ((rfl:true=true).symm.trans c16)
  ·obtain rfl:=A3 h
   exact B4 hS trivial (a:=.tup []) (objs:=[(.cells [(.p (vSl 2 A0 q0))]),(.cells ((A8 q1).map .p)),(.cells [(pN q2)]),(.cells [(pN q3)]),(.yld [] true)]) ⟨[], [(4,(.yld [] true)),(3,(.cells [(pN q3)])),(2,(.cells [(pN q2)])),(1,(.cells ((A8 q1).map .p))),(0,(.cells [(.p (vSl 2 A0 q0))]))]⟩ [0,1,2,3,4] (ids:=[(0,0),(1,1),(2,2),(3,3),(4,4)]) ⟨true,rfl,rfl,_,rfl⟩
 ·replace h:=itF c1 h
  refine A1 hS trivial (b:=q1.Mode == 2) (fun c17=>?_) (fun c17=>?_)
  ·replace h:=itT c17 h
   refine BK0 hS trivial h (fun x5 x6 L6=>⟨[(10,(pN x6)),(6,(.reg 7000 0)),(5,(.reg 6000 0)),(4,(.reg 3 0)),(3,(.reg 2 0)),(2,(.reg 1 0))], [(7000,(.cells [(.p (vSl 2 A0 x5))])),(6000,(.cells [(.yf 4)])),(4,(.yld (L6.map (fun (x:Int × (Sl Sound))=>[(pI .i64) x.1,(vSl 2 A0) x.2])) true)),(3,(.cells [(pN q3)])),(2,(.cells [(pN q2)])),(1,(.cells ((A8 q1).map .p))),(0,(.cells [(.p (vSl 2 A0 q0))]))]⟩) (ids:=[(0,0),(1,1),(2,2),(3,3),(4,4),(6000,6000),(7000,7000)]) (fun _ _ _ _ _ self2 x5 x6 L6 hb2 h=>?_)
   refine A1 hS trivial (b:=decide ((IntKind.wrap .i64 (x6+q2))<=(x5.n:Int))) (fun c28=>?_) (fun c28=>?_)
   ·replace h:=itT c28 h
    obtain ⟨y12,e13,h⟩:=A4 h
    refine A2 hS [] trivial (BD9 hS hL e13) ?_
    refine A1 hS trivial (b:=!y12) (fun c29=>?_) (fun c29=>?_)
    ·replace h:=itT c29 h
     exact hb2 _ [(0,0),(1,1),(2,2),(3,3),(4,4),(6000,6000),(7000,7000)] _ x5 (IntKind.wrap .i64 (x6+1)) L6 trivial h
    ·replace h:=itF c29 h
     obtain ⟨y13,e14,h⟩:=A4 h
     refine A2 hS [] trivial (AJ2 hS hL e14) ?_
     obtain ⟨L9,rfl,hcL9⟩:=Be0 h
     replace h:=hcL9
     refine Ao3 hS trivial (ys:=(fun (x:Int × (Sl Sound))=>[(pI .i64) x.1,(vSl 2 A0) x.2]) (x6,y13)) (rest:=L9.map (fun (x:Int × (Sl Sound))=>[(pI .i64) x.1,(vSl 2 A0) x.2])) ?_ ?_
     ·refine A1 hS trivial (b:=false) (fun c30=>?_) (fun c30=>?_)
      ·exact Bool.noConfusion ((rfl:false=false).symm.trans c30)
      ·refine A1 hS trivial (b:=q2 == 0) (fun c31=>?_) (fun c31=>?_)
       ·replace h:=itT c31 h
        exact hb2 _ [(0,0),(1,1),(2,2),(3,3),(4,4),(6000,6000),(7000,7000)] _ y13 (IntKind.wrap .i64 ((IntKind.wrap .i64 (x6+q3))+1)) L9 trivial h
       ·replace h:=itF c31 h
        exact hb2 _ [(0,0),(1,1),(2,2),(3,3),(4,4),(6000,6000),(7000,7000)] _ y13 (IntKind.wrap .i64 (x6+q3)) L9 trivial h
     ·refine A1 hS trivial (b:=true) (fun c32=>?_) (fun c32=>?_)
      ·exact B4 hS trivial (a:=.tup []) (objs:=[(.cells [(.p (vSl 2 A0 q0))]),(.cells ((A8 q1).map .p)),(.cells [(pN q2)]),(.cells [(pN q3)]),(.yld [] false)]) ⟨[], [(4,(.yld [] false)),(3,(.cells [(pN q3)])),(2,(.cells [(pN q2)])),(1,(.cells ((A8 q1).map .p))),(0,(.cells [(.p (vSl 2 A0 q0))]))]⟩ [0,1,2,3,4] (ids:=[(0,0),(1,1),(2,2),(3,3),(4,4)]) ⟨false,rfl,rfl,_,rfl⟩
      ·exact Bool.noConfusion ((rfl:true=true).symm.trans c32)
   ·replace h:=itF c28 h
    obtain rfl:=A3 h
    exact B4 hS trivial (a:=.tup []) (objs:=[(.cells [(.p (vSl 2 A0 q0))]),(.cells ((A8 q1).map .p)),(.cells [(pN q2)]),(.cells [(pN q3)]),(.yld [] true)]) ⟨[], [(4,(.yld [] true)),(3,(.cells [(pN q3)])),(2,(.cells [(pN q2)])),(1,(.cells ((A8 q1).map .p))),(0,(.cells [(.p (vSl 2 A0 q0))]))]⟩ [0,1,2,3,4] (ids:=[(0,0),(1,1),(2,2),(3,3),(4,4)]) ⟨true,rfl,rfl,_,rfl⟩
  ·replace h:=itF c17 h
   refine A1 hS trivial (b:=q1.Mode == 3) (fun c33=>?_) (fun c33=>?_)
   ·replace h:=itT c33 h
    refine BK0 hS trivial h (fun x7 x8 L10=>⟨[(11,(pN x8)),(6,(.reg 7000 0)),(5,(.reg 6000 0)),(3,(.reg 2 0)),(2,(.reg 1 0))], [(7000,(.cells [(.p (vSl 2 A0 x7))])),(6000,(.cells [(.yf 4)])),(4,(.yld (L10.map (fun (x:Int × (Sl Sound))=>[(pI .i64) x.1,(vSl 2 A0) x.2])) true)),(3,(.cells [(pN q3)])),(2,(.cells [(pN q2)])),(1,(.cells ((A8 q1).map .p))),(0,(.cells [(.p (vSl 2 A0 q0))]))]⟩) (ids:=[(0,0),(1,1),(2,2),(3,3),(4,4),(6000,6000),(7000,7000)]) (fun _ _ _ _ _ self3 x7 x8 L10 hb3 h=>?_)
    refine A1 hS trivial (b:=decide (0<=x8)) (fun c42=>?_) (fun c42=>?_)
    ·replace h:=itT c42 h
     obtain ⟨y18,e19,h⟩:=A4 h
     refine A2 hS [] trivial (BD9 hS hL e19) ?_
     refine A1 hS trivial (b:=!y18) (fun c43=>?_) (fun c43=>?_)
     ·replace h:=itT c43 h
      exact hb3 _ [(0,0),(1,1),(2,2),(3,3),(4,4),(6000,6000),(7000,7000)] _ x7 (IntKind.wrap .i64 (x8 - 1)) L10 trivial h
     ·replace h:=itF c43 h
      obtain ⟨y19,e20,h⟩:=A4 h
      refine A2 hS [] trivial (AJ2 hS hL e20) ?_
      obtain ⟨L13,rfl,hcL13⟩:=Be0 h
      replace h:=hcL13
      refine Ao3 hS trivial (ys:=(fun (x:Int × (Sl Sound))=>[(pI .i64) x.1,(vSl 2 A0) x.2]) (x8,y19)) (rest:=L13.map (fun (x:Int × (Sl Sound))=>[(pI .i64) x.1,(vSl 2 A0) x.2])) ?_ ?_
      ·refine A1 hS trivial (b:=false) (fun c44=>?_) (fun c44=>?_)
       ·exact Bool.noConfusion ((rfl:false=false).symm.trans c44)
       ·exact hb3 _ [(0,0),(1,1),(2,2),(3,3),(4,4),(6000,6000),(7000,7000)] _ y19 (IntKind.wrap .i64 (x8 - (if q2 < 1 then 1 else q2))) L13 trivial h
      ·refine A1 hS trivial (b:=true) (fun c45=>?_) (fun c45=>?_)
       ·exact B4 hS trivial (a:=.tup []) (objs:=[(.cells [(.p (vSl 2 A0 q0))]),(.cells ((A8 q1).map .p)),(.cells [(pN q2)]),(.cells [(pN q3)]),(.yld [] false)]) ⟨[], [(4,(.yld [] false)),(3,(.cells [(pN q3)])),(2,(.cells [(pN q2)])),(1,(.cells ((A8 q1).map .p))),(0,(.cells [(.p (vSl 2 A0 q0))]))]⟩ [0,1,2,3,4] (ids:=[(0,0),(1,1),(2,2),(3,3),(4,4)]) ⟨false,rfl,rfl,_,rfl⟩
       ·exact Bool.noConfusion ((rfl:true=true).symm.trans c45)
    ·replace h:=itF c42 h
     obtain rfl:=A3 h
     exact B4 hS trivial (a:=.tup []) (objs:=[(.cells [(.p (vSl 2 A0 q0))]),(.cells ((A8 q1).map .p)),(.cells [(pN q2)]),(.cells [(pN q3)]),(.yld [] true)]) ⟨[], [(4,(.yld [] true)),(3,(.cells [(pN q3)])),(2,(.cells [(pN q2)])),(1,(.cells ((A8 q1).map .p))),(0,(.cells [(.p (vSl 2 A0 q0))]))]⟩ [0,1,2,3,4] (ids:=[(0,0),(1,1),(2,2),(3,3),(4,4)]) ⟨true,rfl,rfl,_,rfl⟩
   ·replace h:=itF c33 h
    obtain rfl:=A3 h
    exact B4 hS trivial (a:=.tup []) (objs:=[(.cells [(.p (vSl 2 A0 q0))]),(.cells ((A8 q1).map .p)),(.cells [(pN q2)]),(.cells [(pN q3)]),(.yld [] true)]) ⟨[], [(4,(.yld [] true)),(3,(.cells [(pN q3)])),(2,(.cells [(pN q2)])),(1,(.cells ((A8 q1).map .p))),(0,(.cells [(.p (vSl 2 A0 q0))]))]⟩ [0,1,2,3,4] (ids:=[(0,0),(1,1),(2,2),(3,3),(4,4)]) ⟨true,rfl,rfl,_,rfl⟩
def AJ3 (N:Nat) (p_l:Law) (p_w:(Sl Sound)):Option ((Sl Sound) × Law × Int × Int):=
 some (p_w,p_l,(p_l.If.n:Int),(p_l.Out.n:Int))
theorem Cn7 {N:Nat} {p_l:Law} {p_w:(Sl Sound)}   {y:((Sl Sound) × Law × Int × Int)} (h:AJ3 N p_l p_w=some y) :
 FunO S BA8 [(.p (.agg (A8 p_l))),(.p (vSl 2 A0 p_w))] [] (.clo At1 [] [.reg 0 0, .reg 1 0, .reg 2 0, .reg 3 0]) ([(.cells [(.p (vSl 2 A0 y.1))]),(.cells ((A8 y.2.1).map .p)),(.cells [(pN y.2.2.1)]),(.cells [(pN y.2.2.2)])]) []:=by
 unfold AJ3 at h
 refine A6 hS Cm5 ?_
 refine T2 hS trivial [(1, .l [3000]),(2, .n),(4, .l [3000]),(5, .n),(6, .a [6000]),(7, .a [7000]),(8, .a [6000]),(9, .a [7000])] ?_
 refine M0 trivial ?_
 obtain rfl:=A3 h
 exact B4 hS trivial ⟨[(4,(.clo At1 [] [(.reg 4000 0),(.reg 3000 0),(.reg 6000 0),(.reg 7000 0)]))], [(7000,(.cells [(pN (p_l.Out.n:Int))])),(6000,(.cells [(pN (p_l.If.n:Int))])),(4000,(.cells [(.p (vSl 2 A0 p_w))])),(3000,(.cells ((A8 p_l).map .p)))]⟩ [4000,3000,6000,7000] (ids:=[(3000,3000),(4000,4000),(6000,6000),(7000,7000)]) ⟨rfl,rfl,rfl⟩
def Am2 (N:Nat) (p_l:Law) (p_w:(Sl Sound)):Option ((Sl Int) × (Sl (Sl Sound)) × Int):=
 (At9 N p_l p_w).bind fun y1=>
 if (y1 != 0)=true then
  some ((Sl.nil:Sl Int),(Sl.nil:Sl (Sl Sound)),y1)
 else
  (AJ3 N p_l p_w).bind fun y2=>
  (Af9 N y2.1 y2.2.1 y2.2.2.1 y2.2.2.2).bind fun L1=>
  K4 L1 (fun self1 (x1:Int × (Sl Sound)) (z1:(Sl Int) × (Sl (Sl Sound)))=>
   if (decide (32 < (x1.2.n:Int)))=true then
    some ((Sl.nil:Sl Int),(Sl.nil:Sl (Sl Sound)),11)
   else
    if ((z1.1.n+(Sl.of [x1.1]:Sl Int).n) * 8<=140737488355328/\z1.1.n+(Sl.of [x1.1]:Sl Int).n<=140737488355328) then
     if ((z1.2.n+(Sl.of [x1.2]:Sl (Sl Sound)).n) * 24<=140737488355328/\z1.2.n+(Sl.of [x1.2]:Sl (Sl Sound)).n<=140737488355328) then
      self1 ((z1.1.push x1.1),(z1.2.push x1.2))
     else none
    else none
   ) (fun (z1:(Sl Int) × (Sl (Sl Sound)))=>
    some (z1.1,z1.2,0)
   ) ((Sl.nil:Sl Int),(Sl.nil:Sl (Sl Sound)))
theorem BP2 {N:Nat} {p_l:Law} {p_w:(Sl Sound)}   {y:((Sl Int) × (Sl (Sl Sound)) × Int)} (h:Am2 N p_l p_w=some y) :
 FunO S AY4 [(.p (.agg (A8 p_l))),(.p (vSl 2 A0 p_w))] [] (.tup [(.vec 0),(.vec 1),(pN y.2.2)]) ([(.vec D4 1 y.1.n (fun i=>(cI .i64) (y.1.g i)) true),(.vec A9 1 y.2.1.n (fun i=>(cL 2 A0) (y.2.1.g i)) true)]) []:=by
 unfold Am2 at h
 refine A6 hS BM1 ?_
 refine R7 hS trivial 4 3000 (A8 p_l) ?_
 obtain ⟨y1,e1,h⟩:=A4 h
 refine A2 hS [] (by decide:(18:Nat)<=18) (BP0 hS hL e1) ?_
 refine A1 hS trivial (b:=y1 != 0) (fun c1=>?_) (fun c1=>?_)
 ·replace h:=itT c1 h
  obtain rfl:=A3 h
  exact B4 hS trivial ⟨[(6,(.reg 7000 0)),(5,(.reg 6000 0)),(4,(.reg 5000 0))], [(7000,(.cells [(pN y1)])),(6701,(.vec A9 1 (Sl.nil:Sl (Sl Sound)).n (fun i=>(cL 2 A0) ((Sl.nil:Sl (Sl Sound)).g i)) true)),(6000,(.cells [(.vec 6701)])),(5700,(.vec D4 1 (Sl.nil:Sl Int).n (fun i=>(cI .i64) ((Sl.nil:Sl Int).g i)) true)),(5000,(.cells [(.vec 5700)]))]⟩ [5700,6701] (ids:=[(5000,5000),(6000,6000),(7000,7000)]) ⟨rfl,rfl,rfl⟩
 ·replace h:=itF c1 h
  obtain ⟨y2,e2,h⟩:=A4 h
  refine A2 hS [] (by decide:(18:Nat)<=18) (Cn7 hS hL e2) ?_
  obtain ⟨L1,e3,h⟩:=A4 h
  refine AL5 hS trivial [21000,21001,21002,21003] [9,8,6,5,4] 901 (fun z1=>⟨[(9,(.reg 10000 0)),(8,(.reg 9000 0)),(6,(.reg 7000 0)),(5,(.reg 6000 0)),(4,(.reg 5000 0))], [(10500,(.vec A9 1 z1.2.n (fun i=>(cL 2 A0) (z1.2.g i)) false)),(10000,(.cells [(.vec 10500)])),(9500,(.vec D4 1 z1.1.n (fun i=>(cI .i64) (z1.1.g i)) false)),(9000,(.cells [(.vec 9500)])),(7000,(.cells [(pN 0)])),(6000,(.cells [(.p P6)])),(5000,(.cells [(.p P6)]))]⟩) (idl:=[(5000,5000),(6000,6000),(7000,7000),(9000,9000),(10000,10000)]) h (BP1 hS hL e3) (fun _=>by kernel_rfl) (fun _=>by kernel_rfl) (fun _=>by kernel_rfl) (fun _=>by kernel_rfl) (fun x1 _ self1 z1 hb1 h=>?_) (fun z1 h=>?_)
  ·refine AL6 hS trivial ?_
   refine A1 hS trivial (b:=decide (32 < (x1.2.n:Int))) (fun c8=>?_) (fun c8=>?_)
   ·replace h:=itT c8 h
    refine Bp8 hS trivial ⟨[(9,(.reg 10000 0)),(8,(.reg 9000 0)),(6,(.reg 7000 0)),(5,(.reg 6000 0)),(4,(.reg 5000 0))], [(10500,(.vec A9 1 z1.2.n (fun i=>(cL 2 A0) (z1.2.g i)) false)),(10000,(.cells [(.vec 10500)])),(9500,(.vec D4 1 z1.1.n (fun i=>(cI .i64) (z1.1.g i)) false)),(9000,(.cells [(.vec 9500)])),(7000,(.cells [(pN 11)])),(6000,(.cells [(.p P6)])),(5000,(.cells [(.p P6)]))]⟩ (ids:=[(901,901),(5000,5000),(6000,6000),(7000,7000),(9000,9000),(9500,9500),(10000,10000),(10500,10500)]) ?_
    obtain rfl:=A3 h
    exact B4 hS trivial ⟨[(6,(.reg 7000 0)),(5,(.reg 6000 0)),(4,(.reg 5000 0))], [(7000,(.cells [(pN 11)])),(6701,(.vec A9 1 (Sl.nil:Sl (Sl Sound)).n (fun i=>(cL 2 A0) ((Sl.nil:Sl (Sl Sound)).g i)) true)),(6000,(.cells [(.vec 6701)])),(5700,(.vec D4 1 (Sl.nil:Sl Int).n (fun i=>(cI .i64) ((Sl.nil:Sl Int).g i)) true)),(5000,(.cells [(.vec 5700)]))]⟩ [5700,6701] (ids:=[(5000,5000),(6000,6000),(7000,7000)]) ⟨rfl,rfl,rfl⟩
   ·replace h:=itF c8 h
    refine T2 hS trivial [(0, .l [9000]),(3, .a [30000,9500]),(4, .l [10000]),(7, .a [34000,10500]),(8, .a [9000]),(9, .a [10000])] ?_
    refine AE8 trivial (x:=(.sl true 1 1 (D9 [(pI .i64 0)] [(0,(cI .i64) x1.1)]))) ?_
    obtain ⟨c9,h⟩:=F3 h
    refine AE8 c9 (x:=(.sl true 1 1 (D9 [P6] [(0,(cL 2 A0) x1.2)]))) ?_
    obtain ⟨c10,h⟩:=F3 h
    refine M0 c10 ?_
    exact hb1 _ [(901,901),(5000,5000),(6000,6000),(7000,7000),(9000,9000),(9500,30000),(10000,10000),(10500,34000)] _ ((z1.1.push x1.1),(z1.2.push x1.2)) trivial h (by kernel_rfl) (by kernel_rfl) (klR [(0, .fn (z1.2.n+1) (z1.2.push x1.2).n (T4 z1.2.n (fun i=>(cL 2 A0) (z1.2.g i)) (D9 [P6] [(0,(cL 2 A0) x1.2)])) (fun i=>(cL 2 A0) ((z1.2.push x1.2).g i))),(1, .fn (z1.1.n+1) (z1.1.push x1.1).n (T4 z1.1.n (fun i=>(cI .i64) (z1.1.g i)) (D9 [(pI .i64 0)] [(0,(cI .i64) x1.1)])) (fun i=>(cI .i64) ((z1.1.push x1.1).g i)))] (al1 ⟨rfl,(Aw9 (c:=(cL 2 A0)) (v:=z1.2) (x:=x1.2) (z:=[P6]) same rfl rfl)⟩ (al1 ⟨rfl,(Aw9 (c:=(cI .i64)) (v:=z1.1) (x:=x1.1) (z:=[(pI .i64 0)]) same rfl rfl)⟩ al0)))
  ·refine T2 hS trivial [(0, .l [9000]),(1, .l [10000]),(2, .a [5000]),(3, .a [6000]),(4, .a [7000])] ?_
   refine M0 trivial ?_
   obtain rfl:=A3 h
   exact B4 hS trivial ⟨[(6,(.reg 7000 0)),(5,(.reg 6000 0)),(4,(.reg 5000 0))], [(10500,(.vec A9 1 z1.2.n (fun i=>(cL 2 A0) (z1.2.g i)) true)),(9500,(.vec D4 1 z1.1.n (fun i=>(cI .i64) (z1.1.g i)) true)),(7000,(.cells [(pN 0)])),(6000,(.cells [(.vec 10500)])),(5000,(.cells [(.vec 9500)]))]⟩ [9500,10500] (ids:=[(5000,5000),(6000,6000),(7000,7000),(9500,9500),(10500,10500)]) ⟨rfl,rfl,rfl⟩
def Ab6 (N:Nat) (p_l:Law) (p_w:(Sl Sound)):Option ((Sl Sound) × Int):=
 (Am2 N p_l p_w).bind fun y1=>
 if (y1.2.2 != 0)=true then
  some ((Sl.nil:Sl Sound),y1.2.2)
 else
  if (decide (0 < (y1.2.1.n:Int)))=true then
   if (((0:Int)<=(IntKind.wrap .i64 ((y1.2.1.n:Int) - 1))/\(IntKind.wrap .i64 ((y1.2.1.n:Int) - 1)) < (y1.2.1.n:Int))/\(IntKind.wrap .i64 ((y1.2.1.n:Int) - 1)).toNat < y1.2.1.n) then
    some ((y1.2.1.g (IntKind.wrap .i64 ((y1.2.1.n:Int) - 1)).toNat),0)
   else none
  else
   (B9 N p_w).bind fun y2=>
   some (y2,0)
theorem BP3 {N:Nat} {p_l:Law} {p_w:(Sl Sound)}   {y:((Sl Sound) × Int)} (h:Ab6 N p_l p_w=some y) :
 FunO S AX9 [(.p (.agg (A8 p_l))),(.p (vSl 2 A0 p_w))] [] (.tup [(.p (vSl 2 A0 y.1)),(pN y.2)]) ([]) []:=by
 unfold Ab6 at h
 refine A6 hS BL6 ?_
 obtain ⟨y1,e1,h⟩:=A4 h
 refine A2 hS [] trivial (BP2 hS hL e1) ?_
 refine A1 hS trivial (b:=y1.2.2 != 0) (fun c1=>?_) (fun c1=>?_)
 ·replace h:=itT c1 h
  obtain rfl:=A3 h
  exact B4 hS trivial ⟨[(5,(pN y1.2.2)),(4,(.p (vSl 2 A0 (Sl.nil:Sl Sound))))], []⟩ [] (ids:=[]) ⟨rfl,rfl,rfl⟩
 ·replace h:=itF c1 h
  refine A1 hS trivial (b:=decide (0 < (y1.2.1.n:Int))) (fun c2=>?_) (fun c2=>?_)
  ·replace h:=itT c2 h
   obtain ⟨c3,h⟩:=F3 h
   obtain rfl:=A3 h
   exact B1 hS c3 [] ⟨rfl,rfl,rfl⟩
  ·replace h:=itF c2 h
   obtain ⟨y2,e2,h⟩:=A4 h
   refine A2 hS [] trivial (K9 hS hL e2) ?_
   obtain rfl:=A3 h
   exact B4 hS trivial ⟨[(5,(pN 0)),(4,(.p (vSl 2 A0 y2)))], []⟩ [] (ids:=[]) ⟨rfl,rfl,rfl⟩
end Go.AM
set_option linter.unusedVariables false
set_option linter.unusedSectionVars false
namespace Go.AM
open Go.Proofs
set_option maxRecDepth 10000
set_option maxHeartbeats 2000000
variable {S:Ag9} (hS:I2 S Tryz.prog) (hL:BV2 S)
include hS hL
def O4 (N:Nat) (p_l:Law):Option Bool:=
 (Ab5 N p_l).bind fun y1=>
 some (y1 != 0)
theorem AS1 {N:Nat} {p_l:Law}   {y:Bool} (h:O4 N p_l=some y) :
 FunO S Au9 [(.p (.agg (A8 p_l)))] [] (pB y) ([]) []:=by
 unfold O4 at h
 refine A6 hS AR8 ?_
 obtain ⟨y1,e1,h⟩:=A4 h
 refine A2 hS [] trivial (Bb1 hS hL e1) ?_
 obtain rfl:=A3 h
 exact B1 hS trivial [] ⟨rfl,rfl,rfl⟩
def E4 (N:Nat) (p_s:(Sl Law)) (p_f:Law->Option Bool):Option Int:=
 Ae3 N (fun self1 (x1:Int)=>
  if (decide (x1 < (p_s.n:Int)))=true then
   if ((0:Int)<=x1/\x1 < (p_s.n:Int)) then
    (p_f (p_s.g x1.toNat)).bind fun y3=>
    if y3=true then
     some x1
    else
     self1 (IntKind.wrap .i64 (x1+1))
   else none
  else
   some (-1)
  ) 0
theorem Y5 {N:Nat} {p_s:(Sl Law)} {p_f:Law->Option Bool} {kp_f:Nat} (hp_f:∀ {a0:Law} {b:Bool},p_f a0=some b->FunO S kp_f [(.p (.agg (A8 a0)))] [] (pB b) [] []) {y:Int} (h:E4 N p_s p_f=some y) :
 FunO S K7 [(.p (vSl 18 A8 p_s)),(.clo kp_f [] [])] [] (pN y) ([]) []:=by
 unfold E4 at h
 refine A6 hS Y0 ?_
 refine U1 hS trivial h (fun x1=>⟨[(8,(pN x1)),(7,(pN (p_s.n:Int))),(1,(.clo kp_f [] [])),(0,(.p (vSl 18 A8 p_s)))], []⟩) (ids:=[]) (fun _ _ _ _ _ self1 x1 hb1 h=>?_)
 refine A1 hS trivial (b:=decide (x1 < (p_s.n:Int))) (fun c7=>?_) (fun c7=>?_)
 ·replace h:=itT c7 h
  obtain ⟨c8,h⟩:=F3 h
  obtain ⟨y3,e3,h⟩:=A4 h
  refine A2 hS [] (And.intro c8 (by decide:(18:Nat)<=18)) (hp_f e3) ?_
  refine A1 hS trivial (b:=y3) (fun c9=>?_) (fun c9=>?_)
  ·replace h:=itT c9 h
   obtain rfl:=A3 h
   exact B1 hS trivial [] ⟨rfl,rfl,rfl⟩
  ·replace h:=itF c9 h
   exact hb1 _ [] _ (IntKind.wrap .i64 (x1+1)) trivial h
 ·replace h:=itF c7 h
  obtain rfl:=A3 h
  exact B1 hS trivial [] ⟨rfl,rfl,rfl⟩
def C5 (N:Nat) (p_s:(Sl Law)) (p_f:Law->Option Bool):Option Bool:=
 (E4 N p_s p_f).bind fun y1=>
 some (decide (0<=y1))
theorem T8 {N:Nat} {p_s:(Sl Law)} {p_f:Law->Option Bool} {kp_f:Nat} (hp_f:∀ {a0:Law} {b:Bool},p_f a0=some b->FunO S kp_f [(.p (.agg (A8 a0)))] [] (pB b) [] []) {y:Bool} (h:C5 N p_s p_f=some y) :
 FunO S I5 [(.p (vSl 18 A8 p_s)),(.clo kp_f [] [])] [] (pB y) ([]) []:=by
 unfold C5 at h
 refine A6 hS T5 ?_
 obtain ⟨y1,e1,h⟩:=A4 h
 refine A2 hS [] trivial (Y5 hS hL (fun e=>hp_f e) e1) ?_
 obtain rfl:=A3 h
 exact B1 hS trivial [] ⟨rfl,rfl,rfl⟩
def N3 (N:Nat) (p_laws:(Sl Law)):Option Int:=
 if (decide (64 < (p_laws.n:Int)))=true then
  some 12
 else
  (C5 N p_laws (fun (u1:Law)=>O4 N u1)).bind fun y1=>
  if y1=true then
   some 17
  else
   some 0
theorem Ao8 {N:Nat} {p_laws:(Sl Law)}   {y:Int} (h:N3 N p_laws=some y) :
 FunO S AC8 [(.p (vSl 18 A8 p_laws))] [] (pN y) ([]) []:=by
 unfold N3 at h
 refine A6 hS Be9 ?_
 refine A1 hS trivial (b:=decide (64 < (p_laws.n:Int))) (fun c1=>?_) (fun c1=>?_)
 ·replace h:=itT c1 h
  obtain rfl:=A3 h
  exact B1 hS trivial [] ⟨rfl,rfl,rfl⟩
 ·replace h:=itF c1 h
  obtain ⟨y1,e1,h⟩:=A4 h
  refine A2 hS [] trivial (T8 hS hL (fun e=>AS1 hS hL e) e1) ?_
  refine A1 hS trivial (b:=y1) (fun c2=>?_) (fun c2=>?_)
  ·replace h:=itT c2 h
   obtain rfl:=A3 h
   exact B1 hS trivial [] ⟨rfl,rfl,rfl⟩
  ·replace h:=itF c2 h
   obtain rfl:=A3 h
   exact B1 hS trivial [] ⟨rfl,rfl,rfl⟩
def Aa0 (N:Nat) (p_laws:(Sl Law)) (p_words:(Sl (Sl Sound))):Option Int:=
 (N3 N p_laws).bind fun y1=>
 if (y1 != 0)=true then
  some y1
 else
  if (decide (256 < (p_words.n:Int)))=true then
   some 12
  else
   Ae3 N (fun self1 (x1:Int)=>
    if (decide (x1 < (p_words.n:Int)))=true then
     if ((0:Int)<=x1/\x1 < (p_words.n:Int)) then
      (U5 N (p_words.g x1.toNat)).bind fun y4=>
      if (y4 != 0)=true then
       some y4
      else
       self1 (IntKind.wrap .i64 (x1+1))
     else none
    else
     some 0
    ) 0
theorem Bg5 {N:Nat} {p_laws:(Sl Law)} {p_words:(Sl (Sl Sound))}   {y:Int} (h:Aa0 N p_laws p_words=some y) :
 FunO S AC7 [(.p (vSl 18 A8 p_laws)),(.p (vSl 1 (cL 2 A0) p_words))] [] (pN y) ([]) []:=by
 unfold Aa0 at h
 refine A6 hS Be8 ?_
 obtain ⟨y1,e1,h⟩:=A4 h
 refine A2 hS [] trivial (Ao8 hS hL e1) ?_
 refine A1 hS trivial (b:=y1 != 0) (fun c1=>?_) (fun c1=>?_)
 ·replace h:=itT c1 h
  obtain rfl:=A3 h
  exact B1 hS trivial [] ⟨rfl,rfl,rfl⟩
 ·replace h:=itF c1 h
  refine A1 hS trivial (b:=decide (256 < (p_words.n:Int))) (fun c2=>?_) (fun c2=>?_)
  ·replace h:=itT c2 h
   obtain rfl:=A3 h
   exact B1 hS trivial [] ⟨rfl,rfl,rfl⟩
  ·replace h:=itF c2 h
   refine U1 hS trivial h (fun x1=>⟨[(19,(pN x1)),(18,(pN (p_words.n:Int))),(17,(.p (vSl 1 (cL 2 A0) p_words)))], []⟩) (ids:=[]) (fun _ _ _ _ _ self1 x1 hb1 h=>?_)
   refine A1 hS trivial (b:=decide (x1 < (p_words.n:Int))) (fun c9=>?_) (fun c9=>?_)
   ·replace h:=itT c9 h
    obtain ⟨c10,h⟩:=F3 h
    obtain ⟨y4,e4,h⟩:=A4 h
    refine A2 hS [] c10 (Ay3 hS hL e4) ?_
    refine A1 hS trivial (b:=y4 != 0) (fun c11=>?_) (fun c11=>?_)
    ·replace h:=itT c11 h
     obtain rfl:=A3 h
     exact B1 hS trivial [] ⟨rfl,rfl,rfl⟩
    ·replace h:=itF c11 h
     exact hb1 _ [] _ (IntKind.wrap .i64 (x1+1)) trivial h
   ·replace h:=itF c9 h
    obtain rfl:=A3 h
    exact B1 hS trivial [] ⟨rfl,rfl,rfl⟩
end Go.AM
set_option linter.unusedVariables false
set_option linter.unusedSectionVars false
namespace Go.AM
open Go.Proofs
set_option maxRecDepth 10000
set_option maxHeartbeats 2000000
variable {S:Ag9} (hS:I2 S Tryz.prog) (hL:BV2 S)
include hS hL
def Cy3 (c:Int):Option PV:=if c=0 then none else some (.iface 160 (pI .i64 c))
def Aa8 (N:Nat) (c:Int) (q0:(Sl Sound)) (q1:(Sl Law)):Option (List (Int × (Sl Sound))):=
 (B9 N q0).bind fun y1=>
 Ad1 (0,y1) (
  V9 N (fun self1 (x1:Sl Sound) (x2:Int)=>
   if (decide (x2 < (q1.n:Int)))=true then
    if ((0:Int)<=x2/\x2 < (q1.n:Int)) then
     (Ab6 N (q1.g x2.toNat) x1).bind fun y4=>
     if (y4.2 != 0)=true then
      if y4.2=c then some [] else none
     else
      Ad1 (IntKind.wrap .i64 (x2+1),y4.1) (
       self1 y4.1 (IntKind.wrap .i64 (x2+1))
       )
    else none
   else
    if c=0 then some [] else none
   ) y1 0
  )
theorem Av2 {N:Nat} {q0:(Sl Sound)} {q1:(Sl Law)} {c:Int} {L:List (Int × (Sl Sound))} (h:Aa8 N c q0 q1=some L) :
 AW5 S O2 [] [.reg 0 0, .reg 1 0] [(.cells [(.p (vSl 2 A0 q0))]),(.cells [(.p (vSl 18 A8 q1))])] (L.map (fun (x:Int × (Sl Sound))=>[(pI .i64) x.1,(vSl 2 A0) x.2])) (Cy3 c):=by
 unfold Aa8 at h
 refine Cl4 hS AR9 ?_
 obtain ⟨y1,e1,h⟩:=A4 h
 refine A2 hS [] trivial (K9 hS hL e1) ?_
 obtain ⟨L1,rfl,hcL1⟩:=Be0 h
 replace h:=hcL1
 refine Ao3 hS trivial (ys:=(fun (x:Int × (Sl Sound))=>[(pI .i64) x.1,(vSl 2 A0) x.2]) (0,y1)) (rest:=L1.map (fun (x:Int × (Sl Sound))=>[(pI .i64) x.1,(vSl 2 A0) x.2])) ?_ ?_
 ·refine A1 hS trivial (b:=false) (fun c1=>?_) (fun c1=>?_)
  ·exact Bool.noConfusion ((rfl:false=false).symm.trans c1)
  ·refine BK0 hS trivial h (fun x1 x2 L2=>⟨[(17,(pN x2)),(16,(pN (q1.n:Int))),(15,(.p (vSl 18 A8 q1))),(4,(.p (vSl 2 A0 x1))),(0,(.yf 2))], [(2,(.yld (L2.map (fun (x:Int × (Sl Sound))=>[(pI .i64) x.1,(vSl 2 A0) x.2])) true)),(1,(.cells [(.p (vSl 18 A8 q1))])),(0,(.cells [(.p (vSl 2 A0 q0))]))]⟩) (ids:=[(0,0),(1,1),(2,2)]) (fun _ _ _ _ _ self1 x1 x2 L2 hb1 h=>?_)
   refine A1 hS trivial (b:=decide (x2 < (q1.n:Int))) (fun c12=>?_) (fun c12=>?_)
   ·replace h:=itT c12 h
    obtain ⟨c13,h⟩:=F3 h
    obtain ⟨y4,e4,h⟩:=A4 h
    refine A2 hS [] (And.intro c13 (by decide:(18:Nat)<=18)) (BP3 hS hL e4) ?_
    refine A1 hS trivial (b:=y4.2 != 0) (fun c14=>?_) (fun c14=>?_)
    ·replace h:=itT c14 h
     obtain ⟨c0,h⟩:=F3 h
     obtain rfl:=A3 h
     have hc0:Cy3 c=some (.iface 160 (pI .i64 y4.2)):=by
      have:¬ y4.2=0:=by simpa using c14
      rw [<- c0];simp [Cy3,this]
     refine CJ3 hS trivial (x:=.iface 160 (pI .i64 y4.2)) ?_
     exact CD0 hS trivial (x:=.iface 160 (pI .i64 y4.2)) (objs:=[(.cells [(.p (vSl 2 A0 q0))]),(.cells [(.p (vSl 18 A8 q1))]),(.yld [] true)]) [0,1,2] ⟨true,rfl,rfl,fun _=>by rw [hc0];rfl,fun e=>nomatch e⟩
    ·replace h:=itF c14 h
     obtain ⟨L5,rfl,hcL5⟩:=Be0 h
     replace h:=hcL5
     refine Ao3 hS trivial (ys:=(fun (x:Int × (Sl Sound))=>[(pI .i64) x.1,(vSl 2 A0) x.2]) (IntKind.wrap .i64 (x2+1),y4.1)) (rest:=L5.map (fun (x:Int × (Sl Sound))=>[(pI .i64) x.1,(vSl 2 A0) x.2])) ?_ ?_
     ·refine A1 hS trivial (b:=false) (fun c15=>?_) (fun c15=>?_)
      ·exact Bool.noConfusion ((rfl:false=false).symm.trans c15)
      ·exact hb1 _ [(0,0),(1,1),(2,2)] _ y4.1 (IntKind.wrap .i64 (x2+1)) L5 trivial h
     ·refine A1 hS trivial (b:=true) (fun c16=>?_) (fun c16=>?_)
      ·exact B4 hS trivial (a:=.tup []) (objs:=[(.cells [(.p (vSl 2 A0 q0))]),(.cells [(.p (vSl 18 A8 q1))]),(.yld [] false)]) ⟨[], [(2,(.yld [] false)),(1,(.cells [(.p (vSl 18 A8 q1))])),(0,(.cells [(.p (vSl 2 A0 q0))]))]⟩ [0,1,2] (ids:=[(0,0),(1,1),(2,2)]) ⟨false,rfl,rfl,fun e=>(nomatch e),fun _=>⟨_,rfl⟩⟩
      ·exact Bool.noConfusion ((rfl:true=true).symm.trans c16)
   ·replace h:=itF c12 h
    obtain ⟨c0,h⟩:=F3 h
    obtain rfl:=A3 h
    exact B4 hS trivial (a:=.tup []) (objs:=[(.cells [(.p (vSl 2 A0 q0))]),(.cells [(.p (vSl 18 A8 q1))]),(.yld [] true)]) ⟨[], [(2,(.yld [] true)),(1,(.cells [(.p (vSl 18 A8 q1))])),(0,(.cells [(.p (vSl 2 A0 q0))]))]⟩ [0,1,2] (ids:=[(0,0),(1,1),(2,2)]) ⟨true,rfl,rfl,fun _=>by subst c0;exact ⟨_,rfl⟩,fun e=>(nomatch e)⟩
 ·refine A1 hS trivial (b:=true) (fun c17=>?_) (fun c17=>?_)
  ·exact B4 hS trivial (a:=.tup []) (objs:=[(.cells [(.p (vSl 2 A0 q0))]),(.cells [(.p (vSl 18 A8 q1))]),(.yld [] false)]) ⟨[], [(2,(.yld [] false)),(1,(.cells [(.p (vSl 18 A8 q1))])),(0,(.cells [(.p (vSl 2 A0 q0))]))]⟩ [0,1,2] (ids:=[(0,0),(1,1),(2,2)]) ⟨false,rfl,rfl,fun e=>(nomatch e),fun _=>⟨_,rfl⟩⟩
  ·exact Bool.noConfusion ((rfl:true=true).symm.trans c17)
def Ag6 (N:Nat) (p_laws:(Sl Law)) (p_w:(Sl Sound)):Option ((Sl Sound) × (Sl Law)):=
 some (p_w,p_laws)
theorem AD4 {N:Nat} {p_laws:(Sl Law)} {p_w:(Sl Sound)}   {y:((Sl Sound) × (Sl Law))} (h:Ag6 N p_laws p_w=some y) :
 FunO S AC9 [(.p (vSl 18 A8 p_laws)),(.p (vSl 2 A0 p_w))] [] (.clo O2 [] [.reg 0 0, .reg 1 0]) ([(.cells [(.p (vSl 2 A0 y.1))]),(.cells [(.p (vSl 18 A8 y.2))])]) []:=by
 unfold Ag6 at h
 refine A6 hS Bf0 ?_
 obtain rfl:=A3 h
 exact B4 hS trivial ⟨[(4,(.clo O2 [] [(.reg 4000 0),(.reg 3000 0)]))], [(4000,(.cells [(.p (vSl 2 A0 p_w))])),(3000,(.cells [(.p (vSl 18 A8 p_laws))]))]⟩ [4000,3000] (ids:=[(3000,3000),(4000,4000)]) ⟨rfl,rfl,rfl⟩
def E5 (N:Nat) (c:Int) (p_laws:(Sl Law)) (p_w:(Sl Sound)):Option (Sl Sound):=
 (Ag6 N p_laws p_w).bind fun y1=>
 (Aa8 N c y1.1 y1.2).bind fun L1=>
 K4 L1 (fun self1 (x1:Int × (Sl Sound)) (z1:Sl Sound)=>
  self1 x1.2
  ) (fun (z1:Sl Sound)=>
   some z1
  ) (Sl.nil:Sl Sound)
theorem AM0 {N:Nat} {p_laws:(Sl Law)} {p_w:(Sl Sound)}   {y:(Sl Sound)} (h:E5 N 0 p_laws p_w=some y) :
 FunO S H1 [(.p (vSl 18 A8 p_laws)),(.p (vSl 2 A0 p_w))] [] (.p (vSl 2 A0 y)) ([]) []:=by
 unfold E5 at h
 refine A6 hS Av0 ?_
 obtain ⟨y1,e1,h⟩:=A4 h
 refine A2 hS [] trivial (AD4 hS hL e1) ?_
 obtain ⟨L1,e2,h⟩:=A4 h
 have hf:AW5 S O2 [] [.reg 0 0, .reg 1 0] [(.cells [(.p (vSl 2 A0 y1.1))]),(.cells [(.p (vSl 18 A8 y1.2))])] (L1.map (fun (x:Int × (Sl Sound))=>[(pI .i64) x.1,(vSl 2 A0) x.2])) none:=Av2 hS hL e2
 refine BU9 hS trivial [8000,8001] [4] 901 (fun z1=>⟨[(4,(.reg 5000 0))], [(5000,(.cells [(.p (vSl 2 A0 z1))]))]⟩) (idl:=[(5000,5000)]) h hf (fun _=>by kernel_rfl) (fun _=>by kernel_rfl) (fun _=>by kernel_rfl) (fun _=>by kernel_rfl) (fun x1 _ self1 z1 hb1 h=>?_) (fun z1 h=>?_)
 ·refine AL6 hS trivial ?_
  exact hb1 _ [(901,901),(5000,5000)] _ x1.2 trivial h
 ·obtain rfl:=A3 h
  exact B1 hS trivial [] ⟨rfl,rfl,rfl⟩
theorem AM1 {N:Nat} {c:Int} {p_laws:(Sl Law)} {p_w:(Sl Sound)}   {y:(Sl Sound)} (hc:c ≠ 0) (h:E5 N c p_laws p_w=some y) :
 S.F H1 [(.p (vSl 18 A8 p_laws)),(.p (vSl 2 A0 p_w))] [] fun res o k=>res=.panic (.iface 160 (pI .i64 c))/\o=[]/\k=[]:=by
 unfold E5 at h
 refine Cx6 hS Av0 ?_
 obtain ⟨y1,e1,h⟩:=A4 h
 refine A2 hS [] trivial (AD4 hS hL e1) ?_
 obtain ⟨L1,e2,h⟩:=A4 h
 have hf:AW5 S O2 [] [.reg 0 0, .reg 1 0] [(.cells [(.p (vSl 2 A0 y1.1))]),(.cells [(.p (vSl 18 A8 y1.2))])] (L1.map (fun (x:Int × (Sl Sound))=>[(pI .i64) x.1,(vSl 2 A0) x.2])) (some (.iface 160 (pI .i64 c))):=by
  have:=Av2 hS hL e2
  simpa [Cy3,hc] using this
 refine BU9 hS trivial [8000,8001] [4] 901 (fun z1=>⟨[(4,(.reg 5000 0))], [(5000,(.cells [(.p (vSl 2 A0 z1))]))]⟩) (idl:=[(5000,5000)]) h hf (fun _=>by kernel_rfl) (fun _=>by kernel_rfl) (fun _=>by kernel_rfl) (fun _=>by kernel_rfl) (fun x1 _ self1 z1 hb1 h=>?_) (fun z1 h=>?_)
 ·refine AL6 hS trivial ?_
  exact hb1 _ [(901,901),(5000,5000)] _ x1.2 trivial h
 ·exact CD0 hS trivial (x:=.iface 160 (pI .i64 c)) (objs:=[]) [] ⟨rfl,rfl,rfl⟩
def K0 (N:Nat) (p_laws:(Sl Law)) (p_w:(Sl Sound)):Option ((Sl Sound) × Bool):=
 match E5 N 0 p_laws p_w with
 | some y=>some (y,true)
 | none=>(E5 N 11 p_laws p_w).bind fun _=>some ((Sl.nil:Sl Sound),false)
theorem AS2 {N:Nat} {p_laws:(Sl Law)} {p_w:(Sl Sound)}   {y:((Sl Sound) × Bool)} (h:K0 N p_laws p_w=some y) :
 FunO S Au8 [(.p (vSl 18 A8 p_laws)),(.p (vSl 2 A0 p_w))] [] (.tup [(.p (vSl 2 A0 y.1)),(pB y.2)]) ([]) []:=by
 unfold K0 at h
 refine A6 hS AR7 ?_
 rcases e:E5 N 0 p_laws p_w with _ | z
 ·rw [e] at h
  obtain ⟨z,e1,h⟩:=A4 h
  obtain rfl:=A3 h
  refine A2 hS [7000,3000,4000,5000] trivial (hL.attP (AM1 hS hL (by decide) e1)) ?_
  refine T2 hS trivial [(0, .l [5000]),(1, .l [7000]),(3, .a [5000])] ?_
  refine M0 trivial ?_
  exact B4 hS trivial ⟨[(5,(pB false)),(4,(.reg 5000 0))], [(5000,(.cells [(.p (vSl 2 A0 Sl.nil))]))]⟩ [] (ids:=[(5000,5000)]) ⟨rfl,rfl,rfl⟩
 ·rw [e] at h
  obtain rfl:=A3 h
  refine A2 hS [7000,3000,4000,5000] trivial (hL.attR (AM0 hS hL e)) ?_
  refine T2 hS trivial [(0, .l [5000]),(1, .l [7000]),(3, .a [5000])] ?_
  refine M0 trivial ?_
  exact B4 hS trivial ⟨[(5,(pB true)),(4,(.reg 5000 0))], [(5000,(.cells [(.p (vSl 2 A0 z))]))]⟩ [] (ids:=[(5000,5000)]) ⟨rfl,rfl,rfl⟩
end Go.AM
set_option linter.unusedVariables false
set_option linter.unusedSectionVars false
namespace Go.AM
open Go.Proofs
set_option maxRecDepth 10000
set_option maxHeartbeats 2000000
variable {S:Ag9} (hS:I2 S Tryz.prog) (hL:BV2 S)
include hS hL
def O0 (N:Nat) (p_laws:(Sl Law)) (p_w:(Sl Sound)):Option ((Sl Sound) × Int):=
 (Aa0 N p_laws (Sl.of [p_w]:Sl (Sl Sound))).bind fun y1=>
 if (y1 != 0)=true then
  some ((Sl.nil:Sl Sound),y1)
 else
  (K0 N p_laws p_w).bind fun y2=>
  if (!y2.2)=true then
   some ((Sl.nil:Sl Sound),11)
  else
   some (y2.1,0)
theorem Bb2 {N:Nat} {p_laws:(Sl Law)} {p_w:(Sl Sound)}   {y:((Sl Sound) × Int)} (h:O0 N p_laws p_w=some y) :
 FunO S Ax4 [(.p (vSl 18 A8 p_laws)),(.p (vSl 2 A0 p_w))] [] (.tup [(.p (vSl 2 A0 y.1)),(pN y.2)]) ([]) []:=by
 unfold O0 at h
 refine A6 hS AX0 ?_
 refine Ac1 hS (rfl:true=true) ⟨[(11,(.vec 12000)),(9,(.p (vSl 18 A8 p_laws))),(1,(.p (vSl 2 A0 p_w))),(0,(.p (vSl 18 A8 p_laws)))], [(12000,(.vec A9 1 (Sl.of [p_w]:Sl (Sl Sound)).n (fun i=>(cL 2 A0) ((Sl.of [p_w]:Sl (Sl Sound)).g i)) false))]⟩ (ids:=[(12000,12000)]) ?_ (hle:=(klR [(3, .fn 1 (Sl.of [p_w]:Sl (Sl Sound)).n (D9 [P6] [(0,(cL 2 A0) p_w)]) (fun i=>(cL 2 A0) ((Sl.of [p_w]:Sl (Sl Sound)).g i)))] (al1 ⟨rfl,(fun i hi=>match i,hi with | 0,_=>rfl | _+1,hi=>absurd hi (by omega))⟩ al0)))
 obtain ⟨y1,e1,h⟩:=A4 h
 refine A2 hS [] trivial (Bg5 hS hL e1) ?_
 refine A1 hS trivial (b:=y1 != 0) (fun c1=>?_) (fun c1=>?_)
 ·replace h:=itT c1 h
  obtain rfl:=A3 h
  exact B4 hS trivial ⟨[(5,(pN y1)),(4,(.p (vSl 2 A0 (Sl.nil:Sl Sound))))], []⟩ [] (ids:=[]) ⟨rfl,rfl,rfl⟩
 ·replace h:=itF c1 h
  obtain ⟨y2,e2,h⟩:=A4 h
  refine A2 hS [] trivial (AS2 hS hL e2) ?_
  refine A1 hS trivial (b:=!y2.2) (fun c2=>?_) (fun c2=>?_)
  ·replace h:=itT c2 h
   obtain rfl:=A3 h
   exact B4 hS trivial ⟨[(5,(pN 11)),(4,(.p (vSl 2 A0 (Sl.nil:Sl Sound))))], []⟩ [] (ids:=[]) ⟨rfl,rfl,rfl⟩
  ·replace h:=itF c2 h
   obtain rfl:=A3 h
   exact B1 hS trivial [] ⟨rfl,rfl,rfl⟩
def H8 (N:Nat) (p_laws:(Sl Law)) (p_l:(Sl (Sl Sound))):Option Int:=
 (N3 N p_laws).bind fun y1=>
 if (y1 != 0)=true then
  some y1
 else
  Ae3 N (fun self1 (x1:Int)=>
   if (decide (x1 < (p_l.n:Int)))=true then
    if ((0:Int)<=x1/\x1 < (p_l.n:Int)) then
     (U5 N (p_l.g x1.toNat)).bind fun y4=>
     if (y4 != 0)=true then
      some y4
     else
      self1 (IntKind.wrap .i64 (x1+1))
    else none
   else
    some 0
   ) 0
theorem Ae0 {N:Nat} {p_laws:(Sl Law)} {p_l:(Sl (Sl Sound))}   {y:Int} (h:H8 N p_laws p_l=some y) :
 FunO S AH5 [(.p (vSl 18 A8 p_laws)),(.p (vSl 1 (cL 2 A0) p_l))] [] (pN y) ([]) []:=by
 unfold H8 at h
 refine A6 hS Bq2 ?_
 obtain ⟨y1,e1,h⟩:=A4 h
 refine A2 hS [] trivial (Ao8 hS hL e1) ?_
 refine A1 hS trivial (b:=y1 != 0) (fun c1=>?_) (fun c1=>?_)
 ·replace h:=itT c1 h
  obtain rfl:=A3 h
  exact B1 hS trivial [] ⟨rfl,rfl,rfl⟩
 ·replace h:=itF c1 h
  refine U1 hS trivial h (fun x1=>⟨[(16,(pN x1)),(15,(pN (p_l.n:Int))),(14,(.p (vSl 1 (cL 2 A0) p_l)))], []⟩) (ids:=[]) (fun _ _ _ _ _ self1 x1 hb1 h=>?_)
  refine A1 hS trivial (b:=decide (x1 < (p_l.n:Int))) (fun c8=>?_) (fun c8=>?_)
  ·replace h:=itT c8 h
   obtain ⟨c9,h⟩:=F3 h
   obtain ⟨y4,e4,h⟩:=A4 h
   refine A2 hS [] c9 (Ay3 hS hL e4) ?_
   refine A1 hS trivial (b:=y4 != 0) (fun c10=>?_) (fun c10=>?_)
   ·replace h:=itT c10 h
    obtain rfl:=A3 h
    exact B1 hS trivial [] ⟨rfl,rfl,rfl⟩
   ·replace h:=itF c10 h
    exact hb1 _ [] _ (IntKind.wrap .i64 (x1+1)) trivial h
  ·replace h:=itF c8 h
   obtain rfl:=A3 h
   exact B1 hS trivial [] ⟨rfl,rfl,rfl⟩
def F6 (N:Nat) (p_laws:(Sl Law)) (p_from:(Sl Sound)) (p_to:(Sl Sound)):Option Bool:=
 (O0 N p_laws p_from).bind fun y1=>
 lt (fun (z1:Bool)=>
  some z1
  ) fun k1=>
  if (y1.2 == 0)=true then
   (Ah4 N y1.1 p_to).bind fun y3=>
   k1 y3
  else
   k1 false
theorem Aj4 {N:Nat} {p_laws:(Sl Law)} {p_from:(Sl Sound)} {p_to:(Sl Sound)}   {y:Bool} (h:F6 N p_laws p_from p_to=some y) :
 FunO S AH6 [(.p (vSl 18 A8 p_laws)),(.p (vSl 2 A0 p_from)),(.p (vSl 2 A0 p_to))] [] (pB y) ([]) []:=by
 unfold F6 at h
 refine A6 hS Bq3 ?_
 obtain ⟨y1,e1,h⟩:=A4 h
 refine A2 hS [] trivial (Bb2 hS hL e1) ?_
 refine AH1 hS trivial (B0 hS) h 0 (fun z1=>⟨[(6,(pB z1))], []⟩) (fun M1 k1 hb1 h=>?_) (fun z1 h=>?_)
 ·refine A7 hS trivial (b:=y1.2 == 0) (fun c3=>?_) (fun c3=>?_)
  ·replace h:=itT c3 h
   obtain ⟨y3,e3,h⟩:=A4 h
   refine A2 hS [] trivial (BD1 hS hL e3) ?_
   exact hb1 _ [] _ y3 trivial h
  ·replace h:=itF c3 h
   exact hb1 _ [] _ false trivial h
 ·obtain rfl:=A3 h
  exact B1 hS trivial [] ⟨rfl,rfl,rfl⟩
def D5 (N:Nat) (q0:(Sl Law)) (q1:(Sl T3)):Option (List (Int)):=
 Ae3 N (fun self3 (x2:Int)=>
  if (decide (x2 < (IntKind.wrap .i64 ((q0.n:Int)+1))))=true then
   Ae3 N (fun self4 (x4:Int)=>
    if (decide (x4 < (q1.n:Int)))=true then
     if ((0:Int)<=x4/\x4 < (q1.n:Int)) then
      if ((0:Int)<=x2/\x2<=(q0.n:Int)) then
       (F6 N (q0.drop x2.toNat) (q1.g x4.toNat).From (q1.g x4.toNat).To).bind fun y9=>
       if (!y9)=true then
        self3 (IntKind.wrap .i64 (x2+1))
       else
        self4 (IntKind.wrap .i64 (x4+1))
      else none
     else none
    else
     Ad1 x2 (
      self3 (IntKind.wrap .i64 (x2+1))
      )
    ) 0
  else
   some []
  ) 0
theorem Aa9 {N:Nat} {q0:(Sl Law)} {q1:(Sl T3)} {L:List (Int)} (h:D5 N q0 q1=some L) :
 Ao2 S Aa4 [] [.reg 0 0, .reg 1 0] [(.cells [(.p (vSl 18 A8 q0))]),(.cells [(.p (vSl 2 F4 q1))])] (L.map (fun (x:Int)=>[(pI .i64) x])):=by
 unfold D5 at h
 refine AA1 hS Aa5 ?_
 refine Ax1 hS trivial h (fun x2 L1=>⟨[(10,(pN x2)),(9,(pN (IntKind.wrap .i64 ((q0.n:Int)+1)))),(2,(.reg 1 0)),(1,(.reg 0 0)),(0,(.yf 2))], [(2,(.yld (L1.map (fun (x:Int)=>[(pI .i64) x])) true)),(1,(.cells [(.p (vSl 2 F4 q1))])),(0,(.cells [(.p (vSl 18 A8 q0))]))]⟩) (ids:=[(0,0),(1,1),(2,2)]) (fun _ _ _ _ _ self3 x2 L1 hb3 h=>?_)
 refine A1 hS trivial (b:=decide (x2 < (IntKind.wrap .i64 ((q0.n:Int)+1)))) (fun c31=>?_) (fun c31=>?_)
 ·replace h:=itT c31 h
  refine Ax1 hS trivial h (fun x4 L6=>⟨[(15,(pN x4)),(14,(pN (q1.n:Int))),(13,(.p (vSl 2 F4 q1))),(10,(pN x2)),(9,(pN (IntKind.wrap .i64 ((q0.n:Int)+1)))),(4,(pN x2)),(2,(.reg 1 0)),(1,(.reg 0 0)),(0,(.yf 2))], [(2,(.yld (L6.map (fun (x:Int)=>[(pI .i64) x])) true)),(1,(.cells [(.p (vSl 2 F4 q1))])),(0,(.cells [(.p (vSl 18 A8 q0))]))]⟩) (ids:=[(0,0),(1,1),(2,2)]) (fun _ _ _ _ _ self4 x4 L6 hb4 h=>?_)
  refine A1 hS trivial (b:=decide (x4 < (q1.n:Int))) (fun c40=>?_) (fun c40=>?_)
  ·replace h:=itT c40 h
   obtain ⟨c41,h⟩:=F3 h
   refine CJ0 hS (And.intro c41 (by decide:(2:Nat)<=2)) 7000 [(vSl 2 A0 (q1.g x4.toNat).From),(vSl 2 A0 (q1.g x4.toNat).To)] ?_
   refine F0 hS trivial [4,6,7] ?_
   obtain ⟨c42,h⟩:=F3 h
   obtain ⟨y9,e9,h⟩:=A4 h
   refine U2 c42 (Aj4 hS hL e9) ?_
   refine M0 trivial ?_
   refine A1 hS trivial (b:=!y9) (fun c43=>?_) (fun c43=>?_)
   ·replace h:=itT c43 h
    exact hb3 _ [(0,0),(1,1),(2,2)] _ (IntKind.wrap .i64 (x2+1)) L6 trivial h
   ·replace h:=itF c43 h
    exact hb4 _ [(0,0),(1,1),(2,2)] _ (IntKind.wrap .i64 (x4+1)) L6 trivial h
  ·replace h:=itF c40 h
   obtain ⟨L7,rfl,hcL7⟩:=Be0 h
   replace h:=hcL7
   refine Ao3 hS trivial (ys:=(fun (x:Int)=>[(pI .i64) x]) x2) (rest:=L7.map (fun (x:Int)=>[(pI .i64) x])) ?_ ?_
   ·refine A1 hS trivial (b:=false) (fun c44=>?_) (fun c44=>?_)
    ·exact Bool.noConfusion ((rfl:false=false).symm.trans c44)
    ·exact hb3 _ [(0,0),(1,1),(2,2)] _ (IntKind.wrap .i64 (x2+1)) L7 trivial h
   ·refine A1 hS trivial (b:=true) (fun c45=>?_) (fun c45=>?_)
    ·exact B4 hS trivial (a:=.tup []) (objs:=[(.cells [(.p (vSl 18 A8 q0))]),(.cells [(.p (vSl 2 F4 q1))]),(.yld [] false)]) ⟨[], [(2,(.yld [] false)),(1,(.cells [(.p (vSl 2 F4 q1))])),(0,(.cells [(.p (vSl 18 A8 q0))]))]⟩ [0,1,2] (ids:=[(0,0),(1,1),(2,2)]) ⟨false,rfl,rfl,_,rfl⟩
    ·exact Bool.noConfusion ((rfl:true=true).symm.trans c45)
 ·replace h:=itF c31 h
  obtain rfl:=A3 h
  exact B4 hS trivial (a:=.tup []) (objs:=[(.cells [(.p (vSl 18 A8 q0))]),(.cells [(.p (vSl 2 F4 q1))]),(.yld [] true)]) ⟨[], [(2,(.yld [] true)),(1,(.cells [(.p (vSl 2 F4 q1))])),(0,(.cells [(.p (vSl 18 A8 q0))]))]⟩ [0,1,2] (ids:=[(0,0),(1,1),(2,2)]) ⟨true,rfl,rfl,_,rfl⟩
def G7 (N:Nat) (p_laws:(Sl Law)) (p_pairs:(Sl T3)):Option ((Sl Law) × (Sl T3)):=
 some (p_laws,p_pairs)
theorem Ag7 {N:Nat} {p_laws:(Sl Law)} {p_pairs:(Sl T3)}   {y:((Sl Law) × (Sl T3))} (h:G7 N p_laws p_pairs=some y) :
 FunO S AC5 [(.p (vSl 18 A8 p_laws)),(.p (vSl 2 F4 p_pairs))] [] (.clo Aa4 [] [.reg 0 0, .reg 1 0]) ([(.cells [(.p (vSl 18 A8 y.1))]),(.cells [(.p (vSl 2 F4 y.2))])]) []:=by
 unfold G7 at h
 refine A6 hS Be6 ?_
 obtain rfl:=A3 h
 exact B4 hS trivial ⟨[(4,(.clo Aa4 [] [(.reg 3000 0),(.reg 4000 0)]))], [(4000,(.cells [(.p (vSl 2 F4 p_pairs))])),(3000,(.cells [(.p (vSl 18 A8 p_laws))]))]⟩ [3000,4000] (ids:=[(3000,3000),(4000,4000)]) ⟨rfl,rfl,rfl⟩
def C0 (N:Nat) (p_slices:(Sl (Sl Law))):Option (Sl Law):=
 V9 N (fun self1 (x1:Int) (x2:Int)=>
  if (decide (x2 < (p_slices.n:Int)))=true then
   if ((0:Int)<=x2/\x2 < (p_slices.n:Int)) then
    if (decide ((IntKind.wrap .i64 (x1+((p_slices.g x2.toNat).n:Int))) < 0))=true then
     none
    else
     self1 (IntKind.wrap .i64 (x1+((p_slices.g x2.toNat).n:Int))) (IntKind.wrap .i64 (x2+1))
   else none
  else
   (I1 N x1).bind fun y1=>
   V9 N (fun self2 (x3:Sl Law) (x4:Int)=>
    if (decide (x4 < (p_slices.n:Int)))=true then
     if (((0:Int)<=x4/\x4 < (p_slices.n:Int))/\((x3.n+(p_slices.g x4.toNat).n) * 200<=140737488355328/\x3.n+(p_slices.g x4.toNat).n<=140737488355328)) then
      self2 (x3.app (p_slices.g x4.toNat)) (IntKind.wrap .i64 (x4+1))
     else none
    else
     some x3
    ) y1 0
  ) 0 0
theorem Ac6 {N:Nat} {p_slices:(Sl (Sl Law))}   {y:(Sl Law)} (h:C0 N p_slices=some y) :
 FunO S O1 [(.p (vSl 1 (cL 18 A8) p_slices))] [] (.p (vSl 18 A8 y)) ([]) []:=by
 unfold C0 at h
 refine A6 hS Ac5 ?_
 refine H9 hS trivial h (fun x1 x2=>⟨[(11,(pN x2)),(10,(pN (p_slices.n:Int))),(9,(.p (vSl 1 (cL 18 A8) p_slices))),(3,(pN x1)),(0,(.p (vSl 1 (cL 18 A8) p_slices)))], []⟩) (ids:=[]) (fun _ _ _ _ _ self1 x1 x2 hb1 h=>?_)
 refine A1 hS trivial (b:=decide (x2 < (p_slices.n:Int))) (fun c7=>?_) (fun c7=>?_)
 ·replace h:=itT c7 h
  obtain ⟨c8,h⟩:=F3 h
  refine A1 hS c8 (b:=decide ((IntKind.wrap .i64 (x1+((p_slices.g x2.toNat).n:Int))) < 0)) (fun c9=>?_) (fun c9=>?_)
  ·replace h:=itT c9 h
   cases h
  ·replace h:=itF c9 h
   exact hb1 _ [] _ (IntKind.wrap .i64 (x1+((p_slices.g x2.toNat).n:Int))) (IntKind.wrap .i64 (x2+1)) trivial h
 ·replace h:=itF c7 h
  obtain ⟨y1,e1,h⟩:=A4 h
  refine A2 hS [] trivial (Ae6 hS hL e1) ?_
  refine H9 hS trivial h (fun x3 x4=>⟨[(27,(pN x4)),(26,(pN (p_slices.n:Int))),(25,(.p (vSl 1 (cL 18 A8) p_slices))),(6,(.vec 7500))], [(7500,(.vec O6 18 x3.n (fun i=>A8 (x3.g i)) false))]⟩) (ids:=[(7500,25000)]) (fun _ _ _ _ _ self2 x3 x4 hb2 h=>?_)
  refine A1 hS trivial (b:=decide (x4 < (p_slices.n:Int))) (fun c12=>?_) (fun c12=>?_)
  ·replace h:=itT c12 h
   obtain ⟨c13,h⟩:=F3 h
   exact hb2 _ [(7500,34000)] _ (x3.app (p_slices.g x4.toNat)) (IntKind.wrap .i64 (x4+1)) c13 h (by kernel_rfl) (by kernel_rfl) (klR [(3, .fn (x3.n+(p_slices.g x4.toNat).n) (x3.app (p_slices.g x4.toNat)).n (T4 x3.n (fun i=>A8 (x3.g i)) (fun i=>A8 ((p_slices.g x4.toNat).g i))) (fun i=>A8 ((x3.app (p_slices.g x4.toNat)).g i)))] (al1 ⟨rfl,(Ca2 (c:=A8) (v:=x3) (w:=(p_slices.g x4.toNat)) same rfl same rfl)⟩ al0))
  ·replace h:=itF c12 h
   obtain rfl:=A3 h
   exact B4 hS trivial ⟨[(2,(.p (vSl 18 A8 x3)))], []⟩ [] (ids:=[]) ⟨rfl,rfl,rfl⟩
def R9 (N:Nat) (q0:(Sl Law)) (q1:(Sl Sound)) (q2:(Sl Sound)):Option (List (Int)):=
 (F6 N q0 q1 q2).bind fun y1=>
 if y1=true then
  some []
 else
  Ae3 N (fun self1 (x1:Int)=>
   if (decide (x1 < (q0.n:Int)))=true then
    if (((0:Int)<=x1/\x1<=(q0.n:Int))/\((0:Int)<=(IntKind.wrap .i64 (x1+1))/\(IntKind.wrap .i64 (x1+1))<=(q0.n:Int))) then
     (C0 N (Sl.of [(q0.take x1.toNat),(q0.drop (IntKind.wrap .i64 (x1+1)).toNat)]:Sl (Sl Law))).bind fun y6=>
     (F6 N y6 q1 q2).bind fun y7=>
     if y7=true then
      Ad1 x1 (
       self1 (IntKind.wrap .i64 (x1+1))
       )
     else
      self1 (IntKind.wrap .i64 (x1+1))
    else none
   else
    some []
   ) 0
theorem AS3 {N:Nat} {q0:(Sl Law)} {q1:(Sl Sound)} {q2:(Sl Sound)} {L:List (Int)} (h:R9 N q0 q1 q2=some L) :
 Ao2 S Aa6 [] [.reg 0 0, .reg 1 0, .reg 2 0] [(.cells [(.p (vSl 18 A8 q0))]),(.cells [(.p (vSl 2 A0 q1))]),(.cells [(.p (vSl 2 A0 q2))])] (L.map (fun (x:Int)=>[(pI .i64) x])):=by
 unfold R9 at h
 refine AA1 hS Au7 ?_
 obtain ⟨y1,e1,h⟩:=A4 h
 refine A2 hS [] trivial (Aj4 hS hL e1) ?_
 refine A1 hS trivial (b:=y1) (fun c1=>?_) (fun c1=>?_)
 ·replace h:=itT c1 h
  obtain rfl:=A3 h
  exact B4 hS trivial (a:=.tup []) (objs:=[(.cells [(.p (vSl 18 A8 q0))]),(.cells [(.p (vSl 2 A0 q1))]),(.cells [(.p (vSl 2 A0 q2))]),(.yld [] true)]) ⟨[], [(3,(.yld [] true)),(2,(.cells [(.p (vSl 2 A0 q2))])),(1,(.cells [(.p (vSl 2 A0 q1))])),(0,(.cells [(.p (vSl 18 A8 q0))]))]⟩ [0,1,2,3] (ids:=[(0,0),(1,1),(2,2),(3,3)]) ⟨true,rfl,rfl,_,rfl⟩
 ·replace h:=itF c1 h
  refine Ax1 hS trivial h (fun x1 L1=>⟨[(12,(pN x1)),(11,(pN (q0.n:Int))),(3,(.reg 2 0)),(2,(.reg 1 0)),(1,(.reg 0 0)),(0,(.yf 3))], [(3,(.yld (L1.map (fun (x:Int)=>[(pI .i64) x])) true)),(2,(.cells [(.p (vSl 2 A0 q2))])),(1,(.cells [(.p (vSl 2 A0 q1))])),(0,(.cells [(.p (vSl 18 A8 q0))]))]⟩) (ids:=[(0,0),(1,1),(2,2),(3,3)]) (fun _ _ _ _ _ self1 x1 L1 hb1 h=>?_)
  refine A1 hS trivial (b:=decide (x1 < (q0.n:Int))) (fun c24=>?_) (fun c24=>?_)
  ·replace h:=itT c24 h
   refine Cx8 hS trivial 15 [(0, .l [0]),(3, .l [0]),(8, .n),(9, .l [1]),(10, .l [2]),(11, .n)] ?_
   obtain ⟨c25,h⟩:=F3 h
   refine AE8 c25 (x:=(.sl true 1 2 (D9 [P6] [(0,(cL 18 A8) (q0.take x1.toNat)),(1,(cL 18 A8) (q0.drop (IntKind.wrap .i64 (x1+1)).toNat))]))) ?_
   obtain ⟨y6,e6,h⟩:=A4 h
   refine U2 trivial (FunO.le hS (args:=[.p (.sl true 1 2 (D9 [P6] [(0,(cL 18 A8) (q0.take x1.toNat)),(1,(cL 18 A8) (q0.drop (IntKind.wrap .i64 (x1+1)).toNat))]))]) (by exact ⟨BR5 rfl (fun i hi=>match i,hi with | 0,_=>rfl | 1,_=>rfl | _+2,hi=>absurd hi (by omega)),trivial⟩) (Ac6 hS hL e6)) ?_
   obtain ⟨y7,e7,h⟩:=A4 h
   refine U2 trivial (Aj4 hS hL e7) ?_
   refine BJ9 trivial (b:=y7) (fun c26=>?_) (fun c26=>?_)
   ·replace h:=itT c26 h
    refine M0 trivial ?_
    refine A7 hS trivial (b:=true) (fun c29=>?_) (fun c29=>?_)
    ·obtain ⟨L7,rfl,hcL7⟩:=Be0 h
     replace h:=hcL7
     refine Ao3 hS trivial (ys:=(fun (x:Int)=>[(pI .i64) x]) x1) (rest:=L7.map (fun (x:Int)=>[(pI .i64) x])) ?_ ?_
     ·refine A1 hS trivial (b:=false) (fun c30=>?_) (fun c30=>?_)
      ·exact Bool.noConfusion ((rfl:false=false).symm.trans c30)
      ·exact hb1 _ [(0,0),(1,1),(2,2),(3,3)] _ (IntKind.wrap .i64 (x1+1)) L7 trivial h
     ·refine A1 hS trivial (b:=true) (fun c31=>?_) (fun c31=>?_)
      ·exact B4 hS trivial (a:=.tup []) (objs:=[(.cells [(.p (vSl 18 A8 q0))]),(.cells [(.p (vSl 2 A0 q1))]),(.cells [(.p (vSl 2 A0 q2))]),(.yld [] false)]) ⟨[], [(3,(.yld [] false)),(2,(.cells [(.p (vSl 2 A0 q2))])),(1,(.cells [(.p (vSl 2 A0 q1))])),(0,(.cells [(.p (vSl 18 A8 q0))]))]⟩ [0,1,2,3] (ids:=[(0,0),(1,1),(2,2),(3,3)]) ⟨false,rfl,rfl,_,rfl⟩
      ·exact Bool.noConfusion ((rfl:true=true).symm.trans c31)
    ·exact Bool.noConfusion ((rfl:true=true).symm.trans c29)
   ·replace h:=itF c26 h
    refine M0 trivial ?_
    refine A7 hS trivial (b:=false) (fun c34=>?_) (fun c34=>?_)
    ·exact Bool.noConfusion ((rfl:false=false).symm.trans c34)
    ·exact hb1 _ [(0,0),(1,1),(2,2),(3,3)] _ (IntKind.wrap .i64 (x1+1)) L1 trivial h
  ·replace h:=itF c24 h
   obtain rfl:=A3 h
   exact B4 hS trivial (a:=.tup []) (objs:=[(.cells [(.p (vSl 18 A8 q0))]),(.cells [(.p (vSl 2 A0 q1))]),(.cells [(.p (vSl 2 A0 q2))]),(.yld [] true)]) ⟨[], [(3,(.yld [] true)),(2,(.cells [(.p (vSl 2 A0 q2))])),(1,(.cells [(.p (vSl 2 A0 q1))])),(0,(.cells [(.p (vSl 18 A8 q0))]))]⟩ [0,1,2,3] (ids:=[(0,0),(1,1),(2,2),(3,3)]) ⟨true,rfl,rfl,_,rfl⟩
def Ag8 (N:Nat) (p_laws:(Sl Law)) (p_proto:(Sl Sound)) (p_attested:(Sl Sound)):Option ((Sl Law) × (Sl Sound) × (Sl Sound)):=
 some (p_laws,p_proto,p_attested)
theorem Bg6 {N:Nat} {p_laws:(Sl Law)} {p_proto:(Sl Sound)} {p_attested:(Sl Sound)}   {y:((Sl Law) × (Sl Sound) × (Sl Sound))} (h:Ag8 N p_laws p_proto p_attested=some y) :
 FunO S AC6 [(.p (vSl 18 A8 p_laws)),(.p (vSl 2 A0 p_proto)),(.p (vSl 2 A0 p_attested))] [] (.clo Aa6 [] [.reg 0 0, .reg 1 0, .reg 2 0]) ([(.cells [(.p (vSl 18 A8 y.1))]),(.cells [(.p (vSl 2 A0 y.2.1))]),(.cells [(.p (vSl 2 A0 y.2.2))])]) []:=by
 unfold Ag8 at h
 refine A6 hS Be7 ?_
 obtain rfl:=A3 h
 exact B4 hS trivial ⟨[(6,(.clo Aa6 [] [(.reg 4000 0),(.reg 5000 0),(.reg 6000 0)]))], [(6000,(.cells [(.p (vSl 2 A0 p_attested))])),(5000,(.cells [(.p (vSl 2 A0 p_proto))])),(4000,(.cells [(.p (vSl 18 A8 p_laws))]))]⟩ [4000,5000,6000] (ids:=[(4000,4000),(5000,5000),(6000,6000)]) ⟨rfl,rfl,rfl⟩
def G2 (N:Nat) (p_seq:List (Int)):Option (Sl Int):=
 K4 p_seq (fun self1 (x1:Int) (z1:Sl Int)=>
  if ((z1.n+(Sl.of [x1]:Sl Int).n) * 8<=140737488355328/\z1.n+(Sl.of [x1]:Sl Int).n<=140737488355328) then
   self1 (z1.push x1)
  else none
  ) (fun (z1:Sl Int)=>
   some z1
  ) (Sl.nil:Sl Int)
theorem Ai0 {N:Nat} {p_seq:List (Int)} {p_seq_0:(Sl Law)} {p_seq_1:(Sl T3)} {kp_seq:Nat} (fp_seq:∃ fn,Tryz.prog.funcs[kp_seq]? = some fn/\fn.body.isSome=true/\(fn.name == "runtime.NumGoroutine")=false) (hp_seq:Ao2 S kp_seq [] [.reg 0 0, .reg 1 0] [(.cells [(.p (vSl 18 A8 p_seq_0))]),(.cells [(.p (vSl 2 F4 p_seq_1))])] (p_seq.map (fun (x:Int)=>[(pI .i64) x]))) {y:(Sl Int)} (h:G2 N p_seq=some y) :
 FunO S H0 [(.p P6),(.clo kp_seq [] [(.reg 0 0),(.reg 1 0)])] [(.cells [(.p (vSl 18 A8 p_seq_0))]),(.cells [(.p (vSl 2 F4 p_seq_1))])] (.vec 0) ([(.vec D4 1 y.n (fun i=>(cI .i64) (y.g i)) true)]) [false,false]:=by
 unfold G2 at h
 refine A6 hS J9 ?_
 refine AH2 hS trivial fp_seq [0,1] [2] 901 (fun z1=>⟨[(2,(.reg 3000 0))], [(3500,(.vec D4 1 z1.n (fun i=>(cI .i64) (z1.g i)) false)),(3000,(.cells [(.vec 3500)]))]⟩) (idl:=[(3000,3000)]) h hp_seq (fun _=>by kernel_rfl) (fun _=>by kernel_rfl) (fun _=>by kernel_rfl) (fun _=>by kernel_rfl) (fun x1 _ self1 z1 hb1 h=>?_) (fun z1 h=>?_)
 ·refine AL6 hS trivial ?_
  obtain ⟨c1,h⟩:=F3 h
  exact hb1 _ [(901,901),(3000,3000),(3500,12000)] _ (z1.push x1) (And.intro (rfl:true=true) c1) h (by kernel_rfl) (by kernel_rfl) (klR [(0, .fn (z1.n+1) (z1.push x1).n (T4 z1.n (fun i=>(cI .i64) (z1.g i)) (D9 [(pI .i64 0)] [(0,(cI .i64) x1)])) (fun i=>(cI .i64) ((z1.push x1).g i)))] (al1 ⟨rfl,(Aw9 (c:=(cI .i64)) (v:=z1) (x:=x1) (z:=[(pI .i64 0)]) same rfl rfl)⟩ al0))
 ·obtain rfl:=A3 h
  exact B4 hS trivial ⟨[(4,(.vec 3500))], [(3500,(.vec D4 1 z1.n (fun i=>(cI .i64) (z1.g i)) true))]⟩ [3500] (ids:=[(3500,3500)]) ⟨rfl,rfl,rfl⟩
def I9 (N:Nat) (p_seq:List (Int)):Option (Sl Int):=
 (G2 N p_seq).bind fun y1=>
 some y1
theorem Ay9 {N:Nat} {p_seq:List (Int)} {p_seq_0:(Sl Law)} {p_seq_1:(Sl T3)} {kp_seq:Nat} (fp_seq:∃ fn,Tryz.prog.funcs[kp_seq]? = some fn/\fn.body.isSome=true/\(fn.name == "runtime.NumGoroutine")=false) (hp_seq:Ao2 S kp_seq [] [.reg 0 0, .reg 1 0] [(.cells [(.p (vSl 18 A8 p_seq_0))]),(.cells [(.p (vSl 2 F4 p_seq_1))])] (p_seq.map (fun (x:Int)=>[(pI .i64) x]))) {y:(Sl Int)} (h:I9 N p_seq=some y) :
 FunO S P8 [(.clo kp_seq [] [(.reg 0 0),(.reg 1 0)])] [(.cells [(.p (vSl 18 A8 p_seq_0))]),(.cells [(.p (vSl 2 F4 p_seq_1))])] (.vec 0) ([(.vec D4 1 y.n (fun i=>(cI .i64) (y.g i)) true)]) [false,false]:=by
 unfold I9 at h
 refine A6 hS X7 ?_
 obtain ⟨y1,e1,h⟩:=A4 h
 refine A2 hS [0,1] trivial (Ai0 hS hL fp_seq hp_seq e1) ?_
 obtain rfl:=A3 h
 exact B4 hS trivial ⟨[(2,(.vec 5000))], [(5000,(.vec D4 1 y1.n (fun i=>(cI .i64) (y1.g i)) true))]⟩ [5000] (ids:=[(5000,5000)]) ⟨rfl,rfl,rfl⟩
def X1 (N:Nat) (p_l:List (Int)):Option (G3 × Bool):=
 K4 p_l (fun self1 (x1:Int) (z1:Int × Int × Bool)=>
  if (!z1.2.2)=true then
   self1 (x1,x1,true)
  else
   self1 (z1.1,x1,z1.2.2)
  ) (fun (z1:Int × Int × Bool)=>
   some ((⟨z1.1,z1.2.1⟩:G3),z1.2.2)
  ) (0,0,false)
theorem AJ4 {N:Nat} {p_l:List (Int)} {p_l_0:(Sl Law)} {p_l_1:(Sl T3)} {kp_l:Nat} (fp_l:∃ fn,Tryz.prog.funcs[kp_l]? = some fn/\fn.body.isSome=true/\(fn.name == "runtime.NumGoroutine")=false) (hp_l:Ao2 S kp_l [] [.reg 0 0, .reg 1 0] [(.cells [(.p (vSl 18 A8 p_l_0))]),(.cells [(.p (vSl 2 F4 p_l_1))])] (p_l.map (fun (x:Int)=>[(pI .i64) x]))) {y:(G3 × Bool)} (h:X1 N p_l=some y) :
 FunO S AP4 [(.clo kp_l [] [(.reg 0 0),(.reg 1 0)])] [(.cells [(.p (vSl 18 A8 p_l_0))]),(.cells [(.p (vSl 2 F4 p_l_1))])] (.tup [(.p (.agg (Am9 y.1))),(pB y.2)]) ([]) [false,false]:=by
 unfold X1 at h
 refine A6 hS BA2 ?_
 refine AH2 hS trivial fp_l [0,1] [3,2] 901 (fun z1=>⟨[(3,(.reg 4000 0)),(2,(.reg 3000 0))], [(4000,(.cells [(pB z1.2.2)])),(3000,(.cells [(pN z1.1),(pN z1.2.1)]))]⟩) (idl:=[(3000,3000),(4000,4000)]) h hp_l (fun _=>by kernel_rfl) (fun _=>by kernel_rfl) (fun _=>by kernel_rfl) (fun _=>by kernel_rfl) (fun x1 _ self1 z1 hb1 h=>?_) (fun z1 h=>?_)
 ·refine AL6 hS trivial ?_
  refine A1 hS trivial (b:=!z1.2.2) (fun c2=>?_) (fun c2=>?_)
  ·replace h:=itT c2 h
   exact hb1 _ [(901,901),(3000,3000),(4000,4000)] _ (x1,x1,true) trivial h
  ·replace h:=itF c2 h
   exact hb1 _ [(901,901),(3000,3000),(4000,4000)] _ (z1.1,x1,z1.2.2) trivial h
 ·refine T2 hS trivial [(0, .l [3000]),(1, .l [4000]),(2, .a [3000]),(3, .a [4000])] ?_
  refine M0 trivial ?_
  obtain rfl:=A3 h
  exact B4 hS trivial ⟨[(3,(.reg 4000 0)),(2,(.reg 3000 0))], [(4000,(.cells [(pB z1.2.2)])),(3000,(.cells [(pN z1.1),(pN z1.2.1)]))]⟩ [] (ids:=[(3000,3000),(4000,4000)]) ⟨rfl,rfl,rfl⟩
def S3 (N:Nat) (p_laws:(Sl Law)) (p_foreign:(Sl Sound)) (p_attested:(Sl Sound)):Option ((Sl Int) × Int):=
 (H8 N p_laws (Sl.of [p_foreign,p_attested]:Sl (Sl Sound))).bind fun y1=>
 if (y1 != 0)=true then
  some ((Sl.nil:Sl Int),y1)
 else
  (G7 N p_laws (Sl.of [(⟨p_foreign,p_attested⟩:T3)]:Sl T3)).bind fun y2=>
  (D5 N y2.1 y2.2).bind fun L1=>
  (I9 N L1).bind fun y3=>
  some (y3,0)
theorem AD5 {N:Nat} {p_laws:(Sl Law)} {p_foreign:(Sl Sound)} {p_attested:(Sl Sound)}   {y:((Sl Int) × Int)} (h:S3 N p_laws p_foreign p_attested=some y) :
 FunO S AC1 [(.p (vSl 18 A8 p_laws)),(.p (vSl 2 A0 p_foreign)),(.p (vSl 2 A0 p_attested))] [] (.tup [(.vec 0),(pN y.2)]) ([(.vec D4 1 y.1.n (fun i=>(cI .i64) (y.1.g i)) true)]) []:=by
 unfold S3 at h
 refine A6 hS Be2 ?_
 refine Ac1 hS (rfl:true=true) ⟨[(12,(.vec 13000)),(9,(.p (vSl 18 A8 p_laws))),(2,(.p (vSl 2 A0 p_attested))),(1,(.p (vSl 2 A0 p_foreign))),(0,(.p (vSl 18 A8 p_laws)))], [(13000,(.vec A9 1 (Sl.of [p_foreign,p_attested]:Sl (Sl Sound)).n (fun i=>(cL 2 A0) ((Sl.of [p_foreign,p_attested]:Sl (Sl Sound)).g i)) false))]⟩ (ids:=[(13000,13000)]) ?_ (hle:=(klR [(4, .fn 2 (Sl.of [p_foreign,p_attested]:Sl (Sl Sound)).n (D9 [P6] [(0,(cL 2 A0) p_foreign),(1,(cL 2 A0) p_attested)]) (fun i=>(cL 2 A0) ((Sl.of [p_foreign,p_attested]:Sl (Sl Sound)).g i)))] (al1 ⟨rfl,(fun i hi=>match i,hi with | 0,_=>rfl | 1,_=>rfl | _+2,hi=>absurd hi (by omega))⟩ al0)))
 obtain ⟨y1,e1,h⟩:=A4 h
 refine A2 hS [] trivial (Ae0 hS hL e1) ?_
 refine A1 hS trivial (b:=y1 != 0) (fun c1=>?_) (fun c1=>?_)
 ·replace h:=itT c1 h
  obtain rfl:=A3 h
  exact B4 hS trivial ⟨[(7,(pN y1)),(6,(.vec 7700))], [(7700,(.vec D4 1 (Sl.nil:Sl Int).n (fun i=>(cI .i64) ((Sl.nil:Sl Int).g i)) true))]⟩ [7700] (ids:=[]) ⟨rfl,rfl,rfl⟩
 ·replace h:=itF c1 h
  refine Ac1 hS (rfl:true=true) ⟨[(21,(.vec 22000)),(17,(.p (vSl 18 A8 p_laws)))], [(22000,(.vec AA5 2 (Sl.of [(⟨p_foreign,p_attested⟩:T3)]:Sl T3).n (fun i=>F4 ((Sl.of [(⟨p_foreign,p_attested⟩:T3)]:Sl T3).g i)) false))]⟩ (ids:=[(22000,22000)]) ?_ (hle:=(klR [(1, .fn 1 (Sl.of [(⟨p_foreign,p_attested⟩:T3)]:Sl T3).n (D9 [P6,P6] [(0,F4 (⟨p_foreign,p_attested⟩:T3))]) (fun i=>F4 ((Sl.of [(⟨p_foreign,p_attested⟩:T3)]:Sl T3).g i)))] (al1 ⟨rfl,(fun i hi=>match i,hi with | 0,_=>rfl | _+1,hi=>absurd hi (by omega))⟩ al0)))
  obtain ⟨y2,e2,h⟩:=A4 h
  refine A2 hS [] trivial (Ag7 hS hL e2) ?_
  obtain ⟨L1,e3,h⟩:=A4 h
  obtain ⟨y3,e4,h⟩:=A4 h
  refine A2 hS [23000,23001] trivial (Ay9 hS hL ⟨_,Aa5,by decide +kernel,by decide +kernel⟩ (Aa9 hS hL e3) e4) ?_
  obtain rfl:=A3 h
  exact B4 hS trivial ⟨[(7,(pN 0)),(6,(.vec 24000))], [(24000,(.vec D4 1 y3.n (fun i=>(cI .i64) (y3.g i)) true))]⟩ [24000] (ids:=[(24000,24000)]) ⟨rfl,rfl,rfl⟩
def Ac4 (N:Nat) (p_laws:(Sl Law)) (p_foreign:(Sl Sound)) (p_attested:(Sl Sound)):Option (G3 × Bool × Int):=
 (H8 N p_laws (Sl.of [p_foreign,p_attested]:Sl (Sl Sound))).bind fun y1=>
 if (y1 != 0)=true then
  some ((⟨0,0⟩:G3),false,y1)
 else
  (G7 N p_laws (Sl.of [(⟨p_foreign,p_attested⟩:T3)]:Sl T3)).bind fun y2=>
  (D5 N y2.1 y2.2).bind fun L1=>
  (X1 N L1).bind fun y3=>
  some (y3.1,y3.2,0)
theorem AQ7 {N:Nat} {p_laws:(Sl Law)} {p_foreign:(Sl Sound)} {p_attested:(Sl Sound)}   {y:(G3 × Bool × Int)} (h:Ac4 N p_laws p_foreign p_attested=some y) :
 FunO S AO8 [(.p (vSl 18 A8 p_laws)),(.p (vSl 2 A0 p_foreign)),(.p (vSl 2 A0 p_attested))] [] (.tup [(.p (.agg (Am9 y.1))),(pB y.2.1),(pN y.2.2)]) ([]) []:=by
 unfold Ac4 at h
 refine A6 hS Bz5 ?_
 refine Ac1 hS (rfl:true=true) ⟨[(15,(.vec 16000)),(12,(.p (vSl 18 A8 p_laws))),(6,(.reg 7000 0)),(2,(.p (vSl 2 A0 p_attested))),(1,(.p (vSl 2 A0 p_foreign))),(0,(.p (vSl 18 A8 p_laws)))], [(16000,(.vec A9 1 (Sl.of [p_foreign,p_attested]:Sl (Sl Sound)).n (fun i=>(cL 2 A0) ((Sl.of [p_foreign,p_attested]:Sl (Sl Sound)).g i)) false)),(7000,(.cells [(pN 0),(pN 0)]))]⟩ (ids:=[(7000,7000),(16000,16000)]) ?_ (hle:=(klR [(4, .fn 2 (Sl.of [p_foreign,p_attested]:Sl (Sl Sound)).n (D9 [P6] [(0,(cL 2 A0) p_foreign),(1,(cL 2 A0) p_attested)]) (fun i=>(cL 2 A0) ((Sl.of [p_foreign,p_attested]:Sl (Sl Sound)).g i)))] (al1 ⟨rfl,(fun i hi=>match i,hi with | 0,_=>rfl | 1,_=>rfl | _+2,hi=>absurd hi (by omega))⟩ al0)))
 obtain ⟨y1,e1,h⟩:=A4 h
 refine A2 hS [] trivial (Ae0 hS hL e1) ?_
 refine A1 hS trivial (b:=y1 != 0) (fun c1=>?_) (fun c1=>?_)
 ·replace h:=itT c1 h
  obtain rfl:=A3 h
  exact B1 hS trivial [] ⟨rfl,rfl,rfl⟩
 ·replace h:=itF c1 h
  refine Ac1 hS (rfl:true=true) ⟨[(26,(.vec 27000)),(22,(.p (vSl 18 A8 p_laws))),(6,(.reg 7000 0))], [(27000,(.vec AA5 2 (Sl.of [(⟨p_foreign,p_attested⟩:T3)]:Sl T3).n (fun i=>F4 ((Sl.of [(⟨p_foreign,p_attested⟩:T3)]:Sl T3).g i)) false)),(7000,(.cells [(pN 0),(pN 0)]))]⟩ (ids:=[(7000,7000),(27000,27000)]) ?_ (hle:=(klR [(1, .fn 1 (Sl.of [(⟨p_foreign,p_attested⟩:T3)]:Sl T3).n (D9 [P6,P6] [(0,F4 (⟨p_foreign,p_attested⟩:T3))]) (fun i=>F4 ((Sl.of [(⟨p_foreign,p_attested⟩:T3)]:Sl T3).g i)))] (al1 ⟨rfl,(fun i hi=>match i,hi with | 0,_=>rfl | _+1,hi=>absurd hi (by omega))⟩ al0)))
  obtain ⟨y2,e2,h⟩:=A4 h
  refine A2 hS [] trivial (Ag7 hS hL e2) ?_
  obtain ⟨L1,e3,h⟩:=A4 h
  obtain ⟨y3,e4,h⟩:=A4 h
  refine A2 hS [28000,28001] trivial (AJ4 hS hL ⟨_,Aa5,by decide +kernel,by decide +kernel⟩ (Aa9 hS hL e3) e4) ?_
  obtain rfl:=A3 h
  exact B1 hS trivial [] ⟨rfl,rfl,rfl⟩
def S4 (N:Nat) (p_laws:(Sl Law)) (p_proto:(Sl Sound)) (p_attested:(Sl Sound)):Option (Bool × Int):=
 (H8 N p_laws (Sl.of [p_proto,p_attested]:Sl (Sl Sound))).bind fun y1=>
 if (y1 != 0)=true then
  some (false,y1)
 else
  (F6 N p_laws p_proto p_attested).bind fun y2=>
  some (y2,0)
theorem AD6 {N:Nat} {p_laws:(Sl Law)} {p_proto:(Sl Sound)} {p_attested:(Sl Sound)}   {y:(Bool × Int)} (h:S4 N p_laws p_proto p_attested=some y) :
 FunO S AC2 [(.p (vSl 18 A8 p_laws)),(.p (vSl 2 A0 p_proto)),(.p (vSl 2 A0 p_attested))] [] (.tup [(pB y.1),(pN y.2)]) ([]) []:=by
 unfold S4 at h
 refine A6 hS Be3 ?_
 refine Ac1 hS (rfl:true=true) ⟨[(12,(.vec 13000)),(9,(.p (vSl 18 A8 p_laws))),(2,(.p (vSl 2 A0 p_attested))),(1,(.p (vSl 2 A0 p_proto))),(0,(.p (vSl 18 A8 p_laws)))], [(13000,(.vec A9 1 (Sl.of [p_proto,p_attested]:Sl (Sl Sound)).n (fun i=>(cL 2 A0) ((Sl.of [p_proto,p_attested]:Sl (Sl Sound)).g i)) false))]⟩ (ids:=[(13000,13000)]) ?_ (hle:=(klR [(4, .fn 2 (Sl.of [p_proto,p_attested]:Sl (Sl Sound)).n (D9 [P6] [(0,(cL 2 A0) p_proto),(1,(cL 2 A0) p_attested)]) (fun i=>(cL 2 A0) ((Sl.of [p_proto,p_attested]:Sl (Sl Sound)).g i)))] (al1 ⟨rfl,(fun i hi=>match i,hi with | 0,_=>rfl | 1,_=>rfl | _+2,hi=>absurd hi (by omega))⟩ al0)))
 obtain ⟨y1,e1,h⟩:=A4 h
 refine A2 hS [] trivial (Ae0 hS hL e1) ?_
 refine A1 hS trivial (b:=y1 != 0) (fun c1=>?_) (fun c1=>?_)
 ·replace h:=itT c1 h
  obtain rfl:=A3 h
  exact B1 hS trivial [] ⟨rfl,rfl,rfl⟩
 ·replace h:=itF c1 h
  obtain ⟨y2,e2,h⟩:=A4 h
  refine A2 hS [] trivial (Aj4 hS hL e2) ?_
  obtain rfl:=A3 h
  exact B1 hS trivial [] ⟨rfl,rfl,rfl⟩
def J0 (N:Nat) (p_seq:List (Int)):Option (Sl Int):=
 K4 p_seq (fun self1 (x1:Int) (z1:Sl Int)=>
  if ((z1.n+(Sl.of [x1]:Sl Int).n) * 8<=140737488355328/\z1.n+(Sl.of [x1]:Sl Int).n<=140737488355328) then
   self1 (z1.push x1)
  else none
  ) (fun (z1:Sl Int)=>
   some z1
  ) (Sl.nil:Sl Int)
theorem Ai1 {N:Nat} {p_seq:List (Int)} {p_seq_0:(Sl Law)} {p_seq_1:(Sl Sound)} {p_seq_2:(Sl Sound)} {kp_seq:Nat} (fp_seq:∃ fn,Tryz.prog.funcs[kp_seq]? = some fn/\fn.body.isSome=true/\(fn.name == "runtime.NumGoroutine")=false) (hp_seq:Ao2 S kp_seq [] [.reg 0 0, .reg 1 0, .reg 2 0] [(.cells [(.p (vSl 18 A8 p_seq_0))]),(.cells [(.p (vSl 2 A0 p_seq_1))]),(.cells [(.p (vSl 2 A0 p_seq_2))])] (p_seq.map (fun (x:Int)=>[(pI .i64) x]))) {y:(Sl Int)} (h:J0 N p_seq=some y) :
 FunO S H0 [(.p P6),(.clo kp_seq [] [(.reg 0 0),(.reg 1 0),(.reg 2 0)])] [(.cells [(.p (vSl 18 A8 p_seq_0))]),(.cells [(.p (vSl 2 A0 p_seq_1))]),(.cells [(.p (vSl 2 A0 p_seq_2))])] (.vec 0) ([(.vec D4 1 y.n (fun i=>(cI .i64) (y.g i)) true)]) [false,false,false]:=by
 unfold J0 at h
 refine A6 hS J9 ?_
 refine AH2 hS trivial fp_seq [0,1,2] [2] 901 (fun z1=>⟨[(2,(.reg 3000 0))], [(3500,(.vec D4 1 z1.n (fun i=>(cI .i64) (z1.g i)) false)),(3000,(.cells [(.vec 3500)]))]⟩) (idl:=[(3000,3000)]) h hp_seq (fun _=>by kernel_rfl) (fun _=>by kernel_rfl) (fun _=>by kernel_rfl) (fun _=>by kernel_rfl) (fun x1 _ self1 z1 hb1 h=>?_) (fun z1 h=>?_)
 ·refine AL6 hS trivial ?_
  obtain ⟨c1,h⟩:=F3 h
  exact hb1 _ [(901,901),(3000,3000),(3500,12000)] _ (z1.push x1) (And.intro (rfl:true=true) c1) h (by kernel_rfl) (by kernel_rfl) (klR [(0, .fn (z1.n+1) (z1.push x1).n (T4 z1.n (fun i=>(cI .i64) (z1.g i)) (D9 [(pI .i64 0)] [(0,(cI .i64) x1)])) (fun i=>(cI .i64) ((z1.push x1).g i)))] (al1 ⟨rfl,(Aw9 (c:=(cI .i64)) (v:=z1) (x:=x1) (z:=[(pI .i64 0)]) same rfl rfl)⟩ al0))
 ·obtain rfl:=A3 h
  exact B4 hS trivial ⟨[(4,(.vec 3500))], [(3500,(.vec D4 1 z1.n (fun i=>(cI .i64) (z1.g i)) true))]⟩ [3500] (ids:=[(3500,3500)]) ⟨rfl,rfl,rfl⟩
def P1 (N:Nat) (p_seq:List (Int)):Option (Sl Int):=
 (J0 N p_seq).bind fun y1=>
 some y1
theorem Az0 {N:Nat} {p_seq:List (Int)} {p_seq_0:(Sl Law)} {p_seq_1:(Sl Sound)} {p_seq_2:(Sl Sound)} {kp_seq:Nat} (fp_seq:∃ fn,Tryz.prog.funcs[kp_seq]? = some fn/\fn.body.isSome=true/\(fn.name == "runtime.NumGoroutine")=false) (hp_seq:Ao2 S kp_seq [] [.reg 0 0, .reg 1 0, .reg 2 0] [(.cells [(.p (vSl 18 A8 p_seq_0))]),(.cells [(.p (vSl 2 A0 p_seq_1))]),(.cells [(.p (vSl 2 A0 p_seq_2))])] (p_seq.map (fun (x:Int)=>[(pI .i64) x]))) {y:(Sl Int)} (h:P1 N p_seq=some y) :
 FunO S P8 [(.clo kp_seq [] [(.reg 0 0),(.reg 1 0),(.reg 2 0)])] [(.cells [(.p (vSl 18 A8 p_seq_0))]),(.cells [(.p (vSl 2 A0 p_seq_1))]),(.cells [(.p (vSl 2 A0 p_seq_2))])] (.vec 0) ([(.vec D4 1 y.n (fun i=>(cI .i64) (y.g i)) true)]) [false,false,false]:=by
 unfold P1 at h
 refine A6 hS X7 ?_
 obtain ⟨y1,e1,h⟩:=A4 h
 refine A2 hS [0,1,2] trivial (Ai1 hS hL fp_seq hp_seq e1) ?_
 obtain rfl:=A3 h
 exact B4 hS trivial ⟨[(2,(.vec 5000))], [(5000,(.vec D4 1 y1.n (fun i=>(cI .i64) (y1.g i)) true))]⟩ [5000] (ids:=[(5000,5000)]) ⟨rfl,rfl,rfl⟩
def S5 (N:Nat) (p_laws:(Sl Law)) (p_proto:(Sl Sound)) (p_attested:(Sl Sound)):Option ((Sl Int) × Int):=
 (H8 N p_laws (Sl.of [p_proto,p_attested]:Sl (Sl Sound))).bind fun y1=>
 if (y1 != 0)=true then
  some ((Sl.nil:Sl Int),y1)
 else
  (Ag8 N p_laws p_proto p_attested).bind fun y2=>
  (R9 N y2.1 y2.2.1 y2.2.2).bind fun L1=>
  (P1 N L1).bind fun y3=>
  some (y3,0)
theorem AD7 {N:Nat} {p_laws:(Sl Law)} {p_proto:(Sl Sound)} {p_attested:(Sl Sound)}   {y:((Sl Int) × Int)} (h:S5 N p_laws p_proto p_attested=some y) :
 FunO S AC3 [(.p (vSl 18 A8 p_laws)),(.p (vSl 2 A0 p_proto)),(.p (vSl 2 A0 p_attested))] [] (.tup [(.vec 0),(pN y.2)]) ([(.vec D4 1 y.1.n (fun i=>(cI .i64) (y.1.g i)) true)]) []:=by
 unfold S5 at h
 refine A6 hS Be4 ?_
 refine Ac1 hS (rfl:true=true) ⟨[(12,(.vec 13000)),(9,(.p (vSl 18 A8 p_laws))),(2,(.p (vSl 2 A0 p_attested))),(1,(.p (vSl 2 A0 p_proto))),(0,(.p (vSl 18 A8 p_laws)))], [(13000,(.vec A9 1 (Sl.of [p_proto,p_attested]:Sl (Sl Sound)).n (fun i=>(cL 2 A0) ((Sl.of [p_proto,p_attested]:Sl (Sl Sound)).g i)) false))]⟩ (ids:=[(13000,13000)]) ?_ (hle:=(klR [(4, .fn 2 (Sl.of [p_proto,p_attested]:Sl (Sl Sound)).n (D9 [P6] [(0,(cL 2 A0) p_proto),(1,(cL 2 A0) p_attested)]) (fun i=>(cL 2 A0) ((Sl.of [p_proto,p_attested]:Sl (Sl Sound)).g i)))] (al1 ⟨rfl,(fun i hi=>match i,hi with | 0,_=>rfl | 1,_=>rfl | _+2,hi=>absurd hi (by omega))⟩ al0)))
 obtain ⟨y1,e1,h⟩:=A4 h
 refine A2 hS [] trivial (Ae0 hS hL e1) ?_
 refine A1 hS trivial (b:=y1 != 0) (fun c1=>?_) (fun c1=>?_)
 ·replace h:=itT c1 h
  obtain rfl:=A3 h
  exact B4 hS trivial ⟨[(7,(pN y1)),(6,(.vec 7700))], [(7700,(.vec D4 1 (Sl.nil:Sl Int).n (fun i=>(cI .i64) ((Sl.nil:Sl Int).g i)) true))]⟩ [7700] (ids:=[]) ⟨rfl,rfl,rfl⟩
 ·replace h:=itF c1 h
  obtain ⟨y2,e2,h⟩:=A4 h
  refine A2 hS [] trivial (Bg6 hS hL e2) ?_
  obtain ⟨L1,e3,h⟩:=A4 h
  obtain ⟨y3,e4,h⟩:=A4 h
  refine A2 hS [21000,21001,21002] trivial (Az0 hS hL ⟨_,Au7,by decide +kernel,by decide +kernel⟩ (AS3 hS hL e3) e4) ?_
  obtain rfl:=A3 h
  exact B4 hS trivial ⟨[(7,(pN 0)),(6,(.vec 22000))], [(22000,(.vec D4 1 y3.n (fun i=>(cI .i64) (y3.g i)) true))]⟩ [22000] (ids:=[(22000,22000)]) ⟨rfl,rfl,rfl⟩
end Go.AM
set_option linter.unusedVariables false
set_option linter.unusedSectionVars false
namespace Go.AM
open Go.Proofs
set_option maxRecDepth 10000
set_option maxHeartbeats 2000000
variable {S:Ag9} (hS:I2 S Tryz.prog) (hL:BV2 S)
include hS hL
def J6 (N:Nat) (p_laws:(Sl Law)) (p_l:(Sl T3)):Option Int:=
 (N3 N p_laws).bind fun y1=>
 if (y1 != 0)=true then
  some y1
 else
  if (decide (256 < (p_l.n:Int)))=true then
   some 12
  else
   Ae3 N (fun self1 (x1:Int)=>
    if (decide (x1 < (p_l.n:Int)))=true then
     if ((0:Int)<=x1/\x1 < (p_l.n:Int)) then
      (H8 N (Sl.nil:Sl Law) (Sl.of [(p_l.g x1.toNat).From,(p_l.g x1.toNat).To]:Sl (Sl Sound))).bind fun y4=>
      if (y4 != 0)=true then
       some y4
      else
       self1 (IntKind.wrap .i64 (x1+1))
     else none
    else
     some 0
    ) 0
theorem An7 {N:Nat} {p_laws:(Sl Law)} {p_l:(Sl T3)}   {y:Int} (h:J6 N p_laws p_l=some y) :
 FunO S An0 [(.p (vSl 18 A8 p_laws)),(.p (vSl 2 F4 p_l))] [] (pN y) ([]) []:=by
 unfold J6 at h
 refine A6 hS AH7 ?_
 obtain ⟨y1,e1,h⟩:=A4 h
 refine A2 hS [] trivial (Ao8 hS hL e1) ?_
 refine A1 hS trivial (b:=y1 != 0) (fun c1=>?_) (fun c1=>?_)
 ·replace h:=itT c1 h
  obtain rfl:=A3 h
  exact B1 hS trivial [] ⟨rfl,rfl,rfl⟩
 ·replace h:=itF c1 h
  refine A1 hS trivial (b:=decide (256 < (p_l.n:Int))) (fun c2=>?_) (fun c2=>?_)
  ·replace h:=itT c2 h
   obtain rfl:=A3 h
   exact B1 hS trivial [] ⟨rfl,rfl,rfl⟩
  ·replace h:=itF c2 h
   refine U1 hS trivial h (fun x1=>⟨[(19,(pN x1)),(18,(pN (p_l.n:Int))),(17,(.p (vSl 2 F4 p_l)))], []⟩) (ids:=[]) (fun _ _ _ _ _ self1 x1 hb1 h=>?_)
   refine A1 hS trivial (b:=decide (x1 < (p_l.n:Int))) (fun c9=>?_) (fun c9=>?_)
   ·replace h:=itT c9 h
    obtain ⟨c10,h⟩:=F3 h
    refine Ac1 hS (And.intro (And.intro c10 (by decide:(2:Nat)<=2)) (rfl:true=true)) ⟨[(27,(.vec 28000)),(19,(pN x1)),(18,(pN (p_l.n:Int))),(17,(.p (vSl 2 F4 p_l)))], [(28000,(.vec A9 1 (Sl.of [(p_l.g x1.toNat).From,(p_l.g x1.toNat).To]:Sl (Sl Sound)).n (fun i=>(cL 2 A0) ((Sl.of [(p_l.g x1.toNat).From,(p_l.g x1.toNat).To]:Sl (Sl Sound)).g i)) false))]⟩ (ids:=[(28000,28000)]) ?_ (hle:=(klR [(3, .fn 2 (Sl.of [(p_l.g x1.toNat).From,(p_l.g x1.toNat).To]:Sl (Sl Sound)).n (D9 [P6] [(0,(cL 2 A0) (p_l.g x1.toNat).From),(1,(cL 2 A0) (p_l.g x1.toNat).To)]) (fun i=>(cL 2 A0) ((Sl.of [(p_l.g x1.toNat).From,(p_l.g x1.toNat).To]:Sl (Sl Sound)).g i)))] (al1 ⟨rfl,(fun i hi=>match i,hi with | 0,_=>rfl | 1,_=>rfl | _+2,hi=>absurd hi (by omega))⟩ al0)))
    obtain ⟨y4,e4,h⟩:=A4 h
    refine A2 hS [] trivial (FunO.le hS (args:=[.p P6,(.p (vSl 1 (cL 2 A0) (Sl.of [(p_l.g x1.toNat).From,(p_l.g x1.toNat).To]:Sl (Sl Sound))))]) (by exact ⟨CD1,⟨.inl rfl,trivial⟩⟩) (Ae0 hS hL e4)) ?_
    refine A1 hS trivial (b:=y4 != 0) (fun c11=>?_) (fun c11=>?_)
    ·replace h:=itT c11 h
     obtain rfl:=A3 h
     exact B1 hS trivial [] ⟨rfl,rfl,rfl⟩
    ·replace h:=itF c11 h
     exact hb1 _ [] _ (IntKind.wrap .i64 (x1+1)) trivial h
   ·replace h:=itF c9 h
    obtain rfl:=A3 h
    exact B1 hS trivial [] ⟨rfl,rfl,rfl⟩
def Aa1 (N:Nat) (p_laws:(Sl Law)) (p_l:(Sl T3)):Option ((Sl Int) × Int):=
 (J6 N p_laws p_l).bind fun y1=>
 if (y1 != 0)=true then
  some ((Sl.nil:Sl Int),y1)
 else
  V9 N (fun self3 (x3:Sl Int) (x4:Int)=>
   if (decide (x4 < (p_l.n:Int)))=true then
    if ((0:Int)<=x4/\x4 < (p_l.n:Int)) then
     (G7 N p_laws (Sl.of [(p_l.g x4.toNat)]:Sl T3)).bind fun y4=>
     (D5 N y4.1 y4.2).bind fun L3=>
     K4 L3 (fun self4 (x7:Int) (z3:Int)=>
      self4 x7
      ) (fun (z3:Int)=>
       if ((x3.n+(Sl.of [z3]:Sl Int).n) * 8<=140737488355328/\x3.n+(Sl.of [z3]:Sl Int).n<=140737488355328) then
        self3 (x3.push z3) (IntKind.wrap .i64 (x4+1))
       else none
      ) (-1)
    else none
   else
    some (x3,0)
   ) (Sl.nil:Sl Int) 0
theorem Bg7 {N:Nat} {p_laws:(Sl Law)} {p_l:(Sl T3)}   {y:((Sl Int) × Int)} (h:Aa1 N p_laws p_l=some y) :
 FunO S AC4 [(.p (vSl 18 A8 p_laws)),(.p (vSl 2 F4 p_l))] [] (.tup [(.vec 0),(pN y.2)]) ([(.vec D4 1 y.1.n (fun i=>(cI .i64) (y.1.g i)) true)]) []:=by
 unfold Aa1 at h
 refine A6 hS Be5 ?_
 obtain ⟨y1,e1,h⟩:=A4 h
 refine A2 hS [] trivial (An7 hS hL e1) ?_
 refine A1 hS trivial (b:=y1 != 0) (fun c1=>?_) (fun c1=>?_)
 ·replace h:=itT c1 h
  obtain rfl:=A3 h
  exact B4 hS trivial ⟨[(5,(pN y1)),(4,(.vec 5700))], [(5700,(.vec D4 1 (Sl.nil:Sl Int).n (fun i=>(cI .i64) ((Sl.nil:Sl Int).g i)) true))]⟩ [5700] (ids:=[]) ⟨rfl,rfl,rfl⟩
 ·replace h:=itF c1 h
  refine H9 hS trivial h (fun x3 x4=>⟨[(20,(pN x4)),(19,(pN (p_l.n:Int))),(18,(.p (vSl 2 F4 p_l))),(7,(.vec 8500)),(0,(.p (vSl 18 A8 p_laws)))], [(8500,(.vec D4 1 x3.n (fun i=>(cI .i64) (x3.g i)) false))]⟩) (ids:=[]) (fun _ _ _ _ _ self3 x3 x4 hb3 h=>?_)
  refine A1 hS trivial (b:=decide (x4 < (p_l.n:Int))) (fun c6=>?_) (fun c6=>?_)
  ·replace h:=itT c6 h
   obtain ⟨c7,h⟩:=F3 h
   refine Ac1 hS (And.intro (And.intro c7 (by decide:(2:Nat)<=2)) (rfl:true=true)) ⟨[(26,(.vec 27000)),(24,(.p (vSl 18 A8 p_laws))),(20,(pN x4)),(19,(pN (p_l.n:Int))),(18,(.p (vSl 2 F4 p_l))),(10,(.reg 11000 0)),(7,(.vec 8500)),(0,(.p (vSl 18 A8 p_laws)))], [(27000,(.vec AA5 2 (Sl.of [(p_l.g x4.toNat)]:Sl T3).n (fun i=>F4 ((Sl.of [(p_l.g x4.toNat)]:Sl T3).g i)) false)),(11000,(.cells [(pN (-1))])),(8500,(.vec D4 1 x3.n (fun i=>(cI .i64) (x3.g i)) false))]⟩ (ids:=[(8500,8500),(11000,11000),(27000,27000)]) ?_ (hle:=(klR [(5, .fn 1 (Sl.of [(p_l.g x4.toNat)]:Sl T3).n (D9 [P6,P6] [(0,F4 (p_l.g x4.toNat))]) (fun i=>F4 ((Sl.of [(p_l.g x4.toNat)]:Sl T3).g i)))] (al1 ⟨rfl,(fun i hi=>match i,hi with | 0,_=>rfl | _+1,hi=>absurd hi (by omega))⟩ al0)))
   obtain ⟨y4,e6,h⟩:=A4 h
   refine A2 hS [] trivial (Ag7 hS hL e6) ?_
   obtain ⟨L3,e7,h⟩:=A4 h
   refine AL5 hS trivial [28000,28001] [20,19,18,10,7,0] 905 (fun z3=>⟨[(20,(pN x4)),(19,(pN (p_l.n:Int))),(18,(.p (vSl 2 F4 p_l))),(10,(.reg 11000 0)),(7,(.vec 8500)),(0,(.p (vSl 18 A8 p_laws)))], [(11000,(.cells [(pN z3)])),(8500,(.vec D4 1 x3.n (fun i=>(cI .i64) (x3.g i)) false))]⟩) (idl:=[(8500,8500),(11000,11000)]) h (Aa9 hS hL e7) (fun _=>by kernel_rfl) (fun _=>by kernel_rfl) (fun _=>by kernel_rfl) (fun _=>by kernel_rfl) (fun x7 _ self4 z3 hb4 h=>?_) (fun z3 h=>?_)
   ·refine AL6 hS trivial ?_
    exact hb4 _ [(905,905),(8500,8500),(11000,11000)] _ x7 trivial h
   ·obtain ⟨c8,h⟩:=F3 h
    exact hb3 _ [(8500,34000)] _ (x3.push z3) (IntKind.wrap .i64 (x4+1)) (And.intro (rfl:true=true) c8) h (by kernel_rfl) (by kernel_rfl) (klR [(4, .fn (x3.n+1) (x3.push z3).n (T4 x3.n (fun i=>(cI .i64) (x3.g i)) (D9 [(pI .i64 0)] [(0,(cI .i64) z3)])) (fun i=>(cI .i64) ((x3.push z3).g i)))] (al1 ⟨rfl,(Aw9 (c:=(cI .i64)) (v:=x3) (x:=z3) (z:=[(pI .i64 0)]) same rfl rfl)⟩ al0))
  ·replace h:=itF c6 h
   obtain rfl:=A3 h
   exact B4 hS trivial ⟨[(5,(pN 0)),(4,(.vec 8500))], [(8500,(.vec D4 1 x3.n (fun i=>(cI .i64) (x3.g i)) true))]⟩ [8500] (ids:=[(8500,8500)]) ⟨rfl,rfl,rfl⟩
def Ae1 (N:Nat) (p_laws:(Sl Law)) (p_l:(Sl T3)):Option (G3 × Bool × Int):=
 (J6 N p_laws p_l).bind fun y1=>
 if (y1 != 0)=true then
  some ((⟨0,0⟩:G3),false,y1)
 else
  (G7 N p_laws p_l).bind fun y2=>
  (D5 N y2.1 y2.2).bind fun L1=>
  (X1 N L1).bind fun y3=>
  some (y3.1,y3.2,0)
theorem Bs5 {N:Nat} {p_laws:(Sl Law)} {p_l:(Sl T3)}   {y:(G3 × Bool × Int)} (h:Ae1 N p_laws p_l=some y) :
 FunO S AH4 [(.p (vSl 18 A8 p_laws)),(.p (vSl 2 F4 p_l))] [] (.tup [(.p (.agg (Am9 y.1))),(pB y.2.1),(pN y.2.2)]) ([]) []:=by
 unfold Ae1 at h
 refine A6 hS Bq0 ?_
 obtain ⟨y1,e1,h⟩:=A4 h
 refine A2 hS [] trivial (An7 hS hL e1) ?_
 refine A1 hS trivial (b:=y1 != 0) (fun c1=>?_) (fun c1=>?_)
 ·replace h:=itT c1 h
  obtain rfl:=A3 h
  exact B1 hS trivial [] ⟨rfl,rfl,rfl⟩
 ·replace h:=itF c1 h
  obtain ⟨y2,e2,h⟩:=A4 h
  refine A2 hS [] trivial (Ag7 hS hL e2) ?_
  obtain ⟨L1,e3,h⟩:=A4 h
  obtain ⟨y3,e4,h⟩:=A4 h
  refine A2 hS [21000,21001] trivial (AJ4 hS hL ⟨_,Aa5,by decide +kernel,by decide +kernel⟩ (Aa9 hS hL e3) e4) ?_
  obtain rfl:=A3 h
  exact B1 hS trivial [] ⟨rfl,rfl,rfl⟩
def Az1 (N:Nat)  : Option Sound:=
 some (⟨5,2⟩:Sound)
theorem AM2 {N:Nat}    {y:Sound} (h:Az1 N  = some y) :
 FunO S Cm1 [] [] (.p (.agg (A0 y))) ([]) []:=by
 unfold Az1 at h
 refine A6 hS CK0 ?_
 obtain rfl:=A3 h
 exact B1 hS trivial [] ⟨rfl,rfl,rfl⟩
def AF1 (N:Nat)  : Option Sound:=
 some (⟨2,5⟩:Sound)
theorem Bb3 {N:Nat}    {y:Sound} (h:AF1 N  = some y) :
 FunO S Cm2 [] [] (.p (.agg (A0 y))) ([]) []:=by
 unfold AF1 at h
 refine A6 hS CK1 ?_
 obtain rfl:=A3 h
 exact B1 hS trivial [] ⟨rfl,rfl,rfl⟩
def BP4 (N:Nat)  : Option Sound:=
 some (⟨3,4⟩:Sound)
theorem CK5 {N:Nat}    {y:Sound} (h:BP4 N  = some y) :
 FunO S Cm4 [] [] (.p (.agg (A0 y))) ([]) []:=by
 unfold BP4 at h
 refine A6 hS CK2 ?_
 obtain rfl:=A3 h
 exact B1 hS trivial [] ⟨rfl,rfl,rfl⟩
def Ar1 (N:Nat)  : Option (Sl Law):=
 some (Sl.of [(⟨[86],(Pat.mk 1 (⟨4,0⟩:Sound) false 0 0 (Sl.nil:Sl Pat).n (Sl.nil:Sl Pat).g),(Pat.mk 1 (⟨4,0⟩:Sound) false 0 0 (Sl.nil:Sl Pat).n (Sl.nil:Sl Pat).g),(Sl.of [(⟨2,0⟩:Sound)]:Sl Sound),(Sl.of [(⟨0,0,(⟨1,0⟩:Sound),0,0⟩:Ae4)]:Sl Ae4),1⟩:Law),(⟨[70],(Pat.mk 0 (⟨0,0⟩:Sound) false 0 0 (Sl.nil:Sl Pat).n (Sl.nil:Sl Pat).g),(Pat.mk 6 (⟨0,0⟩:Sound) false 0 0 (Sl.nil:Sl Pat).n (Sl.nil:Sl Pat).g),(Sl.of [(⟨4,0⟩:Sound)]:Sl Sound),(Sl.nil:Sl Ae4),1⟩:Law)]:Sl Law)
theorem AJ5 {N:Nat}    {y:(Sl Law)} (h:Ar1 N  = some y) :
 FunO S BA0 [] [] (.vec 0) ([(.vec O6 18 y.n (fun i=>A8 (y.g i)) true)]) []:=by
 unfold Ar1 at h
 refine A6 hS Cm3 ?_
 refine J7 hS trivial 6 ⟨[(1,(.reg 2000 0))], [(2000,(.cells [(pN 1),(pU 4),(pU 0),(pB false),(pN 0),(pN 0),(.p (vSl 7 B6 (Sl.nil:Sl Pat)))]))]⟩ (ids:=[(2000,2000)]) ?_
 refine J7 hS (And.intro (rfl:true=true) (rfl:true=true)) 13 ⟨[(12,(.p (vSl 6 Q6 (Sl.of [(⟨0,0,(⟨1,0⟩:Sound),0,0⟩:Ae4)]:Sl Ae4)))),(9,(.p (vSl 2 A0 (Sl.of [(⟨2,0⟩:Sound)]:Sl Sound)))),(7,(.p (.agg [(pI .i64 1),(pI .u32 4),(pI .u32 0),(.bb false),(pI .i64 0),(pI .i64 0),(vSl 7 B6 (Sl.nil:Sl Pat))]))),(6,(.p (.agg [(pI .i64 1),(pI .u32 4),(pI .u32 0),(.bb false),(pI .i64 0),(pI .i64 0),(vSl 7 B6 (Sl.nil:Sl Pat))])))], []⟩ (ids:=[]) ?_ (hle:=(klR [(0, .fn 1 (Sl.of [(⟨0,0,(⟨1,0⟩:Sound),0,0⟩:Ae4)]:Sl Ae4).n (D9 [(pI .i64 0),(pI .u32 0),(pI .u32 0),(pI .u32 0),(pI .u32 0),(pI .i64 0)] [(0,Q6 (⟨0,0,(⟨1,0⟩:Sound),0,0⟩:Ae4))]) (fun i=>Q6 ((Sl.of [(⟨0,0,(⟨1,0⟩:Sound),0,0⟩:Ae4)]:Sl Ae4).g i))),(1, .fn 1 (Sl.of [(⟨2,0⟩:Sound)]:Sl Sound).n (D9 [(pI .u32 0),(pI .u32 0)] [(0,A0 (⟨2,0⟩:Sound))]) (fun i=>A0 ((Sl.of [(⟨2,0⟩:Sound)]:Sl Sound).g i)))] (al1 ⟨rfl,(fun i hi=>match i,hi with | 0,_=>rfl | _+1,hi=>absurd hi (by omega))⟩ (al1 ⟨rfl,(fun i hi=>match i,hi with | 0,_=>rfl | _+1,hi=>absurd hi (by omega))⟩ al0))))
 refine J7 hS (rfl:true=true) 17 ⟨[(16,(.p (vSl 2 A0 (Sl.of [(⟨4,0⟩:Sound)]:Sl Sound)))),(14,(.p (.agg [(pI .i64 6),(pI .u32 0),(pI .u32 0),(.v (.bool false)),(pI .i64 0),(pI .i64 0),P6]))),(2,(.reg 3000 0))], [(3000,(.cells [(.p (.str [86])),(pN 1),(pU 4),(pU 0),(pB false),(pN 0),(pN 0),(.p (vSl 7 B6 (Sl.nil:Sl Pat))),(pN 1),(pU 4),(pU 0),(pB false),(pN 0),(pN 0),(.p (vSl 7 B6 (Sl.nil:Sl Pat))),(.p (vSl 2 A0 (Sl.of [(⟨2,0⟩:Sound)]:Sl Sound))),(.p (vSl 6 Q6 (Sl.of [(⟨0,0,(⟨1,0⟩:Sound),0,0⟩:Ae4)]:Sl Ae4))),(pN 1)]))]⟩ (ids:=[(3000,3000)]) ?_ (hle:=(klR [(0, .fn 1 (Sl.of [(⟨4,0⟩:Sound)]:Sl Sound).n (D9 [(pI .u32 0),(pI .u32 0)] [(0,A0 (⟨4,0⟩:Sound))]) (fun i=>A0 ((Sl.of [(⟨4,0⟩:Sound)]:Sl Sound).g i)))] (al1 ⟨rfl,(fun i hi=>match i,hi with | 0,_=>rfl | _+1,hi=>absurd hi (by omega))⟩ al0)))
 refine J7 hS trivial 19 ⟨[(18,(.p (.agg [(.str [86]),(pI .i64 1),(pI .u32 4),(pI .u32 0),(.bb false),(pI .i64 0),(pI .i64 0),(vSl 7 B6 (Sl.nil:Sl Pat)),(pI .i64 1),(pI .u32 4),(pI .u32 0),(.bb false),(pI .i64 0),(pI .i64 0),(vSl 7 B6 (Sl.nil:Sl Pat)),(vSl 2 A0 (Sl.of [(⟨2,0⟩:Sound)]:Sl Sound)),(vSl 6 Q6 (Sl.of [(⟨0,0,(⟨1,0⟩:Sound),0,0⟩:Ae4)]:Sl Ae4)),(pI .i64 1)]))),(3,(.reg 4000 0))], [(4000,(.cells [(.p (.str [70])),(pN 0),(pU 0),(pU 0),(pB false),(pN 0),(pN 0),(.p (vSl 7 B6 (Sl.nil:Sl Pat))),(pN 6),(pU 0),(pU 0),(pB false),(pN 0),(pN 0),(.p (vSl 7 B6 (Sl.nil:Sl Pat))),(.p (vSl 2 A0 (Sl.of [(⟨4,0⟩:Sound)]:Sl Sound))),(.p (vSl 6 Q6 (Sl.nil:Sl Ae4))),(pN 1)]))]⟩ (ids:=[(4000,4000)]) ?_
 obtain rfl:=A3 h
 exact B4 hS (rfl:true=true) ⟨[(0,(.vec 21000))], [(21000,(.vec O6 18 (Sl.of [(⟨[86],(Pat.mk 1 (⟨4,0⟩:Sound) false 0 0 (Sl.nil:Sl Pat).n (Sl.nil:Sl Pat).g),(Pat.mk 1 (⟨4,0⟩:Sound) false 0 0 (Sl.nil:Sl Pat).n (Sl.nil:Sl Pat).g),(Sl.of [(⟨2,0⟩:Sound)]:Sl Sound),(Sl.of [(⟨0,0,(⟨1,0⟩:Sound),0,0⟩:Ae4)]:Sl Ae4),1⟩:Law),(⟨[70],(Pat.mk 0 (⟨0,0⟩:Sound) false 0 0 (Sl.nil:Sl Pat).n (Sl.nil:Sl Pat).g),(Pat.mk 6 (⟨0,0⟩:Sound) false 0 0 (Sl.nil:Sl Pat).n (Sl.nil:Sl Pat).g),(Sl.of [(⟨4,0⟩:Sound)]:Sl Sound),(Sl.nil:Sl Ae4),1⟩:Law)]:Sl Law).n (fun i=>A8 ((Sl.of [(⟨[86],(Pat.mk 1 (⟨4,0⟩:Sound) false 0 0 (Sl.nil:Sl Pat).n (Sl.nil:Sl Pat).g),(Pat.mk 1 (⟨4,0⟩:Sound) false 0 0 (Sl.nil:Sl Pat).n (Sl.nil:Sl Pat).g),(Sl.of [(⟨2,0⟩:Sound)]:Sl Sound),(Sl.of [(⟨0,0,(⟨1,0⟩:Sound),0,0⟩:Ae4)]:Sl Ae4),1⟩:Law),(⟨[70],(Pat.mk 0 (⟨0,0⟩:Sound) false 0 0 (Sl.nil:Sl Pat).n (Sl.nil:Sl Pat).g),(Pat.mk 6 (⟨0,0⟩:Sound) false 0 0 (Sl.nil:Sl Pat).n (Sl.nil:Sl Pat).g),(Sl.of [(⟨4,0⟩:Sound)]:Sl Sound),(Sl.nil:Sl Ae4),1⟩:Law)]:Sl Law).g i)) true))]⟩ [21000] (ids:=[(21000,21000)]) ⟨rfl,rfl,rfl⟩ (hle:=(klR [(0, .fn 2 (Sl.of [(⟨[86],(Pat.mk 1 (⟨4,0⟩:Sound) false 0 0 (Sl.nil:Sl Pat).n (Sl.nil:Sl Pat).g),(Pat.mk 1 (⟨4,0⟩:Sound) false 0 0 (Sl.nil:Sl Pat).n (Sl.nil:Sl Pat).g),(Sl.of [(⟨2,0⟩:Sound)]:Sl Sound),(Sl.of [(⟨0,0,(⟨1,0⟩:Sound),0,0⟩:Ae4)]:Sl Ae4),1⟩:Law),(⟨[70],(Pat.mk 0 (⟨0,0⟩:Sound) false 0 0 (Sl.nil:Sl Pat).n (Sl.nil:Sl Pat).g),(Pat.mk 6 (⟨0,0⟩:Sound) false 0 0 (Sl.nil:Sl Pat).n (Sl.nil:Sl Pat).g),(Sl.of [(⟨4,0⟩:Sound)]:Sl Sound),(Sl.nil:Sl Ae4),1⟩:Law)]:Sl Law).n (D9 [(.str []),(pI .i64 0),(pI .u32 0),(pI .u32 0),(.v (.bool false)),(pI .i64 0),(pI .i64 0),P6,(pI .i64 0),(pI .u32 0),(pI .u32 0),(.v (.bool false)),(pI .i64 0),(pI .i64 0),P6,P6,P6,(pI .i64 0)] [(0,A8 (⟨[86],(Pat.mk 1 (⟨4,0⟩:Sound) false 0 0 (Sl.nil:Sl Pat).n (Sl.nil:Sl Pat).g),(Pat.mk 1 (⟨4,0⟩:Sound) false 0 0 (Sl.nil:Sl Pat).n (Sl.nil:Sl Pat).g),(Sl.of [(⟨2,0⟩:Sound)]:Sl Sound),(Sl.of [(⟨0,0,(⟨1,0⟩:Sound),0,0⟩:Ae4)]:Sl Ae4),1⟩:Law)),(1,A8 (⟨[70],(Pat.mk 0 (⟨0,0⟩:Sound) false 0 0 (Sl.nil:Sl Pat).n (Sl.nil:Sl Pat).g),(Pat.mk 6 (⟨0,0⟩:Sound) false 0 0 (Sl.nil:Sl Pat).n (Sl.nil:Sl Pat).g),(Sl.of [(⟨4,0⟩:Sound)]:Sl Sound),(Sl.nil:Sl Ae4),1⟩:Law))]) (fun i=>A8 ((Sl.of [(⟨[86],(Pat.mk 1 (⟨4,0⟩:Sound) false 0 0 (Sl.nil:Sl Pat).n (Sl.nil:Sl Pat).g),(Pat.mk 1 (⟨4,0⟩:Sound) false 0 0 (Sl.nil:Sl Pat).n (Sl.nil:Sl Pat).g),(Sl.of [(⟨2,0⟩:Sound)]:Sl Sound),(Sl.of [(⟨0,0,(⟨1,0⟩:Sound),0,0⟩:Ae4)]:Sl Ae4),1⟩:Law),(⟨[70],(Pat.mk 0 (⟨0,0⟩:Sound) false 0 0 (Sl.nil:Sl Pat).n (Sl.nil:Sl Pat).g),(Pat.mk 6 (⟨0,0⟩:Sound) false 0 0 (Sl.nil:Sl Pat).n (Sl.nil:Sl Pat).g),(Sl.of [(⟨4,0⟩:Sound)]:Sl Sound),(Sl.nil:Sl Ae4),1⟩:Law)]:Sl Law).g i)))] (al1 ⟨rfl,(fun i hi=>match i,hi with | 0,_=>rfl | 1,_=>rfl | _+2,hi=>absurd hi (by omega))⟩ al0)))
def S6 (N:Nat) (p_l:(Sl Int)) (p_m:(Sl Int)):Option Bool:=
 if ((p_l.n:Int) != (p_m.n:Int))=true then
  some false
 else
  Ae3 N (fun self1 (x1:Int)=>
   if (decide (x1 < (p_l.n:Int)))=true then
    if (((0:Int)<=x1/\x1 < (p_l.n:Int))/\((0:Int)<=x1/\x1 < (p_m.n:Int))) then
     if ((p_l.g x1.toNat) != (p_m.g x1.toNat))=true then
      some false
     else
      self1 (IntKind.wrap .i64 (x1+1))
    else none
   else
    some true
   ) 0
theorem Ar2 {N:Nat} {p_l:(Sl Int)} {p_m:(Sl Int)}   {y:Bool} (h:S6 N p_l p_m=some y) :
 FunO S Bj9 [(.p (vSl 1 (cI .i64) p_l)),(.p (vSl 1 (cI .i64) p_m))] [] (pB y) ([]) []:=by
 unfold S6 at h
 refine A6 hS Cb0 ?_
 refine A1 hS trivial (b:=(p_l.n:Int) != (p_m.n:Int)) (fun c1=>?_) (fun c1=>?_)
 ·replace h:=itT c1 h
  obtain rfl:=A3 h
  exact B1 hS trivial [] ⟨rfl,rfl,rfl⟩
 ·replace h:=itF c1 h
  refine U1 hS trivial h (fun x1=>⟨[(5,(pN x1)),(1,(.p (vSl 1 (cI .i64) p_m))),(0,(.p (vSl 1 (cI .i64) p_l)))], []⟩) (ids:=[]) (fun _ _ _ _ _ self1 x1 hb1 h=>?_)
  refine A1 hS trivial (b:=decide (x1 < (p_l.n:Int))) (fun c8=>?_) (fun c8=>?_)
  ·replace h:=itT c8 h
   refine F0 hS trivial [2,3,6,7] ?_
   obtain ⟨c9,h⟩:=F3 h
   refine M0 c9 ?_
   refine A1 hS trivial (b:=(p_l.g x1.toNat) != (p_m.g x1.toNat)) (fun c10=>?_) (fun c10=>?_)
   ·replace h:=itT c10 h
    obtain rfl:=A3 h
    exact B1 hS trivial [] ⟨rfl,rfl,rfl⟩
   ·replace h:=itF c10 h
    exact hb1 _ [] _ (IntKind.wrap .i64 (x1+1)) trivial h
  ·replace h:=itF c8 h
   obtain rfl:=A3 h
   exact B1 hS trivial [] ⟨rfl,rfl,rfl⟩
def Ak3 (N:Nat) (p_x:G3) (p_y:O5):Option Bool:=
 some ((p_x.First == p_y.First) && (p_x.Last == p_y.Last))
theorem Bm0 {N:Nat} {p_x:G3} {p_y:O5}   {y:Bool} (h:Ak3 N p_x p_y=some y) :
 FunO S Bk0 [(.p (.agg (Am9 p_x))),(.p (.agg (AA3 p_y)))] [] (pB y) ([]) []:=by
 unfold Ak3 at h
 refine A6 hS Cb1 ?_
 obtain ⟨t1,ht1⟩:∃ x:Bool,x=((p_x.First == p_y.First) && (p_x.Last == p_y.Last)):=⟨_,rfl⟩
 refine S9 hS trivial (B0 hS) 0 ⟨[(4,(pB t1))], []⟩ (fun M1 hb1=>?_) ?_
 ·refine A7 hS trivial (b:=p_x.First == p_y.First) (fun c2=>?_) (fun c2=>?_)
  ·exact hb1 _ [] _ trivial (by kernel_rfl) (by kernel_rfl) (klR [(0, .eq (.bb (p_x.Last == p_y.Last)) (.bb t1))] (al1 (by simp only [ht1,c2,Leaf.ok,pm,if_true,if_false]) al0))
  ·exact hb1 _ [] _ trivial (by kernel_rfl) (by kernel_rfl) (klR [(0, .eq (.bb false) (.bb t1))] (al1 (by simp only [ht1,c2,Leaf.ok,pm,if_true,if_false]) al0))
 ·subst ht1
  obtain rfl:=A3 h
  exact B1 hS trivial [] ⟨rfl,rfl,rfl⟩
def K3 (N:Nat)  : Option Bool:=
 (Az1 N ).bind fun y1=>
 (AF1 N ).bind fun y2=>
 (Az1 N ).bind fun y3=>
 (AF1 N ).bind fun y4=>
 (Az1 N ).bind fun y5=>
 (AF1 N ).bind fun y6=>
 (Ar1 N ).bind fun y7=>
 (Az1 N ).bind fun y8=>
 (AF1 N ).bind fun y9=>
 (S3 N y7 (Sl.of [y1,y2,y3]:Sl Sound) (Sl.of [y8,y9]:Sl Sound)).bind fun y10=>
 (Ar1 N ).bind fun y11=>
 (Ac4 N y11 (Sl.of [y4,y5,y6]:Sl Sound) (Sl.of [y4,y5,y6]:Sl Sound)).bind fun y12=>
 (Ar1 N ).bind fun y13=>
 (Az1 N ).bind fun y14=>
 (AF1 N ).bind fun y15=>
 (S5 N y13 (Sl.of [y1,y2,y3]:Sl Sound) (Sl.of [y14,y15]:Sl Sound)).bind fun y16=>
 (Ar1 N ).bind fun y17=>
 (Az1 N ).bind fun y18=>
 (BP4 N ).bind fun y19=>
 (S4 N y17 (Sl.of [y1,y2,y3]:Sl Sound) (Sl.of [y18,y19]:Sl Sound)).bind fun y20=>
 lt (fun (z1:Bool)=>
  some z1
  ) fun k1=>
  if (y10.2 == 0)=true then
   (S6 N y10.1 (Sl.of [1]:Sl Int)).bind fun y23=>
   if y23=true then
    if (y12.2.2 == 0)=true then
     if y12.2.1=true then
      if (((y12.1.First == 0) && (y12.1.Last == 2)) != false)=true then
       if (y16.2 == 0)=true then
        (S6 N y16.1 (Sl.of [0]:Sl Int)).bind fun y24=>
        if y24=true then
         if (y20.2 == 0)=true then
          k1 y20.1
         else
          k1 false
        else
         k1 false
       else
        k1 false
      else
       k1 false
     else
      k1 false
    else
     k1 false
   else
    k1 false
  else
   k1 false
theorem Ag0 {N:Nat}    {y:Bool} (h:K3 N  = some y) :
 FunO S AW6 [] [] (pB y) ([]) []:=by
 unfold K3 at h
 refine A6 hS BK3 ?_
 obtain ⟨y1,e1,h⟩:=A4 h
 refine A2 hS [] trivial (AM2 hS hL e1) ?_
 obtain ⟨y2,e2,h⟩:=A4 h
 refine A2 hS [] trivial (Bb3 hS hL e2) ?_
 obtain ⟨y3,e3,h⟩:=A4 h
 refine A2 hS [] trivial (AM2 hS hL e3) ?_
 obtain ⟨y4,e4,h⟩:=A4 h
 refine A2 hS [] (rfl:true=true) (Bb3 hS hL e4) ?_
 obtain ⟨y5,e5,h⟩:=A4 h
 refine A2 hS [] trivial (AM2 hS hL e5) ?_
 obtain ⟨y6,e6,h⟩:=A4 h
 refine A2 hS [] trivial (Bb3 hS hL e6) ?_
 obtain ⟨y7,e7,h⟩:=A4 h
 refine A2 hS [] (rfl:true=true) (AJ5 hS hL e7) ?_
 obtain ⟨y8,e8,h⟩:=A4 h
 refine A2 hS [] trivial (AM2 hS hL e8) ?_
 obtain ⟨y9,e9,h⟩:=A4 h
 refine A2 hS [] trivial (Bb3 hS hL e9) ?_
 refine Ac1 hS (rfl:true=true) ⟨[(25,(.vec 26000)),(22,(.vec 16000)),(21,(.vec 22000)),(2,(.vec 20000)),(1,(.vec 16000))], [(26000,(.vec B2 2 (Sl.of [y8,y9]:Sl Sound).n (fun i=>A0 ((Sl.of [y8,y9]:Sl Sound).g i)) false)),(22000,(.vec O6 18 y7.n (fun i=>A8 (y7.g i)) true)),(20000,(.vec B2 2 (Sl.of [y4,y5,y6]:Sl Sound).n (fun i=>A0 ((Sl.of [y4,y5,y6]:Sl Sound).g i)) false)),(16000,(.vec B2 2 (Sl.of [y1,y2,y3]:Sl Sound).n (fun i=>A0 ((Sl.of [y1,y2,y3]:Sl Sound).g i)) false))]⟩ (ids:=[(16000,16000),(20000,20000),(22000,22000),(26000,26000)]) ?_ (hle:=(klR [(0, .fn 2 (Sl.of [y8,y9]:Sl Sound).n (D9 [(pI .u32 0),(pI .u32 0)] [(0,A0 y8),(1,A0 y9)]) (fun i=>A0 ((Sl.of [y8,y9]:Sl Sound).g i))),(2, .fn 3 (Sl.of [y4,y5,y6]:Sl Sound).n (D9 [(pI .u32 0),(pI .u32 0)] [(0,A0 y4),(1,A0 y5),(2,A0 y6)]) (fun i=>A0 ((Sl.of [y4,y5,y6]:Sl Sound).g i))),(3, .fn 3 (Sl.of [y1,y2,y3]:Sl Sound).n (D9 [(pI .u32 0),(pI .u32 0)] [(0,A0 y1),(1,A0 y2),(2,A0 y3)]) (fun i=>A0 ((Sl.of [y1,y2,y3]:Sl Sound).g i)))] (al1 ⟨rfl,(fun i hi=>match i,hi with | 0,_=>rfl | 1,_=>rfl | _+2,hi=>absurd hi (by omega))⟩ (al1 ⟨rfl,(fun i hi=>match i,hi with | 0,_=>rfl | 1,_=>rfl | 2,_=>rfl | _+3,hi=>absurd hi (by omega))⟩ (al1 ⟨rfl,(fun i hi=>match i,hi with | 0,_=>rfl | 1,_=>rfl | 2,_=>rfl | _+3,hi=>absurd hi (by omega))⟩ al0)))))
 obtain ⟨y10,e10,h⟩:=A4 h
 refine A2 hS [] trivial (AD5 hS hL e10) ?_
 obtain ⟨y11,e11,h⟩:=A4 h
 refine A2 hS [] trivial (AJ5 hS hL e11) ?_
 obtain ⟨y12,e12,h⟩:=A4 h
 refine A2 hS [] trivial (AQ7 hS hL e12) ?_
 obtain ⟨y13,e13,h⟩:=A4 h
 refine A2 hS [] trivial (AJ5 hS hL e13) ?_
 obtain ⟨y14,e14,h⟩:=A4 h
 refine A2 hS [] trivial (AM2 hS hL e14) ?_
 obtain ⟨y15,e15,h⟩:=A4 h
 refine A2 hS [] trivial (Bb3 hS hL e15) ?_
 refine Ac1 hS (rfl:true=true) ⟨[(42,(.vec 43000)),(39,(.vec 16000)),(38,(.vec 39000)),(7,(pN y12.2.2)),(6,(pB y12.2.1)),(5,(.reg 6000 0)),(4,(pN y10.2)),(3,(.vec 27000)),(1,(.vec 16000))], [(43000,(.vec B2 2 (Sl.of [y14,y15]:Sl Sound).n (fun i=>A0 ((Sl.of [y14,y15]:Sl Sound).g i)) false)),(39000,(.vec O6 18 y13.n (fun i=>A8 (y13.g i)) true)),(27000,(.vec D4 1 y10.1.n (fun i=>(cI .i64) (y10.1.g i)) true)),(16000,(.vec B2 2 (Sl.of [y1,y2,y3]:Sl Sound).n (fun i=>A0 ((Sl.of [y1,y2,y3]:Sl Sound).g i)) true)),(6000,(.cells [(pN y12.1.First),(pN y12.1.Last)]))]⟩ (ids:=[(6000,6000),(16000,16000),(27000,27000),(39000,39000),(43000,43000)]) ?_ (hle:=(klR [(3, .fn 2 (Sl.of [y14,y15]:Sl Sound).n (D9 [(pI .u32 0),(pI .u32 0)] [(0,A0 y14),(1,A0 y15)]) (fun i=>A0 ((Sl.of [y14,y15]:Sl Sound).g i)))] (al1 ⟨rfl,(fun i hi=>match i,hi with | 0,_=>rfl | 1,_=>rfl | _+2,hi=>absurd hi (by omega))⟩ al0)))
 obtain ⟨y16,e16,h⟩:=A4 h
 refine A2 hS [] trivial (AD7 hS hL e16) ?_
 obtain ⟨y17,e17,h⟩:=A4 h
 refine A2 hS [] trivial (AJ5 hS hL e17) ?_
 obtain ⟨y18,e18,h⟩:=A4 h
 refine A2 hS [] trivial (AM2 hS hL e18) ?_
 obtain ⟨y19,e19,h⟩:=A4 h
 refine A2 hS [] trivial (CK5 hS hL e19) ?_
 refine Ac1 hS (rfl:true=true) ⟨[(51,(.vec 52000)),(48,(.vec 16000)),(47,(.vec 48000)),(9,(pN y16.2)),(8,(.vec 44000)),(7,(pN y12.2.2)),(6,(pB y12.2.1)),(5,(.reg 6000 0)),(4,(pN y10.2)),(3,(.vec 27000))], [(52000,(.vec B2 2 (Sl.of [y18,y19]:Sl Sound).n (fun i=>A0 ((Sl.of [y18,y19]:Sl Sound).g i)) false)),(48000,(.vec O6 18 y17.n (fun i=>A8 (y17.g i)) true)),(44000,(.vec D4 1 y16.1.n (fun i=>(cI .i64) (y16.1.g i)) true)),(27000,(.vec D4 1 y10.1.n (fun i=>(cI .i64) (y10.1.g i)) true)),(16000,(.vec B2 2 (Sl.of [y1,y2,y3]:Sl Sound).n (fun i=>A0 ((Sl.of [y1,y2,y3]:Sl Sound).g i)) true)),(6000,(.cells [(pN y12.1.First),(pN y12.1.Last)]))]⟩ (ids:=[(6000,6000),(16000,16000),(27000,27000),(44000,44000),(48000,48000),(52000,52000)]) ?_ (hle:=(klR [(4, .fn 2 (Sl.of [y18,y19]:Sl Sound).n (D9 [(pI .u32 0),(pI .u32 0)] [(0,A0 y18),(1,A0 y19)]) (fun i=>A0 ((Sl.of [y18,y19]:Sl Sound).g i)))] (al1 ⟨rfl,(fun i hi=>match i,hi with | 0,_=>rfl | 1,_=>rfl | _+2,hi=>absurd hi (by omega))⟩ al0)))
 obtain ⟨y20,e20,h⟩:=A4 h
 refine A2 hS [] trivial (AD6 hS hL e20) ?_
 refine AH1 hS trivial (B0 hS) h 0 (fun z1=>⟨[(0,(pB z1))], []⟩) (fun M1 k1 hb1 h=>?_) (fun z1 h=>?_)
 ·refine A7 hS trivial (b:=y10.2 == 0) (fun c10=>?_) (fun c10=>?_)
  ·replace h:=itT c10 h
   refine Ac1 hS (rfl:true=true) ⟨[(59,(.vec 60000)),(58,(.vec 27000)),(57,(.p (.v (.bool true)))),(11,(pN y20.2)),(10,(pB y20.1)),(9,(pN y16.2)),(8,(.vec 44000)),(7,(pN y12.2.2)),(6,(pB y12.2.1)),(5,(.reg 6000 0))], [(60000,(.vec D4 1 (Sl.of [1]:Sl Int).n (fun i=>(cI .i64) ((Sl.of [1]:Sl Int).g i)) false)),(44000,(.vec D4 1 y16.1.n (fun i=>(cI .i64) (y16.1.g i)) true)),(27000,(.vec D4 1 y10.1.n (fun i=>(cI .i64) (y10.1.g i)) true)),(6000,(.cells [(pN y12.1.First),(pN y12.1.Last)]))]⟩ (ids:=[(6000,6000),(27000,27000),(44000,44000),(60000,60000)]) ?_ (hle:=(klR [(6, .fn 1 (Sl.of [1]:Sl Int).n (D9 [(pI .i64 0)] [(0,(cI .i64) 1)]) (fun i=>(cI .i64) ((Sl.of [1]:Sl Int).g i)))] (al1 ⟨rfl,(fun i hi=>match i,hi with | 0,_=>rfl | _+1,hi=>absurd hi (by omega))⟩ al0)))
   obtain ⟨y23,e23,h⟩:=A4 h
   refine A2 hS [] trivial (Ar2 hS hL e23) ?_
   refine A7 hS trivial (b:=y23) (fun c11=>?_) (fun c11=>?_)
   ·replace h:=itT c11 h
    refine A7 hS trivial (b:=y12.2.2 == 0) (fun c12=>?_) (fun c12=>?_)
    ·replace h:=itT c12 h
     refine A7 hS trivial (b:=y12.2.1) (fun c13=>?_) (fun c13=>?_)
     ·replace h:=itT c13 h
      refine A7 hS (by decide +kernel:Cs5 Tryz.prog BC3=true) (b:=(((y12.1.First == 0) && (y12.1.Last == 2)) != false)) (fun c14=>?_) (fun c14=>?_)
      ·replace h:=itT c14 h
       refine A7 hS trivial (b:=y16.2 == 0) (fun c15=>?_) (fun c15=>?_)
       ·replace h:=itT c15 h
        refine Ac1 hS (rfl:true=true) ⟨[(80,(.vec 81000)),(79,(.vec 44000)),(78,(.p (.v (.bool true)))),(11,(pN y20.2)),(10,(pB y20.1))], [(81000,(.vec D4 1 (Sl.of [0]:Sl Int).n (fun i=>(cI .i64) ((Sl.of [0]:Sl Int).g i)) false)),(44000,(.vec D4 1 y16.1.n (fun i=>(cI .i64) (y16.1.g i)) true))]⟩ (ids:=[(44000,44000),(81000,81000)]) ?_ (hle:=(klR [(3, .fn 1 (Sl.of [0]:Sl Int).n (D9 [(pI .i64 0)] [(0,(cI .i64) 0)]) (fun i=>(cI .i64) ((Sl.of [0]:Sl Int).g i)))] (al1 ⟨rfl,(fun i hi=>match i,hi with | 0,_=>rfl | _+1,hi=>absurd hi (by omega))⟩ al0)))
        obtain ⟨y24,e24,h⟩:=A4 h
        refine A2 hS [] trivial (Ar2 hS hL e24) ?_
        refine A7 hS trivial (b:=y24) (fun c16=>?_) (fun c16=>?_)
        ·replace h:=itT c16 h
         refine A7 hS trivial (b:=y20.2 == 0) (fun c17=>?_) (fun c17=>?_)
         ·replace h:=itT c17 h
          exact hb1 _ [] _ y20.1 trivial h
         ·replace h:=itF c17 h
          exact hb1 _ [] _ false trivial h
        ·replace h:=itF c16 h
         exact hb1 _ [] _ false trivial h
       ·replace h:=itF c15 h
        exact hb1 _ [] _ false trivial h
      ·replace h:=itF c14 h
       exact hb1 _ [] _ false trivial h
     ·replace h:=itF c13 h
      exact hb1 _ [] _ false trivial h
    ·replace h:=itF c12 h
     exact hb1 _ [] _ false trivial h
   ·replace h:=itF c11 h
    exact hb1 _ [] _ false trivial h
  ·replace h:=itF c10 h
   exact hb1 _ [] _ false trivial h
 ·obtain rfl:=A3 h
  exact B1 hS trivial [] ⟨rfl,rfl,rfl⟩
end Go.AM
set_option linter.unusedVariables false
set_option linter.unusedSectionVars false
namespace Go.AM
open Go.Proofs
set_option maxRecDepth 10000
set_option maxHeartbeats 2000000
variable {S:Ag9} (hS:I2 S Tryz.prog) (hL:BV2 S)
include hS hL
def P4 (N:Nat) (p_laws:(Sl Law)) (p_a:(Sl Sound)) (p_b:(Sl Sound)):Option Int:=
 (U9 N p_laws).bind fun y1=>
 if (y1 != 0)=true then
  some y1
 else
  (U4 N p_a).bind fun y2=>
  if (y2 != 0)=true then
   some y2
  else
   (U4 N p_b).bind fun y3=>
   some y3
theorem Au0 {N:Nat} {p_laws:(Sl Law)} {p_a:(Sl Sound)} {p_b:(Sl Sound)}   {y:Int} (h:P4 N p_laws p_a p_b=some y) :
 FunO S AW8 [(.p (vSl 18 A8 p_laws)),(.p (vSl 2 A0 p_a)),(.p (vSl 2 A0 p_b))] [] (pN y) ([]) []:=by
 unfold P4 at h
 refine A6 hS BK5 ?_
 obtain ⟨y1,e1,h⟩:=A4 h
 refine A2 hS [] trivial (AF0 hS hL e1) ?_
 refine A1 hS trivial (b:=y1 != 0) (fun c1=>?_) (fun c1=>?_)
 ·replace h:=itT c1 h
  obtain rfl:=A3 h
  exact B1 hS trivial [] ⟨rfl,rfl,rfl⟩
 ·replace h:=itF c1 h
  obtain ⟨y2,e2,h⟩:=A4 h
  refine A2 hS [] trivial (Al5 hS hL e2) ?_
  refine A1 hS trivial (b:=y2 != 0) (fun c2=>?_) (fun c2=>?_)
  ·replace h:=itT c2 h
   obtain rfl:=A3 h
   exact B1 hS trivial [] ⟨rfl,rfl,rfl⟩
  ·replace h:=itF c2 h
   obtain ⟨y3,e3,h⟩:=A4 h
   refine A2 hS [] trivial (Al5 hS hL e3) ?_
   obtain rfl:=A3 h
   exact B1 hS trivial [] ⟨rfl,rfl,rfl⟩
def F9 (N:Nat) (p_laws:(Sl Law)) (p_from:(Sl Sound)) (p_to:(Sl Sound)):Option Bool:=
 (Ah6 N p_laws p_from).bind fun y1=>
 lt (fun (z1:Bool)=>
  some z1
  ) fun k1=>
  if (y1.2 == 0)=true then
   (At6 N y1.1 p_to).bind fun y3=>
   k1 y3
  else
   k1 false
theorem Am3 {N:Nat} {p_laws:(Sl Law)} {p_from:(Sl Sound)} {p_to:(Sl Sound)}   {y:Bool} (h:F9 N p_laws p_from p_to=some y) :
 FunO S AW9 [(.p (vSl 18 A8 p_laws)),(.p (vSl 2 A0 p_from)),(.p (vSl 2 A0 p_to))] [] (pB y) ([]) []:=by
 unfold F9 at h
 refine A6 hS BK6 ?_
 obtain ⟨y1,e1,h⟩:=A4 h
 refine A2 hS [] trivial (BD6 hS hL e1) ?_
 refine AH1 hS trivial (B0 hS) h 0 (fun z1=>⟨[(6,(pB z1))], []⟩) (fun M1 k1 hb1 h=>?_) (fun z1 h=>?_)
 ·refine A7 hS trivial (b:=y1.2 == 0) (fun c3=>?_) (fun c3=>?_)
  ·replace h:=itT c3 h
   obtain ⟨y3,e3,h⟩:=A4 h
   refine A2 hS [] trivial (BN9 hS hL e3) ?_
   exact hb1 _ [] _ y3 trivial h
  ·replace h:=itF c3 h
   exact hb1 _ [] _ false trivial h
 ·obtain rfl:=A3 h
  exact B1 hS trivial [] ⟨rfl,rfl,rfl⟩
def V7 (N:Nat) (p_laws:(Sl Law)) (p_foreign:(Sl Sound)) (p_attested:(Sl Sound)):Option (Sl Int):=
 V9 N (fun self1 (x1:Sl Int) (x2:Int)=>
  if (decide (x2<=(p_laws.n:Int)))=true then
   if ((0:Int)<=x2/\x2<=(p_laws.n:Int)) then
    (F9 N (p_laws.drop x2.toNat) p_foreign p_attested).bind fun y3=>
    if y3=true then
     if ((x1.n+(Sl.of [x2]:Sl Int).n) * 8<=140737488355328/\x1.n+(Sl.of [x2]:Sl Int).n<=140737488355328) then
      self1 (x1.push x2) (IntKind.wrap .i64 (x2+1))
     else none
    else
     self1 x1 (IntKind.wrap .i64 (x2+1))
   else none
  else
   some x1
  ) (Sl.nil:Sl Int) 0
theorem AQ8 {N:Nat} {p_laws:(Sl Law)} {p_foreign:(Sl Sound)} {p_attested:(Sl Sound)}   {y:(Sl Int)} (h:V7 N p_laws p_foreign p_attested=some y) :
 FunO S AP3 [(.p (vSl 18 A8 p_laws)),(.p (vSl 2 A0 p_foreign)),(.p (vSl 2 A0 p_attested))] [] (.p (vSl 1 (cI .i64) y)) ([]) []:=by
 unfold V7 at h
 refine A6 hS BA1 ?_
 refine H9 hS trivial h (fun x1 x2=>⟨[(8,(pN x2)),(7,(.vec 8500)),(2,(.p (vSl 2 A0 p_attested))),(1,(.p (vSl 2 A0 p_foreign))),(0,(.p (vSl 18 A8 p_laws)))], [(8500,(.vec D4 1 x1.n (fun i=>(cI .i64) (x1.g i)) false))]⟩) (ids:=[]) (fun _ _ _ _ _ self1 x1 x2 hb1 h=>?_)
 refine A1 hS trivial (b:=decide (x2<=(p_laws.n:Int))) (fun c7=>?_) (fun c7=>?_)
 ·replace h:=itT c7 h
  obtain ⟨c8,h⟩:=F3 h
  obtain ⟨y3,e3,h⟩:=A4 h
  refine A2 hS [] c8 (Am3 hS hL e3) ?_
  refine A1 hS trivial (b:=y3) (fun c9=>?_) (fun c9=>?_)
  ·replace h:=itT c9 h
   obtain ⟨c10,h⟩:=F3 h
   exact hb1 _ [(8500,25000)] _ (x1.push x2) (IntKind.wrap .i64 (x2+1)) (And.intro (rfl:true=true) c10) h (by kernel_rfl) (by kernel_rfl) (klR [(4, .fn (x1.n+1) (x1.push x2).n (T4 x1.n (fun i=>(cI .i64) (x1.g i)) (D9 [(pI .i64 0)] [(0,(cI .i64) x2)])) (fun i=>(cI .i64) ((x1.push x2).g i)))] (al1 ⟨rfl,(Aw9 (c:=(cI .i64)) (v:=x1) (x:=x2) (z:=[(pI .i64 0)]) same rfl rfl)⟩ al0))
  ·replace h:=itF c9 h
   exact hb1 _ [(8500,8500)] _ x1 (IntKind.wrap .i64 (x2+1)) trivial h
 ·replace h:=itF c7 h
  obtain rfl:=A3 h
  exact B4 hS trivial ⟨[(6,(.p (vSl 1 (cI .i64) x1)))], []⟩ [] (ids:=[]) ⟨rfl,rfl,rfl⟩
def Q8 (N:Nat) (p_laws:(Sl Law)) (p_foreign:(Sl Sound)) (p_attested:(Sl Sound)):Option ((Sl Int) × Int):=
 (P4 N p_laws p_foreign p_attested).bind fun y1=>
 if (y1 != 0)=true then
  some ((Sl.nil:Sl Int),y1)
 else
  (V7 N p_laws p_foreign p_attested).bind fun y2=>
  some (y2,0)
theorem AQ9 {N:Nat} {p_laws:(Sl Law)} {p_foreign:(Sl Sound)} {p_attested:(Sl Sound)}   {y:((Sl Int) × Int)} (h:Q8 N p_laws p_foreign p_attested=some y) :
 FunO S AO7 [(.p (vSl 18 A8 p_laws)),(.p (vSl 2 A0 p_foreign)),(.p (vSl 2 A0 p_attested))] [] (.tup [(.p (vSl 1 (cI .i64) y.1)),(pN y.2)]) ([]) []:=by
 unfold Q8 at h
 refine A6 hS Bz4 ?_
 obtain ⟨y1,e1,h⟩:=A4 h
 refine A2 hS [] trivial (Au0 hS hL e1) ?_
 refine A1 hS trivial (b:=y1 != 0) (fun c1=>?_) (fun c1=>?_)
 ·replace h:=itT c1 h
  obtain rfl:=A3 h
  exact B4 hS trivial ⟨[(7,(pN y1)),(6,(.p (vSl 1 (cI .i64) (Sl.nil:Sl Int))))], []⟩ [] (ids:=[]) ⟨rfl,rfl,rfl⟩
 ·replace h:=itF c1 h
  obtain ⟨y2,e2,h⟩:=A4 h
  refine A2 hS [] trivial (AQ8 hS hL e2) ?_
  obtain rfl:=A3 h
  exact B1 hS trivial [] ⟨rfl,rfl,rfl⟩
def S7 (N:Nat) (p_l:(Sl Int)):Option (O5 × Bool):=
 if ((p_l.n:Int) == 0)=true then
  some ((⟨0,0⟩:O5),false)
 else
  if (((0:Int)<=0/\0 < (p_l.n:Int))/\((0:Int)<=(IntKind.wrap .i64 ((p_l.n:Int) - 1))/\(IntKind.wrap .i64 ((p_l.n:Int) - 1)) < (p_l.n:Int))) then
   some ((⟨(p_l.g 0),(p_l.g (IntKind.wrap .i64 ((p_l.n:Int) - 1)).toNat)⟩:O5),true)
  else none
theorem AM3 {N:Nat} {p_l:(Sl Int)}   {y:(O5 × Bool)} (h:S7 N p_l=some y) :
 FunO S Bk2 [(.p (vSl 1 (cI .i64) p_l))] [] (.tup [(.p (.agg (AA3 y.1))),(pB y.2)]) ([]) []:=by
 unfold S7 at h
 refine A6 hS Cb3 ?_
 refine A1 hS trivial (b:=(p_l.n:Int) == 0) (fun c1=>?_) (fun c1=>?_)
 ·replace h:=itT c1 h
  obtain rfl:=A3 h
  exact B1 hS trivial [] ⟨rfl,rfl,rfl⟩
 ·replace h:=itF c1 h
  refine F0 hS trivial [1,2,7,8] ?_
  obtain ⟨c2,h⟩:=F3 h
  refine M0 c2 ?_
  obtain rfl:=A3 h
  exact B1 hS trivial [] ⟨rfl,rfl,rfl⟩
def Ar3 (N:Nat) (p_laws:(Sl Law)) (p_foreign:(Sl Sound)) (p_attested:(Sl Sound)):Option (O5 × Bool × Int):=
 (Q8 N p_laws p_foreign p_attested).bind fun y1=>
 (S7 N y1.1).bind fun y2=>
 some (y2.1,y2.2,y1.2)
theorem Cd8 {N:Nat} {p_laws:(Sl Law)} {p_foreign:(Sl Sound)} {p_attested:(Sl Sound)}   {y:(O5 × Bool × Int)} (h:Ar3 N p_laws p_foreign p_attested=some y) :
 FunO S Bj8 [(.p (vSl 18 A8 p_laws)),(.p (vSl 2 A0 p_foreign)),(.p (vSl 2 A0 p_attested))] [] (.tup [(.p (.agg (AA3 y.1))),(pB y.2.1),(pN y.2.2)]) ([]) []:=by
 unfold Ar3 at h
 refine A6 hS Ca9 ?_
 obtain ⟨y1,e1,h⟩:=A4 h
 refine A2 hS [] trivial (AQ9 hS hL e1) ?_
 obtain ⟨y2,e2,h⟩:=A4 h
 refine A2 hS [] trivial (AM3 hS hL e2) ?_
 obtain rfl:=A3 h
 exact B1 hS trivial [] ⟨rfl,rfl,rfl⟩
def Ai2 (N:Nat) (p_laws:(Sl Law)) (p_proto:(Sl Sound)) (p_attested:(Sl Sound)):Option (Bool × Int):=
 (P4 N p_laws p_proto p_attested).bind fun y1=>
 if (y1 != 0)=true then
  some (false,y1)
 else
  (F9 N p_laws p_proto p_attested).bind fun y2=>
  some (y2,0)
theorem BE0 {N:Nat} {p_laws:(Sl Law)} {p_proto:(Sl Sound)} {p_attested:(Sl Sound)}   {y:(Bool × Int)} (h:Ai2 N p_laws p_proto p_attested=some y) :
 FunO S AO9 [(.p (vSl 18 A8 p_laws)),(.p (vSl 2 A0 p_proto)),(.p (vSl 2 A0 p_attested))] [] (.tup [(pB y.1),(pN y.2)]) ([]) []:=by
 unfold Ai2 at h
 refine A6 hS Bz6 ?_
 obtain ⟨y1,e1,h⟩:=A4 h
 refine A2 hS [] trivial (Au0 hS hL e1) ?_
 refine A1 hS trivial (b:=y1 != 0) (fun c1=>?_) (fun c1=>?_)
 ·replace h:=itT c1 h
  obtain rfl:=A3 h
  exact B1 hS trivial [] ⟨rfl,rfl,rfl⟩
 ·replace h:=itF c1 h
  obtain ⟨y2,e2,h⟩:=A4 h
  refine A2 hS [] trivial (Am3 hS hL e2) ?_
  obtain rfl:=A3 h
  exact B1 hS trivial [] ⟨rfl,rfl,rfl⟩
def Ai3 (N:Nat) (p_laws:(Sl Law)) (p_proto:(Sl Sound)) (p_attested:(Sl Sound)):Option (Sl Int):=
 (F9 N p_laws p_proto p_attested).bind fun y1=>
 if y1=true then
  some (Sl.nil:Sl Int)
 else
  V9 N (fun self1 (x1:Sl Int) (x2:Int)=>
   if (decide (x2 < (p_laws.n:Int)))=true then
    if (((((0:Int)<=x2/\x2<=(p_laws.n:Int))/\(((Sl.of []:Sl Law).n+(p_laws.take x2.toNat).n) * 200<=140737488355328/\(Sl.of []:Sl Law).n+(p_laws.take x2.toNat).n<=140737488355328))/\((0:Int)<=(IntKind.wrap .i64 (x2+1))/\(IntKind.wrap .i64 (x2+1))<=(p_laws.n:Int)))/\((((Sl.of []:Sl Law).app (p_laws.take x2.toNat)).n+(p_laws.drop (IntKind.wrap .i64 (x2+1)).toNat).n) * 200<=140737488355328/\((Sl.of []:Sl Law).app (p_laws.take x2.toNat)).n+(p_laws.drop (IntKind.wrap .i64 (x2+1)).toNat).n<=140737488355328)) then
     (F9 N (((Sl.of []:Sl Law).app (p_laws.take x2.toNat)).app (p_laws.drop (IntKind.wrap .i64 (x2+1)).toNat)) p_proto p_attested).bind fun y4=>
     if y4=true then
      if ((x1.n+(Sl.of [x2]:Sl Int).n) * 8<=140737488355328/\x1.n+(Sl.of [x2]:Sl Int).n<=140737488355328) then
       self1 (x1.push x2) (IntKind.wrap .i64 (x2+1))
      else none
     else
      self1 x1 (IntKind.wrap .i64 (x2+1))
    else none
   else
    some x1
   ) (Sl.nil:Sl Int) 0
theorem BE1 {N:Nat} {p_laws:(Sl Law)} {p_proto:(Sl Sound)} {p_attested:(Sl Sound)}   {y:(Sl Int)} (h:Ai3 N p_laws p_proto p_attested=some y) :
 FunO S AP5 [(.p (vSl 18 A8 p_laws)),(.p (vSl 2 A0 p_proto)),(.p (vSl 2 A0 p_attested))] [] (.vec 0) ([(.vec D4 1 y.n (fun i=>(cI .i64) (y.g i)) true)]) []:=by
 unfold Ai3 at h
 refine A6 hS BA3 ?_
 obtain ⟨y1,e1,h⟩:=A4 h
 refine A2 hS [] trivial (Am3 hS hL e1) ?_
 refine A1 hS trivial (b:=y1) (fun c1=>?_) (fun c1=>?_)
 ·replace h:=itT c1 h
  obtain rfl:=A3 h
  exact B4 hS trivial ⟨[(6,(.vec 7700))], [(7700,(.vec D4 1 (Sl.nil:Sl Int).n (fun i=>(cI .i64) ((Sl.nil:Sl Int).g i)) true))]⟩ [7700] (ids:=[]) ⟨rfl,rfl,rfl⟩
 ·replace h:=itF c1 h
  refine H9 hS trivial h (fun x1 x2=>⟨[(8,(pN x2)),(7,(.vec 8500)),(2,(.p (vSl 2 A0 p_attested))),(1,(.p (vSl 2 A0 p_proto))),(0,(.p (vSl 18 A8 p_laws)))], [(8500,(.vec D4 1 x1.n (fun i=>(cI .i64) (x1.g i)) false))]⟩) (ids:=[]) (fun _ _ _ _ _ self1 x1 x2 hb1 h=>?_)
  refine A1 hS trivial (b:=decide (x2 < (p_laws.n:Int))) (fun c8=>?_) (fun c8=>?_)
  ·replace h:=itT c8 h
   refine F0 hS trivial [1000] ?_
   obtain ⟨c9,h⟩:=F3 h
   obtain ⟨y4,e4,h⟩:=A4 h
   refine Bj4 [] (And.intro (And.intro (And.intro (And.intro (rfl:true=true) c9.1.1.1) c9.1.1.2) c9.1.2) c9.2) (FunO.le hS (args:=[.p (.sl false 18 ((0+(p_laws.take x2.toNat).n)+(p_laws.drop (IntKind.wrap .i64 (x2+1)).toNat).n) (T4 (0+(p_laws.take x2.toNat).n) (T4 0 (D9 [(.str []),(pI .i64 0),(pI .u32 0),(pI .u32 0),(.v (.bool false)),(pI .i64 0),(pI .i64 0),P6,(pI .i64 0),(pI .u32 0),(pI .u32 0),(.v (.bool false)),(pI .i64 0),(pI .i64 0),P6,P6,P6,(pI .i64 0)] []) (fun i=>A8 ((p_laws.take x2.toNat).g i))) (fun i=>A8 ((p_laws.drop (IntKind.wrap .i64 (x2+1)).toNat).g i)))),(.p (vSl 2 A0 p_proto)),(.p (vSl 2 A0 p_attested))]) (by exact ⟨BR5 rfl (Ca2 (c:=A8) (v:=((Sl.of []:Sl Law).app (p_laws.take x2.toNat))) (w:=(p_laws.drop (IntKind.wrap .i64 (x2+1)).toNat)) (Ca2 (c:=A8) (v:=(Sl.of []:Sl Law)) (w:=(p_laws.take x2.toNat)) (fun i hi=>absurd hi (by omega)) rfl same rfl) rfl same rfl),⟨.inl rfl,⟨.inl rfl,trivial⟩⟩⟩) (Am3 hS hL e4)) ?_
   refine M0 trivial ?_
   refine A1 hS trivial (b:=y4) (fun c10=>?_) (fun c10=>?_)
   ·replace h:=itT c10 h
    obtain ⟨c11,h⟩:=F3 h
    exact hb1 _ [(8500,36000)] _ (x1.push x2) (IntKind.wrap .i64 (x2+1)) (And.intro (rfl:true=true) c11) h (by kernel_rfl) (by kernel_rfl) (klR [(4, .fn (x1.n+1) (x1.push x2).n (T4 x1.n (fun i=>(cI .i64) (x1.g i)) (D9 [(pI .i64 0)] [(0,(cI .i64) x2)])) (fun i=>(cI .i64) ((x1.push x2).g i)))] (al1 ⟨rfl,(Aw9 (c:=(cI .i64)) (v:=x1) (x:=x2) (z:=[(pI .i64 0)]) same rfl rfl)⟩ al0))
   ·replace h:=itF c10 h
    exact hb1 _ [(8500,8500)] _ x1 (IntKind.wrap .i64 (x2+1)) trivial h
  ·replace h:=itF c8 h
   obtain rfl:=A3 h
   exact B4 hS trivial ⟨[(6,(.vec 8500))], [(8500,(.vec D4 1 x1.n (fun i=>(cI .i64) (x1.g i)) true))]⟩ [8500] (ids:=[(8500,8500)]) ⟨rfl,rfl,rfl⟩
def Ai4 (N:Nat) (p_laws:(Sl Law)) (p_proto:(Sl Sound)) (p_attested:(Sl Sound)):Option ((Sl Int) × Int):=
 (P4 N p_laws p_proto p_attested).bind fun y1=>
 if (y1 != 0)=true then
  some ((Sl.nil:Sl Int),y1)
 else
  (Ai3 N p_laws p_proto p_attested).bind fun y2=>
  some (y2,0)
theorem BE2 {N:Nat} {p_laws:(Sl Law)} {p_proto:(Sl Sound)} {p_attested:(Sl Sound)}   {y:((Sl Int) × Int)} (h:Ai4 N p_laws p_proto p_attested=some y) :
 FunO S AP0 [(.p (vSl 18 A8 p_laws)),(.p (vSl 2 A0 p_proto)),(.p (vSl 2 A0 p_attested))] [] (.tup [(.vec 0),(pN y.2)]) ([(.vec D4 1 y.1.n (fun i=>(cI .i64) (y.1.g i)) true)]) []:=by
 unfold Ai4 at h
 refine A6 hS Bz7 ?_
 obtain ⟨y1,e1,h⟩:=A4 h
 refine A2 hS [] trivial (Au0 hS hL e1) ?_
 refine A1 hS trivial (b:=y1 != 0) (fun c1=>?_) (fun c1=>?_)
 ·replace h:=itT c1 h
  obtain rfl:=A3 h
  exact B4 hS trivial ⟨[(7,(pN y1)),(6,(.vec 7700))], [(7700,(.vec D4 1 (Sl.nil:Sl Int).n (fun i=>(cI .i64) ((Sl.nil:Sl Int).g i)) true))]⟩ [7700] (ids:=[]) ⟨rfl,rfl,rfl⟩
 ·replace h:=itF c1 h
  obtain ⟨y2,e2,h⟩:=A4 h
  refine A2 hS [] trivial (BE1 hS hL e2) ?_
  obtain rfl:=A3 h
  exact B4 hS trivial ⟨[(7,(pN 0)),(6,(.vec 20000))], [(20000,(.vec D4 1 y2.n (fun i=>(cI .i64) (y2.g i)) true))]⟩ [20000] (ids:=[(20000,20000)]) ⟨rfl,rfl,rfl⟩
def Ag1 (N:Nat) (p_laws:(Sl Law)) (p_l:(Sl T3)):Option Int:=
 (U9 N p_laws).bind fun y1=>
 if (y1 != 0)=true then
  some y1
 else
  if (decide (256 < (p_l.n:Int)))=true then
   some 12
  else
   Ae3 N (fun self1 (x1:Int)=>
    if (decide (x1 < (p_l.n:Int)))=true then
     if (((0:Int)<=x1/\x1 < (p_l.n:Int))/\((0:Int)<=x1/\x1 < (p_l.n:Int))) then
      (P4 N (Sl.nil:Sl Law) (p_l.g x1.toNat).From (p_l.g x1.toNat).To).bind fun y4=>
      if (y4 != 0)=true then
       some y4
      else
       self1 (IntKind.wrap .i64 (x1+1))
     else none
    else
     some 0
    ) 0
theorem Bb4 {N:Nat} {p_laws:(Sl Law)} {p_l:(Sl T3)}   {y:Int} (h:Ag1 N p_laws p_l=some y) :
 FunO S AX1 [(.p (vSl 18 A8 p_laws)),(.p (vSl 2 F4 p_l))] [] (pN y) ([]) []:=by
 unfold Ag1 at h
 refine A6 hS BK7 ?_
 obtain ⟨y1,e1,h⟩:=A4 h
 refine A2 hS [] trivial (AF0 hS hL e1) ?_
 refine A1 hS trivial (b:=y1 != 0) (fun c1=>?_) (fun c1=>?_)
 ·replace h:=itT c1 h
  obtain rfl:=A3 h
  exact B1 hS trivial [] ⟨rfl,rfl,rfl⟩
 ·replace h:=itF c1 h
  refine A1 hS trivial (b:=decide (256 < (p_l.n:Int))) (fun c2=>?_) (fun c2=>?_)
  ·replace h:=itT c2 h
   obtain rfl:=A3 h
   exact B1 hS trivial [] ⟨rfl,rfl,rfl⟩
  ·replace h:=itF c2 h
   refine U1 hS trivial h (fun x1=>⟨[(6,(pN x1)),(1,(.p (vSl 2 F4 p_l)))], []⟩) (ids:=[]) (fun _ _ _ _ _ self1 x1 hb1 h=>?_)
   refine A1 hS trivial (b:=decide (x1 < (p_l.n:Int))) (fun c9=>?_) (fun c9=>?_)
   ·replace h:=itT c9 h
    refine F0 hS trivial [2,4,7,9,10] ?_
    obtain ⟨c10,h⟩:=F3 h
    obtain ⟨y4,e4,h⟩:=A4 h
    refine U2 c10 (FunO.le hS (args:=[.p P6,(.p (vSl 2 A0 (p_l.g x1.toNat).From)),(.p (vSl 2 A0 (p_l.g x1.toNat).To))]) (by exact ⟨CD1,⟨.inl rfl,⟨.inl rfl,trivial⟩⟩⟩) (Au0 hS hL e4)) ?_
    refine M0 trivial ?_
    refine A1 hS trivial (b:=y4 != 0) (fun c11=>?_) (fun c11=>?_)
    ·replace h:=itT c11 h
     obtain rfl:=A3 h
     exact B1 hS trivial [] ⟨rfl,rfl,rfl⟩
    ·replace h:=itF c11 h
     exact hb1 _ [] _ (IntKind.wrap .i64 (x1+1)) trivial h
   ·replace h:=itF c9 h
    obtain rfl:=A3 h
    exact B1 hS trivial [] ⟨rfl,rfl,rfl⟩
def Ai5 (N:Nat) (p_laws:(Sl Law)) (p_l:(Sl T3)):Option ((Sl Int) × Int):=
 (Ag1 N p_laws p_l).bind fun y1=>
 if (y1 != 0)=true then
  some ((Sl.nil:Sl Int),y1)
 else
  V9 N (fun self1 (x1:Sl Int) (x2:Int)=>
   if (decide (x2 < (p_l.n:Int)))=true then
    if (((0:Int)<=x2/\x2 < (p_l.n:Int))/\((0:Int)<=x2/\x2 < (p_l.n:Int))) then
     (V7 N p_laws (p_l.g x2.toNat).From (p_l.g x2.toNat).To).bind fun y6=>
     (S7 N y6).bind fun y7=>
     if (!y7.2)=true then
      if ((x1.n+(Sl.of [(-1)]:Sl Int).n) * 8<=140737488355328/\x1.n+(Sl.of [(-1)]:Sl Int).n<=140737488355328) then
       self1 (x1.push (-1)) (IntKind.wrap .i64 (x2+1))
      else none
     else
      if ((x1.n+(Sl.of [y7.1.Last]:Sl Int).n) * 8<=140737488355328/\x1.n+(Sl.of [y7.1.Last]:Sl Int).n<=140737488355328) then
       self1 (x1.push y7.1.Last) (IntKind.wrap .i64 (x2+1))
      else none
    else none
   else
    some (x1,0)
   ) (Sl.nil:Sl Int) 0
theorem BE3 {N:Nat} {p_laws:(Sl Law)} {p_l:(Sl T3)}   {y:((Sl Int) × Int)} (h:Ai5 N p_laws p_l=some y) :
 FunO S AP2 [(.p (vSl 18 A8 p_laws)),(.p (vSl 2 F4 p_l))] [] (.tup [(.vec 0),(pN y.2)]) ([(.vec D4 1 y.1.n (fun i=>(cI .i64) (y.1.g i)) true)]) []:=by
 unfold Ai5 at h
 refine A6 hS Bz9 ?_
 obtain ⟨y1,e1,h⟩:=A4 h
 refine A2 hS [] trivial (Bb4 hS hL e1) ?_
 refine A1 hS trivial (b:=y1 != 0) (fun c1=>?_) (fun c1=>?_)
 ·replace h:=itT c1 h
  obtain rfl:=A3 h
  exact B4 hS trivial ⟨[(5,(pN y1)),(4,(.vec 5700))], [(5700,(.vec D4 1 (Sl.nil:Sl Int).n (fun i=>(cI .i64) ((Sl.nil:Sl Int).g i)) true))]⟩ [5700] (ids:=[]) ⟨rfl,rfl,rfl⟩
 ·replace h:=itF c1 h
  refine H9 hS trivial h (fun x1 x2=>⟨[(8,(pN x2)),(7,(.vec 8500)),(1,(.p (vSl 2 F4 p_l))),(0,(.p (vSl 18 A8 p_laws)))], [(8500,(.vec D4 1 x1.n (fun i=>(cI .i64) (x1.g i)) false))]⟩) (ids:=[]) (fun _ _ _ _ _ self1 x1 x2 hb1 h=>?_)
  refine A1 hS trivial (b:=decide (x2 < (p_l.n:Int))) (fun c8=>?_) (fun c8=>?_)
  ·replace h:=itT c8 h
   refine T2 hS trivial [(3, .n),(5, .n),(8, .n),(10, .n),(11, .n),(12, .n),(16, .a [10000]),(17, .a [10000])] ?_
   obtain ⟨c9,h⟩:=F3 h
   obtain ⟨y6,e6,h⟩:=A4 h
   refine U2 c9 (AQ8 hS hL e6) ?_
   obtain ⟨y7,e7,h⟩:=A4 h
   refine U2 trivial (AM3 hS hL e7) ?_
   refine M0 trivial ?_
   refine A1 hS trivial (b:=!y7.2) (fun c10=>?_) (fun c10=>?_)
   ·replace h:=itT c10 h
    obtain ⟨c11,h⟩:=F3 h
    exact hb1 _ [(8500,47000)] _ (x1.push (-1)) (IntKind.wrap .i64 (x2+1)) (And.intro (rfl:true=true) c11) h (by kernel_rfl) (by kernel_rfl) (klR [(3, .fn (x1.n+1) (x1.push (-1)).n (T4 x1.n (fun i=>(cI .i64) (x1.g i)) (D9 [(pI .i64 0)] [(0,(cI .i64) (-1))])) (fun i=>(cI .i64) ((x1.push (-1)).g i)))] (al1 ⟨rfl,(Aw9 (c:=(cI .i64)) (v:=x1) (x:=(-1)) (z:=[(pI .i64 0)]) same rfl rfl)⟩ al0))
   ·replace h:=itF c10 h
    obtain ⟨c12,h⟩:=F3 h
    exact hb1 _ [(8500,47000)] _ (x1.push y7.1.Last) (IntKind.wrap .i64 (x2+1)) (And.intro (rfl:true=true) c12) h (by kernel_rfl) (by kernel_rfl) (klR [(3, .fn (x1.n+1) (x1.push y7.1.Last).n (T4 x1.n (fun i=>(cI .i64) (x1.g i)) (D9 [(pI .i64 0)] [(0,(cI .i64) y7.1.Last)])) (fun i=>(cI .i64) ((x1.push y7.1.Last).g i)))] (al1 ⟨rfl,(Aw9 (c:=(cI .i64)) (v:=x1) (x:=y7.1.Last) (z:=[(pI .i64 0)]) same rfl rfl)⟩ al0))
  ·replace h:=itF c8 h
   obtain rfl:=A3 h
   exact B4 hS trivial ⟨[(5,(pN 0)),(4,(.vec 8500))], [(8500,(.vec D4 1 x1.n (fun i=>(cI .i64) (x1.g i)) true))]⟩ [8500] (ids:=[(8500,8500)]) ⟨rfl,rfl,rfl⟩
def Am4 (N:Nat) (p_laws:(Sl Law)) (p_l:(Sl T3)):Option (O5 × Bool × Int):=
 (Ag1 N p_laws p_l).bind fun y1=>
 if (y1 != 0)=true then
  some ((⟨0,0⟩:O5),false,y1)
 else
  V9 N (fun self3 (x3:Sl Int) (x4:Int)=>
   if (decide (x4<=(p_laws.n:Int)))=true then
    V9 N (fun self4 (x7:Bool) (x8:Int)=>
     if (decide (x8 < (p_l.n:Int)))=true then
      if x7=true then
       if ((((0:Int)<=x4/\x4<=(p_laws.n:Int))/\((0:Int)<=x8/\x8 < (p_l.n:Int)))/\((0:Int)<=x8/\x8 < (p_l.n:Int))) then
        (F9 N (p_laws.drop x4.toNat) (p_l.g x8.toNat).From (p_l.g x8.toNat).To).bind fun y10=>
        self4 y10 (IntKind.wrap .i64 (x8+1))
       else none
      else
       self4 false (IntKind.wrap .i64 (x8+1))
     else
      if x7=true then
       if ((x3.n+(Sl.of [x4]:Sl Int).n) * 8<=140737488355328/\x3.n+(Sl.of [x4]:Sl Int).n<=140737488355328) then
        self3 (x3.push x4) (IntKind.wrap .i64 (x4+1))
       else none
      else
       self3 x3 (IntKind.wrap .i64 (x4+1))
     ) true 0
   else
    (S7 N x3).bind fun y11=>
    some (y11.1,y11.2,0)
   ) (Sl.nil:Sl Int) 0
theorem BP5 {N:Nat} {p_laws:(Sl Law)} {p_l:(Sl T3)}   {y:(O5 × Bool × Int)} (h:Am4 N p_laws p_l=some y) :
 FunO S AW7 [(.p (vSl 18 A8 p_laws)),(.p (vSl 2 F4 p_l))] [] (.tup [(.p (.agg (AA3 y.1))),(pB y.2.1),(pN y.2.2)]) ([]) []:=by
 unfold Am4 at h
 refine A6 hS BK4 ?_
 obtain ⟨y1,e1,h⟩:=A4 h
 refine A2 hS [] trivial (Bb4 hS hL e1) ?_
 refine A1 hS trivial (b:=y1 != 0) (fun c1=>?_) (fun c1=>?_)
 ·replace h:=itT c1 h
  obtain rfl:=A3 h
  exact B1 hS trivial [] ⟨rfl,rfl,rfl⟩
 ·replace h:=itF c1 h
  refine H9 hS trivial h (fun x3 x4=>⟨[(9,(pN x4)),(8,(.vec 9500)),(4,(.reg 5000 0)),(1,(.p (vSl 2 F4 p_l))),(0,(.p (vSl 18 A8 p_laws)))], [(9500,(.vec D4 1 x3.n (fun i=>(cI .i64) (x3.g i)) false)),(5000,(.cells [(pN 0),(pN 0)]))]⟩) (ids:=[(5000,5000)]) (fun _ _ _ _ _ self3 x3 x4 hb3 h=>?_)
  refine A1 hS trivial (b:=decide (x4<=(p_laws.n:Int))) (fun c22=>?_) (fun c22=>?_)
  ·replace h:=itT c22 h
   refine H9 hS trivial h (fun x7 x8=>⟨[(11,(pN x8)),(10,(pB x7)),(9,(pN x4)),(8,(.vec 9500)),(4,(.reg 5000 0)),(1,(.p (vSl 2 F4 p_l))),(0,(.p (vSl 18 A8 p_laws)))], [(9500,(.vec D4 1 x3.n (fun i=>(cI .i64) (x3.g i)) false)),(5000,(.cells [(pN 0),(pN 0)]))]⟩) (ids:=[(5000,5000),(9500,9500)]) (fun _ _ _ _ _ self4 x7 x8 hb4 h=>?_)
   refine A1 hS trivial (b:=decide (x8 < (p_l.n:Int))) (fun c28=>?_) (fun c28=>?_)
   ·replace h:=itT c28 h
    refine F0 hS trivial [7,9,12,14,15] ?_
    refine BJ9 trivial (b:=x7) (fun c29=>?_) (fun c29=>?_)
    ·replace h:=itT c29 h
     obtain ⟨c30,h⟩:=F3 h
     obtain ⟨y10,e10,h⟩:=A4 h
     refine U2 c30 (Am3 hS hL e10) ?_
     refine M0 trivial ?_
     exact hb4 _ [(5000,5000),(9500,9500)] _ y10 (IntKind.wrap .i64 (x8+1)) trivial h
    ·replace h:=itF c29 h
     refine M0 trivial ?_
     exact hb4 _ [(5000,5000),(9500,9500)] _ false (IntKind.wrap .i64 (x8+1)) trivial h
   ·replace h:=itF c28 h
    refine A1 hS trivial (b:=x7) (fun c31=>?_) (fun c31=>?_)
    ·replace h:=itT c31 h
     obtain ⟨c32,h⟩:=F3 h
     exact hb3 _ [(5000,5000),(9500,55000)] _ (x3.push x4) (IntKind.wrap .i64 (x4+1)) (And.intro (rfl:true=true) c32) h (by kernel_rfl) (by kernel_rfl) (klR [(3, .fn (x3.n+1) (x3.push x4).n (T4 x3.n (fun i=>(cI .i64) (x3.g i)) (D9 [(pI .i64 0)] [(0,(cI .i64) x4)])) (fun i=>(cI .i64) ((x3.push x4).g i)))] (al1 ⟨rfl,(Aw9 (c:=(cI .i64)) (v:=x3) (x:=x4) (z:=[(pI .i64 0)]) same rfl rfl)⟩ al0))
    ·replace h:=itF c31 h
     exact hb3 _ [(5000,5000),(9500,9500)] _ x3 (IntKind.wrap .i64 (x4+1)) trivial h
  ·replace h:=itF c22 h
   obtain ⟨y11,e11,h⟩:=A4 h
   refine A2 hS [] trivial (AM3 hS hL e11) ?_
   refine R7 hS trivial 13 13000 [(pI .i64 y11.1.First),(pI .i64 y11.1.Last)] ?_
   obtain rfl:=A3 h
   exact B1 hS (by decide:(2:Nat)<=2) [] ⟨rfl,rfl,rfl⟩
def X2 (N:Nat) (p_laws:(Sl Law)) (p_v:(Sl Sound)) (p_w:(Sl Sound)):Option Bool:=
 (Ac3 N p_laws).bind fun y1=>
 if ((decide (4 < y1)) || ((decide (8 < (p_laws.n:Int))) && (decide ((p_laws.n:Int)<=64))))=true then
  (K3 N ).bind fun y2=>
  some y2
 else
  (S3 N p_laws p_v p_w).bind fun y3=>
  (Q8 N p_laws p_v p_w).bind fun y4=>
  (Ac4 N p_laws p_v p_w).bind fun y5=>
  (Ar3 N p_laws p_v p_w).bind fun y6=>
  (S4 N p_laws p_v p_w).bind fun y7=>
  (Ai2 N p_laws p_v p_w).bind fun y8=>
  (S6 N y3.1 y4.1).bind fun y9=>
  lt (fun (z1:Bool)=>
   some z1
   ) fun k1=>
   if y9=true then
    if (y3.2 == y4.2)=true then
     (Ak3 N y5.1 y6.1).bind fun y12=>
     if y12=true then
      if ((y5.2.1 == y6.2.1) != false)=true then
       if (y5.2.2 == y6.2.2)=true then
        if ((y7.1 == y8.1) != false)=true then
         if (y7.2 == y8.2)=true then
          (K3 N ).bind fun y13=>
          k1 y13
         else
          k1 false
        else
         k1 false
       else
        k1 false
      else
       k1 false
     else
      k1 false
    else
     k1 false
   else
    k1 false
theorem AM4 {N:Nat} {p_laws:(Sl Law)} {p_v:(Sl Sound)} {p_w:(Sl Sound)}   {y:Bool} (h:X2 N p_laws p_v p_w=some y) :
 FunO S Af1 [(.p (vSl 18 A8 p_laws)),(.p (vSl 2 A0 p_v)),(.p (vSl 2 A0 p_w))] [] (pB y) ([]) []:=by
 unfold X2 at h
 refine A6 hS Aq3 ?_
 obtain ⟨y1,e1,h⟩:=A4 h
 refine A2 hS [] trivial (AL9 hS hL e1) ?_
 obtain ⟨t1,ht1⟩:∃ x:Bool,x=((decide (4 < y1)) || ((decide (8 < (p_laws.n:Int))) && (decide ((p_laws.n:Int)<=64)))):=⟨_,rfl⟩
 refine S9 hS trivial (B0 hS) 0 ⟨[(33,(pB t1)),(2,(.p (vSl 2 A0 p_w))),(1,(.p (vSl 2 A0 p_v))),(0,(.p (vSl 18 A8 p_laws)))], []⟩ (fun M1 hb1=>?_) ?_
 ·refine A7 hS trivial (b:=decide (4 < y1)) (fun c3=>?_) (fun c3=>?_)
  ·exact hb1 _ [] _ trivial (by kernel_rfl) (by kernel_rfl) (klR [(0, .eq (.bb true) (.bb t1))] (al1 (by simp only [ht1,c3,Leaf.ok,pm,if_true,if_false]) al0))
  ·refine A7 hS trivial (b:=decide (8 < (p_laws.n:Int))) (fun c4=>?_) (fun c4=>?_)
   ·exact hb1 _ [] _ trivial (by kernel_rfl) (by kernel_rfl) (klR [(0, .eq (.bb (decide ((p_laws.n:Int)<=64))) (.bb t1))] (al1 (by simp only [ht1,c3,c4,Leaf.ok,pm,if_true,if_false]) al0))
   ·exact hb1 _ [] _ trivial (by kernel_rfl) (by kernel_rfl) (klR [(0, .eq (.bb false) (.bb t1))] (al1 (by simp only [ht1,c3,c4,Leaf.ok,pm,if_true,if_false]) al0))
 ·subst ht1
  refine A1 hS trivial (b:=((decide (4 < y1)) || ((decide (8 < (p_laws.n:Int))) && (decide ((p_laws.n:Int)<=64))))) (fun c5=>?_) (fun c5=>?_)
  ·replace h:=itT c5 h
   obtain ⟨y2,e2,h⟩:=A4 h
   refine A2 hS [] trivial (Ag0 hS hL e2) ?_
   obtain rfl:=A3 h
   exact B1 hS trivial [] ⟨rfl,rfl,rfl⟩
  ·replace h:=itF c5 h
   obtain ⟨y3,e3,h⟩:=A4 h
   refine A2 hS [] trivial (AD5 hS hL e3) ?_
   obtain ⟨y4,e4,h⟩:=A4 h
   refine A2 hS [] trivial (AQ9 hS hL e4) ?_
   obtain ⟨y5,e5,h⟩:=A4 h
   refine A2 hS [] trivial (AQ7 hS hL e5) ?_
   obtain ⟨y6,e6,h⟩:=A4 h
   refine A2 hS [] trivial (Cd8 hS hL e6) ?_
   obtain ⟨y7,e7,h⟩:=A4 h
   refine A2 hS [] trivial (AD6 hS hL e7) ?_
   obtain ⟨y8,e8,h⟩:=A4 h
   refine A2 hS [] trivial (BE0 hS hL e8) ?_
   obtain ⟨y9,e9,h⟩:=A4 h
   refine A2 hS [] trivial (Ar2 hS hL e9) ?_
   refine AH1 hS trivial (B0 hS) h 0 (fun z1=>⟨[(6,(pB z1))], []⟩) (fun M2 k1 hb2 h=>?_) (fun z1 h=>?_)
   ·refine A7 hS trivial (b:=y9) (fun c15=>?_) (fun c15=>?_)
    ·replace h:=itT c15 h
     refine A7 hS trivial (b:=y3.2 == y4.2) (fun c16=>?_) (fun c16=>?_)
     ·replace h:=itT c16 h
      obtain ⟨y12,e12,h⟩:=A4 h
      refine A2 hS [] trivial (Bm0 hS hL e12) ?_
      refine A7 hS trivial (b:=y12) (fun c17=>?_) (fun c17=>?_)
      ·replace h:=itT c17 h
       refine A7 hS trivial (b:=((y5.2.1 == y6.2.1) != false)) (fun c18=>?_) (fun c18=>?_)
       ·replace h:=itT c18 h
        refine A7 hS trivial (b:=y5.2.2 == y6.2.2) (fun c19=>?_) (fun c19=>?_)
        ·replace h:=itT c19 h
         refine A7 hS trivial (b:=((y7.1 == y8.1) != false)) (fun c20=>?_) (fun c20=>?_)
         ·replace h:=itT c20 h
          refine A7 hS trivial (b:=y7.2 == y8.2) (fun c21=>?_) (fun c21=>?_)
          ·replace h:=itT c21 h
           obtain ⟨y13,e13,h⟩:=A4 h
           refine A2 hS [] trivial (Ag0 hS hL e13) ?_
           exact hb2 _ [] _ y13 trivial h
          ·replace h:=itF c21 h
           exact hb2 _ [] _ false trivial h
         ·replace h:=itF c20 h
          exact hb2 _ [] _ false trivial h
        ·replace h:=itF c19 h
         exact hb2 _ [] _ false trivial h
       ·replace h:=itF c18 h
        exact hb2 _ [] _ false trivial h
      ·replace h:=itF c17 h
       exact hb2 _ [] _ false trivial h
     ·replace h:=itF c16 h
      exact hb2 _ [] _ false trivial h
    ·replace h:=itF c15 h
     exact hb2 _ [] _ false trivial h
   ·obtain rfl:=A3 h
    exact B1 hS trivial [] ⟨rfl,rfl,rfl⟩
def X3 (N:Nat) (p_laws:(Sl Law)) (p_v:(Sl Sound)) (p_w:(Sl Sound)):Option Bool:=
 (Ac3 N p_laws).bind fun y1=>
 if ((decide (4 < y1)) || ((decide (8 < (p_laws.n:Int))) && (decide ((p_laws.n:Int)<=64))))=true then
  (K3 N ).bind fun y2=>
  some y2
 else
  (S5 N p_laws p_v p_w).bind fun y3=>
  (Ai4 N p_laws p_v p_w).bind fun y4=>
  (S6 N y3.1 y4.1).bind fun y5=>
  lt (fun (z1:Bool)=>
   some z1
   ) fun k1=>
   if y5=true then
    if (y3.2 == y4.2)=true then
     (K3 N ).bind fun y7=>
     k1 y7
    else
     k1 false
   else
    k1 false
theorem AM5 {N:Nat} {p_laws:(Sl Law)} {p_v:(Sl Sound)} {p_w:(Sl Sound)}   {y:Bool} (h:X3 N p_laws p_v p_w=some y) :
 FunO S Af2 [(.p (vSl 18 A8 p_laws)),(.p (vSl 2 A0 p_v)),(.p (vSl 2 A0 p_w))] [] (pB y) ([]) []:=by
 unfold X3 at h
 refine A6 hS Aq4 ?_
 obtain ⟨y1,e1,h⟩:=A4 h
 refine A2 hS [] trivial (AL9 hS hL e1) ?_
 obtain ⟨t1,ht1⟩:∃ x:Bool,x=((decide (4 < y1)) || ((decide (8 < (p_laws.n:Int))) && (decide ((p_laws.n:Int)<=64)))):=⟨_,rfl⟩
 refine S9 hS trivial (B0 hS) 0 ⟨[(23,(pB t1)),(2,(.p (vSl 2 A0 p_w))),(1,(.p (vSl 2 A0 p_v))),(0,(.p (vSl 18 A8 p_laws)))], []⟩ (fun M1 hb1=>?_) ?_
 ·refine A7 hS trivial (b:=decide (4 < y1)) (fun c3=>?_) (fun c3=>?_)
  ·exact hb1 _ [] _ trivial (by kernel_rfl) (by kernel_rfl) (klR [(0, .eq (.bb true) (.bb t1))] (al1 (by simp only [ht1,c3,Leaf.ok,pm,if_true,if_false]) al0))
  ·refine A7 hS trivial (b:=decide (8 < (p_laws.n:Int))) (fun c4=>?_) (fun c4=>?_)
   ·exact hb1 _ [] _ trivial (by kernel_rfl) (by kernel_rfl) (klR [(0, .eq (.bb (decide ((p_laws.n:Int)<=64))) (.bb t1))] (al1 (by simp only [ht1,c3,c4,Leaf.ok,pm,if_true,if_false]) al0))
   ·exact hb1 _ [] _ trivial (by kernel_rfl) (by kernel_rfl) (klR [(0, .eq (.bb false) (.bb t1))] (al1 (by simp only [ht1,c3,c4,Leaf.ok,pm,if_true,if_false]) al0))
 ·subst ht1
  refine A1 hS trivial (b:=((decide (4 < y1)) || ((decide (8 < (p_laws.n:Int))) && (decide ((p_laws.n:Int)<=64))))) (fun c5=>?_) (fun c5=>?_)
  ·replace h:=itT c5 h
   obtain ⟨y2,e2,h⟩:=A4 h
   refine A2 hS [] trivial (Ag0 hS hL e2) ?_
   obtain rfl:=A3 h
   exact B1 hS trivial [] ⟨rfl,rfl,rfl⟩
  ·replace h:=itF c5 h
   obtain ⟨y3,e3,h⟩:=A4 h
   refine A2 hS [] trivial (AD7 hS hL e3) ?_
   obtain ⟨y4,e4,h⟩:=A4 h
   refine A2 hS [] trivial (BE2 hS hL e4) ?_
   obtain ⟨y5,e5,h⟩:=A4 h
   refine A2 hS [] trivial (Ar2 hS hL e5) ?_
   refine AH1 hS trivial (B0 hS) h 0 (fun z1=>⟨[(6,(pB z1))], []⟩) (fun M2 k1 hb2 h=>?_) (fun z1 h=>?_)
   ·refine A7 hS trivial (b:=y5) (fun c10=>?_) (fun c10=>?_)
    ·replace h:=itT c10 h
     refine A7 hS trivial (b:=y3.2 == y4.2) (fun c11=>?_) (fun c11=>?_)
     ·replace h:=itT c11 h
      obtain ⟨y7,e7,h⟩:=A4 h
      refine A2 hS [] trivial (Ag0 hS hL e7) ?_
      exact hb2 _ [] _ y7 trivial h
     ·replace h:=itF c11 h
      exact hb2 _ [] _ false trivial h
    ·replace h:=itF c10 h
     exact hb2 _ [] _ false trivial h
   ·obtain rfl:=A3 h
    exact B1 hS trivial [] ⟨rfl,rfl,rfl⟩
def X4 (N:Nat) (p_laws:(Sl Law)) (p_l:(Sl T3)):Option Bool:=
 (Ac3 N p_laws).bind fun y1=>
 if (((decide (4 < y1)) || ((decide (8 < (p_laws.n:Int))) && (decide ((p_laws.n:Int)<=64)))) || ((decide (20 < (p_l.n:Int))) && (decide ((p_l.n:Int)<=256))))=true then
  (K3 N ).bind fun y2=>
  some y2
 else
  (Aa1 N p_laws p_l).bind fun y3=>
  (Ai5 N p_laws p_l).bind fun y4=>
  (Ae1 N p_laws p_l).bind fun y5=>
  (Am4 N p_laws p_l).bind fun y6=>
  (S6 N y3.1 y4.1).bind fun y7=>
  lt (fun (z1:Bool)=>
   some z1
   ) fun k1=>
   if y7=true then
    if (y3.2 == y4.2)=true then
     (Ak3 N y5.1 y6.1).bind fun y10=>
     if y10=true then
      if ((y5.2.1 == y6.2.1) != false)=true then
       if (y5.2.2 == y6.2.2)=true then
        (K3 N ).bind fun y11=>
        k1 y11
       else
        k1 false
      else
       k1 false
     else
      k1 false
    else
     k1 false
   else
    k1 false
theorem AM6 {N:Nat} {p_laws:(Sl Law)} {p_l:(Sl T3)}   {y:Bool} (h:X4 N p_laws p_l=some y) :
 FunO S Af3 [(.p (vSl 18 A8 p_laws)),(.p (vSl 2 F4 p_l))] [] (pB y) ([]) []:=by
 unfold X4 at h
 refine A6 hS Aq5 ?_
 obtain ⟨y1,e1,h⟩:=A4 h
 refine A2 hS [] trivial (AL9 hS hL e1) ?_
 obtain ⟨t1,ht1⟩:∃ x:Bool,x=(((decide (4 < y1)) || ((decide (8 < (p_laws.n:Int))) && (decide ((p_laws.n:Int)<=64)))) || ((decide (20 < (p_l.n:Int))) && (decide ((p_l.n:Int)<=256)))):=⟨_,rfl⟩
 refine S9 hS trivial (B0 hS) 0 ⟨[(37,(pB t1)),(1,(.p (vSl 2 F4 p_l))),(0,(.p (vSl 18 A8 p_laws)))], []⟩ (fun M1 hb1=>?_) ?_
 ·refine A7 hS trivial (b:=decide (4 < y1)) (fun c6=>?_) (fun c6=>?_)
  ·exact hb1 _ [] _ trivial (by kernel_rfl) (by kernel_rfl) (klR [(0, .eq (.bb true) (.bb t1))] (al1 (by simp only [ht1,c6,Leaf.ok,pm,if_true,if_false]) al0))
  ·refine A7 hS trivial (b:=decide (8 < (p_laws.n:Int))) (fun c7=>?_) (fun c7=>?_)
   ·refine A7 hS trivial (b:=decide ((p_laws.n:Int)<=64)) (fun c8=>?_) (fun c8=>?_)
    ·exact hb1 _ [] _ trivial (by kernel_rfl) (by kernel_rfl) (klR [(0, .eq (.bb true) (.bb t1))] (al1 (by simp only [ht1,c6,c7,c8,Leaf.ok,pm,if_true,if_false]) al0))
    ·refine A7 hS trivial (b:=decide (20 < (p_l.n:Int))) (fun c9=>?_) (fun c9=>?_)
     ·exact hb1 _ [] _ trivial (by kernel_rfl) (by kernel_rfl) (klR [(0, .eq (.bb (decide ((p_l.n:Int)<=256))) (.bb t1))] (al1 (by simp only [ht1,c6,c7,c8,c9,Leaf.ok,pm,if_true,if_false]) al0))
     ·exact hb1 _ [] _ trivial (by kernel_rfl) (by kernel_rfl) (klR [(0, .eq (.bb false) (.bb t1))] (al1 (by simp only [ht1,c6,c7,c8,c9,Leaf.ok,pm,if_true,if_false]) al0))
   ·refine A7 hS trivial (b:=decide (20 < (p_l.n:Int))) (fun c10=>?_) (fun c10=>?_)
    ·exact hb1 _ [] _ trivial (by kernel_rfl) (by kernel_rfl) (klR [(0, .eq (.bb (decide ((p_l.n:Int)<=256))) (.bb t1))] (al1 (by simp only [ht1,c6,c7,c10,Leaf.ok,pm,if_true,if_false]) al0))
    ·exact hb1 _ [] _ trivial (by kernel_rfl) (by kernel_rfl) (klR [(0, .eq (.bb false) (.bb t1))] (al1 (by simp only [ht1,c6,c7,c10,Leaf.ok,pm,if_true,if_false]) al0))
 ·subst ht1
  refine A1 hS trivial (b:=(((decide (4 < y1)) || ((decide (8 < (p_laws.n:Int))) && (decide ((p_laws.n:Int)<=64)))) || ((decide (20 < (p_l.n:Int))) && (decide ((p_l.n:Int)<=256))))) (fun c11=>?_) (fun c11=>?_)
  ·replace h:=itT c11 h
   obtain ⟨y2,e2,h⟩:=A4 h
   refine A2 hS [] trivial (Ag0 hS hL e2) ?_
   obtain rfl:=A3 h
   exact B1 hS trivial [] ⟨rfl,rfl,rfl⟩
  ·replace h:=itF c11 h
   obtain ⟨y3,e3,h⟩:=A4 h
   refine A2 hS [] trivial (Bg7 hS hL e3) ?_
   obtain ⟨y4,e4,h⟩:=A4 h
   refine A2 hS [] trivial (BE3 hS hL e4) ?_
   obtain ⟨y5,e5,h⟩:=A4 h
   refine A2 hS [] trivial (Bs5 hS hL e5) ?_
   obtain ⟨y6,e6,h⟩:=A4 h
   refine A2 hS [] trivial (BP5 hS hL e6) ?_
   obtain ⟨y7,e7,h⟩:=A4 h
   refine A2 hS [] trivial (Ar2 hS hL e7) ?_
   refine AH1 hS trivial (B0 hS) h 0 (fun z1=>⟨[(4,(pB z1))], []⟩) (fun M2 k1 hb2 h=>?_) (fun z1 h=>?_)
   ·refine A7 hS trivial (b:=y7) (fun c19=>?_) (fun c19=>?_)
    ·replace h:=itT c19 h
     refine A7 hS trivial (b:=y3.2 == y4.2) (fun c20=>?_) (fun c20=>?_)
     ·replace h:=itT c20 h
      obtain ⟨y10,e10,h⟩:=A4 h
      refine A2 hS [] trivial (Bm0 hS hL e10) ?_
      refine A7 hS trivial (b:=y10) (fun c21=>?_) (fun c21=>?_)
      ·replace h:=itT c21 h
       refine A7 hS trivial (b:=((y5.2.1 == y6.2.1) != false)) (fun c22=>?_) (fun c22=>?_)
       ·replace h:=itT c22 h
        refine A7 hS trivial (b:=y5.2.2 == y6.2.2) (fun c23=>?_) (fun c23=>?_)
        ·replace h:=itT c23 h
         obtain ⟨y11,e11,h⟩:=A4 h
         refine A2 hS [] trivial (Ag0 hS hL e11) ?_
         exact hb2 _ [] _ y11 trivial h
        ·replace h:=itF c23 h
         exact hb2 _ [] _ false trivial h
       ·replace h:=itF c22 h
        exact hb2 _ [] _ false trivial h
      ·replace h:=itF c21 h
       exact hb2 _ [] _ false trivial h
     ·replace h:=itF c20 h
      exact hb2 _ [] _ false trivial h
    ·replace h:=itF c19 h
     exact hb2 _ [] _ false trivial h
   ·obtain rfl:=A3 h
    exact B1 hS trivial [] ⟨rfl,rfl,rfl⟩
end Go.AM
set_option linter.unusedVariables false
namespace Go.AM
open Go.Proofs
theorem Cy4 {A R:Type} {body:(A->Option R)->A->Option R} (I:Nat->A->Prop) (n:Nat) (J1:R->Prop)
 (hstep:∀ self i a,i<=n->I i a->(i < n->∀ a',I (i+1) a' -> ∃ r,self a' = some r/\J1 r)->∃ r,body self a=some r/\J1 r) :
 ∀ (N i:Nat) (a:A),i<=n->I i a->n - i < N->∃ r,Ae3 N body a=some r/\J1 r
 | 0,_,_,_,_,h=>by omega
 | N+1,i,a,hi,hI,h=>by
  rw [R5]
  exact hstep _ i a hi hI fun hlt a' hI'=>Cy4 I n J1 hstep N (i+1) a' hlt hI' (by omega)
theorem Av7 {A R:Type} {body:(A->Option R)->A->Option R} (I:Nat->A->Prop) (n:Nat) (J1:R->Prop) {N:Nat} (hN:n < N) {a:A} (h0:I 0 a)
 (hstep:∀ self i a,i<=n->I i a->(i < n->∀ a',I (i+1) a' -> ∃ r,self a' = some r/\J1 r)->∃ r,body self a=some r/\J1 r):∃ r,Ae3 N body a=some r/\J1 r:=
 Cy4 I n J1 hstep N 0 a (Nat.zero_le _) h0 hN
theorem Aa2 {A B R:Type} {body:(A->B->Option R)->A->B->Option R} (I:Nat->A->B->Prop) (n:Nat) (J1:R->Prop) {N:Nat} (hN:n < N) {a:A} {b:B} (h0:I 0 a b)
 (hstep:∀ self i a b,i<=n->I i a b->(i < n->∀ a' b',I (i+1) a' b' -> ∃ r,self a' b' = some r/\J1 r)->∃ r,body self a b=some r/\J1 r):∃ r,V9 N body a b=some r/\J1 r:=
 Cy4 (fun i x=>I i x.1 x.2) n J1 (fun self i x hi hI h=>hstep (fun a b=>self (a,b)) i x.1 x.2 hi hI fun hl a' b' hI'=>h hl (a',b') hI') N 0 (a,b) (Nat.zero_le _) h0 hN
theorem Cy5 {A B C R:Type} {body:(A->B->C->Option R)->A->B->C->Option R} (I:Nat->A->B->C->Prop) (n:Nat) (J1:R->Prop) {N:Nat} (hN:n < N) {a:A} {b:B} {c:C} (h0:I 0 a b c)
 (hstep:∀ self i a b c,i<=n->I i a b c->(i < n->∀ a' b' c',I (i+1) a' b' c' -> ∃ r,self a' b' c' = some r/\J1 r)->∃ r,body self a b c=some r/\J1 r):∃ r,CN1 N body a b c=some r/\J1 r:=
 Cy4 (fun i x=>I i x.1 x.2.1 x.2.2) n J1 (fun self i x hi hI h=>hstep (fun a b c=>self (a,b,c)) i x.1 x.2.1 x.2.2 hi hI fun hl a' b' c' hI'=>h hl (a',b',c') hI') N 0 (a,b,c) (Nat.zero_le _) h0 hN
theorem B7 {X R:Type} {Q:R->Prop} {o:Option X} {f:X->Option R} {x:X} (h:o=some x) (h2:∃ r,f x=some r/\Q r):∃ r,o.bind f=some r/\Q r:=by subst h;exact h2
theorem ltX {R A:Type} {Q:R->Prop} {k:A->Option R} {f:(A->Option R)->Option R} (h:∃ r,f k=some r/\Q r):∃ r,lt k f=some r/\Q r:=h
theorem ifT {R:Type} {Q:R->Prop} {p:Prop} [Decidable p] {a b:Option R} (h:p) (h2:∃ r,a=some r/\Q r):∃ r,(if p then a else b)=some r/\Q r:=by rw [if_pos h];exact h2
theorem ifF {R:Type} {Q:R->Prop} {p:Prop} [Decidable p] {a b:Option R} (h:¬ p) (h2:∃ r,b=some r/\Q r):∃ r,(if p then a else b)=some r/\Q r:=by rw [if_neg h];exact h2
theorem F2 {n:Int} (h : -9223372036854775808<=n) (h' : n<=9223372036854775807):IntKind.i64.wrap n=n:=by
 by_cases h0:0<=n
 ·have h1:n % (2 ^ 64:Int)=n:=Int.emod_eq_of_lt h0 (by omega)
  unfold IntKind.wrap
  simp only [IntKind.bits,IntKind.signed,h1]
  rw [if_neg]
  simp;omega
 ·have h1:n % (2 ^ 64:Int)=n+2 ^ 64:=by
   rw [<- Int.add_emod_right];exact Int.emod_eq_of_lt (by omega) (by omega)
  unfold IntKind.wrap
  simp only [IntKind.bits,IntKind.signed,h1]
  rw [if_pos]
  ·omega
  ·simp;omega
theorem C7 {i:Nat} (h:i < 1000000000000000000):IntKind.i64.wrap ((i:Int)+1)=((i+1:Nat):Int):=by
 rw [F2 (by omega) (by omega)];rfl
theorem CS8 {i:Nat} (h0:1<=i) (h:i < 1000000000000000000):IntKind.i64.wrap ((i:Int) - 1)=((i - 1:Nat):Int):=by
 rw [F2 (by omega) (by omega)];omega
theorem Am6 {i j:Nat} (h:i+j < 1000000000000000000):IntKind.i64.wrap ((i:Int)+(j:Int))=((i+j:Nat):Int):=by
 rw [F2 (by omega) (by omega)];rfl
theorem BV5 {N n:Nat} (hn:n<=32) (hN:1000<=N):∃ s,Aj8 N (n:Int)=some s/\s.n=n+1/\TabR n (fun a b=>a=b) s.g:=by
 unfold Aj8
 rw [C7 (by omega)]
 refine ifT (by omega) ?_
 refine Aa2 (fun i x1 x2=>x2=(i:Int)/\x1.n=n+1/\∀ a,a < i->x1.g a=U (1#64 <<< a)) (n+1) _ (by omega) ⟨rfl,by show (((n+1:Nat):Int)).toNat=n+1;omega,fun a ha=>absurd ha (by omega)⟩ ?_
 rintro self i x1 x2 hi ⟨rfl,h1,h2⟩ hs
 by_cases hl:i<=n
 ·refine ifT (by simp;omega) (ifT ⟨⟨by omega,by omega,by omega⟩,by omega⟩ (hs (by omega) _ _ ⟨C7 (by omega),h1,fun a ha=>?_⟩))
  show (if a=(i:Int).toNat then shI .shl .u64 1 (i:Int) else x1.g a)=_
  by_cases e:a=i
  ·subst e;rw [if_pos (by omega),BC4 _ (by omega)]
  ·rw [if_neg (by omega)];exact h2 a (by omega)
 ·refine ifF (by simp;omega) ⟨x1,rfl,h1,fun a ha=>⟨1#64 <<< a,h2 a (by omega),fun b hb=>?_⟩⟩
  rw [Ay2 (by omega) hb,decide_eq_true_eq];omega
theorem Cy6 {n:Nat} {f:Nat->Int} (h:∀ a,a<=n->f a=0):TabR n (fun _ _=>False) f:=fun a ha=>⟨0#64,h a ha,fun b hb=>by simp⟩
theorem BV6 {N n:Nat} {R S:Nat->Nat->Prop} {x y:Sl Int} (hn:n<=32) (hN:1000<=N) (hx:x.n=n+1) (hy:y.n=n+1) (hR:TabR n R x.g) (hS:TabR n S y.g) :
 ∃ s,Aj9 N x y=some s/\s.n=n+1/\TabR n (fun a b=>R a b \/ S a b) s.g:=by
 unfold Aj9
 refine ifT (by omega) ?_
 refine Aa2 (fun i x1 x2=>x2=(i:Int)/\x1.n=n+1/\∀ a,a < i->x1.g a=C6 .or .u64 (x.g a) (y.g a)) (n+1) _ (by omega) ⟨rfl,by show ((x.n:Int)).toNat=n+1;omega,fun a ha=>absurd ha (by omega)⟩ ?_
 rintro self i x1 x2 hi ⟨rfl,h1,h2⟩ hs
 by_cases hl:i<=n
 ·refine ifT (by simp;omega) (ifT (by omega) (hs (by omega) _ _ ⟨C7 (by omega),h1,fun a ha=>?_⟩))
  show (if a=(i:Int).toNat then _ else x1.g a)=_
  by_cases e:a=i
  ·subst e;rw [if_pos (by omega),Int.toNat_natCast]
  ·rw [if_neg (by omega)];exact h2 a (by omega)
 ·refine ifF (by simp;omega) ⟨x1,rfl,h1,fun a ha=>?_⟩
  obtain ⟨u,e1,g1⟩:=hR a ha
  obtain ⟨v,e2,g2⟩:=hS a ha
  refine ⟨u ||| v,by rw [h2 a (by omega),e1,e2,CU6],fun b hb=>?_⟩
  rw [BitVec.getLsbD_or,Bool.or_eq_true,g1 b hb,g2 b hb]
  constructor
  ·rintro (⟨h1,h2⟩ | ⟨h1,h2⟩)
   ·exact ⟨h1, .inl h2⟩
   ·exact ⟨h1, .inr h2⟩
  ·rintro ⟨h1,h2 | h2⟩
   ·exact .inl ⟨h1,h2⟩
   ·exact .inr ⟨h1,h2⟩
theorem Cn8 {N n:Nat} {x y:Sl Int} (hn:n<=32) (hN:1000<=N) (hx:x.n=n+1) (hy:y.n=n+1) :
 ∃ b,Al8 N x y=some b/\(b=true ↔ ∀ a,a<=n->x.g a=y.g a):=by
 unfold Al8
 refine Av7 (fun i x1=>x1=(i:Int)/\∀ a,a < i->x.g a=y.g a) (n+1) _ (by omega) ⟨rfl,fun a ha=>absurd ha (by omega)⟩ ?_
 rintro self i x1 hi ⟨rfl,h2⟩ hs
 by_cases hl:i<=n
 ·refine ifT (by simp;omega) (ifT (by omega) ?_)
  rw [Int.toNat_natCast]
  by_cases e:x.g i=y.g i
  ·refine ifF (by simp [e]) (hs (by omega) _ ⟨C7 (by omega),fun a ha=>?_⟩)
   by_cases h:a=i
   ·subst h;exact e
   ·exact h2 a (by omega)
  ·refine ifT (by simp [e]) ⟨false,rfl,by simp;exact ⟨i,hl,e⟩⟩
 ·exact ifF (by simp;omega) ⟨true,rfl,by simp;exact fun a ha=>h2 a (by omega)⟩
theorem Bm1 {N n:Nat} {R S:Nat->Nat->Prop} {x y:Sl Int} (hn:n<=32) (hN:1000<=N) (hx:x.n=n+1) (hy:y.n=n+1) (hR:TabR n R x.g) (hS:TabR n S y.g) :
 ∃ s,U6 N x y=some s/\s.n=n+1/\TabR n (fun a b=>∃ c,c<=n/\R a c/\S c b) s.g:=by
 unfold U6
 refine ifT (by omega) ?_
 let Row (z:BitVec 64) (a j:Nat):Prop:=∀ b,b < 64->(z.getLsbD b=true ↔ b<=n/\∃ c,c < j/\c<=n/\R a c/\S c b)
 refine Aa2 (fun i x1 x2=>x2=(i:Int)/\x1.n=n+1/\(∀ a,a < i->∃ z,x1.g a=U z/\Row z a (n+1))/\∀ a,i<=a->x1.g a=0) (n+1) _ (by omega) ⟨rfl,by show ((x.n:Int)).toNat=n+1;omega,fun a ha=>absurd ha (by omega),fun a _=>rfl⟩ ?_
 rintro self i x1 x2 hi ⟨rfl,h1,h2,h3⟩ hs
 by_cases hl:i<=n
 ·refine ifT (by simp;omega) ?_
  refine Aa2 (fun j x7 x8=>x8=(j:Int)/\x7.n=n+1/\(∀ a,a < i->∃ z,x7.g a=U z/\Row z a (n+1))/\(∃ z,x7.g i=U z/\Row z i j)/\∀ a,i < a->x7.g a=0) (n+1) _ (by omega)
   ⟨rfl,h1,h2,⟨0#64,h3 i (Nat.le_refl _),fun b hb=>by simp⟩,fun a ha=>h3 a (by omega)⟩ ?_
  rintro self2 j x7 x8 hj ⟨rfl,g1,g2,⟨z,g3,g4⟩,g5⟩ hs2
  by_cases hl2:j<=n
  ·refine ifT (by simp;omega) (ifT (by omega) ?_)
   rw [Int.toNat_natCast,Int.toNat_natCast]
   have hbit:=hR.bit hl (b:=j) (by omega)
   by_cases hc:R i j
   ·refine ifT (hbit.2 ⟨hl2,hc⟩) (ifT (by omega) (hs2 (by omega) _ _ ⟨C7 (by omega),g1,fun a ha=>?_, ?_,fun a ha=>?_⟩))
    ·obtain ⟨z',e,hz⟩:=g2 a ha
     exact ⟨z',by show (if a=i then _ else x7.g a)=_;rw [if_neg (by omega)];exact e,hz⟩
    ·obtain ⟨v,e,hv⟩:=hS j hl2
     refine ⟨z ||| v,by show (if i=i then _ else _)=_;rw [if_pos rfl,g3,e,CU6],fun b hb=>?_⟩
     rw [BitVec.getLsbD_or,Bool.or_eq_true,g4 b hb,hv b hb]
     constructor
     ·rintro (⟨k1,c,k2,k3⟩ | ⟨k1,k2⟩)
      ·exact ⟨k1,c,by omega,k3⟩
      ·exact ⟨k1,j,by omega,hl2,hc,k2⟩
     ·rintro ⟨k1,c,k2,k3,k4,k5⟩
      by_cases e:c=j
      ·subst e;exact .inr ⟨k1,k5⟩
      ·exact .inl ⟨k1,c,by omega,k3,k4,k5⟩
    ·show (if a=i then _ else x7.g a)=_
     rw [if_neg (by omega)];exact g5 a ha
   ·refine ifF (fun h=>hc (hbit.1 h).2) (hs2 (by omega) _ _ ⟨C7 (by omega),g1,g2,⟨z,g3,fun b hb=>?_⟩,g5⟩)
    rw [g4 b hb]
    constructor
    ·rintro ⟨k1,c,k2,k3⟩;exact ⟨k1,c,by omega,k3⟩
    ·rintro ⟨k1,c,k2,k3,k4,k5⟩
     by_cases e:c=j
     ·subst e;exact absurd k4 hc
     ·exact ⟨k1,c,by omega,k3,k4,k5⟩
  ·refine ifF (by simp;omega) (hs (by omega) _ _ ⟨C7 (by omega),g1,fun a ha=>?_,fun a ha=>g5 a (by omega)⟩)
   by_cases e:a=i
   ·subst e
    obtain rfl:j=n+1:=by omega
    exact ⟨z,g3,g4⟩
   ·exact g2 a (by omega)
 ·refine ifF (by simp;omega) ⟨x1,rfl,h1,fun a ha=>?_⟩
  obtain ⟨z,e,hz⟩:=h2 a (by omega)
  refine ⟨z,e,fun b hb=>(hz b hb).trans ⟨fun ⟨k1,c,_,k3⟩=>⟨k1,c,k3⟩,fun ⟨k1,c,k3⟩=>⟨k1,c,by omega,k3⟩⟩⟩
end Go.AM
set_option linter.unusedVariables false
namespace Go.AM
open Go.Proofs
def okP:Nat->Pat->Prop
 | 0,_=>False
 | d+1,p=>p.L.n<=40/\(p.Kind=5->p.L.n=1/\0<=p.Min/\p.Min<=32/\(p.Max = -1 \/ (p.Min<=p.Max/\p.Max<=32)))/\∀ i,i < p.L.n->okP d (p.L.g i)
theorem Bg8 (w:Sl Sound) (p:Pat) (a b:Nat):PR w p a b ↔ (if p.Kind=0 then a=b
 else if p.Kind=1 then a < w.n/\b=a+1/\(BN5 (w.g a) p.Is != p.Not)=true
 else if p.Kind=2 then a=0/\b=0
 else if p.Kind=6 then a=w.n/\b=w.n
 else if p.Kind=3 then CD3 w.n (fun i=>PR w (p.L.g i)) p.L.n a b
 else if p.Kind=4 then ∃ i,i < p.L.n/\PR w (p.L.g i) a b
 else if p.Kind=5 then ∃ k:Nat,p.Min<=k/\(p.Max = -1 \/ (k:Int)<=p.Max)/\AD3 w.n (PR w (p.L.g 0)) k a b
 else False):=by
 cases p with
 | nil=>simp [PR,Pat.Kind]
 | mk kind is no mn mx m g=>exact Iff.rfl
def R0 (w:Sl Sound) (p:Pat) (a b:Nat):Prop:=if p.Kind=0 then a=b
 else if p.Kind=1 then a < w.n/\b=a+1/\(BN5 (w.g a) p.Is != p.Not)=true
 else if p.Kind=2 then a=0/\b=0
 else if p.Kind=6 then a=w.n/\b=w.n
 else False
theorem CD4 {n:Nat} {R:Nat->Nat->Prop} (hR:Fwd n R) {mn k:Nat} (hk:mn < k) (h:∀ a b,a<=n->b<=n->AD3 n R k a b->∃ j,mn<=j/\j < k/\AD3 n R j a b) {a:Nat} (ha:a<=n) :
 ∀ m b,mn<=m->AD3 n R m a b->∃ j,mn<=j/\j < k/\AD3 n R j a b
 | 0,b,hm,hp=>⟨0,hm,by omega,hp⟩
 | m+1,b,hm,hp=>by
  by_cases hmk:m+1 < k
  ·exact ⟨m+1,hm,hmk,hp⟩
  ·obtain ⟨c,hc,h1,h2⟩:=hp
   have hb:=(hR c b hc h2).2
   obtain ⟨j,g1,g2,g3⟩:=CD4 hR hk h ha m c (by omega) h1
   by_cases e:j+1 < k
   ·exact ⟨j+1,by omega,e,c,hc,g3,h2⟩
   ·obtain rfl:k=j+1:=by omega
    exact h a b ha hb ⟨c,hc,g3,h2⟩
theorem Bb5 {N:Nat} (hN:1000<=N) {w:Sl Sound} (hw:w.n<=32):∀ (d:Nat) (p:Pat),okP d p->∀ M,N+d<=M->∃ t,Af6 M p w=some t/\t.n=w.n+1/\TabR w.n (PR w p) t.g
 | 0,p,h,M,hM=>h.elim
 | d+1,p,⟨hc,h5,hch⟩,0,hM=>by omega
 | d+1,p,⟨hc,h5,hch⟩,M+1,hM=>by
  have ih:=fun i hi=>Bb5 hN hw d (p.L.g i) (hch i hi) M (by omega)
  show ∃ t,Ad4 (Af6 M) M p w=some t/\_
  unfold Ad4
  rw [C7 (by omega)]
  refine ifT (by omega) ?_
  refine Aa2 (fun i x1 x2=>x2=(i:Int)/\x1.n=w.n+1/\(∀ a,a < i->∃ z:BitVec 64,x1.g a=U z/\∀ b,b < 64->(z.getLsbD b=true ↔ b<=w.n/\R0 w p a b))/\∀ a,i<=a->x1.g a=0) (w.n+1) _ (by omega)
   ⟨rfl,by show (((w.n+1:Nat):Int)).toNat=w.n+1;omega,fun a ha=>absurd ha (by omega),fun _ _=>rfl⟩ ?_
  rintro self i x1 x2 hi ⟨rfl,h1,h2,h3⟩ hs
  have keep:(∀ b,b<=w.n->¬ R0 w p i b)->(∀ a,a < i+1->∃ z:BitVec 64,x1.g a=U z/\∀ b,b < 64->(z.getLsbD b=true ↔ b<=w.n/\R0 w p a b)):=by
   intro h a ha
   by_cases e:a=i
   ·subst e
    exact ⟨0#64,h3 a (Nat.le_refl _),fun b hb=>by simp;exact h b⟩
   ·exact h2 a (by omega)
  have put:∀ (z:BitVec 64) (v:Int),v=U z->(∀ b,b < 64->(z.getLsbD b=true ↔ b<=w.n/\R0 w p i b)) ->
   (∀ a,a < i+1->∃ z:BitVec 64,(x1.upd (i:Int).toNat v).g a=U z/\∀ b,b < 64->(z.getLsbD b=true ↔ b<=w.n/\R0 w p a b))/\∀ a,i+1<=a->(x1.upd (i:Int).toNat v).g a=0:=by
   intro z v hv hz
   refine ⟨fun a ha=>?_,fun a ha=>?_⟩
   ·by_cases e:a=i
    ·subst e;exact ⟨z,by show (if a=(a:Int).toNat then v else _)=_;rw [if_pos (by omega),hv],hz⟩
    ·obtain ⟨z',e1,e2⟩:=h2 a (by omega)
     exact ⟨z',by show (if a=(i:Int).toNat then v else x1.g a)=_;rw [if_neg (by omega)];exact e1,e2⟩
   ·show (if a=(i:Int).toNat then v else x1.g a)=0
    rw [if_neg (by omega)];exact h3 a (by omega)
  by_cases hl:i<=w.n
  ·refine ifT (by simp;omega) ?_
   by_cases k0:p.Kind=0
   ·refine ifT (by simp [k0]) (ifT (by omega) ?_)
    obtain ⟨p1,p2⟩:=put (1#64 <<< i) _ (BC4 i (by omega)) (fun b hb=>by rw [Ay2 (by omega) hb,decide_eq_true_eq];simp only [R0,k0,if_true];omega)
    exact hs (by omega) _ _ ⟨C7 (by omega),h1,p1,p2⟩
   refine ifF (by simp [k0]) ?_
   by_cases k1:p.Kind=1
   ·refine ifT (by simp [k1]) ?_
    have e0:∀ b,R0 w p i b ↔ i < w.n/\b=i+1/\(BN5 (w.g i) p.Is != p.Not)=true:=fun b=>by simp only [R0,k1];simp
    by_cases hlt:i < w.n
    ·refine ifT (by simp;omega) (ifT (by omega) ?_)
     refine B7 (x:=BN5 (w.g i) p.Is) (by rw [Int.toNat_natCast];rfl) ?_
     by_cases hb:BN5 (w.g i) p.Is=p.Not
     ·refine ifF (by simp [hb]) (hs (by omega) _ _ ⟨C7 (by omega),h1,keep fun b _=>?_,fun a ha=>h3 a (by omega)⟩)
      rw [e0];simp [hb]
     ·refine ifT (by simp [hb]) ?_
      rw [C7 (by omega)]
      refine ifT (by omega) ?_
      obtain ⟨p1,p2⟩:=put (1#64 <<< (i+1)) _ (BC4 (i+1) (by omega)) (fun b hb'=>by
       rw [Ay2 (by omega) hb',decide_eq_true_eq,e0]
       have:(BN5 (w.g i) p.Is != p.Not)=true:=by simp [hb]
       simp only [this,and_true];omega)
      exact hs (by omega) _ _ ⟨rfl,h1,p1,p2⟩
    ·refine ifF (by simp;omega) (hs (by omega) _ _ ⟨C7 (by omega),h1,keep fun b _=>?_,fun a ha=>h3 a (by omega)⟩)
     rw [e0];omega
   refine ifF (by simp [k1]) ?_
   by_cases k2:p.Kind=2
   ·refine ifT (by simp [k2]) ?_
    have e0:∀ b,R0 w p i b ↔ i=0/\b=0:=fun b=>by simp only [R0,k2];simp
    by_cases hz:i=0
    ·refine ifT (by simp;omega) (ifT (by omega) ?_)
     obtain ⟨p1,p2⟩:=put 1#64 _ CS6 (fun b hb'=>by rw [BN4,decide_eq_true_eq,e0];omega)
     exact hs (by omega) _ _ ⟨C7 (by omega),h1,p1,p2⟩
    ·refine ifF (by simp;omega) (hs (by omega) _ _ ⟨C7 (by omega),h1,keep fun b _=>?_,fun a ha=>h3 a (by omega)⟩)
     rw [e0];omega
   refine ifF (by simp [k2]) ?_
   by_cases k6:p.Kind=6
   ·refine ifT (by simp [k6]) ?_
    have e0:∀ b,R0 w p i b ↔ i=w.n/\b=w.n:=fun b=>by simp only [R0,k6];simp
    by_cases hz:i=w.n
    ·refine ifT (by simp;omega) (ifT (by omega) ?_)
     obtain ⟨p1,p2⟩:=put (1#64 <<< i) _ (BC4 i (by omega)) (fun b hb=>by rw [Ay2 (by omega) hb,decide_eq_true_eq,e0];omega)
     exact hs (by omega) _ _ ⟨C7 (by omega),h1,p1,p2⟩
    ·refine ifF (by simp;omega) (hs (by omega) _ _ ⟨C7 (by omega),h1,keep fun b _=>?_,fun a ha=>h3 a (by omega)⟩)
     rw [e0];omega
   ·refine ifF (by simp [k6]) (hs (by omega) _ _ ⟨C7 (by omega),h1,keep fun b _=>?_,fun a ha=>h3 a (by omega)⟩)
    simp [R0,k0,k1,k2,k6]
  ·refine ifF (by simp;omega) ?_
   have t0:TabR w.n (R0 w p) x1.g:=fun a ha=>h2 a (by omega)
   by_cases k3:p.Kind=3
   ·refine ifT (by simp [k3]) ?_
    obtain ⟨s,es,hs1,hs2⟩:=BV5 (N:=M) hw (by omega)
    refine B7 es ?_
    refine Aa2 (fun i (x3:Sl Int) x4=>x4=(i:Int)/\x3.n=w.n+1/\TabR w.n (CD3 w.n (fun i=>PR w (p.L.g i)) i) x3.g) p.L.n _ (by omega) ⟨rfl,hs1,hs2.congr fun a b _ _=>Iff.rfl⟩ ?_
    rintro self2 j x3 x4 hj ⟨rfl,g1,g2⟩ hs3
    by_cases hl2:j < p.L.n
    ·obtain ⟨t,et,ht1,ht2⟩:=ih j hl2
     refine ifT (by simp;omega) (ifT (by omega) (B7 (by rw [Int.toNat_natCast];exact et) ?_))
     obtain ⟨f,ef,hf1,hf2⟩:=Bm1 (N:=M) hw (by omega) g1 ht1 g2 ht2
     exact B7 ef (hs3 hl2 _ _ ⟨C7 (by omega),hf1,hf2⟩)
    ·obtain rfl:j=p.L.n:=by omega
     exact ifF (by simp) ⟨x3,rfl,g1,g2.congr fun a b _ _=>by rw [Bg8];simp [k3]⟩
   refine ifF (by simp [k3]) ?_
   by_cases k4:p.Kind=4
   ·refine ifT (by simp [k4]) ?_
    refine Aa2 (fun i x3 x4=>x4=(i:Int)/\x3.n=w.n+1/\TabR w.n (fun a b=>∃ q,q < i/\PR w (p.L.g q) a b) x3.g) p.L.n _ (by omega) ⟨rfl,h1,t0.congr fun a b _ _=>by simp [R0,k4]⟩ ?_
    rintro self2 j x3 x4 hj ⟨rfl,g1,g2⟩ hs3
    by_cases hl2:j < p.L.n
    ·obtain ⟨t,et,ht1,ht2⟩:=ih j hl2
     refine ifT (by simp;omega) (ifT (by omega) (B7 (by rw [Int.toNat_natCast];exact et) ?_))
     obtain ⟨f,ef,hf1,hf2⟩:=BV6 (N:=M) hw (by omega) g1 ht1 g2 ht2
     refine B7 ef (hs3 hl2 _ _ ⟨C7 (by omega),hf1,hf2.congr fun a b _ _=>⟨?_, ?_⟩⟩)
     ·rintro (⟨q,h1,h2⟩ | h)
      ·exact ⟨q,by omega,h2⟩
      ·exact ⟨j,by omega,h⟩
     ·rintro ⟨q,h1,h2⟩
      by_cases e:q=j
      ·subst e;exact .inr h2
      ·exact .inl ⟨q,by omega,h2⟩
    ·obtain rfl:j=p.L.n:=by omega
     exact ifF (by simp) ⟨x3,rfl,g1,g2.congr fun a b _ _=>by rw [Bg8];simp [k4]⟩
   refine ifF (by simp [k4]) ?_
   by_cases k5:p.Kind=5
   ·obtain ⟨hn1,hm0,hm1,hmx⟩:=h5 k5
    refine ifT (by simp [k5]) (ifT (by omega) ?_)
    obtain ⟨one,eo,ho1,ho2⟩:=ih 0 (by omega)
    obtain ⟨s,es,hs1,hs2⟩:=BV5 (N:=M) hw (by omega)
    refine B7 eo (B7 es ?_)
    have hF:=BC7 w (p.L.g 0)
    have fin:∀ (t:Sl Int) (k:Nat),t.n=w.n+1->TabR w.n (fun a b=>∃ j:Nat,p.Min<=j/\j < k/\AD3 w.n (PR w (p.L.g 0)) j a b) t.g ->
     (∀ a b,a<=w.n->b<=w.n->((∃ j:Nat,p.Min<=j/\j < k/\AD3 w.n (PR w (p.L.g 0)) j a b) ↔ ∃ j:Nat,p.Min<=j/\(p.Max = -1 \/ (j:Int)<=p.Max)/\AD3 w.n (PR w (p.L.g 0)) j a b)) ->
     ∃ r,some t=some r/\r.n=w.n+1/\TabR w.n (PR w p) r.g:=by
     intro t k e1 e2 e3
     exact ⟨t,rfl,e1,e2.congr fun a b ha hb=>(e3 a b ha hb).trans (by rw [Bg8];simp [k5])⟩
    refine Cy5 (fun k (x8 x9:Sl Int) x10=>x10=(k:Int)/\x8.n=w.n+1/\x9.n=w.n+1/\TabR w.n (fun a b=>∃ j:Nat,p.Min<=j/\j < k/\AD3 w.n (PR w (p.L.g 0)) j a b) x8.g/\TabR w.n (AD3 w.n (PR w (p.L.g 0)) k) x9.g/\(p.Max = -1 \/ (k:Int)<=p.Max)) 33 _ (by omega)
     ⟨rfl,h1,hs1,t0.congr fun a b _ _=>by simp [R0,k5],hs2.congr fun a b _ _=>Iff.rfl,by omega⟩ ?_
    rintro self2 k x8 x9 x10 hk ⟨rfl,g1,g2,g3,g4,g5⟩ hs3
    obtain ⟨f,ef,hf1,hf2⟩:=Bm1 (N:=M) hw (by omega) g2 ho1 g4 ho2
    have next:TabR w.n (AD3 w.n (PR w (p.L.g 0)) (k+1)) f.g:=hf2
    by_cases hmin:p.Min<=(k:Int)
    ·refine ifT (by simpa using hmin) ?_
     obtain ⟨j,ej,hj1,hj2⟩:=BV6 (N:=M) hw (by omega) g1 g2 g3 g4
     have hj3:TabR w.n (fun a b=>∃ j:Nat,p.Min<=j/\j < k+1/\AD3 w.n (PR w (p.L.g 0)) j a b) j.g:=hj2.congr fun a b _ _=>by
      constructor
      ·rintro (⟨q,h1,h2,h3⟩ | h)
       ·exact ⟨q,h1,by omega,h3⟩
       ·exact ⟨k,hmin,by omega,h⟩
      ·rintro ⟨q,h1,h2,h3⟩
       by_cases e:q=k
       ·subst e;exact .inr h3
       ·exact .inl ⟨q,h1,by omega,h3⟩
     refine B7 ej (ltX ?_)
     by_cases hmaxk:(k:Int)=p.Max
     ·refine ifT (by simp [hmaxk]) (ifT rfl (fin j (k+1) hj1 hj3 fun a b _ _=>⟨?_, ?_⟩))
      ·rintro ⟨q,h1,h2,h3⟩;exact ⟨q,h1, .inr (by omega),h3⟩
      ·rintro ⟨q,h1,h2,h3⟩;exact ⟨q,h1,by omega,h3⟩
     ·refine ifF (by simp [hmaxk]) ?_
      by_cases hgt:p.Min < (k:Int)
      ·refine ifT (by simpa using hgt) ?_
       obtain ⟨b,eb,hb⟩:=Cn8 (N:=M) (x:=x8) (y:=j) hw (by omega) g1 hj1
       refine B7 eb ?_
       by_cases hbt:b=true
       ·refine ifT hbt (fin j (k+1) hj1 hj3 fun a b ha hb'=>⟨?_, ?_⟩)
        ·rintro ⟨q,h1,h2,h3⟩;exact ⟨q,h1,by omega,h3⟩
        ·rintro ⟨q,h1,h2,h3⟩
         have heq:=hb.1 hbt
         obtain ⟨q',k1,k2,k3⟩:=CD4 hF (mn:=p.Min.toNat) (k:=k) (by omega) (fun a b ha hb' hp=>by
          have e1:=hj3.bit ha (b:=b) (by omega)
          have e2:=g3.bit ha (b:=b) (by omega)
          rw [<- heq a ha] at e1
          obtain ⟨_,q,k1,k2,k3⟩:=e2.1 (e1.2 ⟨hb',k,hmin,by omega,hp⟩)
          exact ⟨q,by omega,k2,k3⟩) ha q b (by omega) h3
         exact ⟨q',by omega,by omega,k3⟩
       ·refine ifF hbt (B7 ef ?_)
        have hk33:k < 33:=by
         refine Nat.lt_of_le_of_ne hk fun e=>hbt (hb.2 fun a ha=>?_)
         subst e
         refine g3.uniq (hj3.congr fun a b ha hb'=>⟨?_, ?_⟩) ha
         ·rintro ⟨q,h1,h2,h3⟩
          by_cases e:q=33
          ·subst e;exact ⟨32,by omega,by omega,BC5 hF ha hw h3⟩
          ·exact ⟨q,h1,by omega,h3⟩
         ·rintro ⟨q,h1,h2,h3⟩;exact ⟨q,h1,by omega,h3⟩
        exact hs3 hk33 _ _ _ ⟨C7 (by omega),hj1,hf1,hj3,next,by omega⟩
      ·refine ifF (by simpa using hgt) (ifF (by simp) (B7 ef (hs3 (by omega) _ _ _ ⟨C7 (by omega),hj1,hf1,hj3,next,by omega⟩)))
    ·refine ifF (by simpa using hmin) (B7 ef (hs3 (by omega) _ _ _ ⟨C7 (by omega),g1,hf1,g3.congr fun a b _ _=>⟨?_, ?_⟩,next,by omega⟩))
     ·rintro ⟨q,h1,h2,h3⟩;omega
     ·rintro ⟨q,h1,h2,h3⟩;omega
   ·refine ifF (by simp [k5]) ⟨x1,rfl,h1,t0.congr fun a b _ _=>?_⟩
    rw [Bg8]
    simp [R0,k3,k4,k5]
end Go.AM
