/- What a law's walk and its plain proof need, part 6: no condition of its own. -/
import Derived.Test.YtfcfdofmgkpmbaaGreatDoorOE
import Derived.Test.YtfcfdofmgkpmbaaGreatDoorOD
set_option linter.unusedSimpArgs false
set_option linter.unusedVariables false
set_option linter.unusedSectionVars false
namespace Go.AM
open IntKind (wrap)
open Go.Proofs
set_option maxRecDepth 10000
set_option maxHeartbeats 2000000
variable {S:AD}(hS:H2 S Tryz.prog) (hL:PF S)
include hS hL
def Cj (N:Nat)(a:Str):Option Bool:=
 lt (fun (z1:Bool)=>
  some z1
  ) fun k1=>
  if ((a==[]) != true) then
   if (decide ((a.length:Int)<=24)) then
    (Er N a [97,98,99,100,101,102,103,104,105,106,107,108,109,110,111,112,113,114,115,116,117,118,119,120,121,122,65,66,67,68,69,70,71,72,73,74,75,76,77,78,79,80,81,82,83,84,85,86,87,88,89,90,48,49,50,51,52,53,54,55,56,57,45]).bind fun y2=>
    k1 ((y2==[]) != false)
   else
    k1 false
  else
   k1 false
theorem VB {N:Nat}{b:Str}{y:Bool}(h:Cj N b=some y) :FunO S MQ [.p (.str b)] [] (pB y) ([]) []:=by
 unfold Cj at h;refine A2 hS Tryz.func121 ?_;refine JM hS trivial (A6 hS) h 0 (fun z1=>⟨[(2,pB z1)],[]⟩) (fun M1 k1 a h=>?_) (fun z1 h=>?_)
 ·refine kG hS h (fun h=>?_) (fun h=>?_)
  ·refine kG hS h (fun h=>?_) (fun h=>?_)
   ·refine kC hS h (Oy hS hL) (fun y2 h=>?_);exact a _ [] _ ((y2==[]) != false) trivial h
   ·exact a _ [] _ false trivial h
  ·exact a _ [] _ false trivial h
 ·cases h;exact kR hS
def V5 (N:Nat)(p_x:Bs)(a:Int):Option Bool:=
 lt (fun (z1:Bool)=>
  if z1 then
   some false
  else
   if ((((C9 .andNot .u32 (C9 .or .u32 p_x.Clear p_x.Take) 16777215) != 0)||((C9 .and .u32 p_x.Clear (C9 .or .u32 p_x.Set.Plus p_x.Set.Minus)) != 0))||((C9 .and .u32 p_x.Take (C9 .or .u32 (C9 .or .u32 p_x.Set.Plus p_x.Set.Minus) p_x.Clear)) != 0)) then
    some false
   else
    if (p_x.Take==0) then
     some (p_x.Of==0)
    else
     some ((decide (0<=p_x.Of))&&(decide (p_x.Of<a)))
  ) fun k1=>
  if (decide (p_x.From<(-1))) then
   k1 true
  else
   if (decide (a<=p_x.From)) then
    k1 true
   else
    (G6 N p_x.Set).bind fun y2=>
    k1 (!y2)
theorem YH {N:Nat}{p_x:Bs}{b:Int}{y:Bool}(h:V5 N p_x b=some y) :FunO S Px [.p (.agg (Q7 p_x)),pN b] [] (pB y) ([]) []:=by
 unfold V5 at h;refine A2 hS Tryz.func118 ?_;refine JM hS trivial (A6 hS) h 0 (fun z1=>⟨[(13,pB z1),(5,pU (C9 .or .u32 p_x.Set.Plus p_x.Set.Minus)),(2,.reg 3000 0),(1,pN b)],[(3000,.cells ((Q7 p_x).map .p))]⟩) (fun M1 k1 c h=>?_) (fun z1 h=>?_)
 ·refine kG hS h (fun h=>?_) (fun h=>?_)
  ·exact c _ [(3000,3000)] _ true trivial h
  ·refine kG hS h (fun h=>?_) (fun h=>?_)
   ·exact c _ [(3000,3000)] _ true trivial h
   ·refine kC hS h (Q9 hS hL) (fun y2 h=>?_);exact c _ [(3000,3000)] _ (!y2) trivial h
 ·refine kI hS h ?_ ?_<;>intro h
  ·cases h;exact kR hS
  ·refine kB hS (A6 hS) trivial trivial 16 (.o (.o (.a ((C9 .andNot .u32 (C9 .or .u32 p_x.Clear p_x.Take) 16777215) != 0)) (.a ((C9 .and .u32 p_x.Clear (C9 .or .u32 p_x.Set.Plus p_x.Set.Minus)) != 0))) (.a ((C9 .and .u32 p_x.Take (C9 .or .u32 (C9 .or .u32 p_x.Set.Plus p_x.Set.Minus) p_x.Clear)) != 0))) ?_;refine kI hS h ?_ ?_<;>intro h
   ·cases h;exact kR hS
   ·refine kI hS h ?_ ?_<;>intro h
    ·cases h;exact kR hS
    ·refine kB hS (A6 hS) trivial trivial 5 (.n (.a (decide (0<=p_x.Of))) (.a (decide (p_x.Of<b)))) ?_;cases h;exact kR hS
def Ak (N:Nat)(p_x:Bs)(q0:Int):Option Bool:=
 (V5 N p_x q0).bind fun y1=>
 some (!y1)
theorem Rf {N:Nat}{p_x:Bs}{q0:Int}{y:Bool}(h:Ak N p_x q0=some y) :FunO S Jb [.p (.agg (Q7 p_x)),.reg 0 0] [.cells [pN q0]] (pB y) ([.cells [pN q0]]) [true]:=by unfold Ak at h;refine A2 hS Tryz.func117 ?_;refine kC hS h (YH hS hL) (fun y1 h=>?_);obtain rfl:=C4 h;exact A9 hS trivial ⟨[(3,pB (!y1))],[(0,.cells [pN q0])]⟩ [0] (ids:=[(0,0)]) ⟨rfl,rfl,rfl⟩
def Al (N:Nat)(a:Sound):Option Bool:=
 (G6 N a).bind fun y1=>
 some (!y1)
theorem Rg {N:Nat}{a:Sound}{y:Bool}(h:Al N a=some y) :FunO S Jc [.p (.agg (A0 a))] [] (pB y) ([]) []:=by unfold Al at h;refine A2 hS Tryz.func119 ?_;refine kC hS h (Q9 hS hL) (fun y1 h=>?_);cases h;exact kR hS
def E6 (N:Nat)(a:Sl Bs)(c:Bs->Option Bool):Option Int:=
 V9 N (fun b (x1:Int)=>
  if (decide (x1<(a.n:Int))) then
   if ((0:Int)<=x1/\x1<(a.n:Int))then
    (c (a.g x1.toNat)).bind fun y3=>
    if y3 then
     some x1
    else
     b (wrap .i64 (x1+1))
   else none
  else
   some (-1)
  ) 0
theorem Az {N:Nat}{c:Sl Bs}{d:Bs->Option Bool}{a:Int}{kp_f:Nat}(f:∀{a0:Bs}{b:Bool},d a0=some b->FunO S kp_f [.p (.agg (Q7 a0)),.reg 0 0] [.cells [pN a]] (pB b) [.cells [pN a]] [true]){y:Int}(h:E6 N c d=some y) :FunO S N9 [.p (vSl 6 Q7 c),.clo kp_f [] [.reg 0 0]] [.cells [pN a]] (pN y) ([.cells [pN a]]) [true]:=by
 unfold E6 at h;refine A2 hS Tryz.func151 ?_;refine N7 hS trivial h (fun x1=>⟨[(8,pN x1),(7,pN (c.n:Int)),(1,.clo kp_f [] [.reg 0 0]),(0,.p (vSl 6 Q7 c))],[(0,.cells [pN a])]⟩) (ids:=[(0,0)]) (fun _ _ _ _ _ g x1 i h=>?_);refine kI hS h ?_ ?_<;>intro h
 ·obtain⟨c8,h⟩:=F4 h;obtain⟨y3,e3,h⟩:=B9 h;refine B7 hS [0] (And.intro c8 (by decide:(6:Nat)<=6)) (f e3) ?_;refine kI hS h ?_ ?_<;>intro h
  ·obtain rfl:=C4 h;exact A9 hS trivial ⟨[(4,pN x1)],[(0,.cells [pN a])]⟩ [0] (ids:=[(0,0)]) ⟨rfl,rfl,rfl⟩
  ·exact i _ [(0,0)] _ (wrap .i64 (x1+1)) trivial h
 ·obtain rfl:=C4 h;exact A9 hS trivial ⟨[(4,pN (-1))],[(0,.cells [pN a])]⟩ [0] (ids:=[(0,0)]) ⟨rfl,rfl,rfl⟩
def C6 (N:Nat)(a:Sl Bs)(b:Bs->Option Bool):Option Bool:=
 (E6 N a b).bind fun y1=>
 some (decide (0<=y1))
theorem X0 {N:Nat}{c:Sl Bs}{d:Bs->Option Bool}{a:Int}{kp_f:Nat}(f:∀{a0:Bs}{b:Bool},d a0=some b->FunO S kp_f [.p (.agg (Q7 a0)),.reg 0 0] [.cells [pN a]] (pB b) [.cells [pN a]] [true]){y:Bool}(h:C6 N c d=some y) :FunO S J6 [.p (vSl 6 Q7 c),.clo kp_f [] [.reg 0 0]] [.cells [pN a]] (pB y) ([.cells [pN a]]) [true]:=by unfold C6 at h;refine A2 hS Tryz.func124 ?_;obtain⟨y1,e1,h⟩:=B9 h;refine B7 hS [0] trivial (Az hS hL (fun e=>f e) e1) ?_;obtain rfl:=C4 h;exact A9 hS trivial ⟨[(4,pB (decide (0<=y1)))],[(0,.cells [pN a])]⟩ [0] (ids:=[(0,0)]) ⟨rfl,rfl,rfl⟩
def T8 (N:Nat)(a:Law):Option Int:=
 (Cj N a.Name).bind fun y1=>
 if (!y1) then
  some 17
 else
  (Y2 N a.Left).bind fun y2=>
  if (y2 != 0) then
   some 17
  else
   (Y2 N a.Right).bind fun y3=>
   if (y3 != 0) then
    some 17
   else
    if (decide (4<(a.If.n:Int))) then
     some 17
    else
     if (decide (6<(a.Out.n:Int))) then
      some 17
     else
      if ((wrap .i64 ((a.If.n:Int)+(a.Out.n:Int)))==0) then
       some 17
      else
       if ((decide (a.Mode<1))||(decide (3<a.Mode))) then
        some 17
       else
        (B3 N a.If (fun (u1:Sound)=>Al N u1)).bind fun y4=>
        if y4 then
         some 17
        else
         (C6 N a.Out (fun (u2:Bs)=>Ak N u2 (a.If.n:Int))).bind fun y5=>
         if y5 then
          some 17
         else
          some 0
theorem FB {N:Nat}{c:Law}{y:Int}(h:T8 N c=some y) :FunO S ML [.p (.agg (B4 c))] [] (pN y) ([]) []:=by
 unfold T8 at h;refine A2 hS Tryz.func87 ?_;refine kC hS h (VB hS hL) (fun y1 h=>?_);refine E4 hS trivial (b:=!y1) (fun c1=>?_) (fun c1=>?_)
 ·replace h:=itT c1 h;refine E4 hS trivial (b:=!y1) (fun c2=>?_) (fun c2=>?_)
  ·cases h;exact kR hS
  ·exact Bool.noConfusion (c1.symm.trans c2)
 ·replace h:=itF c1 h;refine kC hS h (GH hS hL) (fun y2 h=>?_);refine E4 hS trivial (b:=y2 != 0) (fun c3=>?_) (fun c3=>?_)
  ·replace h:=itT c3 h;refine E4 hS trivial (b:=y2 != 0) (fun c4=>?_) (fun c4=>?_)
   ·cases h;exact kR hS
   ·exact Bool.noConfusion (c3.symm.trans c4)
  ·replace h:=itF c3 h;refine kC hS h (GH hS hL) (fun y3 h=>?_);refine E4 hS trivial (b:=y3 != 0) (fun c5=>?_) (fun c5=>?_)
   ·replace h:=itT c5 h;refine E4 hS trivial (b:=y3 != 0) (fun c6=>?_) (fun c6=>?_)
    ·cases h;exact kR hS
    ·exact Bool.noConfusion (c5.symm.trans c6)
   ·replace h:=itF c5 h;refine E4 hS trivial (b:=decide (4<(c.If.n:Int))) (fun c7=>?_) (fun c7=>?_)
    ·replace h:=itT c7 h;refine E4 hS trivial (b:=decide (4<(c.If.n:Int))) (fun c8=>?_) (fun c8=>?_)
     ·cases h;exact kR hS
     ·exact Bool.noConfusion (c7.symm.trans c8)
    ·replace h:=itF c7 h;refine E4 hS trivial (b:=decide (6<(c.Out.n:Int))) (fun c9=>?_) (fun c9=>?_)
     ·replace h:=itT c9 h;refine E4 hS trivial (b:=decide (6<(c.Out.n:Int))) (fun c10=>?_) (fun c10=>?_)
      ·cases h;exact kR hS
      ·exact Bool.noConfusion (c9.symm.trans c10)
     ·replace h:=itF c9 h;refine E4 hS trivial (b:=(wrap .i64 ((c.If.n:Int)+(c.Out.n:Int)))==0) (fun c11=>?_) (fun c11=>?_)
      ·replace h:=itT c11 h;refine E4 hS trivial (b:=(wrap .i64 ((c.If.n:Int)+(c.Out.n:Int)))==0) (fun c12=>?_) (fun c12=>?_)
       ·cases h;exact kR hS
       ·exact Bool.noConfusion (c11.symm.trans c12)
      ·replace h:=itF c11 h;refine kB hS (A6 hS) trivial trivial 4 (.o (.a (decide (c.Mode<1))) (.a (decide (3<c.Mode)))) ?_;refine E4 hS trivial (b:=(decide (c.Mode<1))||(decide (3<c.Mode))) (fun c13=>?_) (fun c13=>?_)
       ·replace h:=itT c13 h;refine E4 hS trivial (b:=(decide (c.Mode<1))||(decide (3<c.Mode))) (fun c14=>?_) (fun c14=>?_)
        ·cases h;exact kR hS
        ·exact Bool.noConfusion (c13.symm.trans c14)
       ·replace h:=itF c13 h;refine kC hS h (I6 hS hL (fun e=>Rg hS hL e)) (fun y4 h=>?_);refine E4 hS trivial (b:=y4) (fun c15=>?_) (fun c15=>?_)
        ·replace h:=itT c15 h;refine E4 hS trivial (b:=y4) (fun c16=>?_) (fun c16=>?_)
         ·cases h;exact kR hS
         ·exact Bool.noConfusion (c15.symm.trans c16)
        ·replace h:=itF c15 h;obtain⟨y5,e5,h⟩:=B9 h;refine B7 hS [4000] trivial (X0 hS hL (fun e=>Rf hS hL e) e5) ?_;refine kI hS h ?_ ?_<;>intro h
         ·cases h;exact kR hS
         ·cases h;exact kR hS
def FC (N:Nat)(a:Law)(b:Sl Sound):Option Int:=
 (T8 N a).bind fun y1=>
 if (y1 != 0) then
  some y1
 else
  (T3 N b).bind fun y2=>
  some y2
theorem VC {N:Nat}{a:Law}{b:Sl Sound}{y:Int}(h:FC N a b=some y) :FunO S MY [.p (.agg (B4 a)),.p (vSl 2 A0 b)] [] (pN y) ([]) []:=by
 unfold FC at h;refine A2 hS Tryz.func189 ?_;refine kC hS h (FB hS hL) (fun y1 h=>?_);refine kI hS h ?_ ?_<;>intro h
 ·cases h;exact kR hS
 ·refine kC hS h (Ee hS hL) (fun y2 h=>?_);cases h;exact kR hS
def V6 (N:Nat)(a:Int)(q0:Law)(q1:Sl Sound):Option Bool:=
 (BL N q0.Left q1 a).bind fun y1=>
 if ((y1.1.n:Int)==0) then
  some false
 else
  (DF N q0.Right q1 (wrap .i64 (a+(q0.If.n:Int)))).bind fun y2=>
  some (decide (0<(y2.1.n:Int)))
theorem OE {N:Nat}{a:Int}{q0:Law}{q1:Sl Sound}{y:Bool}(h:V6 N a q0 q1=some y) :FunO S V4 [pN a,.reg 0 0,.reg 1 0] [.cells ((B4 q0).map .p),.cells [.p (vSl 2 A0 q1)]] (pB y) ([.cells ((B4 q0).map .p),.cells [.p (vSl 2 A0 q1)]]) [true,true]:=by
 unfold V6 at h;refine A2 hS Tryz.func217 ?_;refine kC hS h (Re hS hL) (fun y1 h=>?_);refine kI hS h ?_ ?_<;>intro h
 ·obtain rfl:=C4 h;exact A9 hS trivial ⟨[(4,pB false)],[(1,.cells [.p (vSl 2 A0 q1)]),(0,.cells ((B4 q0).map .p))]⟩ [0,1] (ids:=[(0,0),(1,1)]) ⟨rfl,rfl,rfl⟩
 ·refine kC hS h (VA hS hL) (fun y2 h=>?_);obtain rfl:=C4 h;exact A9 hS trivial ⟨[(4,pB (decide (0<(y2.1.n:Int))))],[(1,.cells [.p (vSl 2 A0 q1)]),(0,.cells ((B4 q0).map .p))]⟩ [0,1] (ids:=[(0,0),(1,1)]) ⟨rfl,rfl,rfl⟩
def GJ (N:Nat)(a:Law)(b:Sl Sound):Option (Law×(Sl Sound)):=
 some (a,b)
theorem Tm {N:Nat}{a:Law}{b:Sl Sound}{y:Law×(Sl Sound)}(h:GJ N a b=some y) :FunO S KW [.p (.agg (B4 a)),.p (vSl 2 A0 b)] [] (.clo V4 [] [.reg 0 0,.reg 1 0]) ([.cells ((B4 y.1).map .p),.cells [.p (vSl 2 A0 y.2)]]) []:=by unfold GJ at h;refine A2 hS Tryz.func208 ?_;obtain rfl:=C4 h;exact A9 hS trivial ⟨[(4,.clo V4 [] [.reg 3000 0,.reg 4000 0])],[(4000,.cells [.p (vSl 2 A0 b)]),(3000,.cells ((B4 a).map .p))]⟩ [3000,4000] (ids:=[(3000,3000),(4000,4000)]) ⟨rfl,rfl,rfl⟩
def O3 (N:Nat)(a:Law)(b:Sl Sound):Option (Sl Sound):=
 P4 N (fun c (x1:Sl Sound) (x2:Int)=>
  if (decide (x2<(a.Out.n:Int))) then
   if ((0:Int)<=x2/\x2<(a.Out.n:Int))then
    if ((decide (0<=(a.Out.g x2.toNat).From))=true->((0:Int)<=(a.Out.g x2.toNat).From/\(a.Out.g x2.toNat).From<(b.n:Int)))then
     (O8 N (⟨(if (decide (0<=(a.Out.g x2.toNat).From)) then (b.g (a.Out.g x2.toNat).From.toNat).Plus else 0),(if (decide (0<=(a.Out.g x2.toNat).From)) then (b.g (a.Out.g x2.toNat).From.toNat).Minus else 0)⟩:Sound) (a.Out.g x2.toNat).Clear (a.Out.g x2.toNat).Set).bind fun y5=>
     if ((a.Out.g x2.toNat).Take != 0) then
      if ((0:Int)<=(a.Out.g x2.toNat).Of/\(a.Out.g x2.toNat).Of<(b.n:Int))then
       (T2 N y5.1 (b.g (a.Out.g x2.toNat).Of.toNat) (a.Out.g x2.toNat).Take).bind fun y6=>
       if ((x1.n+(Sl.of [y6.1]:Sl Sound).n)*8<=140737488355328/\x1.n+(Sl.of [y6.1]:Sl Sound).n<=140737488355328)then
        c (x1.push y6.1) (wrap .i64 (x2+1))
       else none
      else none
     else
      if ((x1.n+(Sl.of [y5.1]:Sl Sound).n)*8<=140737488355328/\x1.n+(Sl.of [y5.1]:Sl Sound).n<=140737488355328)then
       c (x1.push y5.1) (wrap .i64 (x2+1))
      else none
    else none
   else none
  else
   some x1
  ) (Sl.nil:Sl Sound) 0
theorem Tn {N:Nat}{d:Law}{a:Sl Sound}{y:Sl Sound}(h:O3 N d a=some y) :FunO S SY [.p (.agg (B4 d)),.p (vSl 2 A0 a)] [] (.p (vSl 2 A0 y)) ([]) []:=by
 unfold O3 at h;refine A2 hS Tryz.func199 ?_;refine I7 hS trivial 4 3000 (B4 d) ?_;refine I4 hS trivial h (fun x1 x2=>⟨[(12,pN x2),(11,pN (d.Out.n:Int)),(10,.p (vSl 6 Q7 d.Out)),(5,.vec 6500),(1,.p (vSl 2 A0 a))],[(6500,.vec D2 2 x1.n (fun i=>A0 (x1.g i)) false)]⟩) (ids:=[]) (fun _ _ _ _ _ o x1 x2 l h=>?_);refine kI hS h ?_ ?_<;>intro h
 ·obtain⟨c16,h⟩:=F4 h;refine I7 hS (And.intro c16 (by decide:(6:Nat)<=6)) 8 8000 (Q7 (d.Out.g x2.toNat)) ?_;obtain⟨c18,h⟩:=F4 h;obtain⟨t5,f⟩:∃x:Int,x=(if (decide (0<=(d.Out.g x2.toNat).From)) then (a.g (d.Out.g x2.toNat).From.toNat).Plus else 0):=⟨_,rfl⟩;obtain⟨t6,j⟩:∃x:Int,x=(if (decide (0<=(d.Out.g x2.toNat).From)) then (a.g (d.Out.g x2.toNat).From.toNat).Minus else 0):=⟨_,rfl⟩;refine UO hS trivial (A6 hS) 0 ⟨[(12,pN x2),(11,pN (d.Out.n:Int)),(10,.p (vSl 6 Q7 d.Out)),(8,.reg 9000 0),(7,.p (.ptr (Q7 (d.Out.g x2.toNat)))),(5,.vec 6500),(1,.p (vSl 2 A0 a))],[(9000,.cells [pU t5,pU t6]),(6500,.vec D2 2 x1.n (fun i=>A0 (x1.g i)) false)]⟩ (fun M3 m=>?_) ?_
  ·refine E4 hS trivial (b:=decide (0<=(d.Out.g x2.toNat).From)) (fun c19=>?_) (fun c19=>?_)
   ·exact m _ [(6500,6500),(9000,9000)] _ (And.intro (c18 c19) (by decide:(2:Nat)<=2)) (hle:=klR [(5,.eq (pI .u32 (a.g (d.Out.g x2.toNat).From.toNat).Plus) (pI .u32 t5)),(6,.eq (pI .u32 (a.g (d.Out.g x2.toNat).From.toNat).Minus) (pI .u32 t6))] (al1 (by simp only[f,j,c19,Leaf.ok,pm,if_true,if_false]) (al1 (by simp only[f,j,c19,Leaf.ok,pm,if_true,if_false]) al0)))
   ·exact m _ [(6500,6500),(9000,9000)] _ trivial (hle:=klR [(5,.eq (pI .u32 0) (pI .u32 t5)),(6,.eq (pI .u32 0) (pI .u32 t6))] (al1 (by simp only[f,j,c19,Leaf.ok,pm,if_true,if_false]) (al1 (by simp only[f,j,c19,Leaf.ok,pm,if_true,if_false]) al0)))
  ·subst j;subst f;obtain⟨y5,e5,h⟩:=B9 h;refine B7 hS [] (by decide:(2:Nat)<=4) (Oz hS hL e5) ?_;refine kI hS h ?_ ?_<;>intro h
   ·refine H7 hS trivial [3,4,5,7,8] ?_;obtain⟨c21,h⟩:=F4 h;obtain⟨y6,e6,h⟩:=B9 h;refine BB (And.intro c21 (by decide:(2:Nat)<=2)) (Tj hS hL e6) ?_;refine P7 trivial ?_;obtain⟨c22,h⟩:=F4 h;exact l _ [(6500,52000)] _ (x1.push y6.1) (wrap .i64 (x2+1)) (And.intro (rfl:true=true) c22) h (hle:=klR [(4,.fn (x1.n+1) (x1.push y6.1).n (BW x1.n (fun i=>A0 (x1.g i)) (F0 [pI .u32 0,pI .u32 0] [(0,A0 y6.1)])) (fun i=>A0 ((x1.push y6.1).g i)))] (al1 ⟨rfl,Ms (c:=A0) (v:=x1) (x:=y6.1) (z:=[(pI .u32 0),pI .u32 0]) same rfl rfl⟩ al0))
   ·obtain⟨c23,h⟩:=F4 h;exact l _ [(6500,52000)] _ (x1.push y5.1) (wrap .i64 (x2+1)) (And.intro (rfl:true=true) c23) h (hle:=klR [(4,.fn (x1.n+1) (x1.push y5.1).n (BW x1.n (fun i=>A0 (x1.g i)) (F0 [pI .u32 0,pI .u32 0] [(0,A0 y5.1)])) (fun i=>A0 ((x1.push y5.1).g i)))] (al1 ⟨rfl,Ms (c:=A0) (v:=x1) (x:=y5.1) (z:=[(pI .u32 0),pI .u32 0]) same rfl rfl⟩ al0))
 ·obtain rfl:=C4 h;exact A9 hS trivial ⟨[(4,.p (vSl 2 A0 x1))],[]⟩ [] (ids:=[]) ⟨rfl,rfl,rfl⟩
def B0 (N:Nat)(a:Sl (Sl Sound)):Option (Sl Sound):=
 P4 N (fun b (x1:Int) (x2:Int)=>
  if (decide (x2<(a.n:Int))) then
   if ((0:Int)<=x2/\x2<(a.n:Int))then
    if (decide ((wrap .i64 (x1+((a.g x2.toNat).n:Int)))<0)) then
     none
    else
     b (wrap .i64 (x1+((a.g x2.toNat).n:Int))) (wrap .i64 (x2+1))
   else none
  else
   (H4 N x1).bind fun y1=>
   P4 N (fun c (x3:Sl Sound) (x4:Int)=>
    if (decide (x4<(a.n:Int))) then
     if (((0:Int)<=x4/\x4<(a.n:Int))/\((x3.n+(a.g x4.toNat).n)*8<=140737488355328/\x3.n+(a.g x4.toNat).n<=140737488355328))then
      c (x3.app (a.g x4.toNat)) (wrap .i64 (x4+1))
     else none
    else
     some x3
    ) y1 0
  ) 0 0
theorem N1 {N:Nat}{a:Sl (Sl Sound)}{y:Sl Sound}(h:B0 N a=some y) :FunO S M8 [.p (vSl 1 (cL 2 A0) a)] [] (.vec 0) ([.vec D2 2 y.n (fun i=>A0 (y.g i)) true]) []:=by
 unfold B0 at h;refine A2 hS Tryz.func198 ?_;refine I4 hS trivial h (fun x1 x2=>⟨[(11,pN x2),(10,pN (a.n:Int)),(9,.p (vSl 1 (cL 2 A0) a)),(3,pN x1),(0,.p (vSl 1 (cL 2 A0) a))],[]⟩) (ids:=[]) (fun _ _ _ _ _ d x1 x2 f h=>?_);refine kI hS h ?_ ?_<;>intro h
 ·obtain⟨c8,h⟩:=F4 h;refine E4 hS c8 (b:=decide ((wrap .i64 (x1+((a.g x2.toNat).n:Int)))<0)) (fun c9=>?_) (fun c9=>?_)
  ·replace h:=itT c9 h;cases h
  ·replace h:=itF c9 h;exact f _ [] _ (wrap .i64 (x1+((a.g x2.toNat).n:Int))) (wrap .i64 (x2+1)) trivial h
 ·refine kC hS h (AL hS hL) (fun y1 h=>?_);refine I4 hS trivial h (fun x3 x4=>⟨[(27,pN x4),(26,pN (a.n:Int)),(25,.p (vSl 1 (cL 2 A0) a)),(6,.vec 7500)],[(7500,.vec D2 2 x3.n (fun i=>A0 (x3.g i)) false)]⟩) (ids:=[(7500,25000)]) (fun _ _ _ _ _ j x3 x4 l h=>?_);refine kI hS h ?_ ?_<;>intro h
  ·obtain⟨c13,h⟩:=F4 h;exact l _ [(7500,34000)] _ (x3.app (a.g x4.toNat)) (wrap .i64 (x4+1)) c13 h (hle:=klR [(3,.fn (x3.n+(a.g x4.toNat).n) (x3.app (a.g x4.toNat)).n (BW x3.n (fun i=>A0 (x3.g i)) (fun i=>A0 ((a.g x4.toNat).g i))) (fun i=>A0 ((x3.app (a.g x4.toNat)).g i)))] (al1 ⟨rfl,AR5 (c:=A0) (v:=x3) (w:=a.g x4.toNat) same rfl same rfl⟩ al0))
  ·obtain rfl:=C4 h;exact A9 hS trivial ⟨[(2,.vec 7500)],[(7500,.vec D2 2 x3.n (fun i=>A0 (x3.g i)) true)]⟩ [7500] (ids:=[(7500,7500)]) ⟨rfl,rfl,rfl⟩
def R4 (N:Nat)(b:Law)(c:Sl Sound)(a:Int):Option (Sl Sound):=
 if (((0:Int)<=a/\a<=(c.n:Int))/\((0:Int)<=a/\a<=(wrap .i64 (a+(b.If.n:Int)))/\(wrap .i64 (a+(b.If.n:Int)))<=(c.n:Int)))then
  (O3 N b (c.sub a.toNat (wrap .i64 (a+(b.If.n:Int))).toNat)).bind fun y1=>
  if ((0:Int)<=(wrap .i64 (a+(b.If.n:Int)))/\(wrap .i64 (a+(b.If.n:Int)))<=(c.n:Int))then
   (B0 N (Sl.of [c.take a.toNat,y1,c.drop (wrap .i64 (a+(b.If.n:Int))).toNat]:Sl (Sl Sound))).bind fun y2=>
   some y2
  else none
 else none
theorem Jq {N:Nat}{c:Law}{b:Sl Sound}{a:Int}{y:Sl Sound}(h:R4 N c b a=some y) :FunO S Jf [.p (.agg (B4 c)),.p (vSl 2 A0 b),pN a] [] (.vec 0) ([.vec D2 2 y.n (fun i=>A0 (y.g i)) true]) []:=by unfold R4 at h;refine A2 hS Tryz.func201 ?_;refine I7 hS trivial 6 4000 (B4 c) ?_;refine H7 hS trivial [3,8] ?_;obtain⟨c1,h⟩:=F4 h;obtain⟨y1,e1,h⟩:=B9 h;refine BB (And.intro (And.intro c1.1 (by decide:(18:Nat)<=18)) c1.2) (Tn hS hL e1) ?_;obtain⟨c2,h⟩:=F4 h;refine CN c2 (x:=.sl true 1 3 (F0 [F9] [(0,cL 2 A0 (b.take a.toNat)),(1,cL 2 A0 y1),(2,cL 2 A0 (b.drop (wrap .i64 (a+(c.If.n:Int))).toNat))])) ?_;obtain⟨y2,e2,h⟩:=B9 h;refine Ab3 [] trivial (FunO.le hS (args:=[.p (.sl true 1 3 (F0 [F9] [(0,cL 2 A0 (b.take a.toNat)),(1,cL 2 A0 y1),(2,cL 2 A0 (b.drop (wrap .i64 (a+(c.If.n:Int))).toNat))]))]) (by exact⟨Au7 rfl (fun i d=>match i,d with|0,_=>rfl|1,_=>rfl|2,_=>rfl|_+3,d=>absurd d (by omega)),trivial⟩) (N1 hS hL e2)) ?_;refine P7 trivial ?_;obtain rfl:=C4 h;exact A9 hS trivial ⟨[(6,.vec 27000)],[(27000,.vec D2 2 y2.n (fun i=>A0 (y2.g i)) true)]⟩ [27000] (ids:=[(27000,27000)]) ⟨rfl,rfl,rfl⟩
def Y3 (N:Nat)(q0:Law)(q1:Sl Sound)(q2:Int):Option (List (Int)):=
 (GJ N q0 q1).bind fun y1=>
 V9 N (fun a (x2:Int)=>
  if (decide ((wrap .i64 (x2+(q0.If.n:Int)))<=(q1.n:Int))) then
   V9 N (fun b (x4:Int)=>
    if (decide (x4<(q0.If.n:Int))) then
     if ((0:Int)<=x4/\x4<(q0.If.n:Int))then
      if ((0:Int)<=(wrap .i64 (x2+x4))/\(wrap .i64 (x2+x4))<(q1.n:Int))then
       (J4 N (q1.g (wrap .i64 (x2+x4)).toNat) (q0.If.g x4.toNat)).bind fun c=>
       if (!c) then
        a (wrap .i64 (x2+1))
       else
        b (wrap .i64 (x4+1))
      else none
     else none
    else
     (V6 N x2 y1.1 y1.2).bind fun d=>
     if d then
      Ar x2 (
       a (wrap .i64 (x2+1))
       )
     else
      a (wrap .i64 (x2+1))
    ) 0
  else
   some []
  ) q2
theorem KY {N:Nat}{q0:Law}{q1:Sl Sound}{q2:Int}{L:List (Int)}(h:Y3 N q0 q1 q2=some L) :Fj S Ea [] [.reg 0 0,.reg 1 0,.reg 2 0] [.cells ((B4 q0).map .p),.cells [.p (vSl 2 A0 q1)],.cells [pN q2]] (L.map (fun (x:Int)=>[pI .i64 x])):=by
 unfold Y3 at h;refine Fo hS Tryz.func207 ?_;refine kC hS h (Tm hS hL) (fun y1 h=>?_);refine Gp hS trivial h (fun x2 L1=>⟨[(6,pN x2),(5,.clo V4 [] [.reg 12000 0,.reg 12001 0]),(2,.reg 1 0),(1,.reg 0 0),(0,.yf 3)],[(12001,.cells [.p (vSl 2 A0 y1.2)]),(12000,.cells ((B4 y1.1).map .p)),(3,.yld (L1.map (fun (x:Int)=>[pI .i64 x])) true),(2,.cells [pN q2]),(1,.cells [.p (vSl 2 A0 q1)]),(0,.cells ((B4 q0).map .p))]⟩) (ids:=[(0,0),(1,1),(2,2),(3,3),(12000,12000),(12001,12001)]) (fun _ _ _ _ _ f x2 L1 c h=>?_);refine kI hS h ?_ ?_<;>intro h
 ·refine Gp hS trivial h (fun x4 L8=>⟨[(26,pN x4),(25,pN (q0.If.n:Int)),(24,.p (vSl 2 A0 q0.If)),(6,pN x2),(5,.clo V4 [] [.reg 12000 0,.reg 12001 0]),(2,.reg 1 0),(1,.reg 0 0),(0,.yf 3)],[(12001,.cells [.p (vSl 2 A0 y1.2)]),(12000,.cells ((B4 y1.1).map .p)),(3,.yld (L8.map (fun (x:Int)=>[pI .i64 x])) true),(2,.cells [pN q2]),(1,.cells [.p (vSl 2 A0 q1)]),(0,.cells ((B4 q0).map .p))]⟩) (ids:=[(0,0),(1,1),(2,2),(3,3),(12000,12000),(12001,12001)]) (fun _ _ _ _ _ i x4 L8 j h=>?_);refine kI hS h ?_ ?_<;>intro h
  ·obtain⟨c47,h⟩:=F4 h;refine Ab6 hS (And.intro c47 (by decide:(2:Nat)<=2)) 9000 [pI .u32 (q0.If.g x4.toNat).Plus,pI .u32 (q0.If.g x4.toNat).Minus] ?_;refine H7 hS trivial [4,5,6,7] ?_;obtain⟨c48,h⟩:=F4 h;obtain⟨l,e12,h⟩:=B9 h;refine BB (And.intro (And.intro c48 (by decide:(2:Nat)<=2)) (by decide:(2:Nat)<=2)) (Kf hS hL e12) ?_;refine P7 trivial ?_;refine kI hS h ?_ ?_<;>intro h
   ·exact c _ [(0,0),(1,1),(2,2),(3,3),(12000,12000),(12001,12001)] _ (wrap .i64 (x2+1)) L8 trivial h
   ·exact j _ [(0,0),(1,1),(2,2),(3,3),(12000,12000),(12001,12001)] _ (wrap .i64 (x4+1)) L8 trivial h
  ·obtain⟨m,e13,h⟩:=B9 h;refine B7 hS [12000,12001] trivial (OE hS hL e13) ?_;refine kG hS h (fun h=>?_) (fun h=>?_)
   ·obtain⟨L10,rfl,d⟩:=Mw h;replace h:=d;refine Dt hS trivial (ys:=(fun (x:Int)=>[pI .i64 x]) x2) (rest:=L10.map (fun (x:Int)=>[pI .i64 x])) ?_ ?_
    ·refine E4 hS trivial (b:=false) (fun c53=>?_) (fun c53=>?_)
     ·exact Bool.noConfusion ((rfl:false=false).symm.trans c53)
     ·exact c _ [(0,0),(1,1),(2,2),(3,3),(12000,12000),(12001,12001)] _ (wrap .i64 (x2+1)) L10 trivial h
    ·refine E4 hS trivial (b:=true) (fun c54=>?_) (fun c54=>?_)
     ·exact A9 hS trivial (a:=.tup []) (objs:=[(.cells ((B4 q0).map .p)),.cells [.p (vSl 2 A0 q1)],.cells [pN q2],.yld [] false]) ⟨[],[(3,.yld [] false),(2,.cells [pN q2]),(1,.cells [.p (vSl 2 A0 q1)]),(0,.cells ((B4 q0).map .p))]⟩ [0,1,2,3] (ids:=[(0,0),(1,1),(2,2),(3,3)]) ⟨false,rfl,rfl,_,rfl⟩
     ·exact Bool.noConfusion ((rfl:true=true).symm.trans c54)
   ·exact c _ [(0,0),(1,1),(2,2),(3,3),(12000,12000),(12001,12001)] _ (wrap .i64 (x2+1)) L8 trivial h
 ·obtain rfl:=C4 h;exact A9 hS trivial (a:=.tup []) (objs:=[(.cells ((B4 q0).map .p)),.cells [.p (vSl 2 A0 q1)],.cells [pN q2],.yld [] true]) ⟨[],[(3,.yld [] true),(2,.cells [pN q2]),(1,.cells [.p (vSl 2 A0 q1)]),(0,.cells ((B4 q0).map .p))]⟩ [0,1,2,3] (ids:=[(0,0),(1,1),(2,2),(3,3)]) ⟨true,rfl,rfl,_,rfl⟩
def Hj (N:Nat)(b:Law)(c:Sl Sound)(a:Int):Option (Law×(Sl Sound)×Int):=
 some (b,c,a)
theorem PG {N:Nat}{b:Law}{c:Sl Sound}{a:Int}{y:Law×(Sl Sound)×Int}(h:Hj N b c a=some y) :FunO S PC [.p (.agg (B4 b)),.p (vSl 2 A0 c),pN a] [] (.clo Ea [] [.reg 0 0,.reg 1 0,.reg 2 0]) ([.cells ((B4 y.1).map .p),.cells [.p (vSl 2 A0 y.2.1)],.cells [pN y.2.2]]) []:=by unfold Hj at h;refine A2 hS Tryz.func197 ?_;obtain rfl:=C4 h;exact A9 hS trivial ⟨[(6,.clo Ea [] [.reg 4000 0,.reg 5000 0,.reg 6000 0])],[(6000,.cells [pN a]),(5000,.cells [.p (vSl 2 A0 c)]),(4000,.cells ((B4 b).map .p))]⟩ [4000,5000,6000] (ids:=[(4000,4000),(5000,5000),(6000,6000)]) ⟨rfl,rfl,rfl⟩
def CF (N:Nat)(b:Law)(c:Sl Sound)(a:Int):Option Bool:=
 (Hj N b c a).bind fun y1=>
 (Y3 N y1.1 y1.2.1 y1.2.2).bind fun L1=>
 O5 L1 (fun d (x1:Int) (_:Unit)=>
  some (x1==a)
  ) (fun (_:Unit)=>
   some false
  ) ()
theorem To {N:Nat}{b:Law}{c:Sl Sound}{a:Int}{y:Bool}(h:CF N b c a=some y) :FunO S SZ [.p (.agg (B4 b)),.p (vSl 2 A0 c),pN a] [] (pB y) ([]) []:=by
 unfold CF at h;refine A2 hS Tryz.func200 ?_;refine kC hS h (PG hS hL) (fun y1 h=>?_);obtain⟨L1,e2,h⟩:=B9 h;refine Em hS trivial [12000,12001,12002] [6,5] 901 (fun _=>⟨[(6,.reg 7000 0),(5,.reg 6000 0)],[(7000,.cells [.p (.v (.bool false))]),(6000,.cells [pN a])]⟩) (idl:=[(6000,6000),(7000,7000)]) h (KY hS hL e2) (fun _=>by kernel_rfl) (fun _=>by kernel_rfl) (fun _=>by kernel_rfl) (fun _=>by kernel_rfl) (fun x1 _ d _ f h=>?_) (fun _ h=>?_)
 ·refine Ii hS trivial ?_;refine LG hS trivial ⟨[(6,.reg 7000 0),(5,.reg 6000 0)],[(7000,.cells [pB (x1==a)]),(6000,.cells [pN a])]⟩ (ids:=[(901,901),(6000,6000),(7000,7000)]) ?_;cases h;exact kR hS
 ·cases h;exact kR hS
def Ck (N:Nat)(q0:Sl Sound)(q1:Law)(q2:Int)(q3:Int):Option (List (Int×(Sl Sound))):=
 if (q1.Mode==1) then
  (Hj N q1 q0 0).bind fun y1=>
  (Y3 N y1.1 y1.2.1 y1.2.2).bind fun L1=>
  O5 L1 (fun b (x1:Int) (z1:(Sl Sound)×Int×Int)=>
   if (decide (x1<z1.2.1)) then
    b (z1.1,z1.2.1,z1.2.2)
   else
    if (((0:Int)<=(wrap .i64 (x1+z1.2.2))/\(wrap .i64 (x1+z1.2.2))<=(z1.1.n:Int))/\((0:Int)<=x1/\x1<=(wrap .i64 (x1+q2))/\(wrap .i64 (x1+q2))<=(q0.n:Int)))then
     (O3 N q1 (q0.sub x1.toNat (wrap .i64 (x1+q2)).toNat)).bind fun y6=>
     if ((0:Int)<=(wrap .i64 (x1+q2))/\(wrap .i64 (x1+q2))<=(q0.n:Int))then
      (B0 N (Sl.of [z1.1.take (wrap .i64 (x1+z1.2.2)).toNat,y6,q0.drop (wrap .i64 (x1+q2)).toNat]:Sl (Sl Sound))).bind fun y7=>
      Ar (x1,y7) (
       b (y7,wrap .i64 (x1+(if q2<1 then 1 else q2)),wrap .i64 ((wrap .i64 (z1.2.2+q3))-q2))
       )
     else none
    else none
   ) (fun (z1:(Sl Sound)×Int×Int)=>
    some []
   ) (q0,0,0)
 else
  if (q1.Mode==2) then
   P4 N (fun a (x5:Sl Sound) (x6:Int)=>
    if (decide ((wrap .i64 (x6+q2))<=(x5.n:Int))) then
     (CF N q1 x5 x6).bind fun g=>
     if (!g) then
      a x5 (wrap .i64 (x6+1))
     else
      (R4 N q1 x5 x6).bind fun d=>
      Ar (x6,d) (
       if (q2==0) then
        a d (wrap .i64 ((wrap .i64 (x6+q3))+1))
       else
        a d (wrap .i64 (x6+q3))
       )
    else
     some []
    ) q0 0
  else
   if (q1.Mode==3) then
    P4 N (fun c (x7:Sl Sound) (x8:Int)=>
     if (decide (0<=x8)) then
      (CF N q1 x7 x8).bind fun i=>
      if (!i) then
       c x7 (wrap .i64 (x8-1))
      else
       (R4 N q1 x7 x8).bind fun f=>
       Ar (x8,f) (
        c f (wrap .i64 (x8-(if q2<1 then 1 else q2)))
        )
     else
      some []
     ) q0 (wrap .i64 ((q0.n:Int)-q2))
   else
    some []
theorem VD {N:Nat}{q0:Sl Sound}{q1:Law}{q2:Int}{q3:Int}{L:List (Int×(Sl Sound))}(h:Ck N q0 q1 q2 q3=some L) :Fj S Ft [] [.reg 0 0,.reg 1 0,.reg 2 0,.reg 3 0] [.cells [.p (vSl 2 A0 q0)],.cells ((B4 q1).map .p),.cells [pN q2],.cells [pN q3]] (L.map (fun (x:Int×(Sl Sound))=>[pI .i64 x.1,vSl 2 A0 x.2])):=by
 unfold Ck at h;refine Fo hS Tryz.func196 ?_;refine kI hS h ?_ ?_<;>intro h
 ·refine kC hS h (PG hS hL) (fun y1 h=>?_);obtain⟨L1,e2,h⟩:=B9 h;refine Ao2 hS trivial [20000,20001,20002] [8,7,6,5,4,3,2,1] 900 (fun z1 L2=>⟨[(8,.reg 9000 0),(7,.reg 8000 0),(6,.reg 7000 0),(5,.reg 6000 0),(4,.reg 3 0),(3,.reg 2 0),(2,.reg 1 0),(1,.reg 0 0)],[(9000,.cells [pN z1.2.2]),(8000,.cells [pN z1.2.1]),(7000,.cells [.p (vSl 2 A0 z1.1)]),(6000,.cells [.yf 4]),(4,.yld (L2.map (fun (x:Int×(Sl Sound))=>[pI .i64 x.1,vSl 2 A0 x.2])) true),(3,.cells [pN q3]),(2,.cells [pN q2]),(1,.cells ((B4 q1).map .p)),(0,.cells [.p (vSl 2 A0 q0)])]⟩) (idl:=[(0,0),(1,1),(2,2),(3,3),(4,4),(6000,6000),(7000,7000),(8000,8000),(9000,9000)]) h (KY hS hL e2) (fun _=>by kernel_rfl) (fun _ _=>by kernel_rfl) (fun _ _=>by kernel_rfl) (fun _ _=>by kernel_rfl) (fun x1 _ s z1 L2 j h=>?_) (fun z1 L2 h=>?_)
  ·refine Ii hS trivial ?_;refine kI hS h ?_ ?_<;>intro h
   ·exact j _ [(0,0),(1,1),(2,2),(3,3),(4,4),(900,900),(6000,6000),(7000,7000),(8000,8000),(9000,9000)] _ (z1.1,z1.2.1,z1.2.2) L2 trivial h
   ·refine Z8 hS trivial [(0,.l [7000]),(2,.l [9000]),(5,.l [1]),(6,.l [0]),(9,.l [2]),(12,.n),(13,.l [0]),(15,.l [2]),(20,.a [7000])] ?_;obtain⟨c13,h⟩:=F4 h;obtain⟨y6,e7,h⟩:=B9 h;refine BB c13 (Tn hS hL e7) ?_;obtain⟨c14,h⟩:=F4 h;refine CN c14 (x:=.sl true 1 3 (F0 [F9] [(0,cL 2 A0 (z1.1.take (wrap .i64 (x1+z1.2.2)).toNat)),(1,cL 2 A0 y6),(2,cL 2 A0 (q0.drop (wrap .i64 (x1+q2)).toNat))])) ?_;obtain⟨y7,e8,h⟩:=B9 h;refine Ab3 [] trivial (FunO.le hS (args:=[.p (.sl true 1 3 (F0 [F9] [(0,cL 2 A0 (z1.1.take (wrap .i64 (x1+z1.2.2)).toNat)),(1,cL 2 A0 y6),(2,cL 2 A0 (q0.drop (wrap .i64 (x1+q2)).toNat))]))]) (by exact⟨Au7 rfl (fun i t=>match i,t with|0,_=>rfl|1,_=>rfl|2,_=>rfl|_+3,t=>absurd t (by omega)),trivial⟩) (N1 hS hL e8)) ?_;refine P7 trivial ?_;obtain⟨L5,rfl,m⟩:=Mw h;replace h:=m;refine Dt hS trivial (ys:=(fun (x:Int×(Sl Sound))=>[pI .i64 x.1,vSl 2 A0 x.2]) (x1,y7)) (rest:=L5.map (fun (x:Int×(Sl Sound))=>[pI .i64 x.1,vSl 2 A0 x.2])) ?_ ?_
    ·refine E4 hS trivial (b:=false) (fun c15=>?_) (fun c15=>?_)
     ·exact Bool.noConfusion ((rfl:false=false).symm.trans c15)
     ·refine Z8 hS trivial [(1,.l [2]),(4,.l [9000]),(5,.l [3]),(7,.l [2]),(9,.a [8000]),(10,.a [9000])] ?_;refine P7 trivial ?_;exact j _ [(0,0),(1,1),(2,2),(3,3),(4,4),(900,900),(6000,6000),(7000,7000),(8000,8000),(9000,9000)] _ (y7,wrap .i64 (x1+(if q2<1 then 1 else q2)),wrap .i64 ((wrap .i64 (z1.2.2+q3))-q2)) L5 trivial h
    ·refine E4 hS trivial (b:=true) (fun c16=>?_) (fun c16=>?_)
     ·refine LG hS trivial ⟨[(8,.reg 9000 0),(7,.reg 8000 0),(6,.reg 7000 0),(5,.reg 6000 0),(4,.reg 3 0),(3,.reg 2 0),(2,.reg 1 0),(1,.reg 0 0)],[(44000,.vec D2 2 y7.n (fun i=>A0 (y7.g i)) true),(9000,.cells [pN z1.2.2]),(8000,.cells [pN z1.2.1]),(7000,.cells [.vec 44000]),(6000,.cells [.yf 4]),(4,.yld [] false),(3,.cells [pN q3]),(2,.cells [pN q2]),(1,.cells ((B4 q1).map .p)),(0,.cells [.p (vSl 2 A0 q0)])]⟩ (ids:=[(0,0),(1,1),(2,2),(3,3),(4,4),(900,900),(6000,6000),(7000,7000),(8000,8000),(9000,9000),(44000,44000)]) ?_;exact A9 hS trivial (a:=.tup []) (objs:=[(.cells [.p (vSl 2 A0 q0)]),.cells ((B4 q1).map .p),.cells [pN q2],.cells [pN q3],.yld [] false]) ⟨[],[(4,.yld [] false),(3,.cells [pN q3]),(2,.cells [pN q2]),(1,.cells ((B4 q1).map .p)),(0,.cells [.p (vSl 2 A0 q0)])]⟩ [0,1,2,3,4] (ids:=[(0,0),(1,1),(2,2),(3,3),(4,4)]) ⟨false,rfl,rfl,_,rfl⟩
     ·exact Bool.noConfusion ((rfl:true=true).symm.trans c16)
  ·obtain rfl:=C4 h;exact A9 hS trivial (a:=.tup []) (objs:=[(.cells [.p (vSl 2 A0 q0)]),.cells ((B4 q1).map .p),.cells [pN q2],.cells [pN q3],.yld [] true]) ⟨[],[(4,.yld [] true),(3,.cells [pN q3]),(2,.cells [pN q2]),(1,.cells ((B4 q1).map .p)),(0,.cells [.p (vSl 2 A0 q0)])]⟩ [0,1,2,3,4] (ids:=[(0,0),(1,1),(2,2),(3,3),(4,4)]) ⟨true,rfl,rfl,_,rfl⟩
 ·refine kI hS h ?_ ?_<;>intro h
  ·refine Qy hS trivial h (fun x5 x6 L6=>⟨[(10,pN x6),(6,.reg 7000 0),(5,.reg 6000 0),(4,.reg 3 0),(3,.reg 2 0),(2,.reg 1 0)],[(7000,.cells [.p (vSl 2 A0 x5)]),(6000,.cells [.yf 4]),(4,.yld (L6.map (fun (x:Int×(Sl Sound))=>[pI .i64 x.1,vSl 2 A0 x.2])) true),(3,.cells [pN q3]),(2,.cells [pN q2]),(1,.cells ((B4 q1).map .p)),(0,.cells [.p (vSl 2 A0 q0)])]⟩) (ids:=[(0,0),(1,1),(2,2),(3,3),(4,4),(6000,6000),(7000,7000)]) (fun _ _ _ _ _ u x5 x6 L6 c h=>?_);refine kI hS h ?_ ?_<;>intro h
   ·refine kC hS h (To hS hL) (fun w h=>?_);refine kI hS h ?_ ?_<;>intro h
    ·exact c _ [(0,0),(1,1),(2,2),(3,3),(4,4),(6000,6000),(7000,7000)] _ x5 (wrap .i64 (x6+1)) L6 trivial h
    ·refine kC hS h (Jq hS hL) (fun d h=>?_);obtain⟨L9,rfl,o⟩:=Mw h;replace h:=o;refine Dt hS trivial (ys:=(fun (x:Int×(Sl Sound))=>[pI .i64 x.1,vSl 2 A0 x.2]) (x6,d)) (rest:=L9.map (fun (x:Int×(Sl Sound))=>[pI .i64 x.1,vSl 2 A0 x.2])) ?_ ?_
     ·refine E4 hS trivial (b:=false) (fun c30=>?_) (fun c30=>?_)
      ·exact Bool.noConfusion ((rfl:false=false).symm.trans c30)
      ·refine kI hS h ?_ ?_<;>intro h
       ·exact c _ [(0,0),(1,1),(2,2),(3,3),(4,4),(6000,6000),(7000,7000)] _ d (wrap .i64 ((wrap .i64 (x6+q3))+1)) L9 trivial h
       ·exact c _ [(0,0),(1,1),(2,2),(3,3),(4,4),(6000,6000),(7000,7000)] _ d (wrap .i64 (x6+q3)) L9 trivial h
     ·refine E4 hS trivial (b:=true) (fun c32=>?_) (fun c32=>?_)
      ·exact A9 hS trivial (a:=.tup []) (objs:=[(.cells [.p (vSl 2 A0 q0)]),.cells ((B4 q1).map .p),.cells [pN q2],.cells [pN q3],.yld [] false]) ⟨[],[(4,.yld [] false),(3,.cells [pN q3]),(2,.cells [pN q2]),(1,.cells ((B4 q1).map .p)),(0,.cells [.p (vSl 2 A0 q0)])]⟩ [0,1,2,3,4] (ids:=[(0,0),(1,1),(2,2),(3,3),(4,4)]) ⟨false,rfl,rfl,_,rfl⟩
      ·exact Bool.noConfusion ((rfl:true=true).symm.trans c32)
   ·obtain rfl:=C4 h;exact A9 hS trivial (a:=.tup []) (objs:=[(.cells [.p (vSl 2 A0 q0)]),.cells ((B4 q1).map .p),.cells [pN q2],.cells [pN q3],.yld [] true]) ⟨[],[(4,.yld [] true),(3,.cells [pN q3]),(2,.cells [pN q2]),(1,.cells ((B4 q1).map .p)),(0,.cells [.p (vSl 2 A0 q0)])]⟩ [0,1,2,3,4] (ids:=[(0,0),(1,1),(2,2),(3,3),(4,4)]) ⟨true,rfl,rfl,_,rfl⟩
  ·refine kI hS h ?_ ?_<;>intro h
   ·refine Qy hS trivial h (fun x7 x8 L10=>⟨[(11,pN x8),(6,.reg 7000 0),(5,.reg 6000 0),(3,.reg 2 0),(2,.reg 1 0)],[(7000,.cells [.p (vSl 2 A0 x7)]),(6000,.cells [.yf 4]),(4,.yld (L10.map (fun (x:Int×(Sl Sound))=>[pI .i64 x.1,vSl 2 A0 x.2])) true),(3,.cells [pN q3]),(2,.cells [pN q2]),(1,.cells ((B4 q1).map .p)),(0,.cells [.p (vSl 2 A0 q0)])]⟩) (ids:=[(0,0),(1,1),(2,2),(3,3),(4,4),(6000,6000),(7000,7000)]) (fun _ _ _ _ _ v x7 x8 L10 q h=>?_);refine kI hS h ?_ ?_<;>intro h
    ·refine kC hS h (To hS hL) (fun y h=>?_);refine kI hS h ?_ ?_<;>intro h
     ·exact q _ [(0,0),(1,1),(2,2),(3,3),(4,4),(6000,6000),(7000,7000)] _ x7 (wrap .i64 (x8-1)) L10 trivial h
     ·refine kC hS h (Jq hS hL) (fun r h=>?_);obtain⟨L13,rfl,f⟩:=Mw h;replace h:=f;refine Dt hS trivial (ys:=(fun (x:Int×(Sl Sound))=>[pI .i64 x.1,vSl 2 A0 x.2]) (x8,r)) (rest:=L13.map (fun (x:Int×(Sl Sound))=>[pI .i64 x.1,vSl 2 A0 x.2])) ?_ ?_
      ·refine E4 hS trivial (b:=false) (fun c44=>?_) (fun c44=>?_)
       ·exact Bool.noConfusion ((rfl:false=false).symm.trans c44)
       ·exact q _ [(0,0),(1,1),(2,2),(3,3),(4,4),(6000,6000),(7000,7000)] _ r (wrap .i64 (x8-(if q2<1 then 1 else q2))) L13 trivial h
      ·refine E4 hS trivial (b:=true) (fun c45=>?_) (fun c45=>?_)
       ·exact A9 hS trivial (a:=.tup []) (objs:=[(.cells [.p (vSl 2 A0 q0)]),.cells ((B4 q1).map .p),.cells [pN q2],.cells [pN q3],.yld [] false]) ⟨[],[(4,.yld [] false),(3,.cells [pN q3]),(2,.cells [pN q2]),(1,.cells ((B4 q1).map .p)),(0,.cells [.p (vSl 2 A0 q0)])]⟩ [0,1,2,3,4] (ids:=[(0,0),(1,1),(2,2),(3,3),(4,4)]) ⟨false,rfl,rfl,_,rfl⟩
       ·exact Bool.noConfusion ((rfl:true=true).symm.trans c45)
    ·obtain rfl:=C4 h;exact A9 hS trivial (a:=.tup []) (objs:=[(.cells [.p (vSl 2 A0 q0)]),.cells ((B4 q1).map .p),.cells [pN q2],.cells [pN q3],.yld [] true]) ⟨[],[(4,.yld [] true),(3,.cells [pN q3]),(2,.cells [pN q2]),(1,.cells ((B4 q1).map .p)),(0,.cells [.p (vSl 2 A0 q0)])]⟩ [0,1,2,3,4] (ids:=[(0,0),(1,1),(2,2),(3,3),(4,4)]) ⟨true,rfl,rfl,_,rfl⟩
   ·obtain rfl:=C4 h;exact A9 hS trivial (a:=.tup []) (objs:=[(.cells [.p (vSl 2 A0 q0)]),.cells ((B4 q1).map .p),.cells [pN q2],.cells [pN q3],.yld [] true]) ⟨[],[(4,.yld [] true),(3,.cells [pN q3]),(2,.cells [pN q2]),(1,.cells ((B4 q1).map .p)),(0,.cells [.p (vSl 2 A0 q0)])]⟩ [0,1,2,3,4] (ids:=[(0,0),(1,1),(2,2),(3,3),(4,4)]) ⟨true,rfl,rfl,_,rfl⟩
def Jr (N:Nat)(a:Law)(b:Sl Sound):Option ((Sl Sound)×Law×Int×Int):=
 some (b,a,(a.If.n:Int),(a.Out.n:Int))
theorem Ac9 {N:Nat}{b:Law}{c:Sl Sound}{y:(Sl Sound)×Law×Int×Int}(h:Jr N b c=some y) :FunO S SX [.p (.agg (B4 b)),.p (vSl 2 A0 c)] [] (.clo Ft [] [.reg 0 0,.reg 1 0,.reg 2 0,.reg 3 0]) ([.cells [.p (vSl 2 A0 y.1)],.cells ((B4 y.2.1).map .p),.cells [pN y.2.2.1],.cells [pN y.2.2.2]]) []:=by unfold Jr at h;refine A2 hS Tryz.func190 ?_;refine Z8 hS trivial [(1,.l [3000]),(2,.n),(4,.l [3000]),(5,.n),(6,.a [6000]),(7,.a [7000]),(8,.a [6000]),(9,.a [7000])] ?_;refine P7 trivial ?_;obtain rfl:=C4 h;exact A9 hS trivial ⟨[(4,.clo Ft [] [.reg 4000 0,.reg 3000 0,.reg 6000 0,.reg 7000 0])],[(7000,.cells [pN (b.Out.n:Int)]),(6000,.cells [pN (b.If.n:Int)]),(4000,.cells [.p (vSl 2 A0 c)]),(3000,.cells ((B4 b).map .p))]⟩ [4000,3000,6000,7000] (ids:=[(3000,3000),(4000,4000),(6000,6000),(7000,7000)]) ⟨rfl,rfl,rfl⟩
def DH (N:Nat)(b:Law)(c:Sl Sound):Option ((Sl Int)×(Sl (Sl Sound))×Int):=
 (FC N b c).bind fun y1=>
 if (y1 != 0) then
  some ((Sl.nil:Sl Int),(Sl.nil:Sl (Sl Sound)),y1)
 else
  (Jr N b c).bind fun y2=>
  (Ck N y2.1 y2.2.1 y2.2.2.1 y2.2.2.2).bind fun L1=>
  O5 L1 (fun a (x1:Int×(Sl Sound)) (z1:(Sl Int)×(Sl (Sl Sound)))=>
   if (decide (32<(x1.2.n:Int))) then
    some ((Sl.nil:Sl Int),(Sl.nil:Sl (Sl Sound)),11)
   else
    if ((z1.1.n+(Sl.of [x1.1]:Sl Int).n)*8<=140737488355328/\z1.1.n+(Sl.of [x1.1]:Sl Int).n<=140737488355328)then
     if ((z1.2.n+(Sl.of [x1.2]:Sl (Sl Sound)).n)*24<=140737488355328/\z1.2.n+(Sl.of [x1.2]:Sl (Sl Sound)).n<=140737488355328)then
      a (z1.1.push x1.1,z1.2.push x1.2)
     else none
    else none
   ) (fun (z1:(Sl Int)×(Sl (Sl Sound)))=>
    some (z1.1,z1.2,0)
   ) ((Sl.nil:Sl Int),(Sl.nil:Sl (Sl Sound)))
theorem VE {N:Nat}{b:Law}{d:Sl Sound}{y:(Sl Int)×(Sl (Sl Sound))×Int}(h:DH N b d=some y) :FunO S MX [.p (.agg (B4 b)),.p (vSl 2 A0 d)] [] (.tup [.vec 0,.vec 1,pN y.2.2]) ([.vec F1 1 y.1.n (fun i=>cI .i64 (y.1.g i)) true,.vec E2 1 y.2.1.n (fun i=>cL 2 A0 (y.2.1.g i)) true]) []:=by
 unfold DH at h;refine A2 hS Tryz.func182 ?_;refine I7 hS trivial 4 3000 (B4 b) ?_;obtain⟨y1,e1,h⟩:=B9 h;refine B7 hS [] (by decide:(18:Nat)<=18) (VC hS hL e1) ?_;refine kI hS h ?_ ?_<;>intro h
 ·obtain rfl:=C4 h;exact A9 hS trivial ⟨[(6,.reg 7000 0),(5,.reg 6000 0),(4,.reg 5000 0)],[(7000,.cells [pN y1]),(6701,.vec E2 1 (Sl.nil:Sl (Sl Sound)).n (fun i=>cL 2 A0 ((Sl.nil:Sl (Sl Sound)).g i)) true),(6000,.cells [.vec 6701]),(5700,.vec F1 1 (Sl.nil:Sl Int).n (fun i=>cI .i64 ((Sl.nil:Sl Int).g i)) true),(5000,.cells [.vec 5700])]⟩ [5700,6701] (ids:=[(5000,5000),(6000,6000),(7000,7000)]) ⟨rfl,rfl,rfl⟩
 ·obtain⟨y2,e2,h⟩:=B9 h;refine B7 hS [] (by decide:(18:Nat)<=18) (Ac9 hS hL e2) ?_;obtain⟨L1,e3,h⟩:=B9 h;refine Em hS trivial [21000,21001,21002,21003] [9,8,6,5,4] 901 (fun z1=>⟨[(9,.reg 10000 0),(8,.reg 9000 0),(6,.reg 7000 0),(5,.reg 6000 0),(4,.reg 5000 0)],[(10500,.vec E2 1 z1.2.n (fun i=>cL 2 A0 (z1.2.g i)) false),(10000,.cells [.vec 10500]),(9500,.vec F1 1 z1.1.n (fun i=>cI .i64 (z1.1.g i)) false),(9000,.cells [.vec 9500]),(7000,.cells [pN 0]),(6000,.cells [.p F9]),(5000,.cells [.p F9])]⟩) (idl:=[(5000,5000),(6000,6000),(7000,7000),(9000,9000),(10000,10000)]) h (VD hS hL e3) (fun _=>by kernel_rfl) (fun _=>by kernel_rfl) (fun _=>by kernel_rfl) (fun _=>by kernel_rfl) (fun x1 _ f z1 j h=>?_) (fun z1 h=>?_)
  ·refine Ii hS trivial ?_;refine kI hS h ?_ ?_<;>intro h
   ·refine LG hS trivial ⟨[(9,.reg 10000 0),(8,.reg 9000 0),(6,.reg 7000 0),(5,.reg 6000 0),(4,.reg 5000 0)],[(10500,.vec E2 1 z1.2.n (fun i=>cL 2 A0 (z1.2.g i)) false),(10000,.cells [.vec 10500]),(9500,.vec F1 1 z1.1.n (fun i=>cI .i64 (z1.1.g i)) false),(9000,.cells [.vec 9500]),(7000,.cells [pN 11]),(6000,.cells [.p F9]),(5000,.cells [.p F9])]⟩ (ids:=[(901,901),(5000,5000),(6000,6000),(7000,7000),(9000,9000),(9500,9500),(10000,10000),(10500,10500)]) ?_;obtain rfl:=C4 h;exact A9 hS trivial ⟨[(6,.reg 7000 0),(5,.reg 6000 0),(4,.reg 5000 0)],[(7000,.cells [pN 11]),(6701,.vec E2 1 (Sl.nil:Sl (Sl Sound)).n (fun i=>cL 2 A0 ((Sl.nil:Sl (Sl Sound)).g i)) true),(6000,.cells [.vec 6701]),(5700,.vec F1 1 (Sl.nil:Sl Int).n (fun i=>cI .i64 ((Sl.nil:Sl Int).g i)) true),(5000,.cells [.vec 5700])]⟩ [5700,6701] (ids:=[(5000,5000),(6000,6000),(7000,7000)]) ⟨rfl,rfl,rfl⟩
   ·refine Z8 hS trivial [(0,.l [9000]),(3,.a [30000,9500]),(4,.l [10000]),(7,.a [34000,10500]),(8,.a [9000]),(9,.a [10000])] ?_;refine CN trivial (x:=.sl true 1 1 (F0 [pI .i64 0] [(0,cI .i64 x1.1)])) ?_;obtain⟨c9,h⟩:=F4 h;refine CN c9 (x:=.sl true 1 1 (F0 [F9] [(0,cL 2 A0 x1.2)])) ?_;obtain⟨c10,h⟩:=F4 h;refine P7 c10 ?_;exact j _ [(901,901),(5000,5000),(6000,6000),(7000,7000),(9000,9000),(9500,30000),(10000,10000),(10500,34000)] _ (z1.1.push x1.1,z1.2.push x1.2) trivial h (hle:=klR [(0,.fn (z1.2.n+1) (z1.2.push x1.2).n (BW z1.2.n (fun i=>cL 2 A0 (z1.2.g i)) (F0 [F9] [(0,cL 2 A0 x1.2)])) (fun i=>cL 2 A0 ((z1.2.push x1.2).g i))),(1,.fn (z1.1.n+1) (z1.1.push x1.1).n (BW z1.1.n (fun i=>cI .i64 (z1.1.g i)) (F0 [pI .i64 0] [(0,cI .i64 x1.1)])) (fun i=>cI .i64 ((z1.1.push x1.1).g i)))] (al1 ⟨rfl,Ms (c:=cL 2 A0) (v:=z1.2) (x:=x1.2) (z:=[F9]) same rfl rfl⟩ (al1 ⟨rfl,Ms (c:=cI .i64) (v:=z1.1) (x:=x1.1) (z:=[(pI .i64 0)]) same rfl rfl⟩ al0)))
  ·refine Z8 hS trivial [(0,.l [9000]),(1,.l [10000]),(2,.a [5000]),(3,.a [6000]),(4,.a [7000])] ?_;refine P7 trivial ?_;obtain rfl:=C4 h;exact A9 hS trivial ⟨[(6,.reg 7000 0),(5,.reg 6000 0),(4,.reg 5000 0)],[(10500,.vec E2 1 z1.2.n (fun i=>cL 2 A0 (z1.2.g i)) true),(9500,.vec F1 1 z1.1.n (fun i=>cI .i64 (z1.1.g i)) true),(7000,.cells [pN 0]),(6000,.cells [.vec 10500]),(5000,.cells [.vec 9500])]⟩ [9500,10500] (ids:=[(5000,5000),(6000,6000),(7000,7000),(9500,9500),(10500,10500)]) ⟨rfl,rfl,rfl⟩
def R8 (N:Nat)(b:Law)(a:Sl Sound):Option ((Sl Sound)×Int):=
 (DH N b a).bind fun y1=>
 if (y1.2.2 != 0) then
  some ((Sl.nil:Sl Sound),y1.2.2)
 else
  if (decide (0<(y1.2.1.n:Int))) then
   if (((0:Int)<=(wrap .i64 ((y1.2.1.n:Int)-1))/\(wrap .i64 ((y1.2.1.n:Int)-1))<(y1.2.1.n:Int))/\(wrap .i64 ((y1.2.1.n:Int)-1)).toNat<y1.2.1.n)then
    some (y1.2.1.g (wrap .i64 ((y1.2.1.n:Int)-1)).toNat,0)
   else none
  else
   (A4 N a).bind fun y2=>
   some (y2,0)
theorem VF {N:Nat}{a:Law}{b:Sl Sound}{y:(Sl Sound)×Int}(h:R8 N a b=some y) :FunO S MW [.p (.agg (B4 a)),.p (vSl 2 A0 b)] [] (.tup [.p (vSl 2 A0 y.1),pN y.2]) ([]) []:=by
 unfold R8 at h;refine A2 hS Tryz.func176 ?_;refine kC hS h (VE hS hL) (fun y1 h=>?_);refine kI hS h ?_ ?_<;>intro h
 ·obtain rfl:=C4 h;exact A9 hS trivial ⟨[(5,pN y1.2.2),(4,.p (vSl 2 A0 (Sl.nil:Sl Sound)))],[]⟩ [] (ids:=[]) ⟨rfl,rfl,rfl⟩
 ·refine kI hS h ?_ ?_<;>intro h
  ·obtain⟨c3,h⟩:=F4 h;obtain rfl:=C4 h;exact Yl hS c3 [] ⟨rfl,rfl,rfl⟩
  ·refine kC hS h (O2 hS hL) (fun y2 h=>?_);obtain rfl:=C4 h;exact A9 hS trivial ⟨[(5,pN 0),(4,.p (vSl 2 A0 y2))],[]⟩ [] (ids:=[]) ⟨rfl,rfl,rfl⟩
end Go.AM
namespace Go.AM
open IntKind (wrap)
open Go.Proofs
set_option maxRecDepth 10000
set_option maxHeartbeats 2000000
variable {S:AD}(hS:H2 S Tryz.prog) (hL:PF S)
include hS hL
def Q5 (N:Nat)(a:Law):Option Bool:=
 (T8 N a).bind fun y1=>
 some (y1 != 0)
theorem Lr {N:Nat}{a:Law}{y:Bool}(h:Q5 N a=some y) :FunO S FS [.p (.agg (B4 a))] [] (pB y) ([]) []:=by unfold Q5 at h;refine A2 hS Tryz.func160 ?_;refine kC hS h (FB hS hL) (fun y1 h=>?_);cases h;exact kR hS
def E7 (N:Nat)(a:Sl Law)(c:Law->Option Bool):Option Int:=
 V9 N (fun b (x1:Int)=>
  if (decide (x1<(a.n:Int))) then
   if ((0:Int)<=x1/\x1<(a.n:Int))then
    (c (a.g x1.toNat)).bind fun y3=>
    if y3 then
     some x1
    else
     b (wrap .i64 (x1+1))
   else none
  else
   some (-1)
  ) 0
theorem AA {N:Nat}{a:Sl Law}{c:Law->Option Bool}{kp_f:Nat}(d:∀{a0:Law}{b:Bool},c a0=some b->FunO S kp_f [.p (.agg (B4 a0))] [] (pB b) [] []){y:Int}(h:E7 N a c=some y) :FunO S O1 [.p (vSl 18 B4 a),.clo kp_f [] []] [] (pN y) ([]) []:=by
 unfold E7 at h;refine A2 hS Tryz.func174 ?_;refine N7 hS trivial h (fun x1=>⟨[(8,pN x1),(7,pN (a.n:Int)),(1,.clo kp_f [] []),(0,.p (vSl 18 B4 a))],[]⟩) (ids:=[]) (fun _ _ _ _ _ f x1 g h=>?_);refine kI hS h ?_ ?_<;>intro h
 ·obtain⟨c8,h⟩:=F4 h;obtain⟨y3,e3,h⟩:=B9 h;refine B7 hS [] (And.intro c8 (by decide:(18:Nat)<=18)) (d e3) ?_;refine kI hS h ?_ ?_<;>intro h
  ·cases h;exact kR hS
  ·exact g _ [] _ (wrap .i64 (x1+1)) trivial h
 ·cases h;exact kR hS
def C7 (N:Nat)(a:Sl Law)(b:Law->Option Bool):Option Bool:=
 (E7 N a b).bind fun y1=>
 some (decide (0<=y1))
theorem X1 {N:Nat}{a:Sl Law}{c:Law->Option Bool}{kp_f:Nat}(d:∀{a0:Law}{b:Bool},c a0=some b->FunO S kp_f [.p (.agg (B4 a0))] [] (pB b) [] []){y:Bool}(h:C7 N a c=some y) :FunO S J7 [.p (vSl 18 B4 a),.clo kp_f [] []] [] (pB y) ([]) []:=by unfold C7 at h;refine A2 hS Tryz.func159 ?_;refine kC hS h (AA hS hL (fun e=>d e)) (fun y1 h=>?_);cases h;exact kR hS
def V7 (N:Nat)(a:Sl Law):Option Int:=
 if (decide (64<(a.n:Int))) then
  some 12
 else
  (C7 N a (fun (u1:Law)=>Q5 N u1)).bind fun y1=>
  if y1 then
   some 17
  else
   some 0
theorem OF {N:Nat}{a:Sl Law}{y:Int}(h:V7 N a=some y) :FunO S HJ [.p (vSl 18 B4 a)] [] (pN y) ([]) []:=by
 unfold V7 at h;refine A2 hS Tryz.func139 ?_;refine kI hS h ?_ ?_<;>intro h
 ·cases h;exact kR hS
 ·refine kC hS h (X1 hS hL (fun e=>Lr hS hL e)) (fun y1 h=>?_);refine kI hS h ?_ ?_<;>intro h
  ·cases h;exact kR hS
  ·cases h;exact kR hS
def AT (N:Nat)(b:Sl Law)(a:Sl (Sl Sound)):Option Int:=
 (V7 N b).bind fun y1=>
 if (y1 != 0) then
  some y1
 else
  if (decide (256<(a.n:Int))) then
   some 12
  else
   V9 N (fun c (x1:Int)=>
    if (decide (x1<(a.n:Int))) then
     if ((0:Int)<=x1/\x1<(a.n:Int))then
      (T3 N (a.g x1.toNat)).bind fun y4=>
      if (y4 != 0) then
       some y4
      else
       c (wrap .i64 (x1+1))
     else none
    else
     some 0
    ) 0
theorem OG {N:Nat}{b:Sl Law}{a:Sl (Sl Sound)}{y:Int}(h:AT N b a=some y) :FunO S HI [.p (vSl 18 B4 b),.p (vSl 1 (cL 2 A0) a)] [] (pN y) ([]) []:=by
 unfold AT at h;refine A2 hS Tryz.func111 ?_;refine kC hS h (OF hS hL) (fun y1 h=>?_);refine kI hS h ?_ ?_<;>intro h
 ·cases h;exact kR hS
 ·refine kI hS h ?_ ?_<;>intro h
  ·cases h;exact kR hS
  ·refine N7 hS trivial h (fun x1=>⟨[(19,pN x1),(18,pN (a.n:Int)),(17,.p (vSl 1 (cL 2 A0) a))],[]⟩) (ids:=[]) (fun _ _ _ _ _ c x1 d h=>?_);refine kI hS h ?_ ?_<;>intro h
   ·obtain⟨c10,h⟩:=F4 h;obtain⟨y4,e4,h⟩:=B9 h;refine B7 hS [] c10 (Ee hS hL e4) ?_;refine kI hS h ?_ ?_<;>intro h
    ·cases h;exact kR hS
    ·exact d _ [] _ (wrap .i64 (x1+1)) trivial h
   ·cases h;exact kR hS
end Go.AM
namespace Go.AM
open IntKind (wrap)
open Go.Proofs
set_option maxRecDepth 10000
set_option maxHeartbeats 2000000
variable {S:AD}(hS:H2 S Tryz.prog) (hL:PF S)
include hS hL
def Ap5 (c:Int):Option PV:=if c=0 then none else some (.iface 210 (pI .i64 c))
def U8 (N:Nat)(c:Int)(q0:Sl Sound)(q1:Sl Law):Option (List (Int×(Sl Sound))):=
 (A4 N q0).bind fun y1=>
 Ar (0,y1) (
  P4 N (fun a (x1:Sl Sound) (x2:Int)=>
   if (decide (x2<(q1.n:Int))) then
    if ((0:Int)<=x2/\x2<(q1.n:Int))then
     (R8 N (q1.g x2.toNat) x1).bind fun y4=>
     if (y4.2 != 0) then
      if y4.2=c then some []else none
     else
      Ar (wrap .i64 (x2+1),y4.1) (
       a y4.1 (wrap .i64 (x2+1))
       )
    else none
   else
    if c=0 then some []else none
   ) y1 0
  )
theorem FU {N:Nat}{q0:Sl Sound}{q1:Sl Law}{c:Int}{L:List (Int×(Sl Sound))}(h:U8 N c q0 q1=some L) :My S Q3 [] [.reg 0 0,.reg 1 0] [.cells [.p (vSl 2 A0 q0)],.cells [.p (vSl 18 B4 q1)]] (L.map (fun (x:Int×(Sl Sound))=>[pI .i64 x.1,vSl 2 A0 x.2])) (Ap5 c):=by
 unfold U8 at h;refine Ab8 hS Tryz.func175 ?_;refine kC hS h (O2 hS hL) (fun y1 h=>?_);obtain⟨L1,rfl,d⟩:=Mw h;replace h:=d;refine Dt hS trivial (ys:=(fun (x:Int×(Sl Sound))=>[pI .i64 x.1,vSl 2 A0 x.2]) (0,y1)) (rest:=L1.map (fun (x:Int×(Sl Sound))=>[pI .i64 x.1,vSl 2 A0 x.2])) ?_ ?_
 ·refine E4 hS trivial (b:=false) (fun c1=>?_) (fun c1=>?_)
  ·exact Bool.noConfusion ((rfl:false=false).symm.trans c1)
  ·refine Qy hS trivial h (fun x1 x2 L2=>⟨[(17,pN x2),(16,pN (q1.n:Int)),(15,.p (vSl 18 B4 q1)),(4,.p (vSl 2 A0 x1)),(0,.yf 2)],[(2,.yld (L2.map (fun (x:Int×(Sl Sound))=>[pI .i64 x.1,vSl 2 A0 x.2])) true),(1,.cells [.p (vSl 18 B4 q1)]),(0,.cells [.p (vSl 2 A0 q0)])]⟩) (ids:=[(0,0),(1,1),(2,2)]) (fun _ _ _ _ _ g x1 x2 L2 i h=>?_);refine kI hS h ?_ ?_<;>intro h
   ·obtain⟨c13,h⟩:=F4 h;obtain⟨y4,e4,h⟩:=B9 h;refine B7 hS [] (And.intro c13 (by decide:(18:Nat)<=18)) (VF hS hL e4) ?_;refine E4 hS trivial (b:=y4.2 != 0) (fun c14=>?_) (fun c14=>?_)
    ·replace h:=itT c14 h;obtain⟨c0,h⟩:=F4 h;obtain rfl:=C4 h;have j:Ap5 c=some (.iface 210 (pI .i64 y4.2)):=by
      have:¬y4.2=0:=by simpa using c14
      rw[<- c0];simp[Ap5,this]
     refine AD2 hS trivial (x:=.iface 210 (pI .i64 y4.2)) ?_;exact Aw2 hS trivial (x:=.iface 210 (pI .i64 y4.2)) (objs:=[(.cells [.p (vSl 2 A0 q0)]),.cells [.p (vSl 18 B4 q1)],.yld [] true]) [0,1,2] ⟨true,rfl,rfl,fun _=>by rw[j];rfl,fun e=>nomatch e⟩
    ·replace h:=itF c14 h;obtain⟨L5,rfl,f⟩:=Mw h;replace h:=f;refine Dt hS trivial (ys:=(fun (x:Int×(Sl Sound))=>[pI .i64 x.1,vSl 2 A0 x.2]) (wrap .i64 (x2+1),y4.1)) (rest:=L5.map (fun (x:Int×(Sl Sound))=>[pI .i64 x.1,vSl 2 A0 x.2])) ?_ ?_
     ·refine E4 hS trivial (b:=false) (fun c15=>?_) (fun c15=>?_)
      ·exact Bool.noConfusion ((rfl:false=false).symm.trans c15)
      ·exact i _ [(0,0),(1,1),(2,2)] _ y4.1 (wrap .i64 (x2+1)) L5 trivial h
     ·refine E4 hS trivial (b:=true) (fun c16=>?_) (fun c16=>?_)
      ·exact A9 hS trivial (a:=.tup []) (objs:=[(.cells [.p (vSl 2 A0 q0)]),.cells [.p (vSl 18 B4 q1)],.yld [] false]) ⟨[],[(2,.yld [] false),(1,.cells [.p (vSl 18 B4 q1)]),(0,.cells [.p (vSl 2 A0 q0)])]⟩ [0,1,2] (ids:=[(0,0),(1,1),(2,2)]) ⟨false,rfl,rfl,fun e=>(nomatch e),fun _=>⟨_,rfl⟩⟩
      ·exact Bool.noConfusion ((rfl:true=true).symm.trans c16)
   ·obtain⟨c0,h⟩:=F4 h;obtain rfl:=C4 h;exact A9 hS trivial (a:=.tup []) (objs:=[(.cells [.p (vSl 2 A0 q0)]),.cells [.p (vSl 18 B4 q1)],.yld [] true]) ⟨[],[(2,.yld [] true),(1,.cells [.p (vSl 18 B4 q1)]),(0,.cells [.p (vSl 2 A0 q0)])]⟩ [0,1,2] (ids:=[(0,0),(1,1),(2,2)]) ⟨true,rfl,rfl,fun _=>by subst c0;exact⟨_,rfl⟩,fun e=>(nomatch e)⟩
 ·refine E4 hS trivial (b:=true) (fun c17=>?_) (fun c17=>?_)
  ·exact A9 hS trivial (a:=.tup []) (objs:=[(.cells [.p (vSl 2 A0 q0)]),.cells [.p (vSl 18 B4 q1)],.yld [] false]) ⟨[],[(2,.yld [] false),(1,.cells [.p (vSl 18 B4 q1)]),(0,.cells [.p (vSl 2 A0 q0)])]⟩ [0,1,2] (ids:=[(0,0),(1,1),(2,2)]) ⟨false,rfl,rfl,fun e=>(nomatch e),fun _=>⟨_,rfl⟩⟩
  ·exact Bool.noConfusion ((rfl:true=true).symm.trans c17)
def AU (N:Nat)(a:Sl Law)(b:Sl Sound):Option ((Sl Sound)×(Sl Law)):=
 some (b,a)
theorem HP {N:Nat}{a:Sl Law}{b:Sl Sound}{y:(Sl Sound)×(Sl Law)}(h:AU N a b=some y) :FunO S HL [.p (vSl 18 B4 a),.p (vSl 2 A0 b)] [] (.clo Q3 [] [.reg 0 0,.reg 1 0]) ([.cells [.p (vSl 2 A0 y.1)],.cells [.p (vSl 18 B4 y.2)]]) []:=by unfold AU at h;refine A2 hS Tryz.func161 ?_;obtain rfl:=C4 h;exact A9 hS trivial ⟨[(4,.clo Q3 [] [.reg 4000 0,.reg 3000 0])],[(4000,.cells [.p (vSl 2 A0 b)]),(3000,.cells [.p (vSl 18 B4 a)])]⟩ [4000,3000] (ids:=[(3000,3000),(4000,4000)]) ⟨rfl,rfl,rfl⟩
def C0 (N:Nat)(c:Int)(a:Sl Law)(d:Sl Sound):Option (Sl Sound):=
 (AU N a d).bind fun y1=>
 (U8 N c y1.1 y1.2).bind fun L1=>
 O5 L1 (fun b (x1:Int×(Sl Sound)) (z1:Sl Sound)=>
  b x1.2
  ) (fun (z1:Sl Sound)=>
   some z1
  ) (Sl.nil:Sl Sound)
theorem Kh {N:Nat}{a:Sl Law}{b:Sl Sound}{y:Sl Sound}(h:C0 N 0 a b=some y) :FunO S H8 [.p (vSl 18 B4 a),.p (vSl 2 A0 b)] [] (.p (vSl 2 A0 y)) ([]) []:=by
 unfold C0 at h;refine A2 hS Tryz.func142 ?_;refine kC hS h (HP hS hL) (fun y1 h=>?_);obtain⟨L1,e2,h⟩:=B9 h;have f:My S Q3 [] [.reg 0 0,.reg 1 0] [.cells [.p (vSl 2 A0 y1.1)],.cells [.p (vSl 18 B4 y1.2)]] (L1.map (fun (x:Int×(Sl Sound))=>[pI .i64 x.1,vSl 2 A0 x.2])) none:=FU hS hL e2;refine WX hS trivial [8000,8001] [4] 901 (fun z1=>⟨[(4,.reg 5000 0)],[(5000,.cells [.p (vSl 2 A0 z1)])]⟩) (idl:=[(5000,5000)]) h f (fun _=>by kernel_rfl) (fun _=>by kernel_rfl) (fun _=>by kernel_rfl) (fun _=>by kernel_rfl) (fun x1 _ c z1 d h=>?_) (fun z1 h=>?_)
 ·refine Ii hS trivial ?_;exact d _ [(901,901),(5000,5000)] _ x1.2 trivial h
 ·cases h;exact kR hS
theorem Ki {N:Nat}{c:Int}{a:Sl Law}{b:Sl Sound}{y:Sl Sound}(hc:c≠0)(h:C0 N c a b=some y) :S.F H8 [.p (vSl 18 B4 a),.p (vSl 2 A0 b)] [] fun res o k=>res=.panic (.iface 210 (pI .i64 c))/\o=[]/\k=[]:=by
 unfold C0 at h;refine Ap0 hS Tryz.func142 ?_;refine kC hS h (HP hS hL) (fun y1 h=>?_);obtain⟨L1,e2,h⟩:=B9 h;have g:My S Q3 [] [.reg 0 0,.reg 1 0] [.cells [.p (vSl 2 A0 y1.1)],.cells [.p (vSl 18 B4 y1.2)]] (L1.map (fun (x:Int×(Sl Sound))=>[pI .i64 x.1,vSl 2 A0 x.2])) (some (.iface 210 (pI .i64 c))):=by
  have:=FU hS hL e2
  simpa[Ap5,hc]using this
 refine WX hS trivial [8000,8001] [4] 901 (fun z1=>⟨[(4,.reg 5000 0)],[(5000,.cells [.p (vSl 2 A0 z1)])]⟩) (idl:=[(5000,5000)]) h g (fun _=>by kernel_rfl) (fun _=>by kernel_rfl) (fun _=>by kernel_rfl) (fun _=>by kernel_rfl) (fun x1 _ d z1 f h=>?_) (fun z1 h=>?_)
 ·refine Ii hS trivial ?_;exact f _ [(901,901),(5000,5000)] _ x1.2 trivial h
 ·exact Aw2 hS trivial (x:=.iface 210 (pI .i64 c)) (objs:=[]) [] ⟨rfl,rfl,rfl⟩
def F5 (N:Nat)(a:Sl Law)(b:Sl Sound):Option ((Sl Sound)×Bool):=
 match C0 N 0 a b with
 |some y=>some (y,true)
 |none=>(C0 N 11 a b).bind fun _=>some ((Sl.nil:Sl Sound),false)
theorem Ls {N:Nat}{b:Sl Law}{c:Sl Sound}{y:(Sl Sound)×Bool}(h:F5 N b c=some y) :FunO S FP [.p (vSl 18 B4 b),.p (vSl 2 A0 c)] [] (.tup [.p (vSl 2 A0 y.1),pB y.2]) ([]) []:=by
 unfold F5 at h;refine A2 hS Tryz.func112 ?_;rcases e:C0 N 0 b c with _|z
 ·rw[e]at h;obtain⟨z,e1,h⟩:=B9 h;obtain rfl:=C4 h;refine B7 hS [7000,3000,4000,5000] trivial (hL.attP (Ki hS hL (by decide) e1)) ?_;refine Z8 hS trivial [(0,.l [5000]),(1,.l [7000]),(3,.a [5000])] ?_;refine P7 trivial ?_;exact A9 hS trivial ⟨[(5,pB false),(4,.reg 5000 0)],[(5000,.cells [.p (vSl 2 A0 Sl.nil)])]⟩ [] (ids:=[(5000,5000)]) ⟨rfl,rfl,rfl⟩
 ·rw[e]at h;obtain rfl:=C4 h;refine B7 hS [7000,3000,4000,5000] trivial (hL.attR (Kh hS hL e)) ?_;refine Z8 hS trivial [(0,.l [5000]),(1,.l [7000]),(3,.a [5000])] ?_;refine P7 trivial ?_;exact A9 hS trivial ⟨[(5,pB true),(4,.reg 5000 0)],[(5000,.cells [.p (vSl 2 A0 z)])]⟩ [] (ids:=[(5000,5000)]) ⟨rfl,rfl,rfl⟩
end Go.AM
namespace Go.AM
open Go.Proofs
set_option maxRecDepth 10000
set_option maxHeartbeats 2000000
variable {S:AD}(hS:H2 S Tryz.prog) (hL:PF S)
include hS hL
def E8 (N:Nat)(a:Sl Law)(b:Sl Sound):Option ((Sl Sound)×Int):=
 (AT N a (Sl.of [b]:Sl (Sl Sound))).bind fun y1=>
 if (y1 != 0) then
  some ((Sl.nil:Sl Sound),y1)
 else
  (F5 N a b).bind fun y2=>
  if (!y2.2) then
   some ((Sl.nil:Sl Sound),11)
  else
   some (y2.1,0)
theorem GK {N:Nat}{a:Sl Law}{b:Sl Sound}{y:(Sl Sound)×Int}(h:E8 N a b=some y) :FunO S Gv [.p (vSl 18 B4 a),.p (vSl 2 A0 b)] [] (.tup [.p (vSl 2 A0 y.1),pN y.2]) ([]) []:=by
 unfold E8 at h;refine A2 hS Tryz.func78 ?_;refine CX hS (rfl:true=true) ⟨[(11,.vec 12000),(9,.p (vSl 18 B4 a)),(1,.p (vSl 2 A0 b)),(0,.p (vSl 18 B4 a))],[(12000,.vec E2 1 (Sl.of [b]:Sl (Sl Sound)).n (fun i=>cL 2 A0 ((Sl.of [b]:Sl (Sl Sound)).g i)) false)]⟩ (ids:=[(12000,12000)]) ?_ (hle:=klR [(3,.fn 1 (Sl.of [b]:Sl (Sl Sound)).n (F0 [F9] [(0,cL 2 A0 b)]) (fun i=>cL 2 A0 ((Sl.of [b]:Sl (Sl Sound)).g i)))] (al1 ⟨rfl,(fun i c=>match i,c with|0,_=>rfl|_+1,c=>absurd c (by omega))⟩ al0));refine kC hS h (OG hS hL) (fun y1 h=>?_);refine kI hS h ?_ ?_<;>intro h
 ·obtain rfl:=C4 h;exact A9 hS trivial ⟨[(5,pN y1),(4,.p (vSl 2 A0 (Sl.nil:Sl Sound)))],[]⟩ [] (ids:=[]) ⟨rfl,rfl,rfl⟩
 ·refine kC hS h (Ls hS hL) (fun y2 h=>?_);refine kI hS h ?_ ?_<;>intro h
  ·obtain rfl:=C4 h;exact A9 hS trivial ⟨[(5,pN 11),(4,.p (vSl 2 A0 (Sl.nil:Sl Sound)))],[]⟩ [] (ids:=[]) ⟨rfl,rfl,rfl⟩
  ·cases h;exact kR hS
end Go.AM
namespace Go.AM
open IntKind (wrap)
open Go.Proofs
set_option maxRecDepth 10000
set_option maxHeartbeats 2000000
variable {S:AD}(hS:H2 S Tryz.prog) (hL:PF S)
include hS hL
def GL (N:Nat)(a:Int):Option Bool:=
 some (((((decide (97<=a))&&(decide (a<=122)))||((decide (65<=a))&&(decide (a<=90))))||((decide (48<=a))&&(decide (a<=57))))||(a==45))
theorem Tp {N:Nat}{b:Int}{y:Bool}(h:GL N b=some y) :FunO S KU [.p (pI .u8 b)] [] (pB y) ([]) []:=by unfold GL at h;refine A2 hS Tryz.func156 ?_;refine kB hS (A6 hS) trivial trivial 23 (.o (.o (.o (.n (.a (decide (97<=b))) (.a (decide (b<=122)))) (.n (.a (decide (65<=b))) (.a (decide (b<=90))))) (.n (.a (decide (48<=b))) (.a (decide (b<=57))))) (.a (b==45))) ?_;cases h;exact kR hS
def Dk (N:Nat)(a:Str):Option Bool:=
 V9 N (fun b (x1:Int)=>
  if (decide (x1<(a.length:Int))) then
   if ((0:Int)<=x1/\x1<(a.length:Int))then
    (GL N (Ap a x1)).bind fun y3=>
    if (!y3) then
     some false
    else
     b (wrap .i64 (x1+1))
   else none
  else
   some ((decide (1<=(a.length:Int)))&&(decide ((a.length:Int)<=24)))
  ) 0
theorem PH {N:Nat}{b:Str}{y:Bool}(h:Dk N b=some y) :FunO S Py [.p (.str b)] [] (pB y) ([]) []:=by
 unfold Dk at h;refine A2 hS Tryz.func133 ?_;refine N7 hS trivial h (fun x1=>⟨[(3,pN x1),(0,.p (.str b))],[]⟩) (ids:=[]) (fun _ _ _ _ _ c x1 d h=>?_);refine kI hS h ?_ ?_<;>intro h
 ·obtain⟨c8,h⟩:=F4 h;obtain⟨y3,e3,h⟩:=B9 h;refine B7 hS [] c8 (Tp hS hL e3) ?_;refine kI hS h ?_ ?_<;>intro h
  ·cases h;exact kR hS
  ·exact d _ [] _ (wrap .i64 (x1+1)) trivial h
 ·refine kB hS (A6 hS) trivial trivial 4 (.n (.a (decide (1<=(b.length:Int)))) (.a (decide ((b.length:Int)<=24)))) ?_;cases h;exact kR hS
def Bg (N:Nat)(a:Sl H9):Option Int:=
 if ((decide ((a.n:Int)<1))=false->((decide (63<(a.n:Int)))=false->((0:Int)<=0/\0<(a.n:Int))))then
  if (((decide ((a.n:Int)<1))||(decide (63<(a.n:Int))))||((a.g 0).Parent != (-1))) then
   some 16
  else
   V9 N (fun b (x3:Int)=>
    if (decide (x3<(a.n:Int))) then
     lt (fun (z3:Bool)=>
      if z3 then
       some 16
      else
       V9 N (fun c (x7:Int)=>
        if (decide (x7<x3)) then
         if (((0:Int)<=x7/\x7<(a.n:Int))/\((0:Int)<=x3/\x3<(a.n:Int)))then
          if (((a.g x7.toNat).Name==(a.g x3.toNat).Name) != false) then
           some 16
          else
           c (wrap .i64 (x7+1))
         else none
        else
         b (wrap .i64 (x3+1))
        ) 0
      ) fun k3=>
      if (decide (0<x3)) then
       if ((0:Int)<=x3/\x3<(a.n:Int))then
        if (decide ((a.g x3.toNat).Parent<0)) then
         k3 true
        else
         if ((0:Int)<=x3/\x3<(a.n:Int))then
          if (decide (x3<=(a.g x3.toNat).Parent)) then
           k3 true
          else
           if ((0:Int)<=x3/\x3<(a.n:Int))then
            (Dk N (a.g x3.toNat).Name).bind fun d=>
            k3 (!d)
           else none
         else none
       else none
      else
       if ((0:Int)<=x3/\x3<(a.n:Int))then
        (Dk N (a.g x3.toNat).Name).bind fun f=>
        k3 (!f)
       else none
    else
     some 0
    ) 0
 else none
theorem VG {N:Nat}{c:Sl H9}{y:Int}(h:Bg N c=some y) :FunO S MN [.p (vSl 2 G3 c)] [] (pN y) ([]) []:=by
 unfold Bg at h;refine A2 hS Tryz.func101 ?_;obtain⟨c1,h⟩:=F4 h;refine kB hS (A6 hS) trivial c1 11 (.o (.o (.a (decide ((c.n:Int)<1))) (.a (decide (63<(c.n:Int))))) (.a ((c.g 0).Parent != (-1)))) ?_;refine kI hS h ?_ ?_<;>intro h
 ·cases h;exact kR hS
 ·refine N7 hS trivial h (fun x3=>⟨[(3,pN x3),(0,.p (vSl 2 G3 c))],[]⟩) (ids:=[]) (fun _ _ _ _ _ f x3 i h=>?_);refine kI hS h ?_ ?_<;>intro h
  ·refine JM hS trivial (A6 hS) h 0 (fun z3=>⟨[(53,pB z3),(3,pN x3),(0,.p (vSl 2 G3 c))],[]⟩) (fun M3 k3 d h=>?_) (fun z3 h=>?_)
   ·refine kG hS h (fun h=>?_) (fun h=>?_)
    ·obtain⟨c71,h⟩:=F4 h;refine Gn hS c71 (b:=decide ((c.g x3.toNat).Parent<0)) (fun c72=>?_) (fun c72=>?_)
     ·replace h:=itT c72 h;exact d _ [] _ true trivial h
     ·replace h:=itF c72 h;obtain⟨c73,h⟩:=F4 h;refine Gn hS c73 (b:=decide (x3<=(c.g x3.toNat).Parent)) (fun c74=>?_) (fun c74=>?_)
      ·replace h:=itT c74 h;exact d _ [] _ true trivial h
      ·replace h:=itF c74 h;obtain⟨c75,h⟩:=F4 h;obtain⟨j,e11,h⟩:=B9 h;refine B7 hS [] c75 (PH hS hL e11) ?_;exact d _ [] _ (!j) trivial h
    ·obtain⟨c76,h⟩:=F4 h;obtain⟨l,e12,h⟩:=B9 h;refine B7 hS [] c76 (PH hS hL e12) ?_;exact d _ [] _ (!l) trivial h
   ·refine kI hS h ?_ ?_<;>intro h
    ·cases h;exact kR hS
    ·refine N7 hS trivial h (fun x7=>⟨[(4,pN x7),(3,pN x3),(0,.p (vSl 2 G3 c))],[]⟩) (ids:=[]) (fun _ _ _ _ _ m x7 q h=>?_);refine kI hS h ?_ ?_<;>intro h
     ·refine H7 hS trivial [2,4,7,9] ?_;obtain⟨c85,h⟩:=F4 h;refine P7 c85 ?_;refine kI hS h ?_ ?_<;>intro h
      ·cases h;exact kR hS
      ·exact q _ [] _ (wrap .i64 (x7+1)) trivial h
     ·exact i _ [] _ (wrap .i64 (x3+1)) trivial h
  ·cases h;exact kR hS
def Y4 (rec:A7->Int->Option (Sl Int))(N:Nat)(b:A7)(a:Int):Option (Sl Int):=
 if (decide (a<0)) then
  some (Sl.nil:Sl Int)
 else
  if ((0:Int)<=a/\a<(b.Tree.n:Int))then
   (rec b (b.Tree.g a.toNat).Parent).bind fun y1=>
   if (((0:Int)<=a/\a<(b.On.n:Int))/\((y1.n+(b.On.g a.toNat).n)*8<=140737488355328/\y1.n+(b.On.g a.toNat).n<=140737488355328))then
    some (y1.app (b.On.g a.toNat))
   else none
  else none
def Bo:Nat->A7->Int->Option (Sl Int)
 |0=>fun _ _=>none
 |N+1=>Y4 (Bo N) N
theorem VH {N:Nat}{rec:A7->Int->Option (Sl Int)}(d:∀{a:A7}{b:Int}{y:Sl Int},rec a b=some y->FunO S Hc [.p (.agg (A8 a)),pN b] [] (.vec 0) ([.vec F1 1 y.n (fun i=>cI .i64 (y.g i)) true]) []){a:A7}{b:Int}{y:Sl Int}(h:Y4 rec N a b=some y) :FunO S Hc [.p (.agg (A8 a)),pN b] [] (.vec 0) ([.vec F1 1 y.n (fun i=>cI .i64 (y.g i)) true]) []:=by
 unfold Y4 at h;refine A2 hS Tryz.func103 ?_;refine I7 hS trivial 4 3000 (A8 a) ?_;refine kI hS h ?_ ?_<;>intro h
 ·obtain rfl:=C4 h;exact A9 hS trivial ⟨[(4,.vec 5700)],[(5700,.vec F1 1 (Sl.nil:Sl Int).n (fun i=>cI .i64 ((Sl.nil:Sl Int).g i)) true)]⟩ [5700] (ids:=[]) ⟨rfl,rfl,rfl⟩
 ·refine H7 hS trivial [0,2,4,6,9,11,12] ?_;obtain⟨c2,h⟩:=F4 h;obtain⟨y1,e1,h⟩:=B9 h;refine Ab3 [] (And.intro (by decide:(3:Nat)<=3) c2) (d e1) ?_;obtain⟨c3,h⟩:=F4 h;refine P7 c3 ?_;obtain rfl:=C4 h;exact A9 hS trivial ⟨[(4,.vec 21000)],[(21000,.vec F1 1 (y1.app (a.On.g b.toNat)).n (fun i=>cI .i64 ((y1.app (a.On.g b.toNat)).g i)) true)]⟩ [21000] (ids:=[(21000,21000)]) ⟨rfl,rfl,rfl⟩ (hle:=klR [(0,.fn (y1.n+(a.On.g b.toNat).n) (y1.app (a.On.g b.toNat)).n (BW y1.n (fun i=>cI .i64 (y1.g i)) (fun i=>cI .i64 ((a.On.g b.toNat).g i))) (fun i=>cI .i64 ((y1.app (a.On.g b.toNat)).g i)))] (al1 ⟨rfl,AR5 (c:=cI .i64) (v:=y1) (w:=a.On.g b.toNat) same rfl same rfl⟩ al0))
theorem YI {N:Nat}{a:A7}{b:Int}{y:Sl Int}(h:Bo N a b=some y) :FunO S Hc [.p (.agg (A8 a)),pN b] [] (.vec 0) ([.vec F1 1 y.n (fun i=>cI .i64 (y.g i)) true]) []:=by
 induction N generalizing a b y with
 |zero=>cases (show (none:Option (Sl Int))=some y from h)
 |succ N ih=>exact VH hS hL (fun e=>ih e) h
def Y5 (N:Nat)(a:A7):Option Int:=
 (Bg N a.Tree).bind fun y1=>
 if (y1 != 0) then
  some 16
 else
  if (decide (64<(a.Laws.n:Int))) then
   some 12
  else
   V9 N (fun d (x1:Int)=>
    if (decide (x1<(a.Laws.n:Int))) then
     if ((0:Int)<=x1/\x1<(a.Laws.n:Int))then
      (X9 N (a.Laws.g x1.toNat)).bind fun y4=>
      if (y4 != 0) then
       some 17
      else
       d (wrap .i64 (x1+1))
     else none
    else
     V9 N (fun f (x3:Int)=>
      if (decide (x3<(a.Laws.n:Int))) then
       V9 N (fun i (x5:Int)=>
        if (decide (x5<x3)) then
         if (((0:Int)<=x3/\x3<(a.Laws.n:Int))/\((0:Int)<=x5/\x5<(a.Laws.n:Int)))then
          if (((a.Laws.g x3.toNat).Name==(a.Laws.g x5.toNat).Name) != false) then
           some 6
          else
           i (wrap .i64 (x5+1))
         else none
        else
         f (wrap .i64 (x3+1))
        ) 0
      else
       if ((a.On.n:Int) != (a.Tree.n:Int)) then
        some 2
       else
        V9 N (fun j (x6:Int)=>
         if (decide (x6<(a.On.n:Int))) then
          (Bo N a x6).bind fun y7=>
          if (decide (64<(y7.n:Int))) then
           some 2
          else
           j (wrap .i64 (x6+1))
         else
          V9 N (fun l (x8:Int)=>
           if (decide (x8<(a.On.n:Int))) then
            V9 N (fun c (b:Int)=>
             if ((0:Int)<=x8/\x8<(a.On.n:Int))then
              if (decide (b<((a.On.g x8.toNat).n:Int))) then
               if (((0:Int)<=x8/\x8<(a.On.n:Int))/\((0:Int)<=b/\b<((a.On.g x8.toNat).n:Int)))then
                if (decide (((a.On.g x8.toNat).g b.toNat)<0)) then
                 some 3
                else
                 if (((0:Int)<=x8/\x8<(a.On.n:Int))/\((0:Int)<=b/\b<((a.On.g x8.toNat).n:Int)))then
                  if (decide ((a.Laws.n:Int)<=((a.On.g x8.toNat).g b.toNat))) then
                   some 3
                  else
                   c (wrap .i64 (b+1))
                 else none
               else none
              else
               l (wrap .i64 (x8+1))
             else none
             ) 0
           else
            some 0
           ) 0
         ) 0
      ) 0
    ) 0
theorem VJ {N:Nat}{a:A7}{y:Int}(h:Y5 N a=some y) :FunO S MG [.p (.agg (A8 a))] [] (pN y) ([]) []:=by
 unfold Y5 at h;refine A2 hS Tryz.func68 ?_;refine I7 hS trivial 2 2000 (A8 a) ?_;refine kC hS h (VG hS hL) (fun y1 h=>?_);refine kI hS h ?_ ?_<;>intro h
 ·cases h;exact kR hS
 ·refine kI hS h ?_ ?_<;>intro h
  ·cases h;exact kR hS
  ·refine N7 hS trivial h (fun x1=>⟨[(3,pN x1),(1,.p (.ptr (A8 a)))],[]⟩) (ids:=[]) (fun _ _ _ _ _ i x1 j h=>?_);refine kI hS h ?_ ?_<;>intro h
   ·obtain⟨c10,h⟩:=F4 h;obtain⟨y4,e4,h⟩:=B9 h;refine B7 hS [] (And.intro c10 (by decide:(18:Nat)<=18)) (Vz hS hL e4) ?_;refine kI hS h ?_ ?_<;>intro h
    ·cases h;exact kR hS
    ·exact j _ [] _ (wrap .i64 (x1+1)) trivial h
   ·refine N7 hS trivial h (fun x3=>⟨[(4,pN x3),(1,.p (.ptr (A8 a)))],[]⟩) (ids:=[]) (fun _ _ _ _ _ l x3 m h=>?_);refine kI hS h ?_ ?_<;>intro h
    ·refine N7 hS trivial h (fun x5=>⟨[(5,pN x5),(4,pN x3),(1,.p (.ptr (A8 a)))],[]⟩) (ids:=[]) (fun _ _ _ _ _ o x5 q h=>?_);refine kI hS h ?_ ?_<;>intro h
     ·refine H7 hS trivial [1,3,5,7,9,11] ?_;obtain⟨c40,h⟩:=F4 h;refine P7 c40 ?_;refine kI hS h ?_ ?_<;>intro h
      ·cases h;exact kR hS
      ·exact q _ [] _ (wrap .i64 (x5+1)) trivial h
     ·exact m _ [] _ (wrap .i64 (x3+1)) trivial h
    ·refine kI hS h ?_ ?_<;>intro h
     ·cases h;exact kR hS
     ·refine N7 hS trivial h (fun x6=>⟨[(6,pN x6),(1,.p (.ptr (A8 a)))],[]⟩) (ids:=[]) (fun _ _ _ _ _ r x6 s h=>?_);refine kI hS h ?_ ?_<;>intro h
      ·obtain⟨y7,e7,h⟩:=B9 h;refine B7 hS [] (by decide:(3:Nat)<=3) (YI hS hL e7) ?_;refine kI hS h ?_ ?_<;>intro h
       ·cases h;exact kR hS
       ·exact s _ [] _ (wrap .i64 (x6+1)) trivial h
      ·refine N7 hS trivial h (fun x8=>⟨[(7,pN x8),(1,.p (.ptr (A8 a)))],[]⟩) (ids:=[]) (fun _ _ _ _ _ t x8 u h=>?_);refine kI hS h ?_ ?_<;>intro h
       ·refine N7 hS trivial h (fun c=>⟨[(8,pN c),(7,pN x8),(1,.p (.ptr (A8 a)))],[]⟩) (ids:=[]) (fun _ _ _ _ _ f c d h=>?_);obtain⟨c100,h⟩:=F4 h;refine E4 hS c100 (b:=decide (c<((a.On.g x8.toNat).n:Int))) (fun c101=>?_) (fun c101=>?_)
        ·replace h:=itT c101 h;refine H7 hS trivial [1,3,4,6,7,11,13,14,16,17,19] ?_;obtain⟨c102,h⟩:=F4 h;refine Ab2 c102 (b:=decide (((a.On.g x8.toNat).g c.toNat)<0)) (fun c103=>?_) (fun c103=>?_)
         ·replace h:=itT c103 h;refine P7 trivial ?_;cases h;exact kR hS
         ·replace h:=itF c103 h;obtain⟨c104,h⟩:=F4 h;refine P7 c104 ?_;refine kI hS h ?_ ?_<;>intro h
          ·cases h;exact kR hS
          ·exact d _ [] _ (wrap .i64 (c+1)) trivial h
        ·replace h:=itF c101 h;exact u _ [] _ (wrap .i64 (x8+1)) trivial h
       ·cases h;exact kR hS
def EV (N:Nat)(b:A7)(a:Int):Option Bool:=
 some ((decide (0<=a))&&(decide (a<(b.Tree.n:Int))))
def Hk (N:Nat)(a:A7)(b:Int):Option ((Sl Int)×Int):=
 (Y5 N a).bind fun y1=>
 if (y1 != 0) then
  some ((Sl.nil:Sl Int),y1)
 else
  (EV N a b).bind fun y2=>
  if (!y2) then
   some ((Sl.nil:Sl Int),3)
  else
   (Bo N a b).bind fun y3=>
   some (y3,0)
def Kj (N:Nat)(a:A7)(c:Int):Option ((Sl Law)×Int):=
 (Hk N a c).bind fun y1=>
 P4 N (fun b (x1:Sl Law) (x2:Int)=>
  if (decide (x2<(y1.1.n:Int))) then
   if ((((0:Int)<=x2/\x2<(y1.1.n:Int))/\x2.toNat<y1.1.n)/\((0:Int)<=(y1.1.g x2.toNat)/\(y1.1.g x2.toNat)<(a.Laws.n:Int)))then
    if ((x1.n+(Sl.of [a.Laws.g (y1.1.g x2.toNat).toNat]:Sl Law).n)*200<=140737488355328/\x1.n+(Sl.of [a.Laws.g (y1.1.g x2.toNat).toNat]:Sl Law).n<=140737488355328)then
     b (x1.push (a.Laws.g (y1.1.g x2.toNat).toNat)) (wrap .i64 (x2+1))
    else none
   else none
  else
   some (x1,y1.2)
  ) (Sl.nil:Sl Law) 0
def Kk (N:Nat)(a:A7)(b:Sl Sound):Option Int:=
 (Y5 N a).bind fun y1=>
 if (y1 != 0) then
  some y1
 else
  (DB N b).bind fun y2=>
  some y2
def LI (N:Nat)(a:A7)(b:Sl Sound)(c:Int):Option ((Sl Sound)×Int):=
 (Kj N a c).bind fun y1=>
 (GG N y1.1 b).bind fun y2=>
 some (y2.1,y2.2)
def LJ (N:Nat)(a:A7)(b:Sl Sound)(c:Int):Option ((Sl Sound)×Int):=
 (Kk N a b).bind fun y1=>
 if (y1 != 0) then
  some ((Sl.nil:Sl Sound),y1)
 else
  (EV N a c).bind fun y2=>
  if (!y2) then
   some ((Sl.nil:Sl Sound),3)
  else
   (LI N a b c).bind fun y3=>
   some (y3.1,y3.2)
def FD (N:Nat)(a:Int):Option Bool:=
 some (((((decide (97<=a))&&(decide (a<=122)))||((decide (65<=a))&&(decide (a<=90))))||((decide (48<=a))&&(decide (a<=57))))||(a==45))
theorem Rh {N:Nat}{b:Int}{y:Bool}(h:FD N b=some y) :FunO S Je [.p (pI .u8 b)] [] (pB y) ([]) []:=by unfold FD at h;refine A2 hS Tryz.func152 ?_;refine kB hS (A6 hS) trivial trivial 23 (.o (.o (.o (.n (.a (decide (97<=b))) (.a (decide (b<=122)))) (.n (.a (decide (65<=b))) (.a (decide (b<=90))))) (.n (.a (decide (48<=b))) (.a (decide (b<=57))))) (.a (b==45))) ?_;cases h;exact kR hS
def CG (N:Nat)(a:Str):Option Bool:=
 V9 N (fun b (x1:Int)=>
  if (decide (x1<(a.length:Int))) then
   if ((0:Int)<=x1/\x1<(a.length:Int))then
    (FD N (Ap a x1)).bind fun y3=>
    if (!y3) then
     some false
    else
     b (wrap .i64 (x1+1))
   else none
  else
   some ((decide (0<(a.length:Int)))&&(decide ((a.length:Int)<=24)))
  ) 0
theorem Tq {N:Nat}{b:Str}{y:Bool}(h:CG N b=some y) :FunO S KT [.p (.str b)] [] (pB y) ([]) []:=by
 unfold CG at h;refine A2 hS Tryz.func125 ?_;refine N7 hS trivial h (fun x1=>⟨[(6,pN x1),(5,pN (b.length:Int)),(0,.p (.str b))],[]⟩) (ids:=[]) (fun _ _ _ _ _ c x1 d h=>?_);refine kI hS h ?_ ?_<;>intro h
 ·obtain⟨c8,h⟩:=F4 h;obtain⟨y3,e3,h⟩:=B9 h;refine B7 hS [] c8 (Rh hS hL e3) ?_;refine kI hS h ?_ ?_<;>intro h
  ·cases h;exact kR hS
  ·exact d _ [] _ (wrap .i64 (x1+1)) trivial h
 ·refine kB hS (A6 hS) trivial trivial 4 (.n (.a (decide (0<(b.length:Int)))) (.a (decide ((b.length:Int)<=24)))) ?_;cases h;exact kR hS
def Y6 (N:Nat)(a:Sl H9):Option Int:=
 if (((a.n:Int)==0)||(decide (63<(a.n:Int)))) then
  some 16
 else
  P4 N (fun b (x2:List (Str×Bool)) (x3:Int)=>
   if (decide (x3<(a.n:Int))) then
    if ((0:Int)<=x3/\x3<(a.n:Int))then
     lt (fun (z3:Bool)=>
      if z3 then
       some 16
      else
       b (NS eqS (a.g x3.toNat).Name true x2) (wrap .i64 (x3+1))
      ) fun k3=>
      if (decide (x3<=(a.g x3.toNat).Parent)) then
       k3 true
      else
       if (decide ((a.g x3.toNat).Parent<(if 0<(wrap .i64 (x3-1))then 0 else (wrap .i64 (x3-1))))) then
        k3 true
       else
        (CG N (a.g x3.toNat).Name).bind fun y6=>
        if (!y6) then
         k3 true
        else
         An2 (BS eqS (a.g x3.toNat).Name x2) (
          k3 false
          ) fun v6=>
          k3 v6
    else none
   else
    some 0
   ) [] 0
theorem KZ {N:Nat}{c:Sl H9}{y:Int}(h:Y6 N c=some y) :FunO S KQ [.p (vSl 2 G3 c)] [] (pN y) ([]) []:=by
 unfold Y6 at h;refine A2 hS Tryz.func89 ?_;refine kB hS (A6 hS) trivial trivial 4 (.o (.a ((c.n:Int)==0)) (.a (decide (63<(c.n:Int))))) ?_;refine kI hS h ?_ ?_<;>intro h
 ·cases h;exact kR hS
 ·refine I4 hS trivial h (fun x2 x3=>⟨[(17,pN x3),(16,pN (c.n:Int)),(15,.p (vSl 2 G3 c)),(3,.mref 15000)],[(15000,.map (Li PV.str PV.bb x2))]⟩) (ids:=[(15000,15000)]) (fun _ _ _ _ _ f x2 x3 i h=>?_);refine kI hS h ?_ ?_<;>intro h
  ·obtain⟨c25,h⟩:=F4 h;refine JM hS (And.intro c25 (by decide:(2:Nat)<=2)) (A6 hS) h 0 (fun z3=>⟨[(45,pB z3),(17,pN x3),(16,pN (c.n:Int)),(15,.p (vSl 2 G3 c)),(5,.reg 6000 0),(3,.mref 15000)],[(15000,.map (Li PV.str PV.bb x2)),(6000,.cells [pN (c.g x3.toNat).Parent,.p (.str (c.g x3.toNat).Name)])]⟩) (fun M3 k3 d h=>?_) (fun z3 h=>?_)
   ·refine kG hS h (fun h=>?_) (fun h=>?_)
    ·exact d _ [(6000,6000),(15000,15000)] _ true trivial h
    ·refine kG hS h (fun h=>?_) (fun h=>?_)
     ·exact d _ [(6000,6000),(15000,15000)] _ true trivial h
     ·refine kC hS h (Tq hS hL) (fun y6 h=>?_);refine kG hS h (fun h=>?_) (fun h=>?_)
      ·exact d _ [(6000,6000),(15000,15000)] _ true trivial h
      ·rcases o6:BS eqS (c.g x3.toNat).Name x2 with _|v6
       ·replace h:=optN o6 h;refine Ha hS trivial (kt:=Cu) (e:=Aw4) (key:=PV.str (c.g x3.toNat).Name) (es:=Li PV.str PV.bb x2) (x:=.v (.bool false)) (b:=false) (fd:=none) ((Ds (kP:=PV.str) (vP:=PV.bb) (eq:=eqS) (fun _ _=>by kernel_rfl) (c.g x3.toNat).Name x2).trans (by rw[o6];rfl)) trivial ?_;exact d _ [(6000,6000),(15000,15000)] _ false trivial h
       ·replace h:=optS o6 h;refine Ha hS trivial (kt:=Cu) (e:=Aw4) (key:=PV.str (c.g x3.toNat).Name) (es:=Li PV.str PV.bb x2) (x:=PV.bb v6) (b:=true) (fd:=some (PV.bb v6)) ((Ds (kP:=PV.str) (vP:=PV.bb) (eq:=eqS) (fun _ _=>by kernel_rfl) (c.g x3.toNat).Name x2).trans (by rw[o6];rfl)) trivial ?_;exact d _ [(6000,6000),(15000,15000)] _ v6 trivial h
   ·refine kI hS h ?_ ?_<;>intro h
    ·cases h;exact kR hS
    ·refine LF hS trivial (kt:=Cu) (key:=PV.str (c.g x3.toNat).Name) (y:=PV.bb true) (es:=Li PV.str PV.bb x2) (IR (kP:=PV.str) (vP:=PV.bb) (eq:=eqS) (fun _ _=>by kernel_rfl) (c.g x3.toNat).Name true x2) trivial ?_;exact i _ [(15000,15000)] _ (NS eqS (c.g x3.toNat).Name true x2) (wrap .i64 (x3+1)) trivial h
  ·cases h;exact kR hS
def Y7 (N:Nat)(a:A7):Option Int:=
 if ((0:Int)<=(a.On.n:Int)/\(a.On.n:Int)<=(a.On.n:Int)/\(a.On.n:Int)*8<=140737488355328/\(a.On.n:Int)<=140737488355328)then
  Aa6 N (fun c (x4:Sl Int) (x5:Bool) (x6:Int)=>
   if (decide (x6<(a.On.n:Int))) then
    if ((((0:Int)<=x6/\x6<(a.On.n:Int))/\((0:Int)<=x6/\x6<(x4.n:Int)))/\x6.toNat<x4.n)then
     if ((0:Int)<=x6/\x6<(a.Tree.n:Int))then
      lt (fun (z3:Sl Int)=>
       if (((0:Int)<=x6/\x6<(z3.n:Int))/\x6.toNat<z3.n)then
        if (decide (64<(z3.g x6.toNat))) then
         some 2
        else
         P4 N (fun d (f:Bool) (b:Int)=>
          if (decide (b<((a.On.g x6.toNat).n:Int))) then
           if ((0:Int)<=b/\b<((a.On.g x6.toNat).n:Int))then
            d ((f||(decide (((a.On.g x6.toNat).g b.toNat)<0)))||(decide ((a.Laws.n:Int)<=((a.On.g x6.toNat).g b.toNat)))) (wrap .i64 (b+1))
           else none
          else
           c z3 f (wrap .i64 (x6+1))
          ) x5 0
       else none
       ) fun k3=>
       if (decide (0<=(a.Tree.g x6.toNat).Parent)) then
        if (((((((0:Int)<=x6/\x6<((x4.upd x6.toNat ((a.On.g x6.toNat).n:Int)).n:Int))/\x6.toNat<(x4.upd x6.toNat ((a.On.g x6.toNat).n:Int)).n)/\((0:Int)<=(a.Tree.g x6.toNat).Parent/\(a.Tree.g x6.toNat).Parent<((x4.upd x6.toNat ((a.On.g x6.toNat).n:Int)).n:Int)))/\(a.Tree.g x6.toNat).Parent.toNat<(x4.upd x6.toNat ((a.On.g x6.toNat).n:Int)).n)/\((0:Int)<=x6/\x6<((x4.upd x6.toNat ((a.On.g x6.toNat).n:Int)).n:Int)))/\x6.toNat<(x4.upd x6.toNat ((a.On.g x6.toNat).n:Int)).n)then
         k3 ((x4.upd x6.toNat ((a.On.g x6.toNat).n:Int)).upd x6.toNat (wrap .i64 (((x4.upd x6.toNat ((a.On.g x6.toNat).n:Int)).g x6.toNat)+((x4.upd x6.toNat ((a.On.g x6.toNat).n:Int)).g (a.Tree.g x6.toNat).Parent.toNat))))
        else none
       else
        k3 (x4.upd x6.toNat ((a.On.g x6.toNat).n:Int))
     else none
    else none
   else
    if x5 then
     some 3
    else
     some 0
   ) (Sl.rep (a.On.n:Int).toNat 0:Sl Int) false 0
 else none
theorem Nv {N:Nat}{d:A7}{y:Int}(h:Y7 N d=some y) :FunO S Gx [.p (.agg (A8 d))] [] (pN y) ([]) []:=by
 unfold Y7 at h;refine A2 hS Tryz.func105 ?_;refine I7 hS trivial 2 2000 (A8 d) ?_;obtain⟨c1,h⟩:=F4 h;refine Pq hS c1 h (fun x4 x5 x6=>⟨[(17,pN x6),(16,pN (d.On.n:Int)),(15,.p (vSl 1 (cL 1 (cI .i64)) d.On)),(4,pB x5),(3,.vec 14000),(1,.p (.ptr (A8 d)))],[(14000,.vec F1 1 x4.n (fun i=>cI .i64 (x4.g i)) false)]⟩) (ids:=[(14000,14000)]) (fun _ _ _ _ _ q x4 x5 x6 r h=>?_);refine kI hS h ?_ ?_<;>intro h
 ·obtain⟨c35,h⟩:=F4 h;refine N2 hS (And.intro (And.intro c35.1.1 c35.1.2) (And.intro (rfl:(1:Nat)=1) (And.intro c35.2 (by decide:(1:Nat)<=1)))) 27 ⟨[(17,pN x6),(16,pN (d.On.n:Int)),(15,.p (vSl 1 (cL 1 (cI .i64)) d.On)),(6,.p (vSl 1 (cI .i64) (d.On.g x6.toNat))),(5,pN x6),(4,pB x5),(3,.vec 14000),(1,.p (.ptr (A8 d)))],[(14000,.vec F1 1 (x4.upd x6.toNat ((d.On.g x6.toNat).n:Int)).n (fun i=>cI .i64 ((x4.upd x6.toNat ((d.On.g x6.toNat).n:Int)).g i)) false)]⟩ (ids:=[(14000,14000)]) ?_ (hle:=klR [(7,.fn x4.n (x4.upd x6.toNat ((d.On.g x6.toNat).n:Int)).n (fun l=>if l=x6.toNat then splice ((fun i=>cI .i64 (x4.g i)) l) 0 [pI .i64 ((d.On.g x6.toNat).n:Int)]else (fun i=>cI .i64 (x4.g i)) l) (fun i=>cI .i64 ((x4.upd x6.toNat ((d.On.g x6.toNat).n:Int)).g i)))] (al1 ⟨rfl,AM0 (c:=cI .i64) (v:=x4) (x:=((d.On.g x6.toNat).n:Int)) same (fun _=>by first|rfl|(dsimp only;split<;>rfl))⟩ al0));obtain⟨c36,h⟩:=F4 h;refine JM hS c36 (A6 hS) h 0 (fun z3=>⟨[(17,pN x6),(16,pN (d.On.n:Int)),(15,.p (vSl 1 (cL 1 (cI .i64)) d.On)),(6,.p (vSl 1 (cI .i64) (d.On.g x6.toNat))),(5,pN x6),(4,pB x5),(3,.vec 14000),(1,.p (.ptr (A8 d)))],[(14000,.vec F1 1 z3.n (fun i=>cI .i64 (z3.g i)) false)]⟩) (fun M3 k3 m h=>?_) (fun z3 h=>?_)
  ·refine kI hS h ?_ ?_<;>intro h
   ·refine Ih hS trivial ?_;obtain⟨c41,h⟩:=F4 h;refine P7 (And.intro (And.intro (And.intro (And.intro (And.intro c41.1.1.1.1.1 c41.1.1.1.1.2) c41.1.1.1.2) c41.1.1.2) c41.1.2) (And.intro (rfl:(1:Nat)=1) (And.intro c41.2 (by decide:(1:Nat)<=1)))) ?_;exact m _ [(14000,14000)] _ ((x4.upd x6.toNat ((d.On.g x6.toNat).n:Int)).upd x6.toNat (wrap .i64 (((x4.upd x6.toNat ((d.On.g x6.toNat).n:Int)).g x6.toNat)+((x4.upd x6.toNat ((d.On.g x6.toNat).n:Int)).g (d.Tree.g x6.toNat).Parent.toNat)))) trivial h (hle:=klR [(7,.fn (x4.upd x6.toNat ((d.On.g x6.toNat).n:Int)).n ((x4.upd x6.toNat ((d.On.g x6.toNat).n:Int)).upd x6.toNat (wrap .i64 (((x4.upd x6.toNat ((d.On.g x6.toNat).n:Int)).g x6.toNat)+((x4.upd x6.toNat ((d.On.g x6.toNat).n:Int)).g (d.Tree.g x6.toNat).Parent.toNat)))).n (fun l=>if l=x6.toNat then splice ((fun i=>cI .i64 ((x4.upd x6.toNat ((d.On.g x6.toNat).n:Int)).g i)) l) 0 [pI .i64 (wrap .i64 (((x4.upd x6.toNat ((d.On.g x6.toNat).n:Int)).g x6.toNat)+((x4.upd x6.toNat ((d.On.g x6.toNat).n:Int)).g (d.Tree.g x6.toNat).Parent.toNat)))]else (fun i=>cI .i64 ((x4.upd x6.toNat ((d.On.g x6.toNat).n:Int)).g i)) l) (fun i=>cI .i64 (((x4.upd x6.toNat ((d.On.g x6.toNat).n:Int)).upd x6.toNat (wrap .i64 (((x4.upd x6.toNat ((d.On.g x6.toNat).n:Int)).g x6.toNat)+((x4.upd x6.toNat ((d.On.g x6.toNat).n:Int)).g (d.Tree.g x6.toNat).Parent.toNat)))).g i)))] (al1 ⟨rfl,AM0 (c:=cI .i64) (v:=x4.upd x6.toNat ((d.On.g x6.toNat).n:Int)) (x:=wrap .i64 (((x4.upd x6.toNat ((d.On.g x6.toNat).n:Int)).g x6.toNat)+((x4.upd x6.toNat ((d.On.g x6.toNat).n:Int)).g (d.Tree.g x6.toNat).Parent.toNat))) same (fun _=>by first|rfl|(dsimp only;split<;>rfl))⟩ al0))
   ·exact m _ [(14000,14000)] _ (x4.upd x6.toNat ((d.On.g x6.toNat).n:Int)) trivial h
  ·obtain⟨c42,h⟩:=F4 h;refine E4 hS c42 (b:=decide (64<(z3.g x6.toNat))) (fun c43=>?_) (fun c43=>?_)
   ·replace h:=itT c43 h;cases h;exact kR hS
   ·replace h:=itF c43 h;refine I4 hS trivial h (fun j f=>⟨[(52,pN f),(51,pN ((d.On.g x6.toNat).n:Int)),(50,.p (vSl 1 (cI .i64) (d.On.g x6.toNat))),(17,pN x6),(16,pN (d.On.n:Int)),(15,.p (vSl 1 (cL 1 (cI .i64)) d.On)),(4,pB j),(3,.vec 14000),(1,.p (.ptr (A8 d)))],[(14000,.vec F1 1 z3.n (fun i=>cI .i64 (z3.g i)) false)]⟩) (ids:=[(14000,14000)]) (fun _ _ _ _ _ s j f t h=>?_);refine kI hS h ?_ ?_<;>intro h
    ·obtain⟨c49,h⟩:=F4 h;refine kB hS (A6 hS) c49 trivial 10 (.o (.o (.a j) (.a (decide (((d.On.g x6.toNat).g f.toNat)<0)))) (.a (decide ((d.Laws.n:Int)<=((d.On.g x6.toNat).g f.toNat))))) ?_;exact t _ [(14000,14000)] _ ((j||(decide (((d.On.g x6.toNat).g f.toNat)<0)))||(decide ((d.Laws.n:Int)<=((d.On.g x6.toNat).g f.toNat)))) (wrap .i64 (f+1)) trivial h
    ·exact r _ [(14000,14000)] _ z3 j (wrap .i64 (x6+1)) trivial h
 ·refine kI hS h ?_ ?_<;>intro h
  ·cases h;exact kR hS
  ·cases h;exact kR hS
def J0 (N:Nat)(a:A7):Option Int:=
 (Y6 N a.Tree).bind fun y1=>
 if (y1 != 0) then
  some 16
 else
  if (decide (64<(a.Laws.n:Int))) then
   some 12
  else
   P4 N (fun b (x1:List (Str×Int)) (x2:Int)=>
    if (decide (x2<(a.Laws.n:Int))) then
     if ((0:Int)<=x2/\x2<(a.Laws.n:Int))then
      (T8 N (a.Laws.g x2.toNat)).bind fun y4=>
      if (y4 != 0) then
       some 17
      else
       An2 (BS eqS (a.Laws.g x2.toNat).Name x1) (
        b (NS eqS (a.Laws.g x2.toNat).Name (wrap .i64 (0+1)) x1) (wrap .i64 (x2+1))
        ) fun v3=>
        b (NS eqS (a.Laws.g x2.toNat).Name (wrap .i64 (v3+1)) x1) (wrap .i64 (x2+1))
     else none
    else
     if (decide (((Li PV.str (pI .i64) x1).length:Int)<(a.Laws.n:Int))) then
      some 6
     else
      if ((a.On.n:Int) != (a.Tree.n:Int)) then
       some 2
      else
       (Y7 N a).bind fun y5=>
       some y5
    ) [] 0
theorem BM {N:Nat}{a:A7}{y:Int}(h:J0 N a=some y) :FunO S Gt [.p (.agg (A8 a))] [] (pN y) ([]) []:=by
 unfold J0 at h;refine A2 hS Tryz.func70 ?_;refine kC hS h (KZ hS hL) (fun y1 h=>?_);refine kI hS h ?_ ?_<;>intro h
 ·cases h;exact kR hS
 ·refine kI hS h ?_ ?_<;>intro h
  ·cases h;exact kR hS
  ·refine I4 hS trivial h (fun x1 x2=>⟨[(18,pN x2),(17,pN (a.Laws.n:Int)),(16,.p (vSl 18 B4 a.Laws)),(3,.mref 15000),(1,.reg 2000 0)],[(15000,.map (Li PV.str (pI .i64) x1)),(2000,.cells ((A8 a).map .p))]⟩) (ids:=[(2000,2000),(15000,15000)]) (fun _ _ _ _ _ d x1 x2 c h=>?_);refine kI hS h ?_ ?_<;>intro h
   ·obtain⟨c10,h⟩:=F4 h;obtain⟨y4,e4,h⟩:=B9 h;refine B7 hS [] (And.intro c10 (by decide:(18:Nat)<=18)) (FB hS hL e4) ?_;refine kI hS h ?_ ?_<;>intro h
    ·cases h;exact kR hS
    ·rcases o3:BS eqS (a.Laws.g x2.toNat).Name x1 with _|v3
     ·replace h:=optN o3 h;refine Ha hS trivial (kt:=Cu) (e:=F1) (key:=PV.str (a.Laws.g x2.toNat).Name) (es:=Li PV.str (pI .i64) x1) (x:=pI .i64 0) (b:=false) (fd:=none) ((Ds (kP:=PV.str) (vP:=pI .i64) (eq:=eqS) (fun _ _=>by kernel_rfl) (a.Laws.g x2.toNat).Name x1).trans (by rw[o3];rfl)) trivial ?_;refine LF hS trivial (kt:=Cu) (key:=PV.str (a.Laws.g x2.toNat).Name) (y:=pI .i64 (wrap .i64 (0+1))) (es:=Li PV.str (pI .i64) x1) (IR (kP:=PV.str) (vP:=pI .i64) (eq:=eqS) (fun _ _=>by kernel_rfl) (a.Laws.g x2.toNat).Name (wrap .i64 (0+1)) x1) trivial ?_;exact c _ [(2000,2000),(15000,15000)] _ (NS eqS (a.Laws.g x2.toNat).Name (wrap .i64 (0+1)) x1) (wrap .i64 (x2+1)) trivial h
     ·replace h:=optS o3 h;refine Ha hS trivial (kt:=Cu) (e:=F1) (key:=PV.str (a.Laws.g x2.toNat).Name) (es:=Li PV.str (pI .i64) x1) (x:=pI .i64 v3) (b:=true) (fd:=some (pI .i64 v3)) ((Ds (kP:=PV.str) (vP:=pI .i64) (eq:=eqS) (fun _ _=>by kernel_rfl) (a.Laws.g x2.toNat).Name x1).trans (by rw[o3];rfl)) trivial ?_;refine LF hS trivial (kt:=Cu) (key:=PV.str (a.Laws.g x2.toNat).Name) (y:=pI .i64 (wrap .i64 (v3+1))) (es:=Li PV.str (pI .i64) x1) (IR (kP:=PV.str) (vP:=pI .i64) (eq:=eqS) (fun _ _=>by kernel_rfl) (a.Laws.g x2.toNat).Name (wrap .i64 (v3+1)) x1) trivial ?_;exact c _ [(2000,2000),(15000,15000)] _ (NS eqS (a.Laws.g x2.toNat).Name (wrap .i64 (v3+1)) x1) (wrap .i64 (x2+1)) trivial h
   ·refine kI hS h ?_ ?_<;>intro h
    ·cases h;exact kR hS
    ·refine kI hS h ?_ ?_<;>intro h
     ·cases h;exact kR hS
     ·refine kC hS h (Nv hS hL) (fun y5 h=>?_);cases h;exact kR hS
def P0 (N:Nat)(b:A7)(a:Int):Option Bool:=
 some ((decide (0<=a))&&(decide (a<(b.Tree.n:Int))))
theorem HQ {N:Nat}{c:A7}{b:Int}{y:Bool}(h:P0 N c b=some y) :FunO S HG [.p (.agg (A8 c)),pN b] [] (pB y) ([]) []:=by unfold P0 at h;refine A2 hS Tryz.func92 ?_;refine kB hS (A6 hS) trivial trivial 6 (.n (.a (decide (0<=b))) (.a (decide (b<(c.Tree.n:Int))))) ?_;cases h;exact kR hS
def H6 (N:Nat)(q0:Int)(q1:Sl H9):Option (List (Int)):=
 P4 N (fun a (x1:Int) (x2:Sl Int)=>
  if (decide (0<=x1)) then
   if (((x2.n+(Sl.of [x1]:Sl Int).n)*8<=140737488355328/\x2.n+(Sl.of [x1]:Sl Int).n<=140737488355328)/\((0:Int)<=x1/\x1<(q1.n:Int)))then
    a (q1.g x1.toNat).Parent (x2.push x1)
   else none
  else
   V9 N (fun b (x3:Int)=>
    if (decide (0<=x3)) then
     if (((0:Int)<=x3/\x3<(x2.n:Int))/\x3.toNat<x2.n)then
      Ar (x2.g x3.toNat) (
       b (wrap .i64 (x3-1))
       )
     else none
    else
     some []
    ) (wrap .i64 ((x2.n:Int)-1))
  ) q0 (Sl.nil:Sl Int)
theorem GM {N:Nat}{q0:Int}{q1:Sl H9}{L:List (Int)}(h:H6 N q0 q1=some L) :Fj S BD [] [.reg 0 0,.reg 1 0] [.cells [pN q0],.cells [.p (vSl 2 G3 q1)]] (L.map (fun (x:Int)=>[pI .i64 x])):=by
 unfold H6 at h;refine Fo hS Tryz.func127 ?_;refine Qy hS trivial h (fun x1 x2 L1=>⟨[(4,.vec 5500),(2,.reg 1 0),(1,.reg 0 0),(0,.yf 2)],[(5500,.vec F1 1 x2.n (fun i=>cI .i64 (x2.g i)) false),(2,.yld (L1.map (fun (x:Int)=>[pI .i64 x])) true),(1,.cells [.p (vSl 2 G3 q1)]),(0,.cells [pN x1])]⟩) (ids:=[(0,0),(1,1),(2,2)]) (fun _ _ _ _ _ f x1 x2 L1 j h=>?_);refine kI hS h ?_ ?_<;>intro h
 ·obtain⟨c4,h⟩:=F4 h;exact j _ [(0,0),(1,1),(2,2),(5500,17000)] _ (q1.g x1.toNat).Parent (x2.push x1) L1 (And.intro (And.intro (rfl:true=true) c4.1) c4.2) h (hle:=klR [(0,.fn (x2.n+1) (x2.push x1).n (BW x2.n (fun i=>cI .i64 (x2.g i)) (F0 [pI .i64 0] [(0,cI .i64 x1)])) (fun i=>cI .i64 ((x2.push x1).g i)))] (al1 ⟨rfl,Ms (c:=cI .i64) (v:=x2) (x:=x1) (z:=[(pI .i64 0)]) same rfl rfl⟩ al0))
 ·refine Gp hS trivial h (fun x3 L2=>⟨[(5,pN x3),(4,.vec 5500),(0,.yf 2)],[(5500,.vec F1 1 x2.n (fun i=>cI .i64 (x2.g i)) false),(2,.yld (L2.map (fun (x:Int)=>[pI .i64 x])) true),(1,.cells [.p (vSl 2 G3 q1)]),(0,.cells [pN x1])]⟩) (ids:=[(0,0),(1,1),(2,2),(5500,5500)]) (fun _ _ _ _ _ l x3 L2 m h=>?_);refine kI hS h ?_ ?_<;>intro h
  ·obtain⟨c14,h⟩:=F4 h;obtain⟨L5,rfl,d⟩:=Mw h;replace h:=d;refine Dt hS c14 (ys:=(fun (x:Int)=>[pI .i64 x]) (x2.g x3.toNat)) (rest:=L5.map (fun (x:Int)=>[pI .i64 x])) ?_ ?_
   ·refine E4 hS trivial (b:=false) (fun c15=>?_) (fun c15=>?_)
    ·exact Bool.noConfusion ((rfl:false=false).symm.trans c15)
    ·exact m _ [(0,0),(1,1),(2,2),(5500,5500)] _ (wrap .i64 (x3-1)) L5 trivial h
   ·refine E4 hS trivial (b:=true) (fun c16=>?_) (fun c16=>?_)
    ·exact A9 hS trivial (a:=.tup []) (objs:=[(.cells [pN x1]),.cells [.p (vSl 2 G3 q1)],.yld [] false]) ⟨[],[(2,.yld [] false),(1,.cells [.p (vSl 2 G3 q1)]),(0,.cells [pN x1])]⟩ [0,1,2] (ids:=[(0,0),(1,1),(2,2)]) ⟨false,rfl,rfl,_,rfl⟩
    ·exact Bool.noConfusion ((rfl:true=true).symm.trans c16)
  ·obtain rfl:=C4 h;exact A9 hS trivial (a:=.tup []) (objs:=[(.cells [pN x1]),.cells [.p (vSl 2 G3 q1)],.yld [] true]) ⟨[],[(2,.yld [] true),(1,.cells [.p (vSl 2 G3 q1)]),(0,.cells [pN x1])]⟩ [0,1,2] (ids:=[(0,0),(1,1),(2,2)]) ⟨true,rfl,rfl,_,rfl⟩
def O6 (N:Nat)(a:Sl H9)(b:Int):Option (Int×(Sl H9)):=
 some (b,a)
theorem Js {N:Nat}{a:Sl H9}{b:Int}{y:Int×(Sl H9)}(h:O6 N a b=some y) :FunO S Ja [.p (vSl 2 G3 a),pN b] [] (.clo BD [] [.reg 0 0,.reg 1 0]) ([.cells [pN y.1],.cells [.p (vSl 2 G3 y.2)]]) []:=by unfold O6 at h;refine A2 hS Tryz.func93 ?_;obtain rfl:=C4 h;exact A9 hS trivial ⟨[(4,.clo BD [] [.reg 4000 0,.reg 3000 0])],[(4000,.cells [pN b]),(3000,.cells [.p (vSl 2 G3 a)])]⟩ [4000,3000] (ids:=[(3000,3000),(4000,4000)]) ⟨rfl,rfl,rfl⟩
def J8 (N:Nat)(a:A7)(c:Int):Option ((Sl Int)×Int):=
 (J0 N a).bind fun y1=>
 if (y1 != 0) then
  some ((Sl.nil:Sl Int),y1)
 else
  (P0 N a c).bind fun y2=>
  if (!y2) then
   some ((Sl.nil:Sl Int),3)
  else
   (O6 N a.Tree c).bind fun y3=>
   (H6 N y3.1 y3.2).bind fun L1=>
   O5 L1 (fun b (x1:Int) (z1:Sl Int)=>
    if (((0:Int)<=x1/\x1<(a.On.n:Int))/\((z1.n+(a.On.g x1.toNat).n)*8<=140737488355328/\z1.n+(a.On.g x1.toNat).n<=140737488355328))then
     b (z1.app (a.On.g x1.toNat))
    else none
    ) (fun (z1:Sl Int)=>
     some (z1,0)
    ) (Sl.nil:Sl Int)
theorem HR {N:Nat}{a:A7}{b:Int}{y:(Sl Int)×Int}(h:J8 N a b=some y) :FunO S HE [.p (.agg (A8 a)),pN b] [] (.tup [.vec 0,pN y.2]) ([.vec F1 1 y.1.n (fun i=>cI .i64 (y.1.g i)) true]) []:=by
 unfold J8 at h;refine A2 hS Tryz.func72 ?_;refine I7 hS trivial 4 3000 (A8 a) ?_;obtain⟨y1,e1,h⟩:=B9 h;refine B7 hS [] (by decide:(3:Nat)<=3) (BM hS hL e1) ?_;refine kI hS h ?_ ?_<;>intro h
 ·obtain rfl:=C4 h;exact A9 hS trivial ⟨[(5,pN y1),(4,.vec 5700)],[(5700,.vec F1 1 (Sl.nil:Sl Int).n (fun i=>cI .i64 ((Sl.nil:Sl Int).g i)) true)]⟩ [5700] (ids:=[]) ⟨rfl,rfl,rfl⟩
 ·obtain⟨y2,e2,h⟩:=B9 h;refine B7 hS [] (by decide:(3:Nat)<=3) (HQ hS hL e2) ?_;refine kI hS h ?_ ?_<;>intro h
  ·obtain rfl:=C4 h;exact A9 hS trivial ⟨[(5,pN 3),(4,.vec 5700)],[(5700,.vec F1 1 (Sl.nil:Sl Int).n (fun i=>cI .i64 ((Sl.nil:Sl Int).g i)) true)]⟩ [5700] (ids:=[]) ⟨rfl,rfl,rfl⟩
  ·refine kC hS h (Js hS hL) (fun y3 h=>?_);obtain⟨L1,e4,h⟩:=B9 h;refine Em hS trivial [22000,22001] [7,2] 901 (fun z1=>⟨[(7,.reg 8000 0),(2,.p (.ptr (A8 a)))],[(8500,.vec F1 1 z1.n (fun i=>cI .i64 (z1.g i)) false),(8000,.cells [.vec 8500])]⟩) (idl:=[(8000,8000)]) h (GM hS hL e4) (fun _=>by kernel_rfl) (fun _=>by kernel_rfl) (fun _=>by kernel_rfl) (fun _=>by kernel_rfl) (fun x1 _ d z1 f h=>?_) (fun z1 h=>?_)
   ·refine Ii hS trivial ?_;refine H7 hS trivial [2,4,5] ?_;obtain⟨c5,h⟩:=F4 h;refine P7 c5 ?_;exact f _ [(901,901),(8000,8000),(8500,30000)] _ (z1.app (a.On.g x1.toNat)) trivial h (hle:=klR [(0,.fn (z1.n+(a.On.g x1.toNat).n) (z1.app (a.On.g x1.toNat)).n (BW z1.n (fun i=>cI .i64 (z1.g i)) (fun i=>cI .i64 ((a.On.g x1.toNat).g i))) (fun i=>cI .i64 ((z1.app (a.On.g x1.toNat)).g i)))] (al1 ⟨rfl,AR5 (c:=cI .i64) (v:=z1) (w:=a.On.g x1.toNat) same rfl same rfl⟩ al0))
   ·obtain rfl:=C4 h;exact A9 hS trivial ⟨[(5,pN 0),(4,.vec 8500)],[(8500,.vec F1 1 z1.n (fun i=>cI .i64 (z1.g i)) true)]⟩ [8500] (ids:=[(8500,8500)]) ⟨rfl,rfl,rfl⟩
def Q1 (rec:Pat->Option Pat)(N:Nat)(a:Pat):Option Pat:=
 P4 N (fun b (x1:Sl Pat) (x2:Int)=>
  if (decide (x2<(a.L.n:Int))) then
   if ((0:Int)<=x2/\x2<(a.L.n:Int))then
    (rec (a.L.g x2.toNat)).bind fun y3=>
    if ((x1.n+(Sl.of [y3]:Sl Pat).n)*64<=140737488355328/\x1.n+(Sl.of [y3]:Sl Pat).n<=140737488355328)then
     b (x1.push y3) (wrap .i64 (x2+1))
    else none
   else none
  else
   some (Pat.mk a.Kind a.Is a.Not a.Min a.Max x1.n x1.g)
  ) (Sl.nil:Sl Pat) 0
def P2:Nat->Pat->Option Pat
 |0=>fun _=>none
 |N+1=>Q1 (P2 N) N
theorem Jt {N:Nat}{rec:Pat->Option Pat}(b:∀{a:Pat}{y:Pat},rec a=some y->FunO S Aa [.p (.agg (B5 a))] [] (.p (.agg (B5 y))) ([]) []){a:Pat}{y:Pat}(h:Q1 rec N a=some y) :FunO S Aa [.p (.agg (B5 a))] [] (.p (.agg (B5 y))) ([]) []:=by
 unfold Q1 at h;refine A2 hS Tryz.func153 ?_;refine N2 hS trivial 8 ⟨[(7,.p (vSl 7 B5 a.L)),(3,.p F9),(2,.reg 3000 0),(1,.reg 2000 0)],[(3000,.cells [pN 0,pU 0,pU 0,.p (.v (.bool false)),pN 0,pN 0,.p F9]),(2000,.cells ((B5 a).map .p))]⟩ (ids:=[(2000,2000),(3000,3000)]) ?_ (hle:=klR [(0,.fn a.L.n a.L.n (Cb a) (fun i=>B5 (a.L.g i)))] (al1 ⟨rfl,T7 a⟩ al0));refine I4 hS trivial h (fun x1 x2=>⟨[(9,pN x2),(8,pN (a.L.n:Int)),(7,.p (vSl 7 B5 a.L)),(3,.vec 4500),(2,.reg 3000 0),(1,.reg 2000 0)],[(4500,.vec EQ 7 x1.n (fun i=>B5 (x1.g i)) false),(3000,.cells [pN 0,pU 0,pU 0,.p (.v (.bool false)),pN 0,pN 0,.p F9]),(2000,.cells ((B5 a).map .p))]⟩) (ids:=[(2000,2000),(3000,3000)]) (fun _ _ _ _ _ d x1 x2 f h=>?_);refine kI hS h ?_ ?_<;>intro h
 ·obtain⟨c6,h⟩:=F4 h;obtain⟨y3,e3,h⟩:=B9 h;refine B7 hS [] (And.intro c6 (by decide:(7:Nat)<=7)) (b e3) ?_;obtain⟨c7,h⟩:=F4 h;exact f _ [(2000,2000),(3000,3000),(4500,18000)] _ (x1.push y3) (wrap .i64 (x2+1)) (And.intro (rfl:true=true) c7) h (hle:=klR [(3,.fn (x1.n+1) (x1.push y3).n (BW x1.n (fun i=>B5 (x1.g i)) (F0 [pI .i64 0,pI .u32 0,pI .u32 0,.v (.bool false),pI .i64 0,pI .i64 0,F9] [(0,B5 y3)])) (fun i=>B5 ((x1.push y3).g i)))] (al1 ⟨rfl,Ms (c:=B5) (v:=x1) (x:=y3) (z:=[(pI .i64 0),pI .u32 0,pI .u32 0,.v (.bool false),pI .i64 0,pI .i64 0,F9]) same rfl rfl⟩ al0))
 ·obtain rfl:=C4 h;exact A9 hS trivial ⟨[(2,.reg 3000 0)],[(3000,.cells [pN a.Kind,pU a.Is.Plus,pU a.Is.Minus,pB a.Not,pN a.Min,pN a.Max,.p (.sl false 7 x1.n (Cb (Pat.mk a.Kind a.Is a.Not a.Min a.Max x1.n x1.g)))])]⟩ [] (ids:=[(3000,3000)]) ⟨rfl,rfl,rfl⟩
theorem EW {N:Nat}{a:Pat}{y:Pat}(h:P2 N a=some y) :FunO S Aa [.p (.agg (B5 a))] [] (.p (.agg (B5 y))) ([]) []:=by
 induction N generalizing a y with
 |zero=>cases (show (none:Option Pat)=some y from h)
 |succ N ih=>exact Jt hS hL (fun e=>ih e) h
def U9 (N:Nat)(a:Law):Option Law:=
 (P2 N a.Left).bind fun y1=>
 (P2 N a.Right).bind fun y2=>
 (A4 N a.If).bind fun y3=>
 (F8 N a.Out).bind fun y4=>
 some (⟨a.Name,y1,y2,y3,y4,a.Mode⟩:Law)
theorem Lt {N:Nat}{a:Law}{y:Law}(h:U9 N a=some y) :FunO S FQ [.p (.agg (B4 a))] [] (.p (.agg (B4 y))) ([]) []:=by unfold U9 at h;refine A2 hS Tryz.func128 ?_;refine H7 hS trivial [2,5] ?_;obtain⟨y1,e1,h⟩:=B9 h;refine BB trivial (EW hS hL e1) ?_;obtain⟨y2,e2,h⟩:=B9 h;refine BB trivial (EW hS hL e2) ?_;refine P7 trivial ?_;refine H7 hS trivial [2,5] ?_;obtain⟨y3,e3,h⟩:=B9 h;refine BB trivial (Ad hS hL e3) ?_;obtain⟨y4,e4,h⟩:=B9 h;refine BB trivial (Bt hS hL e4) ?_;refine P7 trivial ?_;cases h;exact kR hS
def J9 (N:Nat)(c:A7)(a:Sl Int):Option (Sl Law):=
 P4 N (fun b (x1:Sl Law) (x2:Int)=>
  if (decide (x2<(a.n:Int))) then
   if (((0:Int)<=x2/\x2<(a.n:Int))/\((0:Int)<=(a.g x2.toNat)/\(a.g x2.toNat)<(c.Laws.n:Int)))then
    (U9 N (c.Laws.g (a.g x2.toNat).toNat)).bind fun y3=>
    if ((x1.n+(Sl.of [y3]:Sl Law).n)*200<=140737488355328/\x1.n+(Sl.of [y3]:Sl Law).n<=140737488355328)then
     b (x1.push y3) (wrap .i64 (x2+1))
    else none
   else none
  else
   some x1
  ) (Sl.nil:Sl Law) 0
theorem HS {N:Nat}{b:A7}{a:Sl Int}{y:Sl Law}(h:J9 N b a=some y) :FunO S HH [.p (.agg (A8 b)),.p (vSl 1 (cI .i64) a)] [] (.p (vSl 18 B4 y)) ([]) []:=by
 unfold J9 at h;refine A2 hS Tryz.func94 ?_;refine I4 hS trivial h (fun x1 x2=>⟨[(10,pN x2),(9,pN (a.n:Int)),(8,.p (vSl 1 (cI .i64) a)),(5,.vec 6500),(2,.reg 3000 0)],[(6500,.vec Dz 18 x1.n (fun i=>B4 (x1.g i)) false),(3000,.cells ((A8 b).map .p))]⟩) (ids:=[(3000,3000)]) (fun _ _ _ _ _ d x1 x2 f h=>?_);refine kI hS h ?_ ?_<;>intro h
 ·obtain⟨c6,h⟩:=F4 h;obtain⟨y3,e3,h⟩:=B9 h;refine B7 hS [] (And.intro (And.intro c6.1 c6.2) (by decide:(18:Nat)<=18)) (Lt hS hL e3) ?_;obtain⟨c7,h⟩:=F4 h;exact f _ [(3000,3000),(6500,23000)] _ (x1.push y3) (wrap .i64 (x2+1)) (And.intro (rfl:true=true) c7) h (hle:=klR [(3,.fn (x1.n+1) (x1.push y3).n (BW x1.n (fun i=>B4 (x1.g i)) (F0 [.str [],pI .i64 0,pI .u32 0,pI .u32 0,.v (.bool false),pI .i64 0,pI .i64 0,F9,pI .i64 0,pI .u32 0,pI .u32 0,.v (.bool false),pI .i64 0,pI .i64 0,F9,F9,F9,pI .i64 0] [(0,B4 y3)])) (fun i=>B4 ((x1.push y3).g i)))] (al1 ⟨rfl,Ms (c:=B4) (v:=x1) (x:=y3) (z:=[(.str []),pI .i64 0,pI .u32 0,pI .u32 0,.v (.bool false),pI .i64 0,pI .i64 0,F9,pI .i64 0,pI .u32 0,pI .u32 0,.v (.bool false),pI .i64 0,pI .i64 0,F9,F9,F9,pI .i64 0]) same rfl rfl⟩ al0))
 ·obtain rfl:=C4 h;exact A9 hS trivial ⟨[(4,.p (vSl 18 B4 x1))],[]⟩ [] (ids:=[]) ⟨rfl,rfl,rfl⟩
def K0 (N:Nat)(a:A7)(b:Int):Option ((Sl Law)×Int):=
 (J8 N a b).bind fun y1=>
 (J9 N a y1.1).bind fun y2=>
 some (y2,y1.2)
theorem OH {N:Nat}{a:A7}{b:Int}{y:(Sl Law)×Int}(h:K0 N a b=some y) :FunO S HF [.p (.agg (A8 a)),pN b] [] (.tup [.p (vSl 18 B4 y.1),pN y.2]) ([]) []:=by unfold K0 at h;refine A2 hS Tryz.func76 ?_;refine kC hS h (HR hS hL) (fun y1 h=>?_);refine kC hS h (HS hS hL) (fun y2 h=>?_);cases h;exact kR hS
def Y8 (N:Nat)(a:A7)(b:Sl Sound):Option Int:=
 (J0 N a).bind fun y1=>
 if (y1 != 0) then
  some y1
 else
  (T3 N b).bind fun y2=>
  some y2
theorem Nw {N:Nat}{a:A7}{b:Sl Sound}{y:Int}(h:Y8 N a b=some y) :FunO S Gw [.p (.agg (A8 a)),.p (vSl 2 A0 b)] [] (pN y) ([]) []:=by
 unfold Y8 at h;refine A2 hS Tryz.func91 ?_;refine kC hS h (BM hS hL) (fun y1 h=>?_);refine kI hS h ?_ ?_<;>intro h
 ·cases h;exact kR hS
 ·refine kC hS h (Ee hS hL) (fun y2 h=>?_);cases h;exact kR hS
def T4 (N:Nat)(a:A7)(c:Sl Sound)(d:Int):Option ((Sl Sound)×Int):=
 (Y8 N a c).bind fun y1=>
 if (y1 != 0) then
  some ((Sl.nil:Sl Sound),y1)
 else
  (P0 N a d).bind fun y2=>
  if (!y2) then
   some ((Sl.nil:Sl Sound),3)
  else
   (O6 N a.Tree d).bind fun y3=>
   (H6 N y3.1 y3.2).bind fun L1=>
   O5 L1 (fun b (x1:Int) (z1:Sl Sound)=>
    if ((0:Int)<=x1/\x1<(a.On.n:Int))then
     (J9 N a (a.On.g x1.toNat)).bind fun y8=>
     (E8 N y8 z1).bind fun y9=>
     if (y9.2 != 0) then
      some ((Sl.nil:Sl Sound),y9.2)
     else
      b y9.1
    else none
    ) (fun (z1:Sl Sound)=>
     some (z1,0)
    ) c
theorem Tr {N:Nat}{a:A7}{b:Sl Sound}{c:Int}{y:(Sl Sound)×Int}(h:T4 N a b c=some y) :FunO S KN [.p (.agg (A8 a)),.p (vSl 2 A0 b),pN c] [] (.tup [.p (vSl 2 A0 y.1),pN y.2]) ([]) []:=by
 unfold T4 at h;refine A2 hS Tryz.func41 ?_;refine I7 hS trivial 4 4000 (A8 a) ?_;obtain⟨y1,e1,h⟩:=B9 h;refine B7 hS [] (by decide:(3:Nat)<=3) (Nw hS hL e1) ?_;refine kI hS h ?_ ?_<;>intro h
 ·obtain rfl:=C4 h;exact A9 hS trivial ⟨[(7,.reg 8000 0),(6,.reg 7000 0)],[(8000,.cells [pN y1]),(7000,.cells [.p (vSl 2 A0 (Sl.nil:Sl Sound))])]⟩ [] (ids:=[(7000,7000),(8000,8000)]) ⟨rfl,rfl,rfl⟩
 ·obtain⟨y2,e2,h⟩:=B9 h;refine B7 hS [] (by decide:(3:Nat)<=3) (HQ hS hL e2) ?_;refine kI hS h ?_ ?_<;>intro h
  ·obtain rfl:=C4 h;exact A9 hS trivial ⟨[(7,.reg 8000 0),(6,.reg 7000 0)],[(8000,.cells [pN 3]),(7000,.cells [.p (vSl 2 A0 (Sl.nil:Sl Sound))])]⟩ [] (ids:=[(7000,7000),(8000,8000)]) ⟨rfl,rfl,rfl⟩
  ·refine kC hS h (Js hS hL) (fun y3 h=>?_);obtain⟨L1,e4,h⟩:=B9 h;refine Em hS trivial [25000,25001] [7,6,4,3] 901 (fun z1=>⟨[(7,.reg 8000 0),(6,.reg 7000 0),(4,.reg 5000 0),(3,.p (.ptr (A8 a)))],[(8000,.cells [pN 0]),(7000,.cells [.p F9]),(5000,.cells [.p (vSl 2 A0 z1)])]⟩) (idl:=[(5000,5000),(7000,7000),(8000,8000)]) h (GM hS hL e4) (fun _=>by kernel_rfl) (fun _=>by kernel_rfl) (fun _=>by kernel_rfl) (fun _=>by kernel_rfl) (fun x1 _ d z1 f h=>?_) (fun z1 h=>?_)
   ·refine Ii hS trivial ?_;refine H7 hS trivial [0,2,4,5,6,8] ?_;obtain⟨c7,h⟩:=F4 h;obtain⟨y8,e9,h⟩:=B9 h;refine BB (And.intro (by decide:(3:Nat)<=3) c7) (HS hS hL e9) ?_;obtain⟨y9,e10,h⟩:=B9 h;refine BB trivial (GK hS hL e10) ?_;refine P7 trivial ?_;refine kI hS h ?_ ?_<;>intro h
    ·refine LG hS trivial ⟨[(7,.reg 8000 0),(6,.reg 7000 0),(4,.reg 5000 0),(3,.p (.ptr (A8 a)))],[(8000,.cells [pN y9.2]),(7000,.cells [.p F9]),(5000,.cells [.p (vSl 2 A0 y9.1)])]⟩ (ids:=[(901,901),(5000,5000),(7000,7000),(8000,8000)]) ?_;obtain rfl:=C4 h;exact A9 hS trivial ⟨[(7,.reg 8000 0),(6,.reg 7000 0)],[(8000,.cells [pN y9.2]),(7000,.cells [.p (vSl 2 A0 (Sl.nil:Sl Sound))])]⟩ [] (ids:=[(7000,7000),(8000,8000)]) ⟨rfl,rfl,rfl⟩
    ·exact f _ [(901,901),(5000,5000),(7000,7000),(8000,8000)] _ y9.1 trivial h
   ·cases h;exact kR hS
end Go.AM
namespace Go.AM
open IntKind (wrap)
open Go.Proofs
set_option maxRecDepth 10000
set_option maxHeartbeats 2000000
variable {S:AD}(hS:H2 S Tryz.prog) (hL:PF S)
abbrev YJ {T:Type}(e:TypeId)(k:Nat)(c:T->List PV)(x:Sl T):Obj:=.vec e k x.n (fun q=>c (x.g q)) false
theorem obPut {T:Type}{e:TypeId}{k n i:Nat}{c:T->List PV}{X:Sl (Sl T)}{z:Sl T}:∀q,q<n->(fun q=>if q=i then YJ e k c z else if q=i then Obj.dead else YJ e k c (X.g q)) q=(fun q=>YJ e k c ((X.upd i z).g q)) q:=fun q _=>by by_cases h:q=i<;>simp[h]
include hS hL
def Y9 (N:Nat)(a:Sl H9):Option (Sl (Sl Int)):=
 if ((0:Int)<=(a.n:Int)/\(a.n:Int)<=(a.n:Int)/\(a.n:Int)*24<=140737488355328/\(a.n:Int)<=140737488355328)then
  P4 N (fun b (x:Int) (X:Sl (Sl Int))=>
   if (decide (x<(a.n:Int))) then
    if ((0:Int)<=x/\x<(a.n:Int))then
     if (a.g x.toNat).Parent.toNat<X.n then
      lt (fun (z:Sl Int)=>b (wrap .i64 (x+1)) (X.upd (a.g x.toNat).Parent.toNat z)) fun k=>
       if (decide (0<x)) then
        if (((0:Int)<=(a.g x.toNat).Parent/\(a.g x.toNat).Parent<(X.n:Int))/\(((X.g (a.g x.toNat).Parent.toNat).n+1)*8<=140737488355328/\(X.g (a.g x.toNat).Parent.toNat).n+1<=140737488355328))then
         k ((X.g (a.g x.toNat).Parent.toNat).push x)
        else none
       else k (X.g (a.g x.toNat).Parent.toNat)
     else none
    else none
   else some X) 0 ⟨a.n,fun _=>Sl.nil⟩
 else none
theorem Nx {N:Nat}{b:Sl H9}{y:Sl (Sl Int)}(h:Y9 N b=some y) :FunO S Gz [.p (vSl 2 G3 b)] [] (.p (vSl 1 (cL 1 (cI .i64)) y)) [] []:=by
 unfold Y9 at h;refine A2 hS Tryz.func126 ?_;obtain⟨c1,h⟩:=F4 h;refine WW hS c1 9 (.fam 9000 9901 fun i=>YJ F1 1 (cI .i64) ((⟨b.n,fun _=>Sl.nil⟩:Sl (Sl Int)).g i)) (⟨by decide,fun i _=>rfl⟩:1000<=9901/\∀i,i<b.n->Zu [F9] (YJ F1 1 (cI .i64) ((⟨b.n,fun _=>Sl.nil⟩:Sl (Sl Int)).g i))) ?_;refine I4 hS trivial h (fun x X=>⟨[(11,pN x),(10,pN (b.n:Int)),(9,.p (vSl 2 G3 b)),(3,.vec 9000)],[(9901,.rows X.n fun i=>YJ F1 1 (cI .i64) (X.g i)),(9000,.fam Jk X.n 9901 none)]⟩) (ids:=[(9901,9901),(9000,9000)]) (fun _ _ _ _ _ j x X f h=>?_);refine kI hS h ?_ ?_<;>intro h
 ·obtain⟨c2,h⟩:=F4 h;obtain⟨c3,h⟩:=F4 h;refine WW hS (And.intro c2 (by decide:(2:Nat)<=2)) 17 (.take 9000 (b.g x.toNat).Parent.toNat 9801) (⟨⟨by decide,rfl⟩,c3⟩:(1000<=9801/\X.n=X.n)/\(b.g x.toNat).Parent.toNat<X.n) ?_;refine JM hS trivial (A6 hS) h 0 (fun z=>⟨[(11,pN x),(10,pN (b.n:Int)),(9,.p (vSl 2 G3 b)),(3,.vec 9000)],
   [(9901,(.rows X.n fun l=>if l=(b.g x.toNat).Parent.toNat then .dead else YJ F1 1 (cI .i64) (X.g l))),(9801,YJ F1 1 (cI .i64) z),(9000,.fam Jk X.n 9901 (some ((b.g x.toNat).Parent.toNat,.vec 9801)))]⟩) (fun M k d h=>?_) (fun z h=>?_)
  ·refine kI hS h ?_ ?_<;>intro h
   ·obtain⟨c4,h⟩:=F4 h;refine Z8 hS trivial [(0,.n),(1,.n),(2,.l [6000]),(3,.n),(4,.n),(5,.l [6000]),(6,.l [9000]),(7,.l [9000]),(8,.n),(10,.a [29000,9801]),(11,.l [9000]),(12,.a [9000])] ?_;refine CN (And.intro c4.1 (And.intro c3 (rfl:(b.g x.toNat).Parent.toNat=(b.g x.toNat).Parent.toNat))) (x:=.sl true 1 1 (F0 [pI .i64 0] [(0,cI .i64 x)])) ?_;refine P7 (And.intro (And.intro c4.2 c4.1) (And.intro c3 (rfl:(b.g x.toNat).Parent.toNat=(b.g x.toNat).Parent.toNat))) ?_;exact d _ [(9901,9901),(9801,29000),(9000,9000)] _ ((X.g (b.g x.toNat).Parent.toNat).push x) trivial h (hle:=klR [(5,.fn ((X.g (b.g x.toNat).Parent.toNat).n+1) ((X.g (b.g x.toNat).Parent.toNat).push x).n (BW (X.g (b.g x.toNat).Parent.toNat).n (fun i=>cI .i64 ((X.g (b.g x.toNat).Parent.toNat).g i)) (F0 [pI .i64 0] [(0,cI .i64 x)])) (fun i=>cI .i64 (((X.g (b.g x.toNat).Parent.toNat).push x).g i)))] (al1 ⟨rfl,Ms (c:=cI .i64) (v:=X.g (b.g x.toNat).Parent.toNat) (x:=x) (z:=[(pI .i64 0)]) same rfl rfl⟩ al0))
   ·exact d _ [(9901,9901),(9801,9801),(9000,9000)] _ (X.g (b.g x.toNat).Parent.toNat) trivial h
  ·refine WW hS trivial 30 (.put 9000 9902) (⟨⟨by decide,rfl⟩,c3⟩:(1000<=9902/\X.n=X.n)/\(b.g x.toNat).Parent.toNat<X.n) ?_;exact f _ [(9901,9902),(9000,9000)] _ (wrap .i64 (x+1)) (X.upd (b.g x.toNat).Parent.toNat z) trivial h (hle:=klR [(4,.ob X.n (fun q=>if q=(b.g x.toNat).Parent.toNat then YJ F1 1 (cI .i64) z else if q=(b.g x.toNat).Parent.toNat then .dead else YJ F1 1 (cI .i64) (X.g q)) fun i=>YJ F1 1 (cI .i64) ((X.upd (b.g x.toNat).Parent.toNat z).g i))] (al1 obPut al0))
 ·refine WW hS trivial 31 (.pub 9000) (⟨rfl,fun i _=>rfl⟩:X.n=X.n/\∀i,i<X.n->(Zv (YJ F1 1 (cI .i64) (X.g i))).isSome=true) ?_;obtain rfl:=C4 h;exact A9 hS trivial ⟨[(2,.p (vSl 1 (cL 1 (cI .i64)) X))],[]⟩ [] (ids:=[]) ⟨rfl,rfl,rfl⟩ (hle:=klR [(0,.fn X.n X.n (fun i=>[(Zv (YJ F1 1 (cI .i64) (X.g i))).getD default]) (fun i=>cL 1 (cI .i64) (X.g i)))] (al1 ⟨rfl,fun _ _=>rfl⟩ al0))
end Go.AM
namespace Go.AM
open IntKind (wrap)
open Go.Proofs
set_option maxRecDepth 10000
set_option maxHeartbeats 2000000
variable {S:AD}(hS:H2 S Tryz.prog) (hL:PF S)
include hS hL
def BN (N:Nat)(b:Sl H9):Option (Sl Int):=
 (Y9 N b).bind fun y1=>
 P4 N (fun a (x1:Sl Int) (x2:Int)=>
  if (decide (x2<(y1.n:Int))) then
   if ((0:Int)<=x2/\x2<(y1.n:Int))then
    if (((y1.g x2.toNat).n:Int)==0) then
     if ((x1.n+(Sl.of [x2]:Sl Int).n)*8<=140737488355328/\x1.n+(Sl.of [x2]:Sl Int).n<=140737488355328)then
      a (x1.push x2) (wrap .i64 (x2+1))
     else none
    else
     a x1 (wrap .i64 (x2+1))
   else none
  else
   some x1
  ) (Sl.nil:Sl Int) 0
theorem Ri {N:Nat}{a:Sl H9}{y:Sl Int}(h:BN N a=some y) :FunO S IZ [.p (vSl 2 G3 a)] [] (.vec 0) ([.vec F1 1 y.n (fun i=>cI .i64 (y.g i)) true]) []:=by
 unfold BN at h;refine A2 hS Tryz.func90 ?_;refine kC hS h (Nx hS hL) (fun y1 h=>?_);refine I4 hS trivial h (fun x1 x2=>⟨[(9,pN x2),(8,pN (y1.n:Int)),(7,.p (vSl 1 (cL 1 (cI .i64)) y1)),(3,.vec 4500)],[(4500,.vec F1 1 x1.n (fun i=>cI .i64 (x1.g i)) false)]⟩) (ids:=[]) (fun _ _ _ _ _ f x1 x2 d h=>?_);refine kI hS h ?_ ?_<;>intro h
 ·obtain⟨c8,h⟩:=F4 h;refine E4 hS c8 (b:=((y1.g x2.toNat).n:Int)==0) (fun c9=>?_) (fun c9=>?_)
  ·replace h:=itT c9 h;obtain⟨c10,h⟩:=F4 h;exact d _ [(4500,21000)] _ (x1.push x2) (wrap .i64 (x2+1)) (And.intro (rfl:true=true) c10) h (hle:=klR [(3,.fn (x1.n+1) (x1.push x2).n (BW x1.n (fun i=>cI .i64 (x1.g i)) (F0 [pI .i64 0] [(0,cI .i64 x2)])) (fun i=>cI .i64 ((x1.push x2).g i)))] (al1 ⟨rfl,Ms (c:=cI .i64) (v:=x1) (x:=x2) (z:=[(pI .i64 0)]) same rfl rfl⟩ al0))
  ·replace h:=itF c9 h;exact d _ [(4500,4500)] _ x1 (wrap .i64 (x2+1)) trivial h
 ·obtain rfl:=C4 h;exact A9 hS trivial ⟨[(2,.vec 4500)],[(4500,.vec F1 1 x1.n (fun i=>cI .i64 (x1.g i)) true)]⟩ [4500] (ids:=[(4500,4500)]) ⟨rfl,rfl,rfl⟩
def Am (N:Nat)(a:Sl H9):Option ((Sl Int)×Int):=
 (Y6 N a).bind fun y1=>
 if (y1 != 0) then
  some ((Sl.nil:Sl Int),y1)
 else
  (BN N a).bind fun y2=>
  some (y2,0)
theorem Ju {N:Nat}{a:Sl H9}{y:(Sl Int)×Int}(h:Am N a=some y) :FunO S IX [.p (vSl 2 G3 a)] [] (.tup [.vec 0,pN y.2]) ([.vec F1 1 y.1.n (fun i=>cI .i64 (y.1.g i)) true]) []:=by
 unfold Am at h;refine A2 hS Tryz.func40 ?_;refine kC hS h (KZ hS hL) (fun y1 h=>?_);refine kI hS h ?_ ?_<;>intro h
 ·obtain rfl:=C4 h;exact A9 hS trivial ⟨[(3,pN y1),(2,.vec 3700)],[(3700,.vec F1 1 (Sl.nil:Sl Int).n (fun i=>cI .i64 ((Sl.nil:Sl Int).g i)) true)]⟩ [3700] (ids:=[]) ⟨rfl,rfl,rfl⟩
 ·refine kC hS h (Ri hS hL) (fun y2 h=>?_);obtain rfl:=C4 h;exact A9 hS trivial ⟨[(3,pN 0),(2,.vec 12000)],[(12000,.vec F1 1 y2.n (fun i=>cI .i64 (y2.g i)) true)]⟩ [12000] (ids:=[(12000,12000)]) ⟨rfl,rfl,rfl⟩
def Et (N:Nat)(b:Sl H9)(c:Int):Option (Sl Int):=
 P4 N (fun a (x1:Sl Int) (x2:Int)=>
  if (decide (x2<(b.n:Int))) then
   if ((0:Int)<=x2/\x2<(b.n:Int))then
    if ((b.g x2.toNat).Parent==c) then
     if ((x1.n+(Sl.of [x2]:Sl Int).n)*8<=140737488355328/\x1.n+(Sl.of [x2]:Sl Int).n<=140737488355328)then
      a (x1.push x2) (wrap .i64 (x2+1))
     else none
    else
     a x1 (wrap .i64 (x2+1))
   else none
  else
   some x1
  ) (Sl.nil:Sl Int) 0
def La (N:Nat)(b:Sl H9):Option ((Sl Int)×Int):=
 (Bg N b).bind fun y1=>
 if (y1 != 0) then
  some ((Sl.nil:Sl Int),y1)
 else
  P4 N (fun a (x1:Sl Int) (x2:Int)=>
   if (decide (x2<(b.n:Int))) then
    (Et N b x2).bind fun y4=>
    if ((y4.n:Int)==0) then
     if ((x1.n+(Sl.of [x2]:Sl Int).n)*8<=140737488355328/\x1.n+(Sl.of [x2]:Sl Int).n<=140737488355328)then
      a (x1.push x2) (wrap .i64 (x2+1))
     else none
    else
     a x1 (wrap .i64 (x2+1))
   else
    some (x1,0)
   ) (Sl.nil:Sl Int) 0
end Go.AM
namespace Go.AM
open IntKind (wrap)
open Go.Proofs
set_option maxRecDepth 10000
set_option maxHeartbeats 2000000
variable {S:AD}(hS:H2 S Tryz.prog) (hL:PF S)
include hS hL
def R9 (N:Nat)(a:Sl Int)(b:Sl Int):Option Bool:=
 if ((a.n:Int) != (b.n:Int)) then
  some false
 else
  V9 N (fun c (x1:Int)=>
   if (decide (x1<(a.n:Int))) then
    if (((0:Int)<=x1/\x1<(a.n:Int))/\((0:Int)<=x1/\x1<(b.n:Int)))then
     if ((a.g x1.toNat) != (b.g x1.toNat)) then
      some false
     else
      c (wrap .i64 (x1+1))
    else none
   else
    some true
   ) 0
theorem Eu {N:Nat}{a:Sl Int}{b:Sl Int}{y:Bool}(h:R9 N a b=some y) :FunO S AI [.p (vSl 1 (cI .i64) a),.p (vSl 1 (cI .i64) b)] [] (pB y) ([]) []:=by
 unfold R9 at h;refine A2 hS Tryz.func23 ?_;refine kI hS h ?_ ?_<;>intro h
 ·cases h;exact kR hS
 ·refine N7 hS trivial h (fun x1=>⟨[(13,pN x1),(12,pN (a.n:Int)),(1,.p (vSl 1 (cI .i64) b)),(0,.p (vSl 1 (cI .i64) a))],[]⟩) (ids:=[]) (fun _ _ _ _ _ c x1 d h=>?_);refine kI hS h ?_ ?_<;>intro h
  ·refine H7 hS trivial [2,3,6,7] ?_;obtain⟨c9,h⟩:=F4 h;refine P7 c9 ?_;refine kI hS h ?_ ?_<;>intro h
   ·cases h;exact kR hS
   ·exact d _ [] _ (wrap .i64 (x1+1)) trivial h
  ·cases h;exact kR hS
def N4 (N:Nat)(a:Sl L0)(b:Sl L0):Option Bool:=
 if ((a.n:Int) != (b.n:Int)) then
  some false
 else
  V9 N (fun c (x1:Int)=>
   if (decide (x1<(a.n:Int))) then
    if (((0:Int)<=x1/\x1<(a.n:Int))/\((0:Int)<=x1/\x1<(b.n:Int)))then
     if ((((a.g x1.toNat).a0==(b.g x1.toNat).a0)&&((a.g x1.toNat).a1==(b.g x1.toNat).a1)) != true) then
      some false
     else
      c (wrap .i64 (x1+1))
    else none
   else
    some true
   ) 0
theorem CS {N:Nat}{a:Sl L0}{b:Sl L0}{y:Bool}(h:N4 N a b=some y) :FunO S U4 [.p (vSl 2 Q6 a),.p (vSl 2 Q6 b)] [] (pB y) ([]) []:=by
 unfold N4 at h;refine A2 hS Tryz.func24 ?_;refine kI hS h ?_ ?_<;>intro h
 ·cases h;exact kR hS
 ·refine N7 hS trivial h (fun x1=>⟨[(13,pN x1),(12,pN (a.n:Int)),(1,.p (vSl 2 Q6 b)),(0,.p (vSl 2 Q6 a))],[]⟩) (ids:=[]) (fun _ _ _ _ _ c x1 d h=>?_);refine kI hS h ?_ ?_<;>intro h
  ·refine H7 hS trivial [2,3,6,7] ?_;obtain⟨c9,h⟩:=F4 h;refine P7 (And.intro (And.intro (And.intro (And.intro c9.1 (by decide:(2:Nat)<=2)) c9.2) (by decide:(2:Nat)<=2)) (by decide +kernel:(!Program.eqGuardType Tryz.prog (Program.depth Tryz.prog) QX)=true)) ?_;refine kI hS h ?_ ?_<;>intro h
   ·cases h;exact kR hS
   ·exact d _ [] _ (wrap .i64 (x1+1)) trivial h
  ·cases h;exact kR hS
def E9 (N:Nat)(a:Sl Int)(b:Sl Int):Option Bool:=
 if ((a.n:Int) != (b.n:Int)) then
  some false
 else
  V9 N (fun c (x1:Int)=>
   if (decide (x1<(a.n:Int))) then
    if (((0:Int)<=x1/\x1<(a.n:Int))/\((0:Int)<=x1/\x1<(b.n:Int)))then
     if ((a.g x1.toNat) != (b.g x1.toNat)) then
      some false
     else
      c (wrap .i64 (x1+1))
    else none
   else
    some true
   ) 0
theorem J5 {N:Nat}{a:Sl Int}{b:Sl Int}{y:Bool}(h:E9 N a b=some y) :FunO S S7 [.p (vSl 1 (cI .u64) a),.p (vSl 1 (cI .u64) b)] [] (pB y) ([]) []:=by
 unfold E9 at h;refine A2 hS Tryz.func45 ?_;refine kI hS h ?_ ?_<;>intro h
 ·cases h;exact kR hS
 ·refine N7 hS trivial h (fun x1=>⟨[(13,pN x1),(12,pN (a.n:Int)),(1,.p (vSl 1 (cI .u64) b)),(0,.p (vSl 1 (cI .u64) a))],[]⟩) (ids:=[]) (fun _ _ _ _ _ c x1 d h=>?_);refine kI hS h ?_ ?_<;>intro h
  ·refine H7 hS trivial [2,3,6,7] ?_;obtain⟨c9,h⟩:=F4 h;refine P7 c9 ?_;refine kI hS h ?_ ?_<;>intro h
   ·cases h;exact kR hS
   ·exact d _ [] _ (wrap .i64 (x1+1)) trivial h
  ·cases h;exact kR hS
def I3 (N:Nat)(a:A3):Option Int:=
 if (0:Int)<=a.Langs then
  some (wrap .u64 ((shI .shl .u64 1 a.Langs)-1))
 else none
theorem Cl {N:Nat}{a:A3}{y:Int}(h:I3 N a=some y) :FunO S EO [.p (.agg (D9 a))] [] (.p (pI .u64 y)) ([]) []:=by unfold I3 at h;refine A2 hS Tryz.func59 ?_;obtain⟨c1,h⟩:=F4 h;obtain rfl:=C4 h;exact Yl hS c1 [] ⟨rfl,rfl,rfl⟩
def I1 (N:Nat)(a:Sl Int)(c:Int->Option Bool):Option Int:=
 V9 N (fun b (x1:Int)=>
  if (decide (x1<(a.n:Int))) then
   if ((0:Int)<=x1/\x1<(a.n:Int))then
    (c (a.g x1.toNat)).bind fun y3=>
    if y3 then
     some x1
    else
     b (wrap .i64 (x1+1))
   else none
  else
   some (-1)
  ) 0
theorem Bh {N:Nat}{a:Sl Int}{c:Int->Option Bool}{kp_f:Nat}{cp_f_0:List PV}(d:∀{a0:Int}{b:Bool},c a0=some b->FunO S kp_f [.p (pI .u64 a0),.p (.ptr cp_f_0)] [] (pB b) [] []){y:Int}(h:I1 N a c=some y) :FunO S P9 [.p (vSl 1 (cI .u64) a),.clo kp_f [] [.p (.ptr cp_f_0)]] [] (pN y) ([]) []:=by
 unfold I1 at h;refine A2 hS Tryz.func99 ?_;refine N7 hS trivial h (fun x1=>⟨[(8,pN x1),(7,pN (a.n:Int)),(1,.clo kp_f [] [.p (.ptr cp_f_0)]),(0,.p (vSl 1 (cI .u64) a))],[]⟩) (ids:=[]) (fun _ _ _ _ _ f x1 g h=>?_);refine kI hS h ?_ ?_<;>intro h
 ·obtain⟨c8,h⟩:=F4 h;obtain⟨y3,e3,h⟩:=B9 h;refine B7 hS [] c8 (d e3) ?_;refine kI hS h ?_ ?_<;>intro h
  ·cases h;exact kR hS
  ·exact g _ [] _ (wrap .i64 (x1+1)) trivial h
 ·cases h;exact kR hS
def G7 (N:Nat)(a:Sl Int)(b:Int->Option Bool):Option Bool:=
 (I1 N a b).bind fun y1=>
 some (decide (0<=y1))
theorem An {N:Nat}{a:Sl Int}{c:Int->Option Bool}{kp_f:Nat}{cp_f_0:List PV}(d:∀{a0:Int}{b:Bool},c a0=some b->FunO S kp_f [.p (pI .u64 a0),.p (.ptr cp_f_0)] [] (pB b) [] []){y:Bool}(h:G7 N a c=some y) :FunO S M0 [.p (vSl 1 (cI .u64) a),.clo kp_f [] [.p (.ptr cp_f_0)]] [] (pB y) ([]) []:=by unfold G7 at h;refine A2 hS Tryz.func64 ?_;refine kC hS h (Bh hS hL (fun e=>d e)) (fun y1 h=>?_);cases h;exact kR hS
def DI (N:Nat)(a:Int)(q0:A3):Option Bool:=
 (I3 N q0).bind fun y1=>
 some ((C9 .andNot .u64 a y1) != 0)
theorem Ny {N:Nat}{a:Int}{q0:A3}{y:Bool}(h:DI N a q0=some y) :FunO S Gs [.p (pI .u64 a),.p (.ptr [pI .i64 q0.Langs,vSl 1 (cI .u64) q0.Has])] [] (pB y) ([]) []:=by unfold DI at h;refine A2 hS Tryz.func65 ?_;obtain⟨y1,e1,h⟩:=B9 h;refine B7 hS [] (by decide:(2:Nat)<=2) (Cl hS hL e1) ?_;cases h;exact kR hS
def T9 (N:Nat)(a:A3):Option Int:=
 if ((decide (a.Langs<0))||(decide (32<a.Langs))) then
  some 3
 else
  if (decide (64<(a.Has.n:Int))) then
   some 12
  else
   (G7 N a.Has (fun (u1:Int)=>DI N u1 a)).bind fun y1=>
   if y1 then
    some 2
   else
    some 0
theorem BO {N:Nat}{b:A3}{y:Int}(h:T9 N b=some y) :FunO S IV [.p (.agg (D9 b))] [] (pN y) ([]) []:=by
 unfold T9 at h;refine A2 hS Tryz.func21 ?_;refine kB hS (A6 hS) trivial trivial 4 (.o (.a (decide (b.Langs<0))) (.a (decide (32<b.Langs)))) ?_;refine kI hS h ?_ ?_<;>intro h
 ·cases h;exact kR hS
 ·refine kI hS h ?_ ?_<;>intro h
  ·cases h;exact kR hS
  ·refine I7 hS trivial 17 2000 [pI .i64 b.Langs,vSl 1 (cI .u64) b.Has] ?_;refine kC hS h (An hS hL (fun e=>Ny hS hL e)) (fun y1 h=>?_);refine kI hS h ?_ ?_<;>intro h
   ·cases h;exact kR hS
   ·cases h;exact kR hS
def K7 (N:Nat)(q0:A3)(q1:Int->Option Bool):Option (List (Int)):=
 V9 N (fun a (x1:Int)=>
  if (decide (x1<(q0.Has.n:Int))) then
   if ((0:Int)<=x1/\x1<(q0.Has.n:Int))then
    (q1 (q0.Has.g x1.toNat)).bind fun y3=>
    if y3 then
     Ar x1 (
      a (wrap .i64 (x1+1))
      )
    else
     a (wrap .i64 (x1+1))
   else none
  else
   some []
  ) 0
theorem Z0 {N:Nat}{q0:A3}{q1:Int->Option Bool}{kq1:Nat}{cq1_0:List PV}(f:∀{a0:Int}{b:Bool},q1 a0=some b->FunO S kq1 [.p (pI .u64 a0),.p (.ptr cq1_0)] [] (pB b) [] []){L:List (Int)}(h:K7 N q0 q1=some L) :Fj S G1 [] [.reg 0 0,.reg 1 0] [.cells [pN q0.Langs,.p (vSl 1 (cI .u64) q0.Has)],.cells [.clo kq1 [] [.p (.ptr cq1_0)]]] (L.map (fun (x:Int)=>[pI .i64 x])):=by
 unfold K7 at h;refine Fo hS Tryz.func98 ?_;refine Gp hS trivial h (fun x1 L1=>⟨[(9,pN x1),(8,pN (q0.Has.n:Int)),(7,.p (vSl 1 (cI .u64) q0.Has)),(2,.reg 1 0),(0,.yf 2)],[(2,.yld (L1.map (fun (x:Int)=>[pI .i64 x])) true),(1,.cells [.clo kq1 [] [.p (.ptr cq1_0)]]),(0,.cells [pN q0.Langs,.p (vSl 1 (cI .u64) q0.Has)])]⟩) (ids:=[(0,0),(1,1),(2,2)]) (fun _ _ _ _ _ g x1 L1 c h=>?_);refine kI hS h ?_ ?_<;>intro h
 ·obtain⟨c16,h⟩:=F4 h;obtain⟨y3,e3,h⟩:=B9 h;refine B7 hS [] c16 (f e3) ?_;refine kG hS h (fun h=>?_) (fun h=>?_)
  ·obtain⟨L7,rfl,d⟩:=Mw h;replace h:=d;refine Dt hS trivial (ys:=(fun (x:Int)=>[pI .i64 x]) x1) (rest:=L7.map (fun (x:Int)=>[pI .i64 x])) ?_ ?_
   ·refine E4 hS trivial (b:=false) (fun c20=>?_) (fun c20=>?_)
    ·exact Bool.noConfusion ((rfl:false=false).symm.trans c20)
    ·exact c _ [(0,0),(1,1),(2,2)] _ (wrap .i64 (x1+1)) L7 trivial h
   ·refine E4 hS trivial (b:=true) (fun c21=>?_) (fun c21=>?_)
    ·exact A9 hS trivial (a:=.tup []) (objs:=[(.cells [pN q0.Langs,.p (vSl 1 (cI .u64) q0.Has)]),.cells [.clo kq1 [] [.p (.ptr cq1_0)]],.yld [] false]) ⟨[],[(2,.yld [] false),(1,.cells [.clo kq1 [] [.p (.ptr cq1_0)]]),(0,.cells [pN q0.Langs,.p (vSl 1 (cI .u64) q0.Has)])]⟩ [0,1,2] (ids:=[(0,0),(1,1),(2,2)]) ⟨false,rfl,rfl,_,rfl⟩
    ·exact Bool.noConfusion ((rfl:true=true).symm.trans c21)
  ·exact c _ [(0,0),(1,1),(2,2)] _ (wrap .i64 (x1+1)) L1 trivial h
 ·obtain rfl:=C4 h;exact A9 hS trivial (a:=.tup []) (objs:=[(.cells [pN q0.Langs,.p (vSl 1 (cI .u64) q0.Has)]),.cells [.clo kq1 [] [.p (.ptr cq1_0)]],.yld [] true]) ⟨[],[(2,.yld [] true),(1,.cells [.clo kq1 [] [.p (.ptr cq1_0)]]),(0,.cells [pN q0.Langs,.p (vSl 1 (cI .u64) q0.Has)])]⟩ [0,1,2] (ids:=[(0,0),(1,1),(2,2)]) ⟨true,rfl,rfl,_,rfl⟩
def Q2 (N:Nat)(a:A3)(b:Int->Option Bool):Option (A3):=
 some a
theorem Bi {N:Nat}{a:A3}{c:Int->Option Bool}{kp_is:Nat}{cp_is_0:List PV}(d:∀{a0:Int}{b:Bool},c a0=some b->FunO S kp_is [.p (pI .u64 a0),.p (.ptr cp_is_0)] [] (pB b) [] []){y:A3}(h:Q2 N a c=some y) :FunO S Bb [.p (.agg (D9 a)),.clo kp_is [] [.p (.ptr cp_is_0)]] [] (.clo G1 [] [.reg 0 0,.reg 1 0]) ([.cells [pN y.Langs,.p (vSl 1 (cI .u64) y.Has)],.cells [.clo kp_is [] [.p (.ptr cp_is_0)]]]) []:=by unfold Q2 at h;refine A2 hS Tryz.func57 ?_;obtain rfl:=C4 h;exact A9 hS trivial ⟨[(4,.clo G1 [] [.reg 3000 0,.reg 4000 0])],[(4000,.cells [.clo kp_is [] [.p (.ptr cp_is_0)]]),(3000,.cells [pN a.Langs,.p (vSl 1 (cI .u64) a.Has)])]⟩ [3000,4000] (ids:=[(3000,3000),(4000,4000)]) ⟨rfl,rfl,rfl⟩
def W6 (N:Nat)(q0:A3)(q1:Int->Option Bool):Option (List (Int)):=
 V9 N (fun a (x1:Int)=>
  if (decide (x1<(q0.Has.n:Int))) then
   if ((0:Int)<=x1/\x1<(q0.Has.n:Int))then
    (q1 (q0.Has.g x1.toNat)).bind fun y3=>
    if y3 then
     Ar x1 (
      a (wrap .i64 (x1+1))
      )
    else
     a (wrap .i64 (x1+1))
   else none
  else
   some []
  ) 0
theorem Gb {N:Nat}{q0:A3}{q1:Int->Option Bool}{kq1:Nat}{cq1_0 cq1_1:List PV}(f:∀{a0:Int}{b:Bool},q1 a0=some b->FunO S kq1 [.p (pI .u64 a0),.p (.ptr cq1_0),.p (.ptr cq1_1)] [] (pB b) [] []){L:List (Int)}(h:W6 N q0 q1=some L) :Fj S G1 [] [.reg 0 0,.reg 1 0] [.cells [pN q0.Langs,.p (vSl 1 (cI .u64) q0.Has)],.cells [.clo kq1 [] [.p (.ptr cq1_0),.p (.ptr cq1_1)]]] (L.map (fun (x:Int)=>[pI .i64 x])):=by
 unfold W6 at h;refine Fo hS Tryz.func98 ?_;refine Gp hS trivial h (fun x1 L1=>⟨[(9,pN x1),(8,pN (q0.Has.n:Int)),(7,.p (vSl 1 (cI .u64) q0.Has)),(2,.reg 1 0),(0,.yf 2)],[(2,.yld (L1.map (fun (x:Int)=>[pI .i64 x])) true),(1,.cells [.clo kq1 [] [.p (.ptr cq1_0),.p (.ptr cq1_1)]]),(0,.cells [pN q0.Langs,.p (vSl 1 (cI .u64) q0.Has)])]⟩) (ids:=[(0,0),(1,1),(2,2)]) (fun _ _ _ _ _ g x1 L1 c h=>?_);refine kI hS h ?_ ?_<;>intro h
 ·obtain⟨c16,h⟩:=F4 h;obtain⟨y3,e3,h⟩:=B9 h;refine B7 hS [] c16 (f e3) ?_;refine kG hS h (fun h=>?_) (fun h=>?_)
  ·obtain⟨L7,rfl,d⟩:=Mw h;replace h:=d;refine Dt hS trivial (ys:=(fun (x:Int)=>[pI .i64 x]) x1) (rest:=L7.map (fun (x:Int)=>[pI .i64 x])) ?_ ?_
   ·refine E4 hS trivial (b:=false) (fun c20=>?_) (fun c20=>?_)
    ·exact Bool.noConfusion ((rfl:false=false).symm.trans c20)
    ·exact c _ [(0,0),(1,1),(2,2)] _ (wrap .i64 (x1+1)) L7 trivial h
   ·refine E4 hS trivial (b:=true) (fun c21=>?_) (fun c21=>?_)
    ·exact A9 hS trivial (a:=.tup []) (objs:=[(.cells [pN q0.Langs,.p (vSl 1 (cI .u64) q0.Has)]),.cells [.clo kq1 [] [.p (.ptr cq1_0),.p (.ptr cq1_1)]],.yld [] false]) ⟨[],[(2,.yld [] false),(1,.cells [.clo kq1 [] [.p (.ptr cq1_0),.p (.ptr cq1_1)]]),(0,.cells [pN q0.Langs,.p (vSl 1 (cI .u64) q0.Has)])]⟩ [0,1,2] (ids:=[(0,0),(1,1),(2,2)]) ⟨false,rfl,rfl,_,rfl⟩
    ·exact Bool.noConfusion ((rfl:true=true).symm.trans c21)
  ·exact c _ [(0,0),(1,1),(2,2)] _ (wrap .i64 (x1+1)) L1 trivial h
 ·obtain rfl:=C4 h;exact A9 hS trivial (a:=.tup []) (objs:=[(.cells [pN q0.Langs,.p (vSl 1 (cI .u64) q0.Has)]),.cells [.clo kq1 [] [.p (.ptr cq1_0),.p (.ptr cq1_1)]],.yld [] true]) ⟨[],[(2,.yld [] true),(1,.cells [.clo kq1 [] [.p (.ptr cq1_0),.p (.ptr cq1_1)]]),(0,.cells [pN q0.Langs,.p (vSl 1 (cI .u64) q0.Has)])]⟩ [0,1,2] (ids:=[(0,0),(1,1),(2,2)]) ⟨true,rfl,rfl,_,rfl⟩
def AB (N:Nat)(a:A3)(b:Int->Option Bool):Option (A3):=
 some a
theorem Hr {N:Nat}{a:A3}{c:Int->Option Bool}{kp_is:Nat}{cp_is_0 cp_is_1:List PV}(d:∀{a0:Int}{b:Bool},c a0=some b->FunO S kp_is [.p (pI .u64 a0),.p (.ptr cp_is_0),.p (.ptr cp_is_1)] [] (pB b) [] []){y:A3}(h:AB N a c=some y) :FunO S Bb [.p (.agg (D9 a)),.clo kp_is [] [.p (.ptr cp_is_0),.p (.ptr cp_is_1)]] [] (.clo G1 [] [.reg 0 0,.reg 1 0]) ([.cells [pN y.Langs,.p (vSl 1 (cI .u64) y.Has)],.cells [.clo kp_is [] [.p (.ptr cp_is_0),.p (.ptr cp_is_1)]]]) []:=by unfold AB at h;refine A2 hS Tryz.func57 ?_;obtain rfl:=C4 h;exact A9 hS trivial ⟨[(4,.clo G1 [] [.reg 3000 0,.reg 4000 0])],[(4000,.cells [.clo kp_is [] [.p (.ptr cp_is_0),.p (.ptr cp_is_1)]]),(3000,.cells [pN a.Langs,.p (vSl 1 (cI .u64) a.Has)])]⟩ [3000,4000] (ids:=[(3000,3000),(4000,4000)]) ⟨rfl,rfl,rfl⟩
def AY (N:Nat)(a:Int)(q0:A3):Option Bool:=
 lt (fun (z1:Bool)=>
  some z1
  ) fun k1=>
  if ((C9 .and .u64 a (wrap .u64 (a-1))) != 0) then
   (I3 N q0).bind fun y2=>
   k1 (a != y2)
  else
   k1 false
theorem FV {N:Nat}{a:Int}{q0:A3}{y:Bool}(h:AY N a q0=some y) :FunO S FO [.p (pI .u64 a),.p (.ptr [pI .i64 q0.Langs,vSl 1 (cI .u64) q0.Has])] [] (pB y) ([]) []:=by
 unfold AY at h;refine A2 hS Tryz.func58 ?_;refine JM hS trivial (A6 hS) h 0 (fun z1=>⟨[(3,pB z1)],[]⟩) (fun M1 k1 b h=>?_) (fun z1 h=>?_)
 ·refine kG hS h (fun h=>?_) (fun h=>?_)
  ·obtain⟨y2,e2,h⟩:=B9 h;refine B7 hS [] (by decide:(2:Nat)<=2) (Cl hS hL e2) ?_;exact b _ [] _ (a != y2) trivial h
  ·exact b _ [] _ false trivial h
 ·cases h;exact kR hS
def Io (N:Nat)(p_x:Int)(a:Int):Option Bool:=
 some ((((C9 .and .u64 p_x a)==0)||((C9 .andNot .u64 p_x a)==0))||((C9 .andNot .u64 a p_x)==0))
theorem VK {N:Nat}{p_x:Int}{b:Int}{y:Bool}(h:Io N p_x b=some y) :FunO S MD [.p (pI .u64 p_x),.p (pI .u64 b)] [] (pB y) ([]) []:=by unfold Io at h;refine A2 hS Tryz.func62 ?_;refine kB hS (A6 hS) trivial trivial 11 (.o (.o (.a ((C9 .and .u64 p_x b)==0)) (.a ((C9 .andNot .u64 p_x b)==0))) (.a ((C9 .andNot .u64 b p_x)==0))) ?_;cases h;exact kR hS
def U0 (N:Nat)(a:Int)(q0:Int):Option Bool:=
 (Io N q0 a).bind fun y1=>
 some (!y1)
theorem DJ {N:Nat}{a:Int}{q0:Int}{y:Bool}(h:U0 N a q0=some y) :FunO S Dw [.p (pI .u64 a),.p (.ptr [pI .u64 q0])] [] (pB y) ([]) []:=by unfold U0 at h;refine A2 hS Tryz.func61 ?_;refine kC hS h (VK hS hL) (fun y1 h=>?_);cases h;exact kR hS
def N5 (N:Nat)(a:Sl Int)(c:Int->Option Bool):Option Int:=
 V9 N (fun b (x1:Int)=>
  if (decide (x1<(a.n:Int))) then
   if ((0:Int)<=x1/\x1<(a.n:Int))then
    (c (a.g x1.toNat)).bind fun y3=>
    if y3 then
     some x1
    else
     b (wrap .i64 (x1+1))
   else none
  else
   some (-1)
  ) 0
theorem CT {N:Nat}{a:Sl Int}{c:Int->Option Bool}{kp_f:Nat}{cp_f_0:List PV}(d:∀{a0:Int}{b:Bool},c a0=some b->FunO S kp_f [pN a0,.p (.ptr cp_f_0)] [] (pB b) [] []){y:Int}(h:N5 N a c=some y) :FunO S U6 [.p (vSl 1 (cI .i64) a),.clo kp_f [] [.p (.ptr cp_f_0)]] [] (pN y) ([]) []:=by
 unfold N5 at h;refine A2 hS Tryz.func146 ?_;refine N7 hS trivial h (fun x1=>⟨[(8,pN x1),(7,pN (a.n:Int)),(1,.clo kp_f [] [.p (.ptr cp_f_0)]),(0,.p (vSl 1 (cI .i64) a))],[]⟩) (ids:=[]) (fun _ _ _ _ _ f x1 g h=>?_);refine kI hS h ?_ ?_<;>intro h
 ·obtain⟨c8,h⟩:=F4 h;obtain⟨y3,e3,h⟩:=B9 h;refine B7 hS [] c8 (d e3) ?_;refine kI hS h ?_ ?_<;>intro h
  ·cases h;exact kR hS
  ·exact g _ [] _ (wrap .i64 (x1+1)) trivial h
 ·cases h;exact kR hS
def G0 (N:Nat)(a:Sl Int)(b:Int->Option Bool):Option Bool:=
 (N5 N a b).bind fun y1=>
 some (decide (0<=y1))
theorem S2 {N:Nat}{a:Sl Int}{c:Int->Option Bool}{kp_f:Nat}{cp_f_0:List PV}(d:∀{a0:Int}{b:Bool},c a0=some b->FunO S kp_f [pN a0,.p (.ptr cp_f_0)] [] (pB b) [] []){y:Bool}(h:G0 N a c=some y) :FunO S S1 [.p (vSl 1 (cI .i64) a),.clo kp_f [] [.p (.ptr cp_f_0)]] [] (pB y) ([]) []:=by unfold G0 at h;refine A2 hS Tryz.func115 ?_;refine kC hS h (CT hS hL (fun e=>d e)) (fun y1 h=>?_);cases h;exact kR hS
def R5 (N:Nat)(a:Int)(q0:A3):Option Bool:=
 some ((decide (a<0))||(decide (q0.Langs<=a)))
theorem CH {N:Nat}{b:Int}{q0:A3}{y:Bool}(h:R5 N b q0=some y) :FunO S Cy [pN b,.p (.ptr [pI .i64 q0.Langs,vSl 1 (cI .u64) q0.Has])] [] (pB y) ([]) []:=by unfold R5 at h;refine A2 hS Tryz.func116 ?_;refine kB hS (A6 hS) trivial trivial 5 (.o (.a (decide (b<0))) (.a (decide (q0.Langs<=b)))) ?_;cases h;exact kR hS
def Bj (N:Nat)(c:A3)(b:Int->Option Bool)(a:Sl Int):Option (Int×Int):=
 (T9 N c).bind fun y1=>
 if (y1 != 0) then
  some (0,y1)
 else
  (G0 N a (fun (u1:Int)=>R5 N u1 c)).bind fun y2=>
  if y2 then
   some (0,3)
  else
   (Q2 N c b).bind fun y3=>
   (K7 N y3 b).bind fun L1=>
   O5 L1 (fun d (x1:Int) (z1:Int)=>
    d (wrap .i64 (z1+1))
    ) (fun (z1:Int)=>
     some (z1,0)
    ) 0
theorem Ip {N:Nat}{d:A3}{f:Int->Option Bool}{a:Sl Int}{kp_is:Nat}{cp_is_0:List PV}(c:∀{a0:Int}{b:Bool},f a0=some b->FunO S kp_is [.p (pI .u64 a0),.p (.ptr cp_is_0)] [] (pB b) [] []){y:Int×Int}(h:Bj N d f a=some y) :FunO S Bc [.p (.agg (D9 d)),.clo kp_is [] [.p (.ptr cp_is_0)],.p (vSl 1 (cI .i64) a)] [] (.tup [pN y.1,pN y.2]) ([]) []:=by
 unfold Bj at h;refine A2 hS Tryz.func82 ?_;refine kC hS h (BO hS hL) (fun y1 h=>?_);refine kI hS h ?_ ?_<;>intro h
 ·cases h;exact kR hS
 ·refine I7 hS trivial 16 4000 [pI .i64 d.Langs,vSl 1 (cI .u64) d.Has] ?_;refine kC hS h (S2 hS hL (fun e=>CH hS hL e)) (fun y2 h=>?_);refine kI hS h ?_ ?_<;>intro h
  ·cases h;exact kR hS
  ·obtain⟨y3,e3,h⟩:=B9 h;refine B7 hS [] (by decide:(2:Nat)<=2) (Bi hS hL (fun e=>c e) e3) ?_;obtain⟨L1,e4,h⟩:=B9 h;refine Em hS trivial [21000,21001] [9] 901 (fun z1=>⟨[(9,.reg 10000 0)],[(10000,.cells [pN z1])]⟩) (idl:=[(10000,10000)]) h (Z0 hS hL (fun e=>c e) e4) (fun _=>by kernel_rfl) (fun _=>by kernel_rfl) (fun _=>by kernel_rfl) (fun _=>by kernel_rfl) (fun x1 _ g z1 i h=>?_) (fun z1 h=>?_)
   ·refine Ii hS trivial ?_;exact i _ [(901,901),(10000,10000)] _ (wrap .i64 (z1+1)) trivial h
   ·cases h;exact kR hS
def AC (N:Nat)(c:A3)(b:Int->Option Bool)(a:Sl Int):Option (Int×Int):=
 (T9 N c).bind fun y1=>
 if (y1 != 0) then
  some (0,y1)
 else
  (G0 N a (fun (u1:Int)=>R5 N u1 c)).bind fun y2=>
  if y2 then
   some (0,3)
  else
   (AB N c b).bind fun y3=>
   (W6 N y3 b).bind fun L1=>
   O5 L1 (fun d (x1:Int) (z1:Int)=>
    d (wrap .i64 (z1+1))
    ) (fun (z1:Int)=>
     some (z1,0)
    ) 0
theorem Hs {N:Nat}{d:A3}{f:Int->Option Bool}{a:Sl Int}{kp_is:Nat}{cp_is_0 cp_is_1:List PV}(c:∀{a0:Int}{b:Bool},f a0=some b->FunO S kp_is [.p (pI .u64 a0),.p (.ptr cp_is_0),.p (.ptr cp_is_1)] [] (pB b) [] []){y:Int×Int}(h:AC N d f a=some y) :FunO S Bc [.p (.agg (D9 d)),.clo kp_is [] [.p (.ptr cp_is_0),.p (.ptr cp_is_1)],.p (vSl 1 (cI .i64) a)] [] (.tup [pN y.1,pN y.2]) ([]) []:=by
 unfold AC at h;refine A2 hS Tryz.func82 ?_;refine kC hS h (BO hS hL) (fun y1 h=>?_);refine kI hS h ?_ ?_<;>intro h
 ·cases h;exact kR hS
 ·refine I7 hS trivial 16 4000 [pI .i64 d.Langs,vSl 1 (cI .u64) d.Has] ?_;refine kC hS h (S2 hS hL (fun e=>CH hS hL e)) (fun y2 h=>?_);refine kI hS h ?_ ?_<;>intro h
  ·cases h;exact kR hS
  ·obtain⟨y3,e3,h⟩:=B9 h;refine B7 hS [] (by decide:(2:Nat)<=2) (Hr hS hL (fun e=>c e) e3) ?_;obtain⟨L1,e4,h⟩:=B9 h;refine Em hS trivial [21000,21001] [9] 901 (fun z1=>⟨[(9,.reg 10000 0)],[(10000,.cells [pN z1])]⟩) (idl:=[(10000,10000)]) h (Gb hS hL (fun e=>c e) e4) (fun _=>by kernel_rfl) (fun _=>by kernel_rfl) (fun _=>by kernel_rfl) (fun _=>by kernel_rfl) (fun x1 _ g z1 i h=>?_) (fun z1 h=>?_)
   ·refine Ii hS trivial ?_;exact i _ [(901,901),(10000,10000)] _ (wrap .i64 (z1+1)) trivial h
   ·cases h;exact kR hS
def CU (N:Nat)(a:Int)(q0:Int)(q1:Int):Option Bool:=
 if (0:Int)<=q0 then
  if (((C9 .and .u64 (shI .shr .u64 a q0) 1)==1)=true->(0:Int)<=q1)then
   some (((C9 .and .u64 (shI .shr .u64 a q0) 1)==1)&&((C9 .and .u64 (shI .shr .u64 a q1) 1)==1))
  else none
 else none
theorem Lu {N:Nat}{b:Int}{q0:Int}{q1:Int}{y:Bool}(h:CU N b q0 q1=some y) :FunO S CP [.p (pI .u64 b),.p (.ptr [pI .i64 q0]),.p (.ptr [pI .i64 q1])] [] (pB y) ([]) []:=by unfold CU at h;refine A2 hS Tryz.func83 ?_;obtain⟨c1,h⟩:=F4 h;obtain⟨c2,h⟩:=F4 h;refine kB hS (A6 hS) c1 c2 6 (.n (.a ((C9 .and .u64 (shI .shr .u64 b q0) 1)==1)) (.a ((C9 .and .u64 (shI .shr .u64 b q1) 1)==1))) ?_;cases h;exact kR hS
def FE (N:Nat)(a:Int)(q0:Int):Option Bool:=
 if (0:Int)<=q0 then
  some (a==(shI .shl .u64 1 q0))
 else none
theorem Rj {N:Nat}{a:Int}{q0:Int}{y:Bool}(h:FE N a q0=some y) :FunO S Fr [.p (pI .u64 a),.p (.ptr [pI .i64 q0])] [] (pB y) ([]) []:=by unfold FE at h;refine A2 hS Tryz.func85 ?_;obtain⟨c1,h⟩:=F4 h;obtain rfl:=C4 h;exact Yl hS c1 [] ⟨rfl,rfl,rfl⟩
def Ev (N:Nat)(c:A3)(a:Int)(b:Int):Option (Int×Int):=
 (AC N c (fun (u1:Int)=>CU N u1 a b) (Sl.of [a,b]:Sl Int)).bind fun y1=>
 some (y1.1,y1.2)
theorem OI {N:Nat}{c:A3}{a:Int}{b:Int}{y:Int×Int}(h:Ev N c a b=some y) :FunO S HA [.p (.agg (D9 c)),pN a,pN b] [] (.tup [pN y.1,pN y.2]) ([]) []:=by unfold Ev at h;refine A2 hS Tryz.func33 ?_;refine I7 hS trivial 9 5000 [pI .i64 a] ?_;refine I7 hS trivial 9 6000 [pI .i64 b] ?_;refine CX hS (rfl:true=true) ⟨[(12,.vec 13000),(9,.clo CP [] [.p (.ptr [pI .i64 a]),.p (.ptr [pI .i64 b])]),(8,.p (.agg (D9 c)))],[(13000,.vec F1 1 (Sl.of [a,b]:Sl Int).n (fun i=>cI .i64 ((Sl.of [a,b]:Sl Int).g i)) false)]⟩ (ids:=[(13000,13000)]) ?_ (hle:=klR [(4,.fn 2 (Sl.of [a,b]:Sl Int).n (F0 [pI .i64 0] [(0,cI .i64 a),(1,cI .i64 b)]) (fun i=>cI .i64 ((Sl.of [a,b]:Sl Int).g i)))] (al1 ⟨rfl,(fun i d=>match i,d with|0,_=>rfl|1,_=>rfl|_+2,d=>absurd d (by omega))⟩ al0));refine kC hS h (Hs hS hL (fun e=>Lu hS hL e)) (fun y1 h=>?_);cases h;exact kR hS
def Nz (N:Nat)(b:A3)(a:Int):Option (Int×Int):=
 (Bj N b (fun (u1:Int)=>FE N u1 a) (Sl.of [a]:Sl Int)).bind fun y1=>
 some (y1.1,y1.2)
theorem AE3 {N:Nat}{b:A3}{a:Int}{y:Int×Int}(h:Nz N b a=some y) :FunO S MB [.p (.agg (D9 b)),pN a] [] (.tup [pN y.1,pN y.2]) ([]) []:=by unfold Nz at h;refine A2 hS Tryz.func35 ?_;refine I7 hS trivial 7 4000 [pI .i64 a] ?_;refine CX hS (rfl:true=true) ⟨[(9,.vec 10000),(7,.clo Fr [] [.p (.ptr [pI .i64 a])]),(6,.p (.agg (D9 b)))],[(10000,.vec F1 1 (Sl.of [a]:Sl Int).n (fun i=>cI .i64 ((Sl.of [a]:Sl Int).g i)) false)]⟩ (ids:=[(10000,10000)]) ?_ (hle:=klR [(3,.fn 1 (Sl.of [a]:Sl Int).n (F0 [pI .i64 0] [(0,cI .i64 a)]) (fun i=>cI .i64 ((Sl.of [a]:Sl Int).g i)))] (al1 ⟨rfl,(fun i c=>match i,c with|0,_=>rfl|_+1,c=>absurd c (by omega))⟩ al0));refine kC hS h (Ip hS hL (fun e=>Rj hS hL e)) (fun y1 h=>?_);cases h;exact kR hS
def Cm (N:Nat)(a:A3):Option ((Sl L0)×Int):=
 (T9 N a).bind fun y1=>
 if (y1 != 0) then
  some ((Sl.nil:Sl L0),y1)
 else
  P4 N (fun c (x3:Sl L0) (x4:Int)=>
   if (decide (x4<(a.Has.n:Int))) then
    if ((0:Int)<=x4/\x4<(a.Has.n:Int))then
     (Q2 N a (fun (u5:Int)=>U0 N u5 (a.Has.g x4.toNat))).bind fun y4=>
     (K7 N y4 (fun (u6:Int)=>U0 N u6 (a.Has.g x4.toNat))).bind fun L3=>
     O5 L3 (fun b (x7:Int) (z3:Sl L0)=>
      if (decide (x4<x7)) then
       if ((z3.n+(Sl.of [(⟨x4,x7⟩:L0)]:Sl L0).n)*16<=140737488355328/\z3.n+(Sl.of [(⟨x4,x7⟩:L0)]:Sl L0).n<=140737488355328)then
        b (z3.push (⟨x4,x7⟩:L0))
       else none
      else
       b z3
      ) (fun (z3:Sl L0)=>
       c z3 (wrap .i64 (x4+1))
      ) x3
    else none
   else
    some (x3,0)
   ) (Sl.nil:Sl L0) 0
theorem Kl {N:Nat}{a:A3}{y:(Sl L0)×Int}(h:Cm N a=some y) :FunO S EN [.p (.agg (D9 a))] [] (.tup [.p (vSl 2 Q6 y.1),pN y.2]) ([]) []:=by
 unfold Cm at h;refine A2 hS Tryz.func19 ?_;refine kC hS h (BO hS hL) (fun y1 h=>?_);refine kI hS h ?_ ?_<;>intro h
 ·obtain rfl:=C4 h;exact A9 hS trivial ⟨[(3,pN y1),(2,.p (vSl 2 Q6 (Sl.nil:Sl L0)))],[]⟩ [] (ids:=[]) ⟨rfl,rfl,rfl⟩
 ·refine I4 hS trivial h (fun x3 x4=>⟨[(17,pN x4),(16,pN (a.Has.n:Int)),(15,.p (vSl 1 (cI .u64) a.Has)),(5,.reg 6000 0),(1,.reg 2000 0)],[(6501,.vec QX 2 x3.n (fun i=>Q6 (x3.g i)) false),(6000,.cells [.vec 6501]),(2000,.cells [pN a.Langs,.p (vSl 1 (cI .u64) a.Has)])]⟩) (ids:=[(2000,2000),(6000,6000)]) (fun _ _ _ _ _ d x3 x4 f h=>?_);refine kI hS h ?_ ?_<;>intro h
  ·obtain⟨c15,h⟩:=F4 h;refine I7 hS c15 23 8000 [pI .u64 (a.Has.g x4.toNat)] ?_;refine kC hS h (Bi hS hL (fun e=>DJ hS hL e)) (fun y4 h=>?_);obtain⟨L3,e7,h⟩:=B9 h;refine Em hS trivial [25000,25001] [17,16,15,6,5,1] 905 (fun z3=>⟨[(17,pN x4),(16,pN (a.Has.n:Int)),(15,.p (vSl 1 (cI .u64) a.Has)),(6,.reg 7000 0),(5,.reg 6000 0),(1,.reg 2000 0)],[(7000,.cells [pN x4]),(6500,.vec QX 2 z3.n (fun i=>Q6 (z3.g i)) false),(6000,.cells [.vec 6500]),(2000,.cells [pN a.Langs,.p (vSl 1 (cI .u64) a.Has)])]⟩) (idl:=[(2000,2000),(6000,6000),(6500,6501),(7000,7000)]) h (Z0 hS hL (fun e=>DJ hS hL e) e7) (fun _=>by kernel_rfl) (fun _=>by kernel_rfl) (fun _=>by kernel_rfl) (fun _=>by kernel_rfl) (fun x7 _ j z3 b h=>?_) (fun z3 h=>?_)
   ·refine Ii hS trivial ?_;refine kI hS h ?_ ?_<;>intro h
    ·obtain⟨c19,h⟩:=F4 h;exact b _ [(905,905),(2000,2000),(6000,6000),(6500,35000),(7000,7000)] _ (z3.push (⟨x4,x7⟩:L0)) (And.intro (rfl:true=true) c19) h (hle:=klR [(1,.fn (z3.n+1) (z3.push (⟨x4,x7⟩:L0)).n (BW z3.n (fun i=>Q6 (z3.g i)) (F0 [pI .i64 0,pI .i64 0] [(0,Q6 (⟨x4,x7⟩:L0))])) (fun i=>Q6 ((z3.push (⟨x4,x7⟩:L0)).g i)))] (al1 ⟨rfl,Ms (c:=Q6) (v:=z3) (x:=(⟨x4,x7⟩:L0)) (z:=[(pI .i64 0),pI .i64 0]) same rfl rfl⟩ al0))
    ·exact b _ [(905,905),(2000,2000),(6000,6000),(6500,6500),(7000,7000)] _ z3 trivial h
   ·exact f _ [(2000,2000),(6000,6000),(6501,6500)] _ z3 (wrap .i64 (x4+1)) trivial h
  ·obtain rfl:=C4 h;exact A9 hS trivial ⟨[(3,pN 0),(2,.p (vSl 2 Q6 x3))],[]⟩ [] (ids:=[]) ⟨rfl,rfl,rfl⟩
def GN (N:Nat)(c:A3)(b:Int):Option (A3×Int):=
 (T9 N c).bind fun y1=>
 if (y1 != 0) then
  some ((⟨0,(Sl.nil:Sl Int)⟩:A3),y1)
 else
  (I3 N c).bind fun y2=>
  if ((C9 .andNot .u64 b y2) != 0) then
   some ((⟨0,(Sl.nil:Sl Int)⟩:A3),2)
  else
   Aa6 N (fun f (x1:Nat->Int) (x2:Int) (x3:Int)=>
    if (x3 != 0) then
     (B6 N x3).bind fun y5=>
     if (((0:Int)<=x2/\x2<32)/\(0+x2.toNat*1)<32)then
      f (KK x1 (0+x2.toNat*1) y5) (wrap .i64 (x2+1)) (C9 .and .u64 x3 (wrap .u64 (x3-1)))
     else none
    else
     P4 N (fun i (x6:Sl Int) (x7:Int)=>
      if (decide (x7<(c.Has.n:Int))) then
       if (((0:Int)<=x7/\x7<(c.Has.n:Int))/\((0:Int)<=x2/\x2<=((32:Nat):Int)))then
        P4 N (fun j (d:Int) (a:Int)=>
         if (decide (a<((⟨x2.toNat,x1⟩:Sl Int).n:Int))) then
          if ((((0:Int)<=a/\a<((⟨x2.toNat,x1⟩:Sl Int).n:Int))/\(0:Int)<=((⟨x2.toNat,x1⟩:Sl Int).g a.toNat))/\(0:Int)<=a)then
           j (C9 .or .u64 d (shI .shl .u64 (C9 .and .u64 (shI .shr .u64 (c.Has.g x7.toNat) ((⟨x2.toNat,x1⟩:Sl Int).g a.toNat)) 1) a)) (wrap .i64 (a+1))
          else none
         else
          if ((x6.n+(Sl.of [d]:Sl Int).n)*8<=140737488355328/\x6.n+(Sl.of [d]:Sl Int).n<=140737488355328)then
           i (x6.push d) (wrap .i64 (x7+1))
          else none
         ) 0 0
       else none
      else
       some ((⟨x2,x6⟩:A3),0)
      ) (Sl.nil:Sl Int) 0
    ) (fun _=>0) 0 b
theorem Ts {N:Nat}{a:A3}{d:Int}{y:A3×Int}(h:GN N a d=some y) :FunO S KL [.p (.agg (D9 a)),.p (pI .u64 d)] [] (.tup [.p (.agg (D9 y.1)),pN y.2]) ([]) []:=by
 unfold GN at h;refine A2 hS Tryz.func26 ?_;refine I7 hS trivial 4 3000 [pI .i64 a.Langs,vSl 1 (cI .u64) a.Has] ?_;obtain⟨y1,e1,h⟩:=B9 h;refine B7 hS [] (by decide:(2:Nat)<=2) (BO hS hL e1) ?_;refine kI hS h ?_ ?_<;>intro h
 ·obtain rfl:=C4 h;exact A9 hS trivial ⟨[(5,pN y1),(4,.reg 5000 0)],[(5000,.cells [pN 0,.p (vSl 1 (cI .u64) (Sl.nil:Sl Int))])]⟩ [] (ids:=[(5000,5000)]) ⟨rfl,rfl,rfl⟩
 ·obtain⟨y2,e2,h⟩:=B9 h;refine B7 hS [] (by decide:(2:Nat)<=2) (Cl hS hL e2) ?_;refine kI hS h ?_ ?_<;>intro h
  ·obtain rfl:=C4 h;exact A9 hS trivial ⟨[(5,pN 2),(4,.reg 5000 0)],[(5000,.cells [pN 0,.p (vSl 1 (cI .u64) (Sl.nil:Sl Int))])]⟩ [] (ids:=[(5000,5000)]) ⟨rfl,rfl,rfl⟩
  ·refine Pq hS trivial h (fun x1 x2 x3=>⟨[(9,.p (pI .u64 x3)),(8,.reg 9000 0),(7,.reg 8000 0),(4,.reg 5000 0),(2,.p (.ptr [pI .i64 a.Langs,vSl 1 (cI .u64) a.Has]))],[(9000,.cells [pN x2,.p F9]),(8000,.arr 32 (fun i=>pI .i64 (x1 i))),(5000,.cells [pN 0,.p F9])]⟩) (ids:=[(5000,5000),(8000,8000),(9000,9000)]) (fun _ _ _ _ _ j x1 x2 x3 l h=>?_) (hle:=klR [(4,.fn 32 32 (fun i=>[(fun i=>(List.replicate 32 (pI .i64 0)).getD i default) i]) (fun i=>[pI .i64 ((fun _=>0) i)]))] (al1 ⟨rfl,BC (z:=pI .i64 0) rfl⟩ al0));refine kI hS h ?_ ?_<;>intro h
   ·refine H7 hS trivial [3] ?_;obtain⟨y5,e5,h⟩:=B9 h;refine BB trivial (I9 hS hL e5) ?_;obtain⟨c8,h⟩:=F4 h;refine P7 c8 ?_;exact l _ [(5000,5000),(8000,8000),(9000,9000)] _ (KK x1 (0+x2.toNat*1) y5) (wrap .i64 (x2+1)) (C9 .and .u64 x3 (wrap .u64 (x3-1))) trivial h (hle:=klR [(4,.fn 32 32 (fun i=>[(fun i=>if i=(0+x2.toNat*1)then (pI .i64 y5)else (fun i=>pI .i64 (x1 i)) i) i]) (fun i=>[pI .i64 (KK x1 (0+x2.toNat*1) y5 i)]))] (al1 ⟨rfl,Aw1 (c:=pI .i64) (v:=x1) (x:=y5) (fun _ _=>rfl) rfl⟩ al0))
   ·refine AO4 hS trivial 44 8000 32 (fun i=>pI .i64 (x1 i)) ?_;refine I4 hS trivial h (fun x6 x7=>⟨[(47,pN x7),(46,pN (a.Has.n:Int)),(45,.p (vSl 1 (cI .u64) a.Has)),(8,.reg 9000 0),(7,.p (.ptr (Bv 32 (fun i=>pI .i64 (x1 i))))),(4,.reg 5000 0)],[(9500,.vec AX 1 x6.n (fun i=>cI .u64 (x6.g i)) false),(9000,.cells [pN x2,.vec 9500]),(5000,.cells [pN 0,.p F9])]⟩) (ids:=[(5000,5000),(9000,9000)]) (fun _ _ _ _ _ m x6 x7 o h=>?_);refine kI hS h ?_ ?_<;>intro h
    ·obtain⟨c22,h⟩:=F4 h;refine I4 hS c22 h (fun b f=>⟨[(55,pN f),(54,pN ((⟨x2.toNat,x1⟩:Sl Int).n:Int)),(53,.p (vSl 1 (cI .i64) (⟨x2.toNat,x1⟩:Sl Int))),(47,pN x7),(46,pN (a.Has.n:Int)),(45,.p (vSl 1 (cI .u64) a.Has)),(12,.p (pI .u64 b)),(11,.p (pI .u64 (a.Has.g x7.toNat))),(8,.reg 9000 0),(7,.p (.ptr (Bv 32 (fun i=>pI .i64 (x1 i))))),(4,.reg 5000 0)],[(9500,.vec AX 1 x6.n (fun i=>cI .u64 (x6.g i)) false),(9000,.cells [pN x2,.vec 9500]),(5000,.cells [pN 0,.p F9])]⟩) (ids:=[(5000,5000),(9000,9000),(9500,9500)]) (fun _ _ _ _ _ q b f r h=>?_) (hle:=klR [(2,.fn x2.toNat (⟨x2.toNat,x1⟩:Sl Int).n (fun i=>[(Bv 32 (fun i=>pI .i64 (x1 i))).getD i default]) (fun i=>cI .i64 ((⟨x2.toNat,x1⟩:Sl Int).g i)))] (al1 ⟨rfl,fun i s=>arrG _ (by omega)⟩ al0));refine kI hS h ?_ ?_<;>intro h
     ·obtain⟨c26,h⟩:=F4 h;exact r _ [(5000,5000),(9000,9000),(9500,9500)] _ (C9 .or .u64 b (shI .shl .u64 (C9 .and .u64 (shI .shr .u64 (a.Has.g x7.toNat) ((⟨x2.toNat,x1⟩:Sl Int).g f.toNat)) 1) f)) (wrap .i64 (f+1)) c26 h
     ·obtain⟨c27,h⟩:=F4 h;exact o _ [(5000,5000),(9000,9000),(9500,74000)] _ (x6.push b) (wrap .i64 (x7+1)) (And.intro (rfl:true=true) c27) h (hle:=klR [(4,.fn (x6.n+1) (x6.push b).n (BW x6.n (fun i=>cI .u64 (x6.g i)) (F0 [pI .u64 0] [(0,cI .u64 b)])) (fun i=>cI .u64 ((x6.push b).g i)))] (al1 ⟨rfl,Ms (c:=cI .u64) (v:=x6) (x:=b) (z:=[(pI .u64 0)]) same rfl rfl⟩ al0))
    ·obtain rfl:=C4 h;exact A9 hS trivial ⟨[(5,pN 0),(4,.reg 5000 0)],[(5000,.cells [pN x2,.p (vSl 1 (cI .u64) x6)])]⟩ [] (ids:=[(5000,5000)]) ⟨rfl,rfl,rfl⟩
def K8 (N:Nat)(a:List (Int)):Option (Sl Int):=
 O5 a (fun b (x1:Int) (z1:Sl Int)=>
  if ((z1.n+(Sl.of [x1]:Sl Int).n)*8<=140737488355328/\z1.n+(Sl.of [x1]:Sl Int).n<=140737488355328)then
   b (z1.push x1)
  else none
  ) (fun (z1:Sl Int)=>
   some z1
  ) (Sl.nil:Sl Int)
theorem CJ {N:Nat}{f:List (Int)}{a:A3}{d:Nat}{b:List PV}{kp_seq:Nat}(fp_seq:∃fn,AS0[kp_seq]? = some fn/\fn.body.isSome=true/\(fn.name == "runtime.NumGoroutine")=false)(j:Fj S kp_seq [] [.reg 0 0,.reg 1 0] [(.cells [(pN a.Langs),(.p (vSl 1 (cI .u64) a.Has))]),(.cells [(.clo d [] [(.p (.ptr b))])])] (f.map (fun (x:Int)=>[(pI .i64) x]))){y:(Sl Int)}(h:K8 N f=some y) :FunO S N3 [(.p F9),(.clo kp_seq [] [(.reg 0 0),(.reg 1 0)])] [(.cells [(pN a.Langs),(.p (vSl 1 (cI .u64) a.Has))]),(.cells [(.clo d [] [(.p (.ptr b))])])] (.vec 0) ([(.vec F1 1 y.n (fun i=>(cI .i64) (y.g i)) true)]) [false,false]:=by
 unfold K8 at h;refine A2 hS Tryz.func97 ?_;refine Qz hS trivial fp_seq [0,1] [2] 901 (fun z1=>⟨[(2,(.reg 3000 0))],[(3500,(.vec F1 1 z1.n (fun i=>(cI .i64) (z1.g i)) false)),(3000,(.cells [(.vec 3500)]))]⟩) (idl:=[(3000,3000)]) h j (fun _=>by kernel_rfl) (fun _=>by kernel_rfl) (fun _=>by kernel_rfl) (fun _=>by kernel_rfl) (fun x1 _ l z1 m h=>?_) (fun z1 h=>?_)
 ·refine Ii hS trivial ?_;obtain⟨c1,h⟩:=F4 h;exact m _ [(901,901),(3000,3000),(3500,12000)] _ (z1.push x1) (And.intro (rfl:true=true) c1) h (hle:=klR [(0,.fn (z1.n+1) (z1.push x1).n (BW z1.n (fun i=>(cI .i64) (z1.g i)) (F0 [(pI .i64 0)] [(0,(cI .i64) x1)])) (fun i=>(cI .i64) ((z1.push x1).g i)))] (al1 ⟨rfl,(Ms (c:=(cI .i64)) (v:=z1) (x:=x1) (z:=[(pI .i64 0)]) same rfl rfl)⟩ al0))
 ·obtain rfl:=C4 h;exact A9 hS trivial ⟨[(4,(.vec 3500))],[(3500,(.vec F1 1 z1.n (fun i=>(cI .i64) (z1.g i)) true))]⟩ [3500] (ids:=[(3500,3500)]) ⟨rfl,rfl,rfl⟩
def Z1 (N:Nat)(a:List (Int)):Option (Sl Int):=
 (K8 N a).bind fun y1=>
 some y1
theorem GO {N:Nat}{d:List (Int)}{a:A3}{c:Nat}{b:List PV}{kp_seq:Nat}(fp_seq:∃fn,AS0[kp_seq]? = some fn/\fn.body.isSome=true/\(fn.name == "runtime.NumGoroutine")=false)(f:Fj S kp_seq [] [.reg 0 0,.reg 1 0] [(.cells [(pN a.Langs),(.p (vSl 1 (cI .u64) a.Has))]),(.cells [(.clo c [] [(.p (.ptr b))])])] (d.map (fun (x:Int)=>[(pI .i64) x]))){y:(Sl Int)}(h:Z1 N d=some y) :FunO S Au [(.clo kp_seq [] [(.reg 0 0),(.reg 1 0)])] [(.cells [(pN a.Langs),(.p (vSl 1 (cI .u64) a.Has))]),(.cells [(.clo c [] [(.p (.ptr b))])])] (.vec 0) ([(.vec F1 1 y.n (fun i=>(cI .i64) (y.g i)) true)]) [false,false]:=by unfold Z1 at h;refine A2 hS Tryz.func56 ?_;obtain⟨y1,e1,h⟩:=B9 h;refine B7 hS [0,1] trivial (CJ hS hL fp_seq f e1) ?_;obtain rfl:=C4 h;exact A9 hS trivial ⟨[(2,(.vec 5000))],[(5000,(.vec F1 1 y1.n (fun i=>(cI .i64) (y1.g i)) true))]⟩ [5000] (ids:=[(5000,5000)]) ⟨rfl,rfl,rfl⟩
def Ew (N:Nat)(a:A3):Option ((Sl Int)×Int):=
 (T9 N a).bind fun y1=>
 if (y1 != 0) then
  some ((Sl.nil:Sl Int),y1)
 else
  (Q2 N a (fun (u1:Int)=>AY N u1 a)).bind fun y2=>
  (K7 N y2 (fun (u2:Int)=>AY N u2 a)).bind fun L1=>
  (Z1 N L1).bind fun y3=>
  some (y3,0)
theorem OJ {N:Nat}{a:A3}{y:(Sl Int)×Int}(h:Ew N a=some y) :FunO S Hz [.p (.agg (D9 a))] [] (.tup [.p (vSl 1 (cI .i64) y.1),pN y.2]) ([]) []:=by
 unfold Ew at h;refine A2 hS Tryz.func17 ?_;refine kC hS h (BO hS hL) (fun y1 h=>?_);refine kI hS h ?_ ?_<;>intro h
 ·obtain rfl:=C4 h;exact A9 hS trivial ⟨[(3,pN y1),(2,.p (vSl 1 (cI .i64) (Sl.nil:Sl Int)))],[]⟩ [] (ids:=[]) ⟨rfl,rfl,rfl⟩
 ·refine I7 hS trivial 11 2000 [pI .i64 a.Langs,vSl 1 (cI .u64) a.Has] ?_;refine kC hS h (Bi hS hL (fun e=>FV hS hL e)) (fun y2 h=>?_);obtain⟨L1,e3,h⟩:=B9 h;obtain⟨y3,e4,h⟩:=B9 h;refine B7 hS [13000,13001] trivial (GO hS hL ⟨_,Tryz.func98,by decide +kernel,by decide +kernel⟩ (Z0 hS hL (fun e=>FV hS hL e) e3) e4) ?_;obtain rfl:=C4 h;exact A9 hS trivial ⟨[(3,pN 0),(2,.p (vSl 1 (cI .i64) y3))],[]⟩ [] (ids:=[]) ⟨rfl,rfl,rfl⟩
def P1 (N:Nat)(a:A7):Option ((Sl Int)×Int):=
 (Am N a.Tree).bind fun y1=>
 if (y1.2 != 0) then
  some ((Sl.nil:Sl Int),y1.2)
 else
  if (decide (32<(y1.1.n:Int))) then
   some ((Sl.nil:Sl Int),12)
  else
   some (y1.1,0)
theorem HT {N:Nat}{a:A7}{y:(Sl Int)×Int}(h:P1 N a=some y) :FunO S HD [.p (.agg (A8 a))] [] (.tup [.vec 0,pN y.2]) ([.vec F1 1 y.1.n (fun i=>cI .i64 (y.1.g i)) true]) []:=by
 unfold P1 at h;refine A2 hS Tryz.func71 ?_;refine kC hS h (Ju hS hL) (fun y1 h=>?_);refine kI hS h ?_ ?_<;>intro h
 ·obtain rfl:=C4 h;exact A9 hS trivial ⟨[(3,pN y1.2),(2,.vec 3700)],[(3700,.vec F1 1 (Sl.nil:Sl Int).n (fun i=>cI .i64 ((Sl.nil:Sl Int).g i)) true)]⟩ [3700] (ids:=[]) ⟨rfl,rfl,rfl⟩
 ·refine kI hS h ?_ ?_<;>intro h
  ·obtain rfl:=C4 h;exact A9 hS trivial ⟨[(3,pN 12),(2,.vec 3700)],[(3700,.vec F1 1 (Sl.nil:Sl Int).n (fun i=>cI .i64 ((Sl.nil:Sl Int).g i)) true)]⟩ [3700] (ids:=[]) ⟨rfl,rfl,rfl⟩
  ·obtain rfl:=C4 h;exact A9 hS trivial ⟨[(3,pN 0),(2,.vec 10000)],[(10000,.vec F1 1 y1.1.n (fun i=>cI .i64 (y1.1.g i)) true)]⟩ [10000] (ids:=[(10000,10000)]) ⟨rfl,rfl,rfl⟩
def GP (N:Nat)(a:A7):Option (A3×Int):=
 (J0 N a).bind fun y1=>
 if (y1 != 0) then
  some ((⟨0,(Sl.nil:Sl Int)⟩:A3),y1)
 else
  (P1 N a).bind fun y2=>
  if (y2.2 != 0) then
   some ((⟨0,(Sl.nil:Sl Int)⟩:A3),y2.2)
  else
   if ((0:Int)<=(a.Laws.n:Int)/\(a.Laws.n:Int)<=(a.Laws.n:Int)/\(a.Laws.n:Int)*8<=140737488355328/\(a.Laws.n:Int)<=140737488355328)then
    P4 N (fun b (x3:Sl Int) (x4:Int)=>
     if (decide (x4<(y2.1.n:Int))) then
      if (((0:Int)<=x4/\x4<(y2.1.n:Int))/\x4.toNat<y2.1.n)then
       (J8 N a (y2.1.g x4.toNat)).bind fun y5=>
       if (y5.2 != 0) then
        some ((⟨0,(Sl.nil:Sl Int)⟩:A3),y5.2)
       else
        P4 N (fun c (x7:Sl Int) (x8:Int)=>
         if (decide (x8<(y5.1.n:Int))) then
          if (((0:Int)<=x8/\x8<(y5.1.n:Int))/\x8.toNat<y5.1.n)then
           if ((((((0:Int)<=(y5.1.g x8.toNat)/\(y5.1.g x8.toNat)<(x7.n:Int))/\(y5.1.g x8.toNat).toNat<x7.n)/\(0:Int)<=x4)/\((0:Int)<=(y5.1.g x8.toNat)/\(y5.1.g x8.toNat)<(x7.n:Int)))/\(y5.1.g x8.toNat).toNat<x7.n)then
            c (x7.upd (y5.1.g x8.toNat).toNat (C9 .or .u64 (x7.g (y5.1.g x8.toNat).toNat) (shI .shl .u64 1 x4))) (wrap .i64 (x8+1))
           else none
          else none
         else
          b x7 (wrap .i64 (x4+1))
         ) x3 0
      else none
     else
      some ((⟨(y2.1.n:Int),x3⟩:A3),0)
     ) (Sl.rep (a.Laws.n:Int).toNat 0:Sl Int) 0
   else none
theorem Tt {N:Nat}{a:A7}{y:A3×Int}(h:GP N a=some y) :FunO S KM [.p (.agg (A8 a))] [] (.tup [.p (.agg (D9 y.1)),pN y.2]) ([]) []:=by
 unfold GP at h;refine A2 hS Tryz.func29 ?_;refine I7 hS trivial 2 2000 (A8 a) ?_;obtain⟨y1,e1,h⟩:=B9 h;refine B7 hS [] (by decide:(3:Nat)<=3) (BM hS hL e1) ?_;refine kI hS h ?_ ?_<;>intro h
 ·obtain rfl:=C4 h;exact A9 hS trivial ⟨[(3,pN y1),(2,.reg 3000 0)],[(3000,.cells [pN 0,.p (vSl 1 (cI .u64) (Sl.nil:Sl Int))])]⟩ [] (ids:=[(3000,3000)]) ⟨rfl,rfl,rfl⟩
 ·obtain⟨y2,e2,h⟩:=B9 h;refine B7 hS [] (by decide:(3:Nat)<=3) (HT hS hL e2) ?_;refine kI hS h ?_ ?_<;>intro h
  ·obtain rfl:=C4 h;exact A9 hS trivial ⟨[(3,pN y2.2),(2,.reg 3000 0)],[(3000,.cells [pN 0,.p (vSl 1 (cI .u64) (Sl.nil:Sl Int))])]⟩ [] (ids:=[(3000,3000)]) ⟨rfl,rfl,rfl⟩
  ·obtain⟨c3,h⟩:=F4 h;refine I4 hS c3 h (fun x3 x4=>⟨[(38,pN x4),(37,pN (y2.1.n:Int)),(36,.vec 23000),(7,.reg 8000 0),(2,.reg 3000 0),(1,.p (.ptr (A8 a)))],[(35000,.vec AX 1 x3.n (fun i=>cI .u64 (x3.g i)) false),(23000,.vec F1 1 y2.1.n (fun i=>cI .i64 (y2.1.g i)) true),(8000,.cells [pN (y2.1.n:Int),.vec 35000]),(3000,.cells [pN 0,.p F9])]⟩) (ids:=[(3000,3000),(8000,8000),(23000,23000),(35000,35000)]) (fun _ _ _ _ _ b x3 x4 d h=>?_);refine kI hS h ?_ ?_<;>intro h
   ·obtain⟨c29,h⟩:=F4 h;obtain⟨y5,e5,h⟩:=B9 h;refine B7 hS [] (And.intro (And.intro c29.1 c29.2) (by decide:(3:Nat)<=3)) (HR hS hL e5) ?_;refine kI hS h ?_ ?_<;>intro h
    ·obtain rfl:=C4 h;exact A9 hS trivial ⟨[(3,pN y5.2),(2,.reg 3000 0)],[(3000,.cells [pN 0,.p (vSl 1 (cI .u64) (Sl.nil:Sl Int))])]⟩ [] (ids:=[(3000,3000)]) ⟨rfl,rfl,rfl⟩
    ·refine I4 hS trivial h (fun x7 x8=>⟨[(55,pN x8),(54,pN (y5.1.n:Int)),(53,.vec 47000),(38,pN x4),(37,pN (y2.1.n:Int)),(36,.vec 23000),(8,pN x4),(7,.reg 8000 0),(2,.reg 3000 0),(1,.p (.ptr (A8 a)))],[(47000,.vec F1 1 y5.1.n (fun i=>cI .i64 (y5.1.g i)) true),(35000,.vec AX 1 x7.n (fun i=>cI .u64 (x7.g i)) false),(23000,.vec F1 1 y2.1.n (fun i=>cI .i64 (y2.1.g i)) true),(8000,.cells [pN (y2.1.n:Int),.vec 35000]),(3000,.cells [pN 0,.p F9])]⟩) (ids:=[(3000,3000),(8000,8000),(23000,23000),(35000,35000),(47000,47000)]) (fun _ _ _ _ _ f x7 x8 j h=>?_);refine kI hS h ?_ ?_<;>intro h
     ·obtain⟨c38,h⟩:=F4 h;refine Ih hS c38 ?_;obtain⟨c39,h⟩:=F4 h;refine P7 (And.intro (And.intro (And.intro (And.intro c39.1.1.1.1 c39.1.1.1.2) c39.1.1.2) c39.1.2) (And.intro (rfl:(1:Nat)=1) (And.intro c39.2 (by decide:(1:Nat)<=1)))) ?_;exact j _ [(3000,3000),(8000,8000),(23000,23000),(35000,35000),(47000,47000)] _ (x7.upd (y5.1.g x8.toNat).toNat (C9 .or .u64 (x7.g (y5.1.g x8.toNat).toNat) (shI .shl .u64 1 x4))) (wrap .i64 (x8+1)) trivial h (hle:=klR [(7,.fn x7.n (x7.upd (y5.1.g x8.toNat).toNat (C9 .or .u64 (x7.g (y5.1.g x8.toNat).toNat) (shI .shl .u64 1 x4))).n (fun l=>if l=(y5.1.g x8.toNat).toNat then splice ((fun i=>cI .u64 (x7.g i)) l) 0 [pI .u64 (C9 .or .u64 (x7.g (y5.1.g x8.toNat).toNat) (shI .shl .u64 1 x4))]else (fun i=>cI .u64 (x7.g i)) l) (fun i=>cI .u64 ((x7.upd (y5.1.g x8.toNat).toNat (C9 .or .u64 (x7.g (y5.1.g x8.toNat).toNat) (shI .shl .u64 1 x4))).g i)))] (al1 ⟨rfl,AM0 (c:=cI .u64) (v:=x7) (x:=C9 .or .u64 (x7.g (y5.1.g x8.toNat).toNat) (shI .shl .u64 1 x4)) same (fun _=>by first|rfl|(dsimp only;split<;>rfl))⟩ al0))
     ·exact d _ [(3000,3000),(8000,8000),(23000,23000),(35000,35000)] _ x7 (wrap .i64 (x4+1)) trivial h
   ·obtain rfl:=C4 h;exact A9 hS trivial ⟨[(3,pN 0),(2,.reg 3000 0)],[(3000,.cells [pN (y2.1.n:Int),.p (vSl 1 (cI .u64) x3)])]⟩ [] (ids:=[(3000,3000)]) ⟨rfl,rfl,rfl⟩
def K3 (N:Nat)(i:A7)(c:Sl (Sl Sound)):Option (A3×Int):=
 (J0 N i).bind fun y1=>
 if (y1 != 0) then
  some ((⟨0,(Sl.nil:Sl Int)⟩:A3),y1)
 else
  if (decide (256<(c.n:Int))) then
   some ((⟨0,(Sl.nil:Sl Int)⟩:A3),12)
  else
   V9 N (fun j (x1:Int)=>
    if (decide (x1<(c.n:Int))) then
     if ((0:Int)<=x1/\x1<(c.n:Int))then
      (T3 N (c.g x1.toNat)).bind fun y4=>
      if (y4 != 0) then
       some ((⟨0,(Sl.nil:Sl Int)⟩:A3),y4)
      else
       j (wrap .i64 (x1+1))
     else none
    else
     (P1 N i).bind fun y5=>
     if (y5.2 != 0) then
      some ((⟨0,(Sl.nil:Sl Int)⟩:A3),y5.2)
     else
      P4 N (fun l (x2:Sl (Sl Law)) (x3:Int)=>
       if (decide (x3<(y5.1.n:Int))) then
        if (((0:Int)<=x3/\x3<(y5.1.n:Int))/\x3.toNat<y5.1.n)then
         (K0 N i (y5.1.g x3.toNat)).bind fun y8=>
         if (y8.2 != 0) then
          some ((⟨0,(Sl.nil:Sl Int)⟩:A3),y8.2)
         else
          if ((x2.n+(Sl.of [y8.1]:Sl (Sl Law)).n)*24<=140737488355328/\x2.n+(Sl.of [y8.1]:Sl (Sl Law)).n<=140737488355328)then
           l (x2.push y8.1) (wrap .i64 (x3+1))
          else none
        else none
       else
        P4 N (fun d (x7:Sl Int) (x8:Int)=>
         if (decide (x8<(c.n:Int))) then
          if ((0:Int)<=x8/\x8<(c.n:Int))then
           Aa6 N (fun f (m:List (Str×Int)) (a:Sl Int) (b:Int)=>
            if (decide (b<(y5.1.n:Int))) then
             if (((0:Int)<=b/\b<(x2.n:Int))/\b.toNat<x2.n)then
              (E8 N (x2.g b.toNat) (c.g x8.toNat)).bind fun o=>
              (CA N o.1 o.2).bind fun q=>
              An2 (BS eqS q m) (
               if ((a.n+(Sl.of [0]:Sl Int).n)*8<=140737488355328/\a.n+(Sl.of [0]:Sl Int).n<=140737488355328)then
                if ((((((0:Int)<=(a.n:Int)/\(a.n:Int)<((a.push 0).n:Int))/\(a.n:Int).toNat<(a.push 0).n)/\(0:Int)<=b)/\((0:Int)<=(a.n:Int)/\(a.n:Int)<((a.push 0).n:Int)))/\(a.n:Int).toNat<(a.push 0).n)then
                 f (NS eqS q (a.n:Int) m) ((a.push 0).upd (a.n:Int).toNat (C9 .or .u64 ((a.push 0).g (a.n:Int).toNat) (shI .shl .u64 1 b))) (wrap .i64 (b+1))
                else none
               else none
               ) fun v9=>
               if ((((((0:Int)<=v9/\v9<(a.n:Int))/\v9.toNat<a.n)/\(0:Int)<=b)/\((0:Int)<=v9/\v9<(a.n:Int)))/\v9.toNat<a.n)then
                f m (a.upd v9.toNat (C9 .or .u64 (a.g v9.toNat) (shI .shl .u64 1 b))) (wrap .i64 (b+1))
               else none
             else none
            else
             if (decide (1<(a.n:Int))) then
              if ((x7.n+a.n)*8<=140737488355328/\x7.n+a.n<=140737488355328)then
               if (decide (64<((x7.app a).n:Int))) then
                some ((⟨0,(Sl.nil:Sl Int)⟩:A3),12)
               else
                d (x7.app a) (wrap .i64 (x8+1))
              else none
             else
              if (decide (64<(x7.n:Int))) then
               some ((⟨0,(Sl.nil:Sl Int)⟩:A3),12)
              else
               d x7 (wrap .i64 (x8+1))
            ) [] (Sl.nil:Sl Int) 0
          else none
         else
          some ((⟨(y5.1.n:Int),x7⟩:A3),0)
         ) (Sl.nil:Sl Int) 0
       ) (Sl.nil:Sl (Sl Law)) 0
    ) 0
theorem Jv {N:Nat}{o:A7}{f:Sl (Sl Sound)}{y:A3×Int}(h:K3 N o f=some y) :FunO S IW [.p (.agg (A8 o)),.p (vSl 1 (cL 2 A0) f)] [] (.tup [.p (.agg (D9 y.1)),pN y.2]) ([]) []:=by
 unfold K3 at h;refine A2 hS Tryz.func31 ?_;refine I7 hS trivial 4 3000 (A8 o) ?_;obtain⟨y1,e1,h⟩:=B9 h;refine B7 hS [] (by decide:(3:Nat)<=3) (BM hS hL e1) ?_;refine kI hS h ?_ ?_<;>intro h
 ·obtain rfl:=C4 h;exact A9 hS trivial ⟨[(5,pN y1),(4,.reg 5000 0)],[(5000,.cells [pN 0,.p (vSl 1 (cI .u64) (Sl.nil:Sl Int))])]⟩ [] (ids:=[(5000,5000)]) ⟨rfl,rfl,rfl⟩
 ·refine kI hS h ?_ ?_<;>intro h
  ·obtain rfl:=C4 h;exact A9 hS trivial ⟨[(5,pN 12),(4,.reg 5000 0)],[(5000,.cells [pN 0,.p (vSl 1 (cI .u64) (Sl.nil:Sl Int))])]⟩ [] (ids:=[(5000,5000)]) ⟨rfl,rfl,rfl⟩
  ·refine N7 hS trivial h (fun x1=>⟨[(38,pN x1),(37,pN (f.n:Int)),(36,.p (vSl 1 (cL 2 A0) f)),(4,.reg 5000 0),(2,.p (.ptr (A8 o))),(1,.p (vSl 1 (cL 2 A0) f))],[(5000,.cells [pN 0,.p F9])]⟩) (ids:=[(5000,5000)]) (fun _ _ _ _ _ s x1 t h=>?_);refine kI hS h ?_ ?_<;>intro h
   ·obtain⟨c10,h⟩:=F4 h;obtain⟨y4,e4,h⟩:=B9 h;refine B7 hS [] c10 (Ee hS hL e4) ?_;refine kI hS h ?_ ?_<;>intro h
    ·obtain rfl:=C4 h;exact A9 hS trivial ⟨[(5,pN y4),(4,.reg 5000 0)],[(5000,.cells [pN 0,.p (vSl 1 (cI .u64) (Sl.nil:Sl Int))])]⟩ [] (ids:=[(5000,5000)]) ⟨rfl,rfl,rfl⟩
    ·exact t _ [(5000,5000)] _ (wrap .i64 (x1+1)) trivial h
   ·obtain⟨y5,e5,h⟩:=B9 h;refine B7 hS [] (by decide:(3:Nat)<=3) (HT hS hL e5) ?_;refine kI hS h ?_ ?_<;>intro h
    ·obtain rfl:=C4 h;exact A9 hS trivial ⟨[(5,pN y5.2),(4,.reg 5000 0)],[(5000,.cells [pN 0,.p (vSl 1 (cI .u64) (Sl.nil:Sl Int))])]⟩ [] (ids:=[(5000,5000)]) ⟨rfl,rfl,rfl⟩
    ·refine I4 hS trivial h (fun x2 x3=>⟨[(60,pN x3),(59,pN (y5.1.n:Int)),(58,.vec 52000),(12,.vec 13500),(10,.vec 52000),(4,.reg 5000 0),(2,.p (.ptr (A8 o))),(1,.p (vSl 1 (cL 2 A0) f))],[(52000,.vec F1 1 y5.1.n (fun i=>cI .i64 (y5.1.g i)) true),(13500,.vec Ec 1 x2.n (fun i=>cL 18 B4 (x2.g i)) false),(5000,.cells [pN 0,.p F9])]⟩) (ids:=[(5000,5000),(52000,52000)]) (fun _ _ _ _ _ u x2 x3 a0 h=>?_);refine kI hS h ?_ ?_<;>intro h
     ·obtain⟨c20,h⟩:=F4 h;obtain⟨y8,e8,h⟩:=B9 h;refine B7 hS [] (And.intro (And.intro c20.1 c20.2) (by decide:(3:Nat)<=3)) (OH hS hL e8) ?_;refine kI hS h ?_ ?_<;>intro h
      ·obtain rfl:=C4 h;exact A9 hS trivial ⟨[(5,pN y8.2),(4,.reg 5000 0)],[(5000,.cells [pN 0,.p (vSl 1 (cI .u64) (Sl.nil:Sl Int))])]⟩ [] (ids:=[(5000,5000)]) ⟨rfl,rfl,rfl⟩
      ·obtain⟨c22,h⟩:=F4 h;exact a0 _ [(5000,5000),(13500,78000),(52000,52000)] _ (x2.push y8.1) (wrap .i64 (x3+1)) (And.intro (rfl:true=true) c22) h (hle:=klR [(5,.fn (x2.n+1) (x2.push y8.1).n (BW x2.n (fun i=>cL 18 B4 (x2.g i)) (F0 [F9] [(0,cL 18 B4 y8.1)])) (fun i=>cL 18 B4 ((x2.push y8.1).g i)))] (al1 ⟨rfl,Ms (c:=cL 18 B4) (v:=x2) (x:=y8.1) (z:=[F9]) same rfl rfl⟩ al0))
     ·refine I4 hS trivial h (fun x7 x8=>⟨[(84,pN x8),(83,pN (f.n:Int)),(82,.p (vSl 1 (cL 2 A0) f)),(17,.reg 18000 0),(12,.vec 13500),(10,.vec 52000),(4,.reg 5000 0)],[(52000,.vec F1 1 y5.1.n (fun i=>cI .i64 (y5.1.g i)) true),(18500,.vec AX 1 x7.n (fun i=>cI .u64 (x7.g i)) false),(18000,.cells [pN (y5.1.n:Int),.vec 18500]),(13500,.vec Ec 1 x2.n (fun i=>cL 18 B4 (x2.g i)) false),(5000,.cells [pN 0,.p F9])]⟩) (ids:=[(5000,5000),(13500,13500),(18000,18000),(52000,52000)]) (fun _ _ _ _ _ a1 x7 x8 q h=>?_);refine kI hS h ?_ ?_<;>intro h
      ·obtain⟨c76,h⟩:=F4 h;refine Pq hS c76 h (fun j a d=>⟨[(91,pN d),(90,pN (y5.1.n:Int)),(84,pN x8),(83,pN (f.n:Int)),(82,.p (vSl 1 (cL 2 A0) f)),(21,.vec 22500),(20,.mref 89000),(19,.p (vSl 2 A0 (f.g x8.toNat))),(17,.reg 18000 0),(12,.vec 13500),(10,.vec 52000),(4,.reg 5000 0)],[(89000,.map (Li PV.str (pI .i64) j)),(52000,.vec F1 1 y5.1.n (fun i=>cI .i64 (y5.1.g i)) true),(22500,.vec AX 1 a.n (fun i=>cI .u64 (a.g i)) false),(18500,.vec AX 1 x7.n (fun i=>cI .u64 (x7.g i)) false),(18000,.cells [pN (y5.1.n:Int),.vec 18500]),(13500,.vec Ec 1 x2.n (fun i=>cL 18 B4 (x2.g i)) false),(5000,.cells [pN 0,.p F9])]⟩) (ids:=[(5000,5000),(13500,13500),(18000,18000),(18500,18500),(52000,52000),(89000,89000)]) (fun _ _ _ _ _ a2 j a d r h=>?_);refine kI hS h ?_ ?_<;>intro h
       ·obtain⟨c91,h⟩:=F4 h;obtain⟨a3,e25,h⟩:=B9 h;refine B7 hS [] c91 (GK hS hL e25) ?_;refine kC hS h (Ti hS hL) (fun m h=>?_);rcases o9:BS eqS m j with _|v9
        ·replace h:=optN o9 h;refine Ha hS trivial (kt:=Cu) (e:=F1) (key:=PV.str m) (es:=Li PV.str (pI .i64) j) (x:=pI .i64 0) (b:=false) (fd:=none) ((Ds (kP:=PV.str) (vP:=pI .i64) (eq:=eqS) (fun _ _=>by kernel_rfl) m j).trans (by rw[o9];rfl)) trivial ?_;refine E4 hS trivial (b:=true) (fun c92=>?_) (fun c92=>?_)
         ·refine LF hS trivial (kt:=Cu) (key:=PV.str m) (y:=pI .i64 (a.n:Int)) (es:=Li PV.str (pI .i64) j) (IR (kP:=PV.str) (vP:=pI .i64) (eq:=eqS) (fun _ _=>by kernel_rfl) m (a.n:Int) j) trivial ?_;obtain⟨c93,h⟩:=F4 h;refine N2 hS (And.intro (rfl:true=true) c93) 21 ⟨[(118,.vec 119000),(91,pN d),(90,pN (y5.1.n:Int)),(84,pN x8),(83,pN (f.n:Int)),(82,.p (vSl 1 (cL 2 A0) f)),(24,pN (a.n:Int)),(22,pN d),(20,.mref 89000),(19,.p (vSl 2 A0 (f.g x8.toNat))),(17,.reg 18000 0),(12,.vec 13500),(10,.vec 52000),(4,.reg 5000 0)],[(119000,.vec AX 1 (a.push 0).n (fun i=>cI .u64 ((a.push 0).g i)) false),(89000,.map (Li PV.str (pI .i64) (NS eqS m (a.n:Int) j))),(52000,.vec F1 1 y5.1.n (fun i=>cI .i64 (y5.1.g i)) true),(18500,.vec AX 1 x7.n (fun i=>cI .u64 (x7.g i)) false),(18000,.cells [pN (y5.1.n:Int),.vec 18500]),(13500,.vec Ec 1 x2.n (fun i=>cL 18 B4 (x2.g i)) false),(5000,.cells [pN 0,.p F9])]⟩ (ids:=[(5000,5000),(13500,13500),(18000,18000),(18500,18500),(52000,52000),(89000,89000),(119000,119000)]) ?_ (hle:=klR [(8,.fn (a.n+1) (a.push 0).n (BW a.n (fun i=>cI .u64 (a.g i)) (F0 [pI .u64 0] [(0,cI .u64 0)])) (fun i=>cI .u64 ((a.push 0).g i)))] (al1 ⟨rfl,Ms (c:=cI .u64) (v:=a) (x:=0) (z:=[(pI .u64 0)]) same rfl rfl⟩ al0));refine Ih hS trivial ?_;obtain⟨c94,h⟩:=F4 h;refine P7 (And.intro (And.intro (And.intro (And.intro c94.1.1.1.1 c94.1.1.1.2) c94.1.1.2) c94.1.2) (And.intro (rfl:(1:Nat)=1) (And.intro c94.2 (by decide:(1:Nat)<=1)))) ?_;exact r _ [(5000,5000),(13500,13500),(18000,18000),(18500,18500),(22500,119000),(52000,52000),(89000,89000)] _ (NS eqS m (a.n:Int) j) ((a.push 0).upd (a.n:Int).toNat (C9 .or .u64 ((a.push 0).g (a.n:Int).toNat) (shI .shl .u64 1 d))) (wrap .i64 (d+1)) trivial h (hle:=klR [(8,.fn (a.push 0).n ((a.push 0).upd (a.n:Int).toNat (C9 .or .u64 ((a.push 0).g (a.n:Int).toNat) (shI .shl .u64 1 d))).n (fun l=>if l=(a.n:Int).toNat then splice ((fun i=>cI .u64 ((a.push 0).g i)) l) 0 [pI .u64 (C9 .or .u64 ((a.push 0).g (a.n:Int).toNat) (shI .shl .u64 1 d))]else (fun i=>cI .u64 ((a.push 0).g i)) l) (fun i=>cI .u64 (((a.push 0).upd (a.n:Int).toNat (C9 .or .u64 ((a.push 0).g (a.n:Int).toNat) (shI .shl .u64 1 d))).g i)))] (al1 ⟨rfl,AM0 (c:=cI .u64) (v:=a.push 0) (x:=C9 .or .u64 ((a.push 0).g (a.n:Int).toNat) (shI .shl .u64 1 d)) same (fun _=>by first|rfl|(dsimp only;split<;>rfl))⟩ al0))
         ·exact Bool.noConfusion ((rfl:true=true).symm.trans c92)
        ·replace h:=optS o9 h;refine Ha hS trivial (kt:=Cu) (e:=F1) (key:=PV.str m) (es:=Li PV.str (pI .i64) j) (x:=pI .i64 v9) (b:=true) (fd:=some (pI .i64 v9)) ((Ds (kP:=PV.str) (vP:=pI .i64) (eq:=eqS) (fun _ _=>by kernel_rfl) m j).trans (by rw[o9];rfl)) trivial ?_;refine E4 hS trivial (b:=false) (fun c95=>?_) (fun c95=>?_)
         ·exact Bool.noConfusion ((rfl:false=false).symm.trans c95)
         ·refine Ih hS trivial ?_;obtain⟨c96,h⟩:=F4 h;refine P7 (And.intro (And.intro (And.intro (And.intro c96.1.1.1.1 c96.1.1.1.2) c96.1.1.2) c96.1.2) (And.intro (rfl:(1:Nat)=1) (And.intro c96.2 (by decide:(1:Nat)<=1)))) ?_;exact r _ [(5000,5000),(13500,13500),(18000,18000),(18500,18500),(22500,22500),(52000,52000),(89000,89000)] _ j (a.upd v9.toNat (C9 .or .u64 (a.g v9.toNat) (shI .shl .u64 1 d))) (wrap .i64 (d+1)) trivial h (hle:=klR [(8,.fn a.n (a.upd v9.toNat (C9 .or .u64 (a.g v9.toNat) (shI .shl .u64 1 d))).n (fun l=>if l=v9.toNat then splice ((fun i=>cI .u64 (a.g i)) l) 0 [pI .u64 (C9 .or .u64 (a.g v9.toNat) (shI .shl .u64 1 d))]else (fun i=>cI .u64 (a.g i)) l) (fun i=>cI .u64 ((a.upd v9.toNat (C9 .or .u64 (a.g v9.toNat) (shI .shl .u64 1 d))).g i)))] (al1 ⟨rfl,AM0 (c:=cI .u64) (v:=a) (x:=C9 .or .u64 (a.g v9.toNat) (shI .shl .u64 1 d)) same (fun _=>by first|rfl|(dsimp only;split<;>rfl))⟩ al0))
       ·refine kI hS h ?_ ?_<;>intro h
        ·obtain⟨c98,h⟩:=F4 h;refine E4 hS c98 (b:=decide (64<((x7.app a).n:Int))) (fun c99=>?_) (fun c99=>?_)
         ·replace h:=itT c99 h;obtain rfl:=C4 h;exact A9 hS trivial ⟨[(5,pN 12),(4,.reg 5000 0)],[(5000,.cells [pN 0,.p (vSl 1 (cI .u64) (Sl.nil:Sl Int))])]⟩ [] (ids:=[(5000,5000)]) ⟨rfl,rfl,rfl⟩
         ·replace h:=itF c99 h;exact q _ [(5000,5000),(13500,13500),(18000,18000),(18500,135000),(52000,52000)] _ (x7.app a) (wrap .i64 (x8+1)) trivial h (hle:=klR [(4,.fn (x7.n+a.n) (x7.app a).n (BW x7.n (fun i=>cI .u64 (x7.g i)) (fun i=>cI .u64 (a.g i))) (fun i=>cI .u64 ((x7.app a).g i)))] (al1 ⟨rfl,AR5 (c:=cI .u64) (v:=x7) (w:=a) same rfl same rfl⟩ al0))
        ·refine kI hS h ?_ ?_<;>intro h
         ·obtain rfl:=C4 h;exact A9 hS trivial ⟨[(5,pN 12),(4,.reg 5000 0)],[(5000,.cells [pN 0,.p (vSl 1 (cI .u64) (Sl.nil:Sl Int))])]⟩ [] (ids:=[(5000,5000)]) ⟨rfl,rfl,rfl⟩
         ·exact q _ [(5000,5000),(13500,13500),(18000,18000),(18500,18500),(52000,52000)] _ x7 (wrap .i64 (x8+1)) trivial h
      ·obtain rfl:=C4 h;exact A9 hS trivial ⟨[(5,pN 0),(4,.reg 5000 0)],[(5000,.cells [pN (y5.1.n:Int),.p (vSl 1 (cI .u64) x7)])]⟩ [] (ids:=[(5000,5000)]) ⟨rfl,rfl,rfl⟩
def Iq (N:Nat)  : Option A3:=
 some (⟨4,(Sl.of [3,6,15,8]:Sl Int)⟩:A3)
theorem VL {N:Nat}    {y:A3}(h:Iq N  = some y) :FunO S MC [] [] (.p (.agg (D9 y))) ([]) []:=by unfold Iq at h;refine A2 hS Tryz.func54 ?_;obtain rfl:=C4 h;exact A9 hS (rfl:true=true) ⟨[(0,.reg 1000 0)],[(1000,.cells [pN 4,.p (vSl 1 (cI .u64) (Sl.of [3,6,15,8]:Sl Int))])]⟩ [] (ids:=[(1000,1000)]) ⟨rfl,rfl,rfl⟩ (hle:=klR [(1,.fn 4 (Sl.of [3,6,15,8]:Sl Int).n (F0 [pI .u64 0] [(0,cI .u64 3),(1,cI .u64 6),(2,cI .u64 15),(3,cI .u64 8)]) (fun i=>cI .u64 ((Sl.of [3,6,15,8]:Sl Int).g i)))] (al1 ⟨rfl,(fun i a=>match i,a with|0,_=>rfl|1,_=>rfl|2,_=>rfl|3,_=>rfl|_+4,a=>absurd a (by omega))⟩ al0))
def Df (N:Nat)  : Option A7:=
 some (⟨(Sl.of [(⟨-1,[114]⟩:H9),(⟨0,[120]⟩:H9),(⟨1,[97]⟩:H9),(⟨1,[98]⟩:H9),(⟨0,[99]⟩:H9)]:Sl H9),(Sl.of [(⟨[70],Pat.mk 0 (⟨0,0⟩:Sound) false 0 0 (Sl.nil:Sl Pat).n (Sl.nil:Sl Pat).g,Pat.mk 6 (⟨0,0⟩:Sound) false 0 0 (Sl.nil:Sl Pat).n (Sl.nil:Sl Pat).g,(Sl.of [(⟨4,0⟩:Sound)]:Sl Sound),(Sl.nil:Sl Bs),1⟩:Law),(⟨[86],Pat.mk 1 (⟨4,0⟩:Sound) false 0 0 (Sl.nil:Sl Pat).n (Sl.nil:Sl Pat).g,Pat.mk 1 (⟨4,0⟩:Sound) false 0 0 (Sl.nil:Sl Pat).n (Sl.nil:Sl Pat).g,(Sl.of [(⟨2,0⟩:Sound)]:Sl Sound),(Sl.of [(⟨0,0,(⟨1,0⟩:Sound),0,0⟩:Bs)]:Sl Bs),1⟩:Law)]:Sl Law),(Sl.of [(Sl.nil:Sl Int),(Sl.of [0]:Sl Int),(Sl.nil:Sl Int),(Sl.of [1]:Sl Int),(Sl.nil:Sl Int)]:Sl (Sl Int))⟩:A7)
theorem Jw {N:Nat}    {y:A7}(h:Df N  = some y) :FunO S IY [] [] (.p (.agg (A8 y))) ([]) []:=by unfold Df at h;refine A2 hS Tryz.func49 ?_;refine N2 hS (rfl:true=true) 10 ⟨[(9,.p (vSl 2 A0 (Sl.of [(⟨4,0⟩:Sound)]:Sl Sound))),(7,.p (.agg [pI .i64 6,pI .u32 0,pI .u32 0,.v (.bool false),pI .i64 0,pI .i64 0,F9])),(1,.reg 2000 0),(0,.reg 1000 0)],[(2000,.cells [pN 1,pU 4,pU 0,.p (.v (.bool false)),pN 0,pN 0,.p F9]),(1000,.cells [.p F9,.p F9,.p F9])]⟩ (ids:=[(1000,1000),(2000,2000)]) ?_ (hle:=klR [(0,.fn 1 (Sl.of [(⟨4,0⟩:Sound)]:Sl Sound).n (F0 [pI .u32 0,pI .u32 0] [(0,A0 (⟨4,0⟩:Sound))]) (fun i=>A0 ((Sl.of [(⟨4,0⟩:Sound)]:Sl Sound).g i)))] (al1 ⟨rfl,(fun i a=>match i,a with|0,_=>rfl|_+1,a=>absurd a (by omega))⟩ al0));refine N2 hS trivial 11 ⟨[(2,.reg 3000 0),(1,.reg 2000 0),(0,.reg 1000 0)],[(3000,.cells [.p (.str [70]),pN 0,pU 0,pU 0,.p (.v (.bool false)),pN 0,pN 0,.p F9,pN 6,pU 0,pU 0,.p (.v (.bool false)),pN 0,pN 0,.p F9,.p (vSl 2 A0 (Sl.of [(⟨4,0⟩:Sound)]:Sl Sound)),.p F9,pN 1]),(2000,.cells [pN 1,pU 4,pU 0,pB false,pN 0,pN 0,.p (vSl 7 B5 (Sl.nil:Sl Pat))]),(1000,.cells [.p F9,.p F9,.p F9])]⟩ (ids:=[(1000,1000),(2000,2000),(3000,3000)]) ?_;refine N2 hS (And.intro (rfl:true=true) (rfl:true=true)) 18 ⟨[(17,.p (vSl 6 Q7 (Sl.of [(⟨0,0,(⟨1,0⟩:Sound),0,0⟩:Bs)]:Sl Bs))),(14,.p (vSl 2 A0 (Sl.of [(⟨2,0⟩:Sound)]:Sl Sound))),(12,.p (.agg [pI .i64 1,pI .u32 4,pI .u32 0,.bb false,pI .i64 0,pI .i64 0,vSl 7 B5 (Sl.nil:Sl Pat)])),(11,.p (.agg [pI .i64 1,pI .u32 4,pI .u32 0,.bb false,pI .i64 0,pI .i64 0,vSl 7 B5 (Sl.nil:Sl Pat)])),(2,.reg 3000 0),(0,.reg 1000 0)],[(3000,.cells [.p (.str [70]),pN 0,pU 0,pU 0,.p (.v (.bool false)),pN 0,pN 0,.p F9,pN 6,pU 0,pU 0,.p (.v (.bool false)),pN 0,pN 0,.p F9,.p (vSl 2 A0 (Sl.of [(⟨4,0⟩:Sound)]:Sl Sound)),.p F9,pN 1]),(1000,.cells [.p F9,.p F9,.p F9])]⟩ (ids:=[(1000,1000),(3000,3000)]) ?_ (hle:=klR [(0,.fn 1 (Sl.of [(⟨0,0,(⟨1,0⟩:Sound),0,0⟩:Bs)]:Sl Bs).n (F0 [pI .i64 0,pI .u32 0,pI .u32 0,pI .u32 0,pI .u32 0,pI .i64 0] [(0,Q7 (⟨0,0,(⟨1,0⟩:Sound),0,0⟩:Bs))]) (fun i=>Q7 ((Sl.of [(⟨0,0,(⟨1,0⟩:Sound),0,0⟩:Bs)]:Sl Bs).g i))),(1,.fn 1 (Sl.of [(⟨2,0⟩:Sound)]:Sl Sound).n (F0 [pI .u32 0,pI .u32 0] [(0,A0 (⟨2,0⟩:Sound))]) (fun i=>A0 ((Sl.of [(⟨2,0⟩:Sound)]:Sl Sound).g i)))] (al1 ⟨rfl,(fun i a=>match i,a with|0,_=>rfl|_+1,a=>absurd a (by omega))⟩ (al1 ⟨rfl,(fun i a=>match i,a with|0,_=>rfl|_+1,a=>absurd a (by omega))⟩ al0)));refine N2 hS (rfl:true=true) 26 ⟨[(25,.vec 25000),(3,.reg 4000 0),(2,.reg 3000 0),(0,.reg 1000 0)],[(25000,.vec Ce 2 (Sl.of [(⟨-1,[114]⟩:H9),(⟨0,[120]⟩:H9),(⟨1,[97]⟩:H9),(⟨1,[98]⟩:H9),(⟨0,[99]⟩:H9)]:Sl H9).n (fun i=>G3 ((Sl.of [(⟨-1,[114]⟩:H9),(⟨0,[120]⟩:H9),(⟨1,[97]⟩:H9),(⟨1,[98]⟩:H9),(⟨0,[99]⟩:H9)]:Sl H9).g i)) false),(4000,.cells [.p (.str [86]),pN 1,pU 4,pU 0,pB false,pN 0,pN 0,.p (vSl 7 B5 (Sl.nil:Sl Pat)),pN 1,pU 4,pU 0,pB false,pN 0,pN 0,.p (vSl 7 B5 (Sl.nil:Sl Pat)),.p (vSl 2 A0 (Sl.of [(⟨2,0⟩:Sound)]:Sl Sound)),.p (vSl 6 Q7 (Sl.of [(⟨0,0,(⟨1,0⟩:Sound),0,0⟩:Bs)]:Sl Bs)),pN 1]),(3000,.cells [.p (.str [70]),pN 0,pU 0,pU 0,pB false,pN 0,pN 0,.p (vSl 7 B5 (Sl.nil:Sl Pat)),pN 6,pU 0,pU 0,pB false,pN 0,pN 0,.p (vSl 7 B5 (Sl.nil:Sl Pat)),.p (vSl 2 A0 (Sl.of [(⟨4,0⟩:Sound)]:Sl Sound)),.p (vSl 6 Q7 (Sl.nil:Sl Bs)),pN 1]),(1000,.cells [.p F9,.p F9,.p F9])]⟩ (ids:=[(1000,1000),(3000,3000),(4000,4000),(25000,25000)]) ?_ (hle:=klR [(0,.fn 5 (Sl.of [(⟨-1,[114]⟩:H9),(⟨0,[120]⟩:H9),(⟨1,[97]⟩:H9),(⟨1,[98]⟩:H9),(⟨0,[99]⟩:H9)]:Sl H9).n (F0 [pI .i64 0,.str []] [(0,G3 (⟨-1,[114]⟩:H9)),(1,G3 (⟨0,[120]⟩:H9)),(2,G3 (⟨1,[97]⟩:H9)),(3,G3 (⟨1,[98]⟩:H9)),(4,G3 (⟨0,[99]⟩:H9))]) (fun i=>G3 ((Sl.of [(⟨-1,[114]⟩:H9),(⟨0,[120]⟩:H9),(⟨1,[97]⟩:H9),(⟨1,[98]⟩:H9),(⟨0,[99]⟩:H9)]:Sl H9).g i)))] (al1 ⟨rfl,(fun i a=>match i,a with|0,_=>rfl|1,_=>rfl|2,_=>rfl|3,_=>rfl|4,_=>rfl|_+5,a=>absurd a (by omega))⟩ al0));refine N2 hS (And.intro (And.intro (rfl:true=true) (rfl:true=true)) (rfl:true=true)) 31 ⟨[(30,.vec 31000),(29,.vec 30000),(28,.vec 29000),(25,.vec 25000),(0,.reg 1000 0)],[(31000,.vec F1 1 (Sl.of [1]:Sl Int).n (fun i=>cI .i64 ((Sl.of [1]:Sl Int).g i)) true),(30000,.vec F1 1 (Sl.of [0]:Sl Int).n (fun i=>cI .i64 ((Sl.of [0]:Sl Int).g i)) true),(29000,.vec Dz 18 (Sl.of [(⟨[70],Pat.mk 0 (⟨0,0⟩:Sound) false 0 0 (Sl.nil:Sl Pat).n (Sl.nil:Sl Pat).g,Pat.mk 6 (⟨0,0⟩:Sound) false 0 0 (Sl.nil:Sl Pat).n (Sl.nil:Sl Pat).g,(Sl.of [(⟨4,0⟩:Sound)]:Sl Sound),(Sl.nil:Sl Bs),1⟩:Law),(⟨[86],Pat.mk 1 (⟨4,0⟩:Sound) false 0 0 (Sl.nil:Sl Pat).n (Sl.nil:Sl Pat).g,Pat.mk 1 (⟨4,0⟩:Sound) false 0 0 (Sl.nil:Sl Pat).n (Sl.nil:Sl Pat).g,(Sl.of [(⟨2,0⟩:Sound)]:Sl Sound),(Sl.of [(⟨0,0,(⟨1,0⟩:Sound),0,0⟩:Bs)]:Sl Bs),1⟩:Law)]:Sl Law).n (fun i=>B4 ((Sl.of [(⟨[70],Pat.mk 0 (⟨0,0⟩:Sound) false 0 0 (Sl.nil:Sl Pat).n (Sl.nil:Sl Pat).g,Pat.mk 6 (⟨0,0⟩:Sound) false 0 0 (Sl.nil:Sl Pat).n (Sl.nil:Sl Pat).g,(Sl.of [(⟨4,0⟩:Sound)]:Sl Sound),(Sl.nil:Sl Bs),1⟩:Law),(⟨[86],Pat.mk 1 (⟨4,0⟩:Sound) false 0 0 (Sl.nil:Sl Pat).n (Sl.nil:Sl Pat).g,Pat.mk 1 (⟨4,0⟩:Sound) false 0 0 (Sl.nil:Sl Pat).n (Sl.nil:Sl Pat).g,(Sl.of [(⟨2,0⟩:Sound)]:Sl Sound),(Sl.of [(⟨0,0,(⟨1,0⟩:Sound),0,0⟩:Bs)]:Sl Bs),1⟩:Law)]:Sl Law).g i)) false),(25000,.vec Ce 2 (Sl.of [(⟨-1,[114]⟩:H9),(⟨0,[120]⟩:H9),(⟨1,[97]⟩:H9),(⟨1,[98]⟩:H9),(⟨0,[99]⟩:H9)]:Sl H9).n (fun i=>G3 ((Sl.of [(⟨-1,[114]⟩:H9),(⟨0,[120]⟩:H9),(⟨1,[97]⟩:H9),(⟨1,[98]⟩:H9),(⟨0,[99]⟩:H9)]:Sl H9).g i)) false),(1000,.cells [.p F9,.p F9,.p F9])]⟩ (ids:=[(1000,1000),(25000,25000),(29000,29000),(30000,30000),(31000,31000)]) ?_ (hle:=klR [(0,.fn 1 (Sl.of [1]:Sl Int).n (F0 [pI .i64 0] [(0,cI .i64 1)]) (fun i=>cI .i64 ((Sl.of [1]:Sl Int).g i))),(1,.fn 1 (Sl.of [0]:Sl Int).n (F0 [pI .i64 0] [(0,cI .i64 0)]) (fun i=>cI .i64 ((Sl.of [0]:Sl Int).g i))),(2,.fn 2 (Sl.of [(⟨[70],Pat.mk 0 (⟨0,0⟩:Sound) false 0 0 (Sl.nil:Sl Pat).n (Sl.nil:Sl Pat).g,Pat.mk 6 (⟨0,0⟩:Sound) false 0 0 (Sl.nil:Sl Pat).n (Sl.nil:Sl Pat).g,(Sl.of [(⟨4,0⟩:Sound)]:Sl Sound),(Sl.nil:Sl Bs),1⟩:Law),(⟨[86],Pat.mk 1 (⟨4,0⟩:Sound) false 0 0 (Sl.nil:Sl Pat).n (Sl.nil:Sl Pat).g,Pat.mk 1 (⟨4,0⟩:Sound) false 0 0 (Sl.nil:Sl Pat).n (Sl.nil:Sl Pat).g,(Sl.of [(⟨2,0⟩:Sound)]:Sl Sound),(Sl.of [(⟨0,0,(⟨1,0⟩:Sound),0,0⟩:Bs)]:Sl Bs),1⟩:Law)]:Sl Law).n (F0 [.str [],pI .i64 0,pI .u32 0,pI .u32 0,.v (.bool false),pI .i64 0,pI .i64 0,F9,pI .i64 0,pI .u32 0,pI .u32 0,.v (.bool false),pI .i64 0,pI .i64 0,F9,F9,F9,pI .i64 0] [(0,B4 (⟨[70],Pat.mk 0 (⟨0,0⟩:Sound) false 0 0 (Sl.nil:Sl Pat).n (Sl.nil:Sl Pat).g,Pat.mk 6 (⟨0,0⟩:Sound) false 0 0 (Sl.nil:Sl Pat).n (Sl.nil:Sl Pat).g,(Sl.of [(⟨4,0⟩:Sound)]:Sl Sound),(Sl.nil:Sl Bs),1⟩:Law)),(1,B4 (⟨[86],Pat.mk 1 (⟨4,0⟩:Sound) false 0 0 (Sl.nil:Sl Pat).n (Sl.nil:Sl Pat).g,Pat.mk 1 (⟨4,0⟩:Sound) false 0 0 (Sl.nil:Sl Pat).n (Sl.nil:Sl Pat).g,(Sl.of [(⟨2,0⟩:Sound)]:Sl Sound),(Sl.of [(⟨0,0,(⟨1,0⟩:Sound),0,0⟩:Bs)]:Sl Bs),1⟩:Law))]) (fun i=>B4 ((Sl.of [(⟨[70],Pat.mk 0 (⟨0,0⟩:Sound) false 0 0 (Sl.nil:Sl Pat).n (Sl.nil:Sl Pat).g,Pat.mk 6 (⟨0,0⟩:Sound) false 0 0 (Sl.nil:Sl Pat).n (Sl.nil:Sl Pat).g,(Sl.of [(⟨4,0⟩:Sound)]:Sl Sound),(Sl.nil:Sl Bs),1⟩:Law),(⟨[86],Pat.mk 1 (⟨4,0⟩:Sound) false 0 0 (Sl.nil:Sl Pat).n (Sl.nil:Sl Pat).g,Pat.mk 1 (⟨4,0⟩:Sound) false 0 0 (Sl.nil:Sl Pat).n (Sl.nil:Sl Pat).g,(Sl.of [(⟨2,0⟩:Sound)]:Sl Sound),(Sl.of [(⟨0,0,(⟨1,0⟩:Sound),0,0⟩:Bs)]:Sl Bs),1⟩:Law)]:Sl Law).g i)))] (al1 ⟨rfl,(fun i a=>match i,a with|0,_=>rfl|_+1,a=>absurd a (by omega))⟩ (al1 ⟨rfl,(fun i a=>match i,a with|0,_=>rfl|_+1,a=>absurd a (by omega))⟩ (al1 ⟨rfl,(fun i a=>match i,a with|0,_=>rfl|1,_=>rfl|_+2,a=>absurd a (by omega))⟩ al0))));refine AD0 hS (rfl:true=true) 32 32000 (k:=1) (n:=5) (e:=Jk) (vw:=false) (F0 [F9] [(0,[F9]),(1,cL 1 (cI .i64) (Sl.of [0]:Sl Int)),(2,[F9]),(3,cL 1 (cI .i64) (Sl.of [1]:Sl Int)),(4,[F9])]) (fun i=>cL 1 (cI .i64) ((Sl.of [(Sl.nil:Sl Int),(Sl.of [0]:Sl Int),(Sl.nil:Sl Int),(Sl.of [1]:Sl Int),(Sl.nil:Sl Int)]:Sl (Sl Int)).g i)) (fun i a=>match i,a with|0,_=>leCn|1,_=>leCr _|2,_=>leCn|3,_=>leCr _|4,_=>leCn|_+5,a=>absurd a (by omega)) ?_;refine N2 hS trivial 32 ⟨[(31,.p (vSl 1 (cL 1 (cI .i64)) (Sl.of [(Sl.nil:Sl Int),(Sl.of [0]:Sl Int),(Sl.nil:Sl Int),(Sl.of [1]:Sl Int),(Sl.nil:Sl Int)]:Sl (Sl Int)))),(28,.p (vSl 18 B4 (Sl.of [(⟨[70],Pat.mk 0 (⟨0,0⟩:Sound) false 0 0 (Sl.nil:Sl Pat).n (Sl.nil:Sl Pat).g,Pat.mk 6 (⟨0,0⟩:Sound) false 0 0 (Sl.nil:Sl Pat).n (Sl.nil:Sl Pat).g,(Sl.of [(⟨4,0⟩:Sound)]:Sl Sound),(Sl.nil:Sl Bs),1⟩:Law),(⟨[86],Pat.mk 1 (⟨4,0⟩:Sound) false 0 0 (Sl.nil:Sl Pat).n (Sl.nil:Sl Pat).g,Pat.mk 1 (⟨4,0⟩:Sound) false 0 0 (Sl.nil:Sl Pat).n (Sl.nil:Sl Pat).g,(Sl.of [(⟨2,0⟩:Sound)]:Sl Sound),(Sl.of [(⟨0,0,(⟨1,0⟩:Sound),0,0⟩:Bs)]:Sl Bs),1⟩:Law)]:Sl Law))),(25,.p (vSl 2 G3 (Sl.of [(⟨-1,[114]⟩:H9),(⟨0,[120]⟩:H9),(⟨1,[97]⟩:H9),(⟨1,[98]⟩:H9),(⟨0,[99]⟩:H9)]:Sl H9))),(0,.reg 1000 0)],[(1000,.cells [.p F9,.p F9,.p F9])]⟩ (ids:=[(1000,1000)]) ?_;cases h;exact kR hS
def U1 (N:Nat)  : Option Bool:=
 (Iq N ).bind fun y1=>
 (Ev N y1 0 1).bind fun y2=>
 (Cm N y1).bind fun y3=>
 (GN N y1 10).bind fun y4=>
 (Ew N y1).bind fun y5=>
 (Df N ).bind fun y6=>
 (GP N y6).bind fun y7=>
 (Df N ).bind fun y8=>
 (K3 N y8 (Sl.of [(Sl.of [(⟨2,5⟩:Sound),(⟨5,2⟩:Sound)]:Sl Sound),(Sl.of [(⟨5,2⟩:Sound),(⟨2,5⟩:Sound),(⟨5,2⟩:Sound)]:Sl Sound)]:Sl (Sl Sound))).bind fun y9=>
 lt (fun (z1:Bool)=>
  some z1
  ) fun k1=>
  if (y2.1==2) then
   if (y2.2==0) then
    (N4 N y3.1 (Sl.of [(⟨0,1⟩:L0)]:Sl L0)).bind fun a=>
    if a then
     if (y3.2==0) then
      if (y4.1.Langs==2) then
       (E9 N y4.1.Has (Sl.of [1,1,3,2]:Sl Int)).bind fun b=>
       if b then
        if (y4.2==0) then
         (R9 N y5.1 (Sl.of [0,1]:Sl Int)).bind fun c=>
         if c then
          if (y5.2==0) then
           if (y7.1.Langs==3) then
            (E9 N y7.1.Has (Sl.of [3,2]:Sl Int)).bind fun d=>
            if d then
             if (y7.2==0) then
              (E9 N y9.1.Has (Sl.of [3,4,3,4]:Sl Int)).bind fun f=>
              if f then
               k1 (y9.2==0)
              else
               k1 false
             else
              k1 false
            else
             k1 false
           else
            k1 false
          else
           k1 false
         else
          k1 false
        else
         k1 false
       else
        k1 false
      else
       k1 false
     else
      k1 false
    else
     k1 false
   else
    k1 false
  else
   k1 false
theorem DK {N:Nat}    {y:Bool}(h:U1 N  = some y) :FunO S Mz [] [] (pB y) ([]) []:=by
 unfold U1 at h;refine A2 hS Tryz.func15 ?_;refine kC hS h (VL hS hL) (fun y1 h=>?_);refine I7 hS trivial 18 2000 [pI .i64 y1.Langs,vSl 1 (cI .u64) y1.Has] ?_;obtain⟨y2,e2,h⟩:=B9 h;refine B7 hS [] (by decide:(2:Nat)<=2) (OI hS hL e2) ?_;obtain⟨y3,e3,h⟩:=B9 h;refine B7 hS [] (by decide:(2:Nat)<=2) (Kl hS hL e3) ?_;obtain⟨y4,e4,h⟩:=B9 h;refine B7 hS [] (by decide:(2:Nat)<=2) (Ts hS hL e4) ?_;refine I7 hS trivial 7 7000 [pI .i64 y4.1.Langs,vSl 1 (cI .u64) y4.1.Has] ?_;obtain⟨y5,e5,h⟩:=B9 h;refine B7 hS [] (by decide:(2:Nat)<=2) (OJ hS hL e5) ?_;refine kC hS h (Jw hS hL) (fun y6 h=>?_);refine kC hS h (Tt hS hL) (fun y7 h=>?_);refine I7 hS trivial 11 11000 [pI .i64 y7.1.Langs,vSl 1 (cI .u64) y7.1.Has] ?_;refine Ab6 hS trivial 13000 [pI .u32 2,pI .u32 5] ?_;refine Ab6 hS trivial 14000 [pI .u32 5,pI .u32 2] ?_;refine H7 hS trivial [0,1,2,4,5,6,9] ?_;obtain⟨y8,e8,h⟩:=B9 h;refine BB trivial (Jw hS hL e8) ?_;refine CN (And.intro (by decide:(2:Nat)<=2) (by decide:(2:Nat)<=2)) (x:=.sl true 2 2 (F0 [pI .u32 0,pI .u32 0] [(0,A0 (⟨2,5⟩:Sound)),(1,A0 (⟨5,2⟩:Sound))])) ?_;refine CN (And.intro (And.intro (by decide:(2:Nat)<=2) (by decide:(2:Nat)<=2)) (by decide:(2:Nat)<=2)) (x:=.sl true 2 3 (F0 [pI .u32 0,pI .u32 0] [(0,A0 (⟨5,2⟩:Sound)),(1,A0 (⟨2,5⟩:Sound)),(2,A0 (⟨5,2⟩:Sound))])) ?_;refine CN trivial (x:=.sl true 1 2 (F0 [F9] [(0,[.sl true 2 2 (F0 [pI .u32 0,pI .u32 0] [(0,A0 (⟨2,5⟩:Sound)),(1,A0 (⟨5,2⟩:Sound))])]),(1,[.sl true 2 3 (F0 [pI .u32 0,pI .u32 0] [(0,A0 (⟨5,2⟩:Sound)),(1,A0 (⟨2,5⟩:Sound)),(2,A0 (⟨5,2⟩:Sound))])])])) ?_;obtain⟨y9,e9,h⟩:=B9 h;refine BB trivial (FunO.le hS (args:=[(.p (.agg (A8 y8))),.p (.sl true 1 2 (F0 [F9] [(0,[.sl true 2 2 (F0 [pI .u32 0,pI .u32 0] [(0,A0 (⟨2,5⟩:Sound)),(1,A0 (⟨5,2⟩:Sound))])]),(1,[.sl true 2 3 (F0 [pI .u32 0,pI .u32 0] [(0,A0 (⟨5,2⟩:Sound)),(1,A0 (⟨2,5⟩:Sound)),(2,A0 (⟨5,2⟩:Sound))])])]))]) (by exact⟨.inl rfl,⟨AJ7 rfl (fun i a=>match i,a with|0,_=>leC1 rfl (fun i a=>match i,a with|0,_=>rfl|1,_=>rfl|_+2,a=>absurd a (by omega))|1,_=>leC1 rfl (fun i a=>match i,a with|0,_=>rfl|1,_=>rfl|2,_=>rfl|_+3,a=>absurd a (by omega))|_+2,a=>absurd a (by omega)),trivial⟩⟩) (Jv hS hL e9)) ?_;refine P7 trivial ?_;refine I7 hS trivial 57 15000 [pI .i64 y9.1.Langs,vSl 1 (cI .u64) y9.1.Has] ?_;refine JM hS trivial (A6 hS) h 0 (fun z1=>⟨[(0,pB z1)],[]⟩) (fun M1 k1 b h=>?_) (fun z1 h=>?_)
 ·refine kG hS h (fun h=>?_) (fun h=>?_)
  ·refine kG hS h (fun h=>?_) (fun h=>?_)
   ·refine CX hS (rfl:true=true) ⟨[(66,.vec 67000),(64,.p (vSl 2 Q6 y3.1)),(63,.p (.v (.bool true))),(15,pN y9.2),(14,.p (.ptr [pI .i64 y9.1.Langs,vSl 1 (cI .u64) y9.1.Has])),(11,pN y7.2),(10,.p (.ptr [pI .i64 y7.1.Langs,vSl 1 (cI .u64) y7.1.Has])),(9,pN y5.2),(8,.p (vSl 1 (cI .i64) y5.1)),(7,pN y4.2),(6,.p (.ptr [pI .i64 y4.1.Langs,vSl 1 (cI .u64) y4.1.Has])),(5,pN y3.2)],[(67000,.vec QX 2 (Sl.of [(⟨0,1⟩:L0)]:Sl L0).n (fun i=>Q6 ((Sl.of [(⟨0,1⟩:L0)]:Sl L0).g i)) false)]⟩ (ids:=[(67000,67000)]) ?_ (hle:=klR [(11,.fn 1 (Sl.of [(⟨0,1⟩:L0)]:Sl L0).n (F0 [pI .i64 0,pI .i64 0] [(0,Q6 (⟨0,1⟩:L0))]) (fun i=>Q6 ((Sl.of [(⟨0,1⟩:L0)]:Sl L0).g i)))] (al1 ⟨rfl,(fun i a=>match i,a with|0,_=>rfl|_+1,a=>absurd a (by omega))⟩ al0));refine kC hS h (CS hS hL) (fun c h=>?_);refine kG hS h (fun h=>?_) (fun h=>?_)
    ·refine kG hS h (fun h=>?_) (fun h=>?_)
     ·refine kG hS h (fun h=>?_) (fun h=>?_)
      ·refine CX hS (rfl:true=true) ⟨[(81,.vec 82000),(80,.p (vSl 1 (cI .u64) y4.1.Has)),(78,.p (.v (.bool true))),(15,pN y9.2),(14,.p (.ptr [pI .i64 y9.1.Langs,vSl 1 (cI .u64) y9.1.Has])),(11,pN y7.2),(10,.p (.ptr [pI .i64 y7.1.Langs,vSl 1 (cI .u64) y7.1.Has])),(9,pN y5.2),(8,.p (vSl 1 (cI .i64) y5.1)),(7,pN y4.2)],[(82000,.vec AX 1 (Sl.of [1,1,3,2]:Sl Int).n (fun i=>cI .u64 ((Sl.of [1,1,3,2]:Sl Int).g i)) false)]⟩ (ids:=[(82000,82000)]) ?_ (hle:=klR [(9,.fn 4 (Sl.of [1,1,3,2]:Sl Int).n (F0 [pI .u64 0] [(0,cI .u64 1),(1,cI .u64 1),(2,cI .u64 3),(3,cI .u64 2)]) (fun i=>cI .u64 ((Sl.of [1,1,3,2]:Sl Int).g i)))] (al1 ⟨rfl,(fun i a=>match i,a with|0,_=>rfl|1,_=>rfl|2,_=>rfl|3,_=>rfl|_+4,a=>absurd a (by omega))⟩ al0));refine kC hS h (J5 hS hL) (fun d h=>?_);refine kG hS h (fun h=>?_) (fun h=>?_)
       ·refine kG hS h (fun h=>?_) (fun h=>?_)
        ·refine CX hS (rfl:true=true) ⟨[(90,.vec 91000),(89,.p (vSl 1 (cI .i64) y5.1)),(88,.p (.v (.bool true))),(15,pN y9.2),(14,.p (.ptr [pI .i64 y9.1.Langs,vSl 1 (cI .u64) y9.1.Has])),(11,pN y7.2),(10,.p (.ptr [pI .i64 y7.1.Langs,vSl 1 (cI .u64) y7.1.Has])),(9,pN y5.2)],[(91000,.vec F1 1 (Sl.of [0,1]:Sl Int).n (fun i=>cI .i64 ((Sl.of [0,1]:Sl Int).g i)) false)]⟩ (ids:=[(91000,91000)]) ?_ (hle:=klR [(7,.fn 2 (Sl.of [0,1]:Sl Int).n (F0 [pI .i64 0] [(0,cI .i64 0),(1,cI .i64 1)]) (fun i=>cI .i64 ((Sl.of [0,1]:Sl Int).g i)))] (al1 ⟨rfl,(fun i a=>match i,a with|0,_=>rfl|1,_=>rfl|_+2,a=>absurd a (by omega))⟩ al0));refine kC hS h (Eu hS hL) (fun f h=>?_);refine kG hS h (fun h=>?_) (fun h=>?_)
         ·refine kG hS h (fun h=>?_) (fun h=>?_)
          ·refine kG hS h (fun h=>?_) (fun h=>?_)
           ·refine CX hS (rfl:true=true) ⟨[(105,.vec 106000),(104,.p (vSl 1 (cI .u64) y7.1.Has)),(102,.p (.v (.bool true))),(15,pN y9.2),(14,.p (.ptr [pI .i64 y9.1.Langs,vSl 1 (cI .u64) y9.1.Has])),(11,pN y7.2)],[(106000,.vec AX 1 (Sl.of [3,2]:Sl Int).n (fun i=>cI .u64 ((Sl.of [3,2]:Sl Int).g i)) false)]⟩ (ids:=[(106000,106000)]) ?_ (hle:=klR [(5,.fn 2 (Sl.of [3,2]:Sl Int).n (F0 [pI .u64 0] [(0,cI .u64 3),(1,cI .u64 2)]) (fun i=>cI .u64 ((Sl.of [3,2]:Sl Int).g i)))] (al1 ⟨rfl,(fun i a=>match i,a with|0,_=>rfl|1,_=>rfl|_+2,a=>absurd a (by omega))⟩ al0));refine kC hS h (J5 hS hL) (fun j h=>?_);refine kG hS h (fun h=>?_) (fun h=>?_)
            ·refine kG hS h (fun h=>?_) (fun h=>?_)
             ·refine CX hS (rfl:true=true) ⟨[(115,.vec 116000),(114,.p (vSl 1 (cI .u64) y9.1.Has)),(112,.p (.v (.bool true))),(15,pN y9.2)],[(116000,.vec AX 1 (Sl.of [3,4,3,4]:Sl Int).n (fun i=>cI .u64 ((Sl.of [3,4,3,4]:Sl Int).g i)) false)]⟩ (ids:=[(116000,116000)]) ?_ (hle:=klR [(3,.fn 4 (Sl.of [3,4,3,4]:Sl Int).n (F0 [pI .u64 0] [(0,cI .u64 3),(1,cI .u64 4),(2,cI .u64 3),(3,cI .u64 4)]) (fun i=>cI .u64 ((Sl.of [3,4,3,4]:Sl Int).g i)))] (al1 ⟨rfl,(fun i a=>match i,a with|0,_=>rfl|1,_=>rfl|2,_=>rfl|3,_=>rfl|_+4,a=>absurd a (by omega))⟩ al0));refine kC hS h (J5 hS hL) (fun l h=>?_);refine kG hS h (fun h=>?_) (fun h=>?_)
              ·exact b _ [] _ (y9.2==0) trivial h
              ·exact b _ [] _ false trivial h
             ·exact b _ [] _ false trivial h
            ·exact b _ [] _ false trivial h
           ·exact b _ [] _ false trivial h
          ·exact b _ [] _ false trivial h
         ·exact b _ [] _ false trivial h
        ·exact b _ [] _ false trivial h
       ·exact b _ [] _ false trivial h
      ·exact b _ [] _ false trivial h
     ·exact b _ [] _ false trivial h
    ·exact b _ [] _ false trivial h
   ·exact b _ [] _ false trivial h
  ·exact b _ [] _ false trivial h
 ·cases h;exact kR hS
end Go.AM
namespace Go.AM
open Go.Proofs
set_option maxRecDepth 10000
set_option maxHeartbeats 2000000
variable {S:AD}(hS:H2 S Tryz.prog) (hL:PF S)
include hS hL
end Go.AM
