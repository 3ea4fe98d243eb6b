/- What a law's walk and its plain proof need, part 6: no condition of its own. -/
import Derived.Test.YtodhnkfgkgkngaaGreatDoorOE
import Derived.Test.YtodhnkfgkgkngaaGreatDoorOD
set_option linter.defProp false
set_option linter.unusedSimpArgs false
set_option linter.unusedVariables false
set_option linter.unusedSectionVars false
namespace Go.AM
open IntKind (wrap)
def AC1:=@Nat.not_lt_zero
open Go.Proofs
set_option maxRecDepth 10000
set_option maxHeartbeats 2000000
variable {S:X6}(hS:G5 S Tryz.prog) (hL:LL S)
include hS hL
def AI (N:Nat)(a:Str):Option Bool:=
 lt (fun (z1:Bool)=>
  some z1
  ) fun k1=>
  if ((a==[]) != true) then
   if (decide ((a.length:Int)<=24)) then
    (CP N a [97,98,99,100,101,102,103,104,105,106,107,108,109,110,111,112,113,114,115,116,117,118,119,120,121,122,65,66,67,68,69,70,71,72,73,74,75,76,77,78,79,80,81,82,83,84,85,86,87,88,89,90,48,49,50,51,52,53,54,55,56,57,45]).bind fun y2=>
    k1 ((y2==[]) != false)
   else
    k1 false
  else
   k1 false
theorem Sm {N:Nat}{b:Str}{y:Bool}(h:AI N b=some y) :FunO S Kr [.p (.str b)] [] (pB y) ([]) []:=by
 unfold AI at h;refine A5 hS Tryz.func102 ?_;refine Ls hS trivial (A8 hS) h 0 (fun z1=>⟨[(2,pB z1)],[]⟩) (fun M1 k1 a h=>?_) (fun z1 h=>?_)
 ·refine kG hS h (fun h=>?_) (fun h=>?_)
  ·refine kG hS h (fun h=>?_) (fun h=>?_)
   ·refine kC hS h (LM hS hL) (fun y2 h=>?_);exact a _ [] _ ((y2==[]) != false) trivial h
   ·exact a _ [] _ false trivial h
  ·exact a _ [] _ false trivial h
 ·cases h;exact kR hS
def R8 (N:Nat)(p_x:AE)(a:Int):Option Bool:=
 lt (fun (z1:Bool)=>
  if z1 then
   some false
  else
   if ((((F5 .andNot .u32 (F5 .or .u32 p_x.Clear p_x.Take) 16777215) != 0)||((F5 .and .u32 p_x.Clear (F5 .or .u32 p_x.Set.Plus p_x.Set.Minus)) != 0))||((F5 .and .u32 p_x.Take (F5 .or .u32 (F5 .or .u32 p_x.Set.Plus p_x.Set.Minus) p_x.Clear)) != 0)) then
    some false
   else
    if (p_x.Take==0) then
     some (p_x.Of==0)
    else
     some ((decide (0<=p_x.Of))&&(decide (p_x.Of<a)))
  ) fun k1=>
  if (decide (p_x.From<(-1))) then
   k1 true
  else
   if (decide (a<=p_x.From)) then
    k1 true
   else
    (F7 N p_x.Set).bind fun y2=>
    k1 (!y2)
theorem Vg {N:Nat}{p_x:AE}{b:Int}{y:Bool}(h:R8 N p_x b=some y) :FunO S MJ [.p (.agg (P9 p_x)),pN b] [] (pB y) ([]) []:=by
 unfold R8 at h;refine A5 hS Tryz.func99 ?_;refine Ls hS trivial (A8 hS) h 0 (fun z1=>⟨[(13,pB z1),(5,pU (F5 .or .u32 p_x.Set.Plus p_x.Set.Minus)),(2,.reg 3000 0),(1,pN b)],[(3000,.cells ((P9 p_x).map .p))]⟩) (fun M1 k1 c h=>?_) (fun z1 h=>?_)
 ·refine kG hS h (fun h=>?_) (fun h=>?_)
  ·exact c _ [(3000,3000)] _ true trivial h
  ·refine kG hS h (fun h=>?_) (fun h=>?_)
   ·exact c _ [(3000,3000)] _ true trivial h
   ·refine kC hS h (O7 hS hL) (fun y2 h=>?_);exact c _ [(3000,3000)] _ (!y2) trivial h
 ·refine kI hS h ?_ ?_<;>intro h
  ·cases h;exact kR hS
  ·refine kB hS (A8 hS) trivial trivial 16 (.o (.o (.a ((F5 .andNot .u32 (F5 .or .u32 p_x.Clear p_x.Take) 16777215) != 0)) (.a ((F5 .and .u32 p_x.Clear (F5 .or .u32 p_x.Set.Plus p_x.Set.Minus)) != 0))) (.a ((F5 .and .u32 p_x.Take (F5 .or .u32 (F5 .or .u32 p_x.Set.Plus p_x.Set.Minus) p_x.Clear)) != 0))) ?_;refine kI hS h ?_ ?_<;>intro h
   ·cases h;exact kR hS
   ·refine kI hS h ?_ ?_<;>intro h
    ·cases h;exact kR hS
    ·refine kB hS (A8 hS) trivial trivial 5 (.n (.a (decide (0<=p_x.Of))) (.a (decide (p_x.Of<b)))) ?_;cases h;exact kR hS
def W5 (N:Nat)(p_x:AE)(q0:Int):Option Bool:=
 (R8 N p_x q0).bind fun y1=>
 some (!y1)
theorem Oo {N:Nat}{p_x:AE}{q0:Int}{y:Bool}(h:W5 N p_x q0=some y) :FunO S Hb [.p (.agg (P9 p_x)),.reg 0 0] [.cells [pN q0]] (pB y) ([.cells [pN q0]]) [true]:=by unfold W5 at h;refine A5 hS Tryz.func98 ?_;refine kC hS h (Vg hS hL) (fun y1 h=>?_);obtain rfl:=C9 h;exact B0 hS trivial ⟨[(3,pB (!y1))],[(0,.cells [pN q0])]⟩ [0] (ids:=[(0,0)]) ⟨rfl,rfl,rfl⟩
def W6 (N:Nat)(a:Sound):Option Bool:=
 (F7 N a).bind fun y1=>
 some (!y1)
theorem Oq {N:Nat}{a:Sound}{y:Bool}(h:W6 N a=some y) :FunO S Hc [.p (.agg (A0 a))] [] (pB y) ([]) []:=by unfold W6 at h;refine A5 hS Tryz.func100 ?_;refine kC hS h (O7 hS hL) (fun y1 h=>?_);cases h;exact kR hS
def E1 (N:Nat)(a:Sl AE)(c:AE->Option Bool):Option Int:=
 S8 N (fun b (x1:Int)=>
  if (decide (x1<(a.n:Int))) then
   if ((0:Int)<=x1/\x1<(a.n:Int))then
    (c (a.g x1.toNat)).bind fun y3=>
    if y3 then
     some x1
    else
     b (wrap .i64 (x1+1))
   else none
  else
   some (-1)
  ) 0
theorem X4 {N:Nat}{c:Sl AE}{d:AE->Option Bool}{a:Int}{kp_f:Nat}(f:∀{a0:AE}{b:Bool},d a0=some b->FunO S kp_f [.p (.agg (P9 a0)),.reg 0 0] [.cells [pN a]] (pB b) [.cells [pN a]] [true]){y:Int}(h:E1 N c d=some y) :FunO S K4 [.p (vSl 6 P9 c),.clo kp_f [] [.reg 0 0]] [.cells [pN a]] (pN y) ([.cells [pN a]]) [true]:=by
 unfold E1 at h;refine A5 hS Tryz.func124 ?_;refine Al hS trivial h (fun x1=>⟨[(8,pN x1),(7,pN (c.n:Int)),(1,.clo kp_f [] [.reg 0 0]),(0,.p (vSl 6 P9 c))],[(0,.cells [pN a])]⟩) (ids:=[(0,0)]) (fun _ _ _ _ _ g x1 i h=>?_);refine kI hS h ?_ ?_<;>intro h
 ·obtain⟨c8,h⟩:=H0 h;obtain⟨y3,e3,h⟩:=C6 h;refine C7 hS [0] (And.intro c8 (by decide:(6:Nat)<=6)) (f e3) ?_;refine kI hS h ?_ ?_<;>intro h
  ·obtain rfl:=C9 h;exact B0 hS trivial ⟨[(4,pN x1)],[(0,.cells [pN a])]⟩ [0] (ids:=[(0,0)]) ⟨rfl,rfl,rfl⟩
  ·exact i _ [(0,0)] _ (wrap .i64 (x1+1)) trivial h
 ·obtain rfl:=C9 h;exact B0 hS trivial ⟨[(4,pN (-1))],[(0,.cells [pN a])]⟩ [0] (ids:=[(0,0)]) ⟨rfl,rfl,rfl⟩
def B8 (N:Nat)(a:Sl AE)(b:AE->Option Bool):Option Bool:=
 (E1 N a b).bind fun y1=>
 some (decide (0<=y1))
theorem T1 {N:Nat}{c:Sl AE}{d:AE->Option Bool}{a:Int}{kp_f:Nat}(f:∀{a0:AE}{b:Bool},d a0=some b->FunO S kp_f [.p (.agg (P9 a0)),.reg 0 0] [.cells [pN a]] (pB b) [.cells [pN a]] [true]){y:Bool}(h:B8 N c d=some y) :FunO S I6 [.p (vSl 6 P9 c),.clo kp_f [] [.reg 0 0]] [.cells [pN a]] (pB y) ([.cells [pN a]]) [true]:=by unfold B8 at h;refine A5 hS Tryz.func105 ?_;obtain⟨y1,e1,h⟩:=C6 h;refine C7 hS [0] trivial (X4 hS hL (fun e=>f e) e1) ?_;obtain rfl:=C9 h;exact B0 hS trivial ⟨[(4,pB (decide (0<=y1)))],[(0,.cells [pN a])]⟩ [0] (ids:=[(0,0)]) ⟨rfl,rfl,rfl⟩
def Q8 (N:Nat)(a:Law):Option Int:=
 (AI N a.Name).bind fun y1=>
 if (!y1) then
  some 17
 else
  (U3 N a.Left).bind fun y2=>
  if (y2 != 0) then
   some 17
  else
   (U3 N a.Right).bind fun y3=>
   if (y3 != 0) then
    some 17
   else
    if (decide (4<(a.If.n:Int))) then
     some 17
    else
     if (decide (6<(a.Out.n:Int))) then
      some 17
     else
      if ((wrap .i64 ((a.If.n:Int)+(a.Out.n:Int)))==0) then
       some 17
      else
       if ((decide (a.Mode<1))||(decide (3<a.Mode))) then
        some 17
       else
        (B2 N a.If (fun (u1:Sound)=>W6 N u1)).bind fun y4=>
        if y4 then
         some 17
        else
         (B8 N a.Out (fun (u2:AE)=>W5 N u2 (a.If.n:Int))).bind fun y5=>
         if y5 then
          some 17
         else
          some 0
theorem DT {N:Nat}{c:Law}{y:Int}(h:Q8 N c=some y) :FunO S Kn [.p (.agg (A9 c))] [] (pN y) ([]) []:=by
 unfold Q8 at h;refine A5 hS Tryz.func76 ?_;refine kC hS h (Sm hS hL) (fun y1 h=>?_);refine E7 hS trivial (b:=!y1) (fun c1=>?_) (fun c1=>?_)
 ·replace h:=itT c1 h;refine E7 hS trivial (b:=!y1) (fun c2=>?_) (fun c2=>?_)
  ·cases h;exact kR hS
  ·exact Bool.noConfusion (c1.symm.trans c2)
 ·replace h:=itF c1 h;refine kC hS h (EY hS hL) (fun y2 h=>?_);refine E7 hS trivial (b:=y2 != 0) (fun c3=>?_) (fun c3=>?_)
  ·replace h:=itT c3 h;refine E7 hS trivial (b:=y2 != 0) (fun c4=>?_) (fun c4=>?_)
   ·cases h;exact kR hS
   ·exact Bool.noConfusion (c3.symm.trans c4)
  ·replace h:=itF c3 h;refine kC hS h (EY hS hL) (fun y3 h=>?_);refine E7 hS trivial (b:=y3 != 0) (fun c5=>?_) (fun c5=>?_)
   ·replace h:=itT c5 h;refine E7 hS trivial (b:=y3 != 0) (fun c6=>?_) (fun c6=>?_)
    ·cases h;exact kR hS
    ·exact Bool.noConfusion (c5.symm.trans c6)
   ·replace h:=itF c5 h;refine E7 hS trivial (b:=decide (4<(c.If.n:Int))) (fun c7=>?_) (fun c7=>?_)
    ·replace h:=itT c7 h;refine E7 hS trivial (b:=decide (4<(c.If.n:Int))) (fun c8=>?_) (fun c8=>?_)
     ·cases h;exact kR hS
     ·exact Bool.noConfusion (c7.symm.trans c8)
    ·replace h:=itF c7 h;refine E7 hS trivial (b:=decide (6<(c.Out.n:Int))) (fun c9=>?_) (fun c9=>?_)
     ·replace h:=itT c9 h;refine E7 hS trivial (b:=decide (6<(c.Out.n:Int))) (fun c10=>?_) (fun c10=>?_)
      ·cases h;exact kR hS
      ·exact Bool.noConfusion (c9.symm.trans c10)
     ·replace h:=itF c9 h;refine E7 hS trivial (b:=(wrap .i64 ((c.If.n:Int)+(c.Out.n:Int)))==0) (fun c11=>?_) (fun c11=>?_)
      ·replace h:=itT c11 h;refine E7 hS trivial (b:=(wrap .i64 ((c.If.n:Int)+(c.Out.n:Int)))==0) (fun c12=>?_) (fun c12=>?_)
       ·cases h;exact kR hS
       ·exact Bool.noConfusion (c11.symm.trans c12)
      ·replace h:=itF c11 h;refine kB hS (A8 hS) trivial trivial 4 (.o (.a (decide (c.Mode<1))) (.a (decide (3<c.Mode)))) ?_;refine E7 hS trivial (b:=(decide (c.Mode<1))||(decide (3<c.Mode))) (fun c13=>?_) (fun c13=>?_)
       ·replace h:=itT c13 h;refine E7 hS trivial (b:=(decide (c.Mode<1))||(decide (3<c.Mode))) (fun c14=>?_) (fun c14=>?_)
        ·cases h;exact kR hS
        ·exact Bool.noConfusion (c13.symm.trans c14)
       ·replace h:=itF c13 h;refine kC hS h (H5 hS hL (fun e=>Oq hS hL e)) (fun y4 h=>?_);refine E7 hS trivial (b:=y4) (fun c15=>?_) (fun c15=>?_)
        ·replace h:=itT c15 h;refine E7 hS trivial (b:=y4) (fun c16=>?_) (fun c16=>?_)
         ·cases h;exact kR hS
         ·exact Bool.noConfusion (c15.symm.trans c16)
        ·replace h:=itF c15 h;obtain⟨y5,e5,h⟩:=C6 h;refine C7 hS [4000] trivial (T1 hS hL (fun e=>Oo hS hL e) e5) ?_;refine kI hS h ?_ ?_<;>intro h
         ·cases h;exact kR hS
         ·cases h;exact kR hS
def DU (N:Nat)(a:Law)(b:Sl Sound):Option Int:=
 (Q8 N a).bind fun y1=>
 if (y1 != 0) then
  some y1
 else
  (J0 N b).bind fun y2=>
  some y2
theorem Sn {N:Nat}{a:Law}{b:Sl Sound}{y:Int}(h:DU N a b=some y) :FunO S Kv [.p (.agg (A9 a)),.p (vSl 2 A0 b)] [] (pN y) ([]) []:=by
 unfold DU at h;refine A5 hS Tryz.func160 ?_;refine kC hS h (DT hS hL) (fun y1 h=>?_);refine kI hS h ?_ ?_<;>intro h
 ·cases h;exact kR hS
 ·refine kC hS h (CB hS hL) (fun y2 h=>?_);cases h;exact kR hS
def R9 (N:Nat)(a:Int)(q0:Law)(q1:Sl Sound):Option Bool:=
 (Av N q0.Left q1 a).bind fun y1=>
 if ((y1.1.n:Int)==0) then
  some false
 else
  (Ce N q0.Right q1 (wrap .i64 (a+(q0.If.n:Int)))).bind fun y2=>
  some (decide (0<(y2.1.n:Int)))
theorem LT {N:Nat}{a:Int}{q0:Law}{q1:Sl Sound}{y:Bool}(h:R9 N a q0 q1=some y) :FunO S R7 [pN a,.reg 0 0,.reg 1 0] [.cells ((A9 q0).map .p),.cells [.p (vSl 2 A0 q1)]] (pB y) ([.cells ((A9 q0).map .p),.cells [.p (vSl 2 A0 q1)]]) [true,true]:=by
 unfold R9 at h;refine A5 hS Tryz.func192 ?_;refine kC hS h (Om hS hL) (fun y1 h=>?_);refine kI hS h ?_ ?_<;>intro h
 ·obtain rfl:=C9 h;exact B0 hS trivial ⟨[(4,pB false)],[(1,.cells [.p (vSl 2 A0 q1)]),(0,.cells ((A9 q0).map .p))]⟩ [0,1] (ids:=[(0,0),(1,1)]) ⟨rfl,rfl,rfl⟩
 ·refine kC hS h (Sk hS hL) (fun y2 h=>?_);obtain rfl:=C9 h;exact B0 hS trivial ⟨[(4,pB (decide (0<(y2.1.n:Int))))],[(1,.cells [.p (vSl 2 A0 q1)]),(0,.cells ((A9 q0).map .p))]⟩ [0,1] (ids:=[(0,0),(1,1)]) ⟨rfl,rfl,rfl⟩
def Fa (N:Nat)(a:Law)(b:Sl Sound):Option (Law×(Sl Sound)):=
 some (a,b)
theorem Qn {N:Nat}{a:Law}{b:Sl Sound}{y:Law×(Sl Sound)}(h:Fa N a b=some y) :FunO S IK [.p (.agg (A9 a)),.p (vSl 2 A0 b)] [] (.clo R7 [] [.reg 0 0,.reg 1 0]) ([.cells ((A9 y.1).map .p),.cells [.p (vSl 2 A0 y.2)]]) []:=by unfold Fa at h;refine A5 hS Tryz.func182 ?_;obtain rfl:=C9 h;exact B0 hS trivial ⟨[(4,.clo R7 [] [.reg 3000 0,.reg 4000 0])],[(4000,.cells [.p (vSl 2 A0 b)]),(3000,.cells ((A9 a).map .p))]⟩ [3000,4000] (ids:=[(3000,3000),(4000,4000)]) ⟨rfl,rfl,rfl⟩
def K6 (N:Nat)(a:Law)(b:Sl Sound):Option (Sl Sound):=
 S5 N (fun c (x1:Sl Sound) (x2:Int)=>
  if (decide (x2<(a.Out.n:Int))) then
   if ((0:Int)<=x2/\x2<(a.Out.n:Int))then
    if ((decide (0<=(a.Out.g x2.toNat).From))=true->((0:Int)<=(a.Out.g x2.toNat).From/\(a.Out.g x2.toNat).From<(b.n:Int)))then
     (L7 N (⟨(if (decide (0<=(a.Out.g x2.toNat).From)) then (b.g (a.Out.g x2.toNat).From.toNat).Plus else 0),(if (decide (0<=(a.Out.g x2.toNat).From)) then (b.g (a.Out.g x2.toNat).From.toNat).Minus else 0)⟩:Sound) (a.Out.g x2.toNat).Clear (a.Out.g x2.toNat).Set).bind fun y5=>
     if ((a.Out.g x2.toNat).Take != 0) then
      if ((0:Int)<=(a.Out.g x2.toNat).Of/\(a.Out.g x2.toNat).Of<(b.n:Int))then
       (Q6 N y5.1 (b.g (a.Out.g x2.toNat).Of.toNat) (a.Out.g x2.toNat).Take).bind fun y6=>
       if ((x1.n+(Sl.of [y6.1]:Sl Sound).n)*8<=140737488355328/\x1.n+(Sl.of [y6.1]:Sl Sound).n<=140737488355328)then
        c (x1.push y6.1) (wrap .i64 (x2+1))
       else none
      else none
     else
      if ((x1.n+(Sl.of [y5.1]:Sl Sound).n)*8<=140737488355328/\x1.n+(Sl.of [y5.1]:Sl Sound).n<=140737488355328)then
       c (x1.push y5.1) (wrap .i64 (x2+1))
      else none
    else none
   else none
  else
   some x1
  ) (Sl.nil:Sl Sound) 0
theorem Qo {N:Nat}{d:Law}{a:Sl Sound}{y:Sl Sound}(h:K6 N d a=some y) :FunO S Qa [.p (.agg (A9 d)),.p (vSl 2 A0 a)] [] (.p (vSl 2 A0 y)) ([]) []:=by
 unfold K6 at h;refine A5 hS Tryz.func172 ?_;refine K9 hS trivial 4 3000 (A9 d) ?_;refine H9 hS trivial h (fun x1 x2=>⟨[(12,pN x2),(11,pN (d.Out.n:Int)),(10,.p (vSl 6 P9 d.Out)),(5,.vec 6500),(1,.p (vSl 2 A0 a))],[(6500,.vec B5 2 x1.n (fun i=>A0 (x1.g i)) false)]⟩) (ids:=[]) (fun _ _ _ _ _ o x1 x2 l h=>?_);refine kI hS h ?_ ?_<;>intro h
 ·obtain⟨c16,h⟩:=H0 h;refine K9 hS (And.intro c16 (by decide:(6:Nat)<=6)) 8 8000 (P9 (d.Out.g x2.toNat)) ?_;obtain⟨c18,h⟩:=H0 h;obtain⟨t5,f⟩:∃x:Int,x=(if (decide (0<=(d.Out.g x2.toNat).From)) then (a.g (d.Out.g x2.toNat).From.toNat).Plus else 0):=⟨_,rfl⟩;obtain⟨t6,j⟩:∃x:Int,x=(if (decide (0<=(d.Out.g x2.toNat).From)) then (a.g (d.Out.g x2.toNat).From.toNat).Minus else 0):=⟨_,rfl⟩;refine RE hS trivial (A8 hS) 0 ⟨[(12,pN x2),(11,pN (d.Out.n:Int)),(10,.p (vSl 6 P9 d.Out)),(8,.reg 9000 0),(7,.p (.ptr (P9 (d.Out.g x2.toNat)))),(5,.vec 6500),(1,.p (vSl 2 A0 a))],[(9000,.cells [pU t5,pU t6]),(6500,.vec B5 2 x1.n (fun i=>A0 (x1.g i)) false)]⟩ (fun M3 m=>?_) ?_
  ·refine E7 hS trivial (b:=decide (0<=(d.Out.g x2.toNat).From)) (fun c19=>?_) (fun c19=>?_)
   ·exact m _ [(6500,6500),(9000,9000)] _ (And.intro (c18 c19) (by decide:(2:Nat)<=2)) (hle:=klR [(5,.eq (pI .u32 (a.g (d.Out.g x2.toNat).From.toNat).Plus) (pI .u32 t5)),(6,.eq (pI .u32 (a.g (d.Out.g x2.toNat).From.toNat).Minus) (pI .u32 t6))] (al1 (by simp only[f,j,c19,Leaf.ok,pm,if_true,if_false]) (al1 (by simp only[f,j,c19,Leaf.ok,pm,if_true,if_false]) al0)))
   ·exact m _ [(6500,6500),(9000,9000)] _ trivial (hle:=klR [(5,.eq (pI .u32 0) (pI .u32 t5)),(6,.eq (pI .u32 0) (pI .u32 t6))] (al1 (by simp only[f,j,c19,Leaf.ok,pm,if_true,if_false]) (al1 (by simp only[f,j,c19,Leaf.ok,pm,if_true,if_false]) al0)))
  ·subst j;subst f;obtain⟨y5,e5,h⟩:=C6 h;refine C7 hS [] (by decide:(2:Nat)<=4) (LN hS hL e5) ?_;refine kI hS h ?_ ?_<;>intro h
   ·refine J5 hS trivial [3,4,5,7,8] ?_;obtain⟨c21,h⟩:=H0 h;obtain⟨y6,e6,h⟩:=C6 h;refine AX (And.intro c21 (by decide:(2:Nat)<=2)) (Qj hS hL e6) ?_;refine P8 trivial ?_;obtain⟨c22,h⟩:=H0 h;exact l _ [(6500,52000)] _ (x1.push y6.1) (wrap .i64 (x2+1)) (And.intro (rfl:true=true) c22) h (hle:=klR [(4,.fn (x1.n+1) (x1.push y6.1).n (Ab x1.n (fun i=>A0 (x1.g i)) (E6 [pI .u32 0,pI .u32 0] [(0,A0 y6.1)])) (fun i=>A0 ((x1.push y6.1).g i)))] (al1 ⟨rfl,JV (c:=A0) (v:=x1) (x:=y6.1) (z:=[(pI .u32 0),pI .u32 0]) same rfl rfl⟩ al0))
   ·obtain⟨c23,h⟩:=H0 h;exact l _ [(6500,52000)] _ (x1.push y5.1) (wrap .i64 (x2+1)) (And.intro (rfl:true=true) c23) h (hle:=klR [(4,.fn (x1.n+1) (x1.push y5.1).n (Ab x1.n (fun i=>A0 (x1.g i)) (E6 [pI .u32 0,pI .u32 0] [(0,A0 y5.1)])) (fun i=>A0 ((x1.push y5.1).g i)))] (al1 ⟨rfl,JV (c:=A0) (v:=x1) (x:=y5.1) (z:=[(pI .u32 0),pI .u32 0]) same rfl rfl⟩ al0))
 ·obtain rfl:=C9 h;exact B0 hS trivial ⟨[(4,.p (vSl 2 A0 x1))],[]⟩ [] (ids:=[]) ⟨rfl,rfl,rfl⟩
def A7 (N:Nat)(a:Sl (Sl Sound)):Option (Sl Sound):=
 S5 N (fun b (x1:Int) (x2:Int)=>
  if (decide (x2<(a.n:Int))) then
   if ((0:Int)<=x2/\x2<(a.n:Int))then
    if (decide ((wrap .i64 (x1+((a.g x2.toNat).n:Int)))<0)) then
     none
    else
     b (wrap .i64 (x1+((a.g x2.toNat).n:Int))) (wrap .i64 (x2+1))
   else none
  else
   (G7 N x1).bind fun y1=>
   S5 N (fun c (x3:Sl Sound) (x4:Int)=>
    if (decide (x4<(a.n:Int))) then
     if (((0:Int)<=x4/\x4<(a.n:Int))/\((x3.n+(a.g x4.toNat).n)*8<=140737488355328/\x3.n+(a.g x4.toNat).n<=140737488355328))then
      c (x3.app (a.g x4.toNat)) (wrap .i64 (x4+1))
     else none
    else
     some x3
    ) y1 0
  ) 0 0
theorem J8 {N:Nat}{a:Sl (Sl Sound)}{y:Sl Sound}(h:A7 N a=some y) :FunO S J6 [.p (vSl 1 (cL 2 A0) a)] [] (.vec 0) ([.vec B5 2 y.n (fun i=>A0 (y.g i)) true]) []:=by
 unfold A7 at h;refine A5 hS Tryz.func171 ?_;refine H9 hS trivial h (fun x1 x2=>⟨[(11,pN x2),(10,pN (a.n:Int)),(9,.p (vSl 1 (cL 2 A0) a)),(3,pN x1),(0,.p (vSl 1 (cL 2 A0) a))],[]⟩) (ids:=[]) (fun _ _ _ _ _ d x1 x2 f h=>?_);refine kI hS h ?_ ?_<;>intro h
 ·obtain⟨c8,h⟩:=H0 h;refine E7 hS c8 (b:=decide ((wrap .i64 (x1+((a.g x2.toNat).n:Int)))<0)) (fun c9=>?_) (fun c9=>?_)
  ·replace h:=itT c9 h;cases h
  ·replace h:=itF c9 h;exact f _ [] _ (wrap .i64 (x1+((a.g x2.toNat).n:Int))) (wrap .i64 (x2+1)) trivial h
 ·refine kC hS h (Y4 hS hL) (fun y1 h=>?_);refine H9 hS trivial h (fun x3 x4=>⟨[(27,pN x4),(26,pN (a.n:Int)),(25,.p (vSl 1 (cL 2 A0) a)),(6,.vec 7500)],[(7500,.vec B5 2 x3.n (fun i=>A0 (x3.g i)) false)]⟩) (ids:=[(7500,25000)]) (fun _ _ _ _ _ j x3 x4 l h=>?_);refine kI hS h ?_ ?_<;>intro h
  ·obtain⟨c13,h⟩:=H0 h;exact l _ [(7500,34000)] _ (x3.app (a.g x4.toNat)) (wrap .i64 (x4+1)) c13 h (hle:=klR [(3,.fn (x3.n+(a.g x4.toNat).n) (x3.app (a.g x4.toNat)).n (Ab x3.n (fun i=>A0 (x3.g i)) (fun i=>A0 ((a.g x4.toNat).g i))) (fun i=>A0 ((x3.app (a.g x4.toNat)).g i)))] (al1 ⟨rfl,appL (c:=A0) (v:=x3) (w:=a.g x4.toNat) same rfl same rfl⟩ al0))
  ·obtain rfl:=C9 h;exact B0 hS trivial ⟨[(2,.vec 7500)],[(7500,.vec B5 2 x3.n (fun i=>A0 (x3.g i)) true)]⟩ [7500] (ids:=[(7500,7500)]) ⟨rfl,rfl,rfl⟩
def O8 (N:Nat)(b:Law)(c:Sl Sound)(a:Int):Option (Sl Sound):=
 if (((0:Int)<=a/\a<=(c.n:Int))/\((0:Int)<=a/\a<=(wrap .i64 (a+(b.If.n:Int)))/\(wrap .i64 (a+(b.If.n:Int)))<=(c.n:Int)))then
  (K6 N b (c.sub a.toNat (wrap .i64 (a+(b.If.n:Int))).toNat)).bind fun y1=>
  if ((0:Int)<=(wrap .i64 (a+(b.If.n:Int)))/\(wrap .i64 (a+(b.If.n:Int)))<=(c.n:Int))then
   (A7 N (Sl.of [c.take a.toNat,y1,c.drop (wrap .i64 (a+(b.If.n:Int))).toNat]:Sl (Sl Sound))).bind fun y2=>
   some y2
  else none
 else none
theorem Hq {N:Nat}{c:Law}{b:Sl Sound}{a:Int}{y:Sl Sound}(h:O8 N c b a=some y) :FunO S Hf [.p (.agg (A9 c)),.p (vSl 2 A0 b),pN a] [] (.vec 0) ([.vec B5 2 y.n (fun i=>A0 (y.g i)) true]) []:=by unfold O8 at h;refine A5 hS Tryz.func174 ?_;refine K9 hS trivial 6 4000 (A9 c) ?_;refine J5 hS trivial [3,8] ?_;obtain⟨c1,h⟩:=H0 h;obtain⟨y1,e1,h⟩:=C6 h;refine AX (And.intro (And.intro c1.1 (by decide:(18:Nat)<=18)) c1.2) (Qo hS hL e1) ?_;obtain⟨c2,h⟩:=H0 h;refine BR c2 (x:=.sl true 1 3 (E6 [E5] [(0,cL 2 A0 (b.take a.toNat)),(1,cL 2 A0 y1),(2,cL 2 A0 (b.drop (wrap .i64 (a+(c.If.n:Int))).toNat))])) ?_;obtain⟨y2,e2,h⟩:=C6 h;refine PF [] trivial (FunO.le hS (args:=[.p (.sl true 1 3 (E6 [E5] [(0,cL 2 A0 (b.take a.toNat)),(1,cL 2 A0 y1),(2,cL 2 A0 (b.drop (wrap .i64 (a+(c.If.n:Int))).toNat))]))]) (by exact⟨Ab3 rfl (fun i d=>match i,d with|0,_=>rfl|1,_=>rfl|2,_=>rfl|_+3,d=>absurd d (by omega)),trivial⟩) (J8 hS hL e2)) ?_;refine P8 trivial ?_;obtain rfl:=C9 h;exact B0 hS trivial ⟨[(6,.vec 27000)],[(27000,.vec B5 2 y2.n (fun i=>A0 (y2.g i)) true)]⟩ [27000] (ids:=[(27000,27000)]) ⟨rfl,rfl,rfl⟩
def U4 (N:Nat)(q0:Law)(q1:Sl Sound)(q2:Int):Option (List (Int)):=
 (Fa N q0 q1).bind fun y1=>
 S8 N (fun a (x2:Int)=>
  if (decide ((wrap .i64 (x2+(q0.If.n:Int)))<=(q1.n:Int))) then
   S8 N (fun b (x4:Int)=>
    if (decide (x4<(q0.If.n:Int))) then
     if ((0:Int)<=x4/\x4<(q0.If.n:Int))then
      if ((0:Int)<=(wrap .i64 (x2+x4))/\(wrap .i64 (x2+x4))<(q1.n:Int))then
       (I4 N (q1.g (wrap .i64 (x2+x4)).toNat) (q0.If.g x4.toNat)).bind fun c=>
       if (!c) then
        a (wrap .i64 (x2+1))
       else
        b (wrap .i64 (x4+1))
      else none
     else none
    else
     (R9 N x2 y1.1 y1.2).bind fun d=>
     if d then
      Bm x2 (
       a (wrap .i64 (x2+1))
       )
     else
      a (wrap .i64 (x2+1))
    ) 0
  else
   some []
  ) q2
theorem IM {N:Nat}{q0:Law}{q1:Sl Sound}{q2:Int}{L:List (Int)}(h:U4 N q0 q1 q2=some L) :Gh S Cy [] [.reg 0 0,.reg 1 0,.reg 2 0] [.cells ((A9 q0).map .p),.cells [.p (vSl 2 A0 q1)],.cells [pN q2]] (L.map (fun (x:Int)=>[pI .i64 x])):=by
 unfold U4 at h;refine GT hS Tryz.func181 ?_;refine kC hS h (Qn hS hL) (fun y1 h=>?_);refine HS hS trivial h (fun x2 L1=>⟨[(6,pN x2),(5,.clo R7 [] [.reg 12000 0,.reg 12001 0]),(2,.reg 1 0),(1,.reg 0 0),(0,.yf 3)],[(12001,.cells [.p (vSl 2 A0 y1.2)]),(12000,.cells ((A9 y1.1).map .p)),(3,.yld (L1.map (fun (x:Int)=>[pI .i64 x])) true),(2,.cells [pN q2]),(1,.cells [.p (vSl 2 A0 q1)]),(0,.cells ((A9 q0).map .p))]⟩) (ids:=[(0,0),(1,1),(2,2),(3,3),(12000,12000),(12001,12001)]) (fun _ _ _ _ _ f x2 L1 c h=>?_);refine kI hS h ?_ ?_<;>intro h
 ·refine HS hS trivial h (fun x4 L8=>⟨[(26,pN x4),(25,pN (q0.If.n:Int)),(24,.p (vSl 2 A0 q0.If)),(6,pN x2),(5,.clo R7 [] [.reg 12000 0,.reg 12001 0]),(2,.reg 1 0),(1,.reg 0 0),(0,.yf 3)],[(12001,.cells [.p (vSl 2 A0 y1.2)]),(12000,.cells ((A9 y1.1).map .p)),(3,.yld (L8.map (fun (x:Int)=>[pI .i64 x])) true),(2,.cells [pN q2]),(1,.cells [.p (vSl 2 A0 q1)]),(0,.cells ((A9 q0).map .p))]⟩) (ids:=[(0,0),(1,1),(2,2),(3,3),(12000,12000),(12001,12001)]) (fun _ _ _ _ _ i x4 L8 j h=>?_);refine kI hS h ?_ ?_<;>intro h
  ·obtain⟨c47,h⟩:=H0 h;refine Aj1 hS (And.intro c47 (by decide:(2:Nat)<=2)) 9000 [pI .u32 (q0.If.g x4.toNat).Plus,pI .u32 (q0.If.g x4.toNat).Minus] ?_;refine J5 hS trivial [4,5,6,7] ?_;obtain⟨c48,h⟩:=H0 h;obtain⟨l,e12,h⟩:=C6 h;refine AX (And.intro (And.intro c48 (by decide:(2:Nat)<=2)) (by decide:(2:Nat)<=2)) (HV hS hL e12) ?_;refine P8 trivial ?_;refine kI hS h ?_ ?_<;>intro h
   ·exact c _ [(0,0),(1,1),(2,2),(3,3),(12000,12000),(12001,12001)] _ (wrap .i64 (x2+1)) L8 trivial h
   ·exact j _ [(0,0),(1,1),(2,2),(3,3),(12000,12000),(12001,12001)] _ (wrap .i64 (x4+1)) L8 trivial h
  ·obtain⟨m,e13,h⟩:=C6 h;refine C7 hS [12000,12001] trivial (LT hS hL e13) ?_;refine kG hS h (fun h=>?_) (fun h=>?_)
   ·obtain⟨L10,rfl,d⟩:=NK h;replace h:=d;refine DJ hS trivial (ys:=(fun (x:Int)=>[pI .i64 x]) x2) (rest:=L10.map (fun (x:Int)=>[pI .i64 x])) ?_ ?_
    ·refine E7 hS trivial (b:=false) (fun c53=>?_) (fun c53=>?_)
     ·exact Bool.noConfusion ((rfl:false=false).symm.trans c53)
     ·exact c _ [(0,0),(1,1),(2,2),(3,3),(12000,12000),(12001,12001)] _ (wrap .i64 (x2+1)) L10 trivial h
    ·refine E7 hS trivial (b:=true) (fun c54=>?_) (fun c54=>?_)
     ·exact B0 hS trivial (a:=.tup []) (objs:=[(.cells ((A9 q0).map .p)),.cells [.p (vSl 2 A0 q1)],.cells [pN q2],.yld [] false]) ⟨[],[(3,.yld [] false),(2,.cells [pN q2]),(1,.cells [.p (vSl 2 A0 q1)]),(0,.cells ((A9 q0).map .p))]⟩ [0,1,2,3] (ids:=[(0,0),(1,1),(2,2),(3,3)]) ⟨false,rfl,rfl,_,rfl⟩
     ·exact Bool.noConfusion ((rfl:true=true).symm.trans c54)
   ·exact c _ [(0,0),(1,1),(2,2),(3,3),(12000,12000),(12001,12001)] _ (wrap .i64 (x2+1)) L8 trivial h
 ·obtain rfl:=C9 h;exact B0 hS trivial (a:=.tup []) (objs:=[(.cells ((A9 q0).map .p)),.cells [.p (vSl 2 A0 q1)],.cells [pN q2],.yld [] true]) ⟨[],[(3,.yld [] true),(2,.cells [pN q2]),(1,.cells [.p (vSl 2 A0 q1)]),(0,.cells ((A9 q0).map .p))]⟩ [0,1,2,3] (ids:=[(0,0),(1,1),(2,2),(3,3)]) ⟨true,rfl,rfl,_,rfl⟩
def Fv (N:Nat)(b:Law)(c:Sl Sound)(a:Int):Option (Law×(Sl Sound)×Int):=
 some (b,c,a)
theorem MM {N:Nat}{b:Law}{c:Sl Sound}{a:Int}{y:Law×(Sl Sound)×Int}(h:Fv N b c a=some y) :FunO S MK [.p (.agg (A9 b)),.p (vSl 2 A0 c),pN a] [] (.clo Cy [] [.reg 0 0,.reg 1 0,.reg 2 0]) ([.cells ((A9 y.1).map .p),.cells [.p (vSl 2 A0 y.2.1)],.cells [pN y.2.2]]) []:=by unfold Fv at h;refine A5 hS Tryz.func170 ?_;obtain rfl:=C9 h;exact B0 hS trivial ⟨[(6,.clo Cy [] [.reg 4000 0,.reg 5000 0,.reg 6000 0])],[(6000,.cells [pN a]),(5000,.cells [.p (vSl 2 A0 c)]),(4000,.cells ((A9 b).map .p))]⟩ [4000,5000,6000] (ids:=[(4000,4000),(5000,5000),(6000,6000)]) ⟨rfl,rfl,rfl⟩
def Bf (N:Nat)(b:Law)(c:Sl Sound)(a:Int):Option Bool:=
 (Fv N b c a).bind fun y1=>
 (U4 N y1.1 y1.2.1 y1.2.2).bind fun L1=>
 Q4 L1 (fun d (x1:Int) (_:Unit)=>
  some (x1==a)
  ) (fun (_:Unit)=>
   some false
  ) ()
theorem Qp {N:Nat}{b:Law}{c:Sl Sound}{a:Int}{y:Bool}(h:Bf N b c a=some y) :FunO S Qb [.p (.agg (A9 b)),.p (vSl 2 A0 c),pN a] [] (pB y) ([]) []:=by
 unfold Bf at h;refine A5 hS Tryz.func173 ?_;refine kC hS h (MM hS hL) (fun y1 h=>?_);obtain⟨L1,e2,h⟩:=C6 h;refine Gm hS trivial [12000,12001,12002] [6,5] 901 (fun _=>⟨[(6,.reg 7000 0),(5,.reg 6000 0)],[(7000,.cells [.p (.v (.bool false))]),(6000,.cells [pN a])]⟩) (idl:=[(6000,6000),(7000,7000)]) h (IM hS hL e2) (fun _=>by kernel_rfl) (fun _=>by kernel_rfl) (fun _=>by kernel_rfl) (fun _=>by kernel_rfl) (fun x1 _ d _ f h=>?_) (fun _ h=>?_)
 ·refine JZ hS trivial ?_;refine Jn hS trivial ⟨[(6,.reg 7000 0),(5,.reg 6000 0)],[(7000,.cells [pB (x1==a)]),(6000,.cells [pN a])]⟩ (ids:=[(901,901),(6000,6000),(7000,7000)]) ?_;cases h;exact kR hS
 ·cases h;exact kR hS
def AJ (N:Nat)(q0:Sl Sound)(q1:Law)(q2:Int)(q3:Int):Option (List (Int×(Sl Sound))):=
 if (q1.Mode==1) then
  (Fv N q1 q0 0).bind fun y1=>
  (U4 N y1.1 y1.2.1 y1.2.2).bind fun L1=>
  Q4 L1 (fun b (x1:Int) (z1:(Sl Sound)×Int×Int)=>
   if (decide (x1<z1.2.1)) then
    b (z1.1,z1.2.1,z1.2.2)
   else
    if (((0:Int)<=(wrap .i64 (x1+z1.2.2))/\(wrap .i64 (x1+z1.2.2))<=(z1.1.n:Int))/\((0:Int)<=x1/\x1<=(wrap .i64 (x1+q2))/\(wrap .i64 (x1+q2))<=(q0.n:Int)))then
     (K6 N q1 (q0.sub x1.toNat (wrap .i64 (x1+q2)).toNat)).bind fun y6=>
     if ((0:Int)<=(wrap .i64 (x1+q2))/\(wrap .i64 (x1+q2))<=(q0.n:Int))then
      (A7 N (Sl.of [z1.1.take (wrap .i64 (x1+z1.2.2)).toNat,y6,q0.drop (wrap .i64 (x1+q2)).toNat]:Sl (Sl Sound))).bind fun y7=>
      Bm (x1,y7) (
       b (y7,wrap .i64 (x1+(if q2<1 then 1 else q2)),wrap .i64 ((wrap .i64 (z1.2.2+q3))-q2))
       )
     else none
    else none
   ) (fun (z1:(Sl Sound)×Int×Int)=>
    some []
   ) (q0,0,0)
 else
  if (q1.Mode==2) then
   S5 N (fun a (x5:Sl Sound) (x6:Int)=>
    if (decide ((wrap .i64 (x6+q2))<=(x5.n:Int))) then
     (Bf N q1 x5 x6).bind fun g=>
     if (!g) then
      a x5 (wrap .i64 (x6+1))
     else
      (O8 N q1 x5 x6).bind fun d=>
      Bm (x6,d) (
       if (q2==0) then
        a d (wrap .i64 ((wrap .i64 (x6+q3))+1))
       else
        a d (wrap .i64 (x6+q3))
       )
    else
     some []
    ) q0 0
  else
   if (q1.Mode==3) then
    S5 N (fun c (x7:Sl Sound) (x8:Int)=>
     if (decide (0<=x8)) then
      (Bf N q1 x7 x8).bind fun i=>
      if (!i) then
       c x7 (wrap .i64 (x8-1))
      else
       (O8 N q1 x7 x8).bind fun f=>
       Bm (x8,f) (
        c f (wrap .i64 (x8-(if q2<1 then 1 else q2)))
        )
     else
      some []
     ) q0 (wrap .i64 ((q0.n:Int)-q2))
   else
    some []
theorem So {N:Nat}{q0:Sl Sound}{q1:Law}{q2:Int}{q3:Int}{L:List (Int×(Sl Sound))}(h:AJ N q0 q1 q2 q3=some L) :Gh S DN [] [.reg 0 0,.reg 1 0,.reg 2 0,.reg 3 0] [.cells [.p (vSl 2 A0 q0)],.cells ((A9 q1).map .p),.cells [pN q2],.cells [pN q3]] (L.map (fun (x:Int×(Sl Sound))=>[pI .i64 x.1,vSl 2 A0 x.2])):=by
 unfold AJ at h;refine GT hS Tryz.func169 ?_;refine kI hS h ?_ ?_<;>intro h
 ·refine kC hS h (MM hS hL) (fun y1 h=>?_);obtain⟨L1,e2,h⟩:=C6 h;refine Ze hS trivial [20000,20001,20002] [8,7,6,5,4,3,2,1] 900 (fun z1 L2=>⟨[(8,.reg 9000 0),(7,.reg 8000 0),(6,.reg 7000 0),(5,.reg 6000 0),(4,.reg 3 0),(3,.reg 2 0),(2,.reg 1 0),(1,.reg 0 0)],[(9000,.cells [pN z1.2.2]),(8000,.cells [pN z1.2.1]),(7000,.cells [.p (vSl 2 A0 z1.1)]),(6000,.cells [.yf 4]),(4,.yld (L2.map (fun (x:Int×(Sl Sound))=>[pI .i64 x.1,vSl 2 A0 x.2])) true),(3,.cells [pN q3]),(2,.cells [pN q2]),(1,.cells ((A9 q1).map .p)),(0,.cells [.p (vSl 2 A0 q0)])]⟩) (idl:=[(0,0),(1,1),(2,2),(3,3),(4,4),(6000,6000),(7000,7000),(8000,8000),(9000,9000)]) h (IM hS hL e2) (fun _=>by kernel_rfl) (fun _ _=>by kernel_rfl) (fun _ _=>by kernel_rfl) (fun _ _=>by kernel_rfl) (fun x1 _ s z1 L2 j h=>?_) (fun z1 L2 h=>?_)
  ·refine JZ hS trivial ?_;refine kI hS h ?_ ?_<;>intro h
   ·exact j _ [(0,0),(1,1),(2,2),(3,3),(4,4),(900,900),(6000,6000),(7000,7000),(8000,8000),(9000,9000)] _ (z1.1,z1.2.1,z1.2.2) L2 trivial h
   ·refine O5 hS trivial [(0,.l [7000]),(2,.l [9000]),(5,.l [1]),(6,.l [0]),(9,.l [2]),(12,.n),(13,.l [0]),(15,.l [2]),(20,.a [7000])] ?_;obtain⟨c13,h⟩:=H0 h;obtain⟨y6,e7,h⟩:=C6 h;refine AX c13 (Qo hS hL e7) ?_;obtain⟨c14,h⟩:=H0 h;refine BR c14 (x:=.sl true 1 3 (E6 [E5] [(0,cL 2 A0 (z1.1.take (wrap .i64 (x1+z1.2.2)).toNat)),(1,cL 2 A0 y6),(2,cL 2 A0 (q0.drop (wrap .i64 (x1+q2)).toNat))])) ?_;obtain⟨y7,e8,h⟩:=C6 h;refine PF [] trivial (FunO.le hS (args:=[.p (.sl true 1 3 (E6 [E5] [(0,cL 2 A0 (z1.1.take (wrap .i64 (x1+z1.2.2)).toNat)),(1,cL 2 A0 y6),(2,cL 2 A0 (q0.drop (wrap .i64 (x1+q2)).toNat))]))]) (by exact⟨Ab3 rfl (fun i t=>match i,t with|0,_=>rfl|1,_=>rfl|2,_=>rfl|_+3,t=>absurd t (by omega)),trivial⟩) (J8 hS hL e8)) ?_;refine P8 trivial ?_;obtain⟨L5,rfl,m⟩:=NK h;replace h:=m;refine DJ hS trivial (ys:=(fun (x:Int×(Sl Sound))=>[pI .i64 x.1,vSl 2 A0 x.2]) (x1,y7)) (rest:=L5.map (fun (x:Int×(Sl Sound))=>[pI .i64 x.1,vSl 2 A0 x.2])) ?_ ?_
    ·refine E7 hS trivial (b:=false) (fun c15=>?_) (fun c15=>?_)
     ·exact Bool.noConfusion ((rfl:false=false).symm.trans c15)
     ·refine O5 hS trivial [(1,.l [2]),(4,.l [9000]),(5,.l [3]),(7,.l [2]),(9,.a [8000]),(10,.a [9000])] ?_;refine P8 trivial ?_;exact j _ [(0,0),(1,1),(2,2),(3,3),(4,4),(900,900),(6000,6000),(7000,7000),(8000,8000),(9000,9000)] _ (y7,wrap .i64 (x1+(if q2<1 then 1 else q2)),wrap .i64 ((wrap .i64 (z1.2.2+q3))-q2)) L5 trivial h
    ·refine E7 hS trivial (b:=true) (fun c16=>?_) (fun c16=>?_)
     ·refine Jn hS trivial ⟨[(8,.reg 9000 0),(7,.reg 8000 0),(6,.reg 7000 0),(5,.reg 6000 0),(4,.reg 3 0),(3,.reg 2 0),(2,.reg 1 0),(1,.reg 0 0)],[(44000,.vec B5 2 y7.n (fun i=>A0 (y7.g i)) true),(9000,.cells [pN z1.2.2]),(8000,.cells [pN z1.2.1]),(7000,.cells [.vec 44000]),(6000,.cells [.yf 4]),(4,.yld [] false),(3,.cells [pN q3]),(2,.cells [pN q2]),(1,.cells ((A9 q1).map .p)),(0,.cells [.p (vSl 2 A0 q0)])]⟩ (ids:=[(0,0),(1,1),(2,2),(3,3),(4,4),(900,900),(6000,6000),(7000,7000),(8000,8000),(9000,9000),(44000,44000)]) ?_;exact B0 hS trivial (a:=.tup []) (objs:=[(.cells [.p (vSl 2 A0 q0)]),.cells ((A9 q1).map .p),.cells [pN q2],.cells [pN q3],.yld [] false]) ⟨[],[(4,.yld [] false),(3,.cells [pN q3]),(2,.cells [pN q2]),(1,.cells ((A9 q1).map .p)),(0,.cells [.p (vSl 2 A0 q0)])]⟩ [0,1,2,3,4] (ids:=[(0,0),(1,1),(2,2),(3,3),(4,4)]) ⟨false,rfl,rfl,_,rfl⟩
     ·exact Bool.noConfusion ((rfl:true=true).symm.trans c16)
  ·obtain rfl:=C9 h;exact B0 hS trivial (a:=.tup []) (objs:=[(.cells [.p (vSl 2 A0 q0)]),.cells ((A9 q1).map .p),.cells [pN q2],.cells [pN q3],.yld [] true]) ⟨[],[(4,.yld [] true),(3,.cells [pN q3]),(2,.cells [pN q2]),(1,.cells ((A9 q1).map .p)),(0,.cells [.p (vSl 2 A0 q0)])]⟩ [0,1,2,3,4] (ids:=[(0,0),(1,1),(2,2),(3,3),(4,4)]) ⟨true,rfl,rfl,_,rfl⟩
 ·refine kI hS h ?_ ?_<;>intro h
  ·refine NL hS trivial h (fun x5 x6 L6=>⟨[(10,pN x6),(6,.reg 7000 0),(5,.reg 6000 0),(4,.reg 3 0),(3,.reg 2 0),(2,.reg 1 0)],[(7000,.cells [.p (vSl 2 A0 x5)]),(6000,.cells [.yf 4]),(4,.yld (L6.map (fun (x:Int×(Sl Sound))=>[pI .i64 x.1,vSl 2 A0 x.2])) true),(3,.cells [pN q3]),(2,.cells [pN q2]),(1,.cells ((A9 q1).map .p)),(0,.cells [.p (vSl 2 A0 q0)])]⟩) (ids:=[(0,0),(1,1),(2,2),(3,3),(4,4),(6000,6000),(7000,7000)]) (fun _ _ _ _ _ u x5 x6 L6 c h=>?_);refine kI hS h ?_ ?_<;>intro h
   ·refine kC hS h (Qp hS hL) (fun w h=>?_);refine kI hS h ?_ ?_<;>intro h
    ·exact c _ [(0,0),(1,1),(2,2),(3,3),(4,4),(6000,6000),(7000,7000)] _ x5 (wrap .i64 (x6+1)) L6 trivial h
    ·refine kC hS h (Hq hS hL) (fun d h=>?_);obtain⟨L9,rfl,o⟩:=NK h;replace h:=o;refine DJ hS trivial (ys:=(fun (x:Int×(Sl Sound))=>[pI .i64 x.1,vSl 2 A0 x.2]) (x6,d)) (rest:=L9.map (fun (x:Int×(Sl Sound))=>[pI .i64 x.1,vSl 2 A0 x.2])) ?_ ?_
     ·refine E7 hS trivial (b:=false) (fun c30=>?_) (fun c30=>?_)
      ·exact Bool.noConfusion ((rfl:false=false).symm.trans c30)
      ·refine kI hS h ?_ ?_<;>intro h
       ·exact c _ [(0,0),(1,1),(2,2),(3,3),(4,4),(6000,6000),(7000,7000)] _ d (wrap .i64 ((wrap .i64 (x6+q3))+1)) L9 trivial h
       ·exact c _ [(0,0),(1,1),(2,2),(3,3),(4,4),(6000,6000),(7000,7000)] _ d (wrap .i64 (x6+q3)) L9 trivial h
     ·refine E7 hS trivial (b:=true) (fun c32=>?_) (fun c32=>?_)
      ·exact B0 hS trivial (a:=.tup []) (objs:=[(.cells [.p (vSl 2 A0 q0)]),.cells ((A9 q1).map .p),.cells [pN q2],.cells [pN q3],.yld [] false]) ⟨[],[(4,.yld [] false),(3,.cells [pN q3]),(2,.cells [pN q2]),(1,.cells ((A9 q1).map .p)),(0,.cells [.p (vSl 2 A0 q0)])]⟩ [0,1,2,3,4] (ids:=[(0,0),(1,1),(2,2),(3,3),(4,4)]) ⟨false,rfl,rfl,_,rfl⟩
      ·exact Bool.noConfusion ((rfl:true=true).symm.trans c32)
   ·obtain rfl:=C9 h;exact B0 hS trivial (a:=.tup []) (objs:=[(.cells [.p (vSl 2 A0 q0)]),.cells ((A9 q1).map .p),.cells [pN q2],.cells [pN q3],.yld [] true]) ⟨[],[(4,.yld [] true),(3,.cells [pN q3]),(2,.cells [pN q2]),(1,.cells ((A9 q1).map .p)),(0,.cells [.p (vSl 2 A0 q0)])]⟩ [0,1,2,3,4] (ids:=[(0,0),(1,1),(2,2),(3,3),(4,4)]) ⟨true,rfl,rfl,_,rfl⟩
  ·refine kI hS h ?_ ?_<;>intro h
   ·refine NL hS trivial h (fun x7 x8 L10=>⟨[(11,pN x8),(6,.reg 7000 0),(5,.reg 6000 0),(3,.reg 2 0),(2,.reg 1 0)],[(7000,.cells [.p (vSl 2 A0 x7)]),(6000,.cells [.yf 4]),(4,.yld (L10.map (fun (x:Int×(Sl Sound))=>[pI .i64 x.1,vSl 2 A0 x.2])) true),(3,.cells [pN q3]),(2,.cells [pN q2]),(1,.cells ((A9 q1).map .p)),(0,.cells [.p (vSl 2 A0 q0)])]⟩) (ids:=[(0,0),(1,1),(2,2),(3,3),(4,4),(6000,6000),(7000,7000)]) (fun _ _ _ _ _ v x7 x8 L10 q h=>?_);refine kI hS h ?_ ?_<;>intro h
    ·refine kC hS h (Qp hS hL) (fun y h=>?_);refine kI hS h ?_ ?_<;>intro h
     ·exact q _ [(0,0),(1,1),(2,2),(3,3),(4,4),(6000,6000),(7000,7000)] _ x7 (wrap .i64 (x8-1)) L10 trivial h
     ·refine kC hS h (Hq hS hL) (fun r h=>?_);obtain⟨L13,rfl,f⟩:=NK h;replace h:=f;refine DJ hS trivial (ys:=(fun (x:Int×(Sl Sound))=>[pI .i64 x.1,vSl 2 A0 x.2]) (x8,r)) (rest:=L13.map (fun (x:Int×(Sl Sound))=>[pI .i64 x.1,vSl 2 A0 x.2])) ?_ ?_
      ·refine E7 hS trivial (b:=false) (fun c44=>?_) (fun c44=>?_)
       ·exact Bool.noConfusion ((rfl:false=false).symm.trans c44)
       ·exact q _ [(0,0),(1,1),(2,2),(3,3),(4,4),(6000,6000),(7000,7000)] _ r (wrap .i64 (x8-(if q2<1 then 1 else q2))) L13 trivial h
      ·refine E7 hS trivial (b:=true) (fun c45=>?_) (fun c45=>?_)
       ·exact B0 hS trivial (a:=.tup []) (objs:=[(.cells [.p (vSl 2 A0 q0)]),.cells ((A9 q1).map .p),.cells [pN q2],.cells [pN q3],.yld [] false]) ⟨[],[(4,.yld [] false),(3,.cells [pN q3]),(2,.cells [pN q2]),(1,.cells ((A9 q1).map .p)),(0,.cells [.p (vSl 2 A0 q0)])]⟩ [0,1,2,3,4] (ids:=[(0,0),(1,1),(2,2),(3,3),(4,4)]) ⟨false,rfl,rfl,_,rfl⟩
       ·exact Bool.noConfusion ((rfl:true=true).symm.trans c45)
    ·obtain rfl:=C9 h;exact B0 hS trivial (a:=.tup []) (objs:=[(.cells [.p (vSl 2 A0 q0)]),.cells ((A9 q1).map .p),.cells [pN q2],.cells [pN q3],.yld [] true]) ⟨[],[(4,.yld [] true),(3,.cells [pN q3]),(2,.cells [pN q2]),(1,.cells ((A9 q1).map .p)),(0,.cells [.p (vSl 2 A0 q0)])]⟩ [0,1,2,3,4] (ids:=[(0,0),(1,1),(2,2),(3,3),(4,4)]) ⟨true,rfl,rfl,_,rfl⟩
   ·obtain rfl:=C9 h;exact B0 hS trivial (a:=.tup []) (objs:=[(.cells [.p (vSl 2 A0 q0)]),.cells ((A9 q1).map .p),.cells [pN q2],.cells [pN q3],.yld [] true]) ⟨[],[(4,.yld [] true),(3,.cells [pN q3]),(2,.cells [pN q2]),(1,.cells ((A9 q1).map .p)),(0,.cells [.p (vSl 2 A0 q0)])]⟩ [0,1,2,3,4] (ids:=[(0,0),(1,1),(2,2),(3,3),(4,4)]) ⟨true,rfl,rfl,_,rfl⟩
def Hr (N:Nat)(a:Law)(b:Sl Sound):Option ((Sl Sound)×Law×Int×Int):=
 some (b,a,(a.If.n:Int),(a.Out.n:Int))
theorem WY {N:Nat}{b:Law}{c:Sl Sound}{y:(Sl Sound)×Law×Int×Int}(h:Hr N b c=some y) :FunO S PZ [.p (.agg (A9 b)),.p (vSl 2 A0 c)] [] (.clo DN [] [.reg 0 0,.reg 1 0,.reg 2 0,.reg 3 0]) ([.cells [.p (vSl 2 A0 y.1)],.cells ((A9 y.2.1).map .p),.cells [pN y.2.2.1],.cells [pN y.2.2.2]]) []:=by unfold Hr at h;refine A5 hS Tryz.func161 ?_;refine O5 hS trivial [(1,.l [3000]),(2,.n),(4,.l [3000]),(5,.n),(6,.a [6000]),(7,.a [7000]),(8,.a [6000]),(9,.a [7000])] ?_;refine P8 trivial ?_;obtain rfl:=C9 h;exact B0 hS trivial ⟨[(4,.clo DN [] [.reg 4000 0,.reg 3000 0,.reg 6000 0,.reg 7000 0])],[(7000,.cells [pN (b.Out.n:Int)]),(6000,.cells [pN (b.If.n:Int)]),(4000,.cells [.p (vSl 2 A0 c)]),(3000,.cells ((A9 b).map .p))]⟩ [4000,3000,6000,7000] (ids:=[(3000,3000),(4000,4000),(6000,6000),(7000,7000)]) ⟨rfl,rfl,rfl⟩
def Cf (N:Nat)(b:Law)(c:Sl Sound):Option ((Sl Int)×(Sl (Sl Sound))×Int):=
 (DU N b c).bind fun y1=>
 if (y1 != 0) then
  some ((Sl.nil:Sl Int),(Sl.nil:Sl (Sl Sound)),y1)
 else
  (Hr N b c).bind fun y2=>
  (AJ N y2.1 y2.2.1 y2.2.2.1 y2.2.2.2).bind fun L1=>
  Q4 L1 (fun a (x1:Int×(Sl Sound)) (z1:(Sl Int)×(Sl (Sl Sound)))=>
   if (decide (32<(x1.2.n:Int))) then
    some ((Sl.nil:Sl Int),(Sl.nil:Sl (Sl Sound)),11)
   else
    if ((z1.1.n+(Sl.of [x1.1]:Sl Int).n)*8<=140737488355328/\z1.1.n+(Sl.of [x1.1]:Sl Int).n<=140737488355328)then
     if ((z1.2.n+(Sl.of [x1.2]:Sl (Sl Sound)).n)*24<=140737488355328/\z1.2.n+(Sl.of [x1.2]:Sl (Sl Sound)).n<=140737488355328)then
      a (z1.1.push x1.1,z1.2.push x1.2)
     else none
    else none
   ) (fun (z1:(Sl Int)×(Sl (Sl Sound)))=>
    some (z1.1,z1.2,0)
   ) ((Sl.nil:Sl Int),(Sl.nil:Sl (Sl Sound)))
theorem Sp {N:Nat}{b:Law}{d:Sl Sound}{y:(Sl Int)×(Sl (Sl Sound))×Int}(h:Cf N b d=some y) :FunO S Ku [.p (.agg (A9 b)),.p (vSl 2 A0 d)] [] (.tup [.vec 0,.vec 1,pN y.2.2]) ([.vec D5 1 y.1.n (fun i=>cI .i64 (y.1.g i)) true,.vec B3 1 y.2.1.n (fun i=>cL 2 A0 (y.2.1.g i)) true]) []:=by
 unfold Cf at h;refine A5 hS Tryz.func152 ?_;refine K9 hS trivial 4 3000 (A9 b) ?_;obtain⟨y1,e1,h⟩:=C6 h;refine C7 hS [] (by decide:(18:Nat)<=18) (Sn hS hL e1) ?_;refine kI hS h ?_ ?_<;>intro h
 ·obtain rfl:=C9 h;exact B0 hS trivial ⟨[(6,.reg 7000 0),(5,.reg 6000 0),(4,.reg 5000 0)],[(7000,.cells [pN y1]),(6701,.vec B3 1 (Sl.nil:Sl (Sl Sound)).n (fun i=>cL 2 A0 ((Sl.nil:Sl (Sl Sound)).g i)) true),(6000,.cells [.vec 6701]),(5700,.vec D5 1 (Sl.nil:Sl Int).n (fun i=>cI .i64 ((Sl.nil:Sl Int).g i)) true),(5000,.cells [.vec 5700])]⟩ [5700,6701] (ids:=[(5000,5000),(6000,6000),(7000,7000)]) ⟨rfl,rfl,rfl⟩
 ·obtain⟨y2,e2,h⟩:=C6 h;refine C7 hS [] (by decide:(18:Nat)<=18) (WY hS hL e2) ?_;obtain⟨L1,e3,h⟩:=C6 h;refine Gm hS trivial [21000,21001,21002,21003] [9,8,6,5,4] 901 (fun z1=>⟨[(9,.reg 10000 0),(8,.reg 9000 0),(6,.reg 7000 0),(5,.reg 6000 0),(4,.reg 5000 0)],[(10500,.vec B3 1 z1.2.n (fun i=>cL 2 A0 (z1.2.g i)) false),(10000,.cells [.vec 10500]),(9500,.vec D5 1 z1.1.n (fun i=>cI .i64 (z1.1.g i)) false),(9000,.cells [.vec 9500]),(7000,.cells [pN 0]),(6000,.cells [.p E5]),(5000,.cells [.p E5])]⟩) (idl:=[(5000,5000),(6000,6000),(7000,7000),(9000,9000),(10000,10000)]) h (So hS hL e3) (fun _=>by kernel_rfl) (fun _=>by kernel_rfl) (fun _=>by kernel_rfl) (fun _=>by kernel_rfl) (fun x1 _ f z1 j h=>?_) (fun z1 h=>?_)
  ·refine JZ hS trivial ?_;refine kI hS h ?_ ?_<;>intro h
   ·refine Jn hS trivial ⟨[(9,.reg 10000 0),(8,.reg 9000 0),(6,.reg 7000 0),(5,.reg 6000 0),(4,.reg 5000 0)],[(10500,.vec B3 1 z1.2.n (fun i=>cL 2 A0 (z1.2.g i)) false),(10000,.cells [.vec 10500]),(9500,.vec D5 1 z1.1.n (fun i=>cI .i64 (z1.1.g i)) false),(9000,.cells [.vec 9500]),(7000,.cells [pN 11]),(6000,.cells [.p E5]),(5000,.cells [.p E5])]⟩ (ids:=[(901,901),(5000,5000),(6000,6000),(7000,7000),(9000,9000),(9500,9500),(10000,10000),(10500,10500)]) ?_;obtain rfl:=C9 h;exact B0 hS trivial ⟨[(6,.reg 7000 0),(5,.reg 6000 0),(4,.reg 5000 0)],[(7000,.cells [pN 11]),(6701,.vec B3 1 (Sl.nil:Sl (Sl Sound)).n (fun i=>cL 2 A0 ((Sl.nil:Sl (Sl Sound)).g i)) true),(6000,.cells [.vec 6701]),(5700,.vec D5 1 (Sl.nil:Sl Int).n (fun i=>cI .i64 ((Sl.nil:Sl Int).g i)) true),(5000,.cells [.vec 5700])]⟩ [5700,6701] (ids:=[(5000,5000),(6000,6000),(7000,7000)]) ⟨rfl,rfl,rfl⟩
   ·refine O5 hS trivial [(0,.l [9000]),(3,.a [30000,9500]),(4,.l [10000]),(7,.a [34000,10500]),(8,.a [9000]),(9,.a [10000])] ?_;refine BR trivial (x:=.sl true 1 1 (E6 [pI .i64 0] [(0,cI .i64 x1.1)])) ?_;obtain⟨c9,h⟩:=H0 h;refine BR c9 (x:=.sl true 1 1 (E6 [E5] [(0,cL 2 A0 x1.2)])) ?_;obtain⟨c10,h⟩:=H0 h;refine P8 c10 ?_;exact j _ [(901,901),(5000,5000),(6000,6000),(7000,7000),(9000,9000),(9500,30000),(10000,10000),(10500,34000)] _ (z1.1.push x1.1,z1.2.push x1.2) trivial h (hle:=klR [(0,.fn (z1.2.n+1) (z1.2.push x1.2).n (Ab z1.2.n (fun i=>cL 2 A0 (z1.2.g i)) (E6 [E5] [(0,cL 2 A0 x1.2)])) (fun i=>cL 2 A0 ((z1.2.push x1.2).g i))),(1,.fn (z1.1.n+1) (z1.1.push x1.1).n (Ab z1.1.n (fun i=>cI .i64 (z1.1.g i)) (E6 [pI .i64 0] [(0,cI .i64 x1.1)])) (fun i=>cI .i64 ((z1.1.push x1.1).g i)))] (al1 ⟨rfl,JV (c:=cL 2 A0) (v:=z1.2) (x:=x1.2) (z:=[E5]) same rfl rfl⟩ (al1 ⟨rfl,JV (c:=cI .i64) (v:=z1.1) (x:=x1.1) (z:=[(pI .i64 0)]) same rfl rfl⟩ al0)))
  ·refine O5 hS trivial [(0,.l [9000]),(1,.l [10000]),(2,.a [5000]),(3,.a [6000]),(4,.a [7000])] ?_;refine P8 trivial ?_;obtain rfl:=C9 h;exact B0 hS trivial ⟨[(6,.reg 7000 0),(5,.reg 6000 0),(4,.reg 5000 0)],[(10500,.vec B3 1 z1.2.n (fun i=>cL 2 A0 (z1.2.g i)) true),(9500,.vec D5 1 z1.1.n (fun i=>cI .i64 (z1.1.g i)) true),(7000,.cells [pN 0]),(6000,.cells [.vec 10500]),(5000,.cells [.vec 9500])]⟩ [9500,10500] (ids:=[(5000,5000),(6000,6000),(7000,7000),(9500,9500),(10500,10500)]) ⟨rfl,rfl,rfl⟩
def P1 (N:Nat)(b:Law)(a:Sl Sound):Option ((Sl Sound)×Int):=
 (Cf N b a).bind fun y1=>
 if (y1.2.2 != 0) then
  some ((Sl.nil:Sl Sound),y1.2.2)
 else
  if (decide (0<(y1.2.1.n:Int))) then
   if (((0:Int)<=(wrap .i64 ((y1.2.1.n:Int)-1))/\(wrap .i64 ((y1.2.1.n:Int)-1))<(y1.2.1.n:Int))/\(wrap .i64 ((y1.2.1.n:Int)-1)).toNat<y1.2.1.n)then
    some (y1.2.1.g (wrap .i64 ((y1.2.1.n:Int)-1)).toNat,0)
   else none
  else
   (A4 N a).bind fun y2=>
   some (y2,0)
theorem Sq {N:Nat}{a:Law}{b:Sl Sound}{y:(Sl Sound)×Int}(h:P1 N a b=some y) :FunO S Kt [.p (.agg (A9 a)),.p (vSl 2 A0 b)] [] (.tup [.p (vSl 2 A0 y.1),pN y.2]) ([]) []:=by
 unfold P1 at h;refine A5 hS Tryz.func145 ?_;refine kC hS h (Sp hS hL) (fun y1 h=>?_);refine kI hS h ?_ ?_<;>intro h
 ·obtain rfl:=C9 h;exact B0 hS trivial ⟨[(5,pN y1.2.2),(4,.p (vSl 2 A0 (Sl.nil:Sl Sound)))],[]⟩ [] (ids:=[]) ⟨rfl,rfl,rfl⟩
 ·refine kI hS h ?_ ?_<;>intro h
  ·obtain⟨c3,h⟩:=H0 h;obtain rfl:=C9 h;exact Zd hS c3 [] ⟨rfl,rfl,rfl⟩
  ·refine kC hS h (G2 hS hL) (fun y2 h=>?_);obtain rfl:=C9 h;exact B0 hS trivial ⟨[(5,pN 0),(4,.p (vSl 2 A0 y2))],[]⟩ [] (ids:=[]) ⟨rfl,rfl,rfl⟩
end Go.AM
namespace Go.AM
open IntKind (wrap)
open Go.Proofs
set_option maxRecDepth 10000
set_option maxHeartbeats 2000000
variable {S:X6}(hS:G5 S Tryz.prog) (hL:LL S)
include hS hL
def O1 (N:Nat)(a:Law):Option Bool:=
 (Q8 N a).bind fun y1=>
 some (y1 != 0)
theorem Jc {N:Nat}{a:Law}{y:Bool}(h:O1 N a=some y) :FunO S Er [.p (.agg (A9 a))] [] (pB y) ([]) []:=by unfold O1 at h;refine A5 hS Tryz.func127 ?_;refine kC hS h (DT hS hL) (fun y1 h=>?_);cases h;exact kR hS
def E2 (N:Nat)(a:Sl Law)(c:Law->Option Bool):Option Int:=
 S8 N (fun b (x1:Int)=>
  if (decide (x1<(a.n:Int))) then
   if ((0:Int)<=x1/\x1<(a.n:Int))then
    (c (a.g x1.toNat)).bind fun y3=>
    if y3 then
     some x1
    else
     b (wrap .i64 (x1+1))
   else none
  else
   some (-1)
  ) 0
theorem X5 {N:Nat}{a:Sl Law}{c:Law->Option Bool}{kp_f:Nat}(d:∀{a0:Law}{b:Bool},c a0=some b->FunO S kp_f [.p (.agg (A9 a0))] [] (pB b) [] []){y:Int}(h:E2 N a c=some y) :FunO S K5 [.p (vSl 18 A9 a),.clo kp_f [] []] [] (pN y) ([]) []:=by
 unfold E2 at h;refine A5 hS Tryz.func143 ?_;refine Al hS trivial h (fun x1=>⟨[(8,pN x1),(7,pN (a.n:Int)),(1,.clo kp_f [] []),(0,.p (vSl 18 A9 a))],[]⟩) (ids:=[]) (fun _ _ _ _ _ f x1 g h=>?_);refine kI hS h ?_ ?_<;>intro h
 ·obtain⟨c8,h⟩:=H0 h;obtain⟨y3,e3,h⟩:=C6 h;refine C7 hS [] (And.intro c8 (by decide:(18:Nat)<=18)) (d e3) ?_;refine kI hS h ?_ ?_<;>intro h
  ·cases h;exact kR hS
  ·exact g _ [] _ (wrap .i64 (x1+1)) trivial h
 ·cases h;exact kR hS
def B9 (N:Nat)(a:Sl Law)(b:Law->Option Bool):Option Bool:=
 (E2 N a b).bind fun y1=>
 some (decide (0<=y1))
theorem T2 {N:Nat}{a:Sl Law}{c:Law->Option Bool}{kp_f:Nat}(d:∀{a0:Law}{b:Bool},c a0=some b->FunO S kp_f [.p (.agg (A9 a0))] [] (pB b) [] []){y:Bool}(h:B9 N a c=some y) :FunO S I7 [.p (vSl 18 A9 a),.clo kp_f [] []] [] (pB y) ([]) []:=by unfold B9 at h;refine A5 hS Tryz.func126 ?_;refine kC hS h (X5 hS hL (fun e=>d e)) (fun y1 h=>?_);cases h;exact kR hS
def S0 (N:Nat)(a:Sl Law):Option Int:=
 if (decide (64<(a.n:Int))) then
  some 12
 else
  (B9 N a (fun (u1:Law)=>O1 N u1)).bind fun y1=>
  if y1 then
   some 17
  else
   some 0
theorem LU {N:Nat}{a:Sl Law}{y:Int}(h:S0 N a=some y) :FunO S FQ [.p (vSl 18 A9 a)] [] (pN y) ([]) []:=by
 unfold S0 at h;refine A5 hS Tryz.func108 ?_;refine kI hS h ?_ ?_<;>intro h
 ·cases h;exact kR hS
 ·refine kC hS h (T2 hS hL (fun e=>Jc hS hL e)) (fun y1 h=>?_);refine kI hS h ?_ ?_<;>intro h
  ·cases h;exact kR hS
  ·cases h;exact kR hS
def Z1 (N:Nat)(b:Sl Law)(a:Sl (Sl Sound)):Option Int:=
 (S0 N b).bind fun y1=>
 if (y1 != 0) then
  some y1
 else
  if (decide (256<(a.n:Int))) then
   some 12
  else
   S8 N (fun c (x1:Int)=>
    if (decide (x1<(a.n:Int))) then
     if ((0:Int)<=x1/\x1<(a.n:Int))then
      (J0 N (a.g x1.toNat)).bind fun y4=>
      if (y4 != 0) then
       some y4
      else
       c (wrap .i64 (x1+1))
     else none
    else
     some 0
    ) 0
theorem LW {N:Nat}{b:Sl Law}{a:Sl (Sl Sound)}{y:Int}(h:Z1 N b a=some y) :FunO S FP [.p (vSl 18 A9 b),.p (vSl 1 (cL 2 A0) a)] [] (pN y) ([]) []:=by
 unfold Z1 at h;refine A5 hS Tryz.func81 ?_;refine kC hS h (LU hS hL) (fun y1 h=>?_);refine kI hS h ?_ ?_<;>intro h
 ·cases h;exact kR hS
 ·refine kI hS h ?_ ?_<;>intro h
  ·cases h;exact kR hS
  ·refine Al hS trivial h (fun x1=>⟨[(19,pN x1),(18,pN (a.n:Int)),(17,.p (vSl 1 (cL 2 A0) a))],[]⟩) (ids:=[]) (fun _ _ _ _ _ c x1 d h=>?_);refine kI hS h ?_ ?_<;>intro h
   ·obtain⟨c10,h⟩:=H0 h;obtain⟨y4,e4,h⟩:=C6 h;refine C7 hS [] c10 (CB hS hL e4) ?_;refine kI hS h ?_ ?_<;>intro h
    ·cases h;exact kR hS
    ·exact d _ [] _ (wrap .i64 (x1+1)) trivial h
   ·cases h;exact kR hS
end Go.AM
namespace Go.AM
open IntKind (wrap)
open Go.Proofs
set_option maxRecDepth 10000
set_option maxHeartbeats 2000000
variable {S:X6}(hS:G5 S Tryz.prog) (hL:LL S)
include hS hL
def Zt (c:Int):Option PV:=if c=0 then none else some (.iface 149 (pI .i64 c))
def Z4 (N:Nat)(c:Int)(q0:Sl Sound)(q1:Sl Law):Option (List (Int×(Sl Sound))):=
 (A4 N q0).bind fun y1=>
 Bm (0,y1) (
  S5 N (fun a (x1:Sl Sound) (x2:Int)=>
   if (decide (x2<(q1.n:Int))) then
    if ((0:Int)<=x2/\x2<(q1.n:Int))then
     (P1 N (q1.g x2.toNat) x1).bind fun y4=>
     if (y4.2 != 0) then
      if y4.2=c then some []else none
     else
      Bm (wrap .i64 (x2+1),y4.1) (
       a y4.1 (wrap .i64 (x2+1))
       )
    else none
   else
    if c=0 then some []else none
   ) y1 0
  )
theorem Et {N:Nat}{q0:Sl Sound}{q1:Sl Law}{c:Int}{L:List (Int×(Sl Sound))}(h:Z4 N c q0 q1=some L) :Kb S N9 [] [.reg 0 0,.reg 1 0] [.cells [.p (vSl 2 A0 q0)],.cells [.p (vSl 18 A9 q1)]] (L.map (fun (x:Int×(Sl Sound))=>[pI .i64 x.1,vSl 2 A0 x.2])) (Zt c):=by
 unfold Z4 at h;refine WJ hS Tryz.func144 ?_;refine kC hS h (G2 hS hL) (fun y1 h=>?_);obtain⟨L1,rfl,d⟩:=NK h;replace h:=d;refine DJ hS trivial (ys:=(fun (x:Int×(Sl Sound))=>[pI .i64 x.1,vSl 2 A0 x.2]) (0,y1)) (rest:=L1.map (fun (x:Int×(Sl Sound))=>[pI .i64 x.1,vSl 2 A0 x.2])) ?_ ?_
 ·refine E7 hS trivial (b:=false) (fun c1=>?_) (fun c1=>?_)
  ·exact Bool.noConfusion ((rfl:false=false).symm.trans c1)
  ·refine NL hS trivial h (fun x1 x2 L2=>⟨[(17,pN x2),(16,pN (q1.n:Int)),(15,.p (vSl 18 A9 q1)),(4,.p (vSl 2 A0 x1)),(0,.yf 2)],[(2,.yld (L2.map (fun (x:Int×(Sl Sound))=>[pI .i64 x.1,vSl 2 A0 x.2])) true),(1,.cells [.p (vSl 18 A9 q1)]),(0,.cells [.p (vSl 2 A0 q0)])]⟩) (ids:=[(0,0),(1,1),(2,2)]) (fun _ _ _ _ _ g x1 x2 L2 i h=>?_);refine kI hS h ?_ ?_<;>intro h
   ·obtain⟨c13,h⟩:=H0 h;obtain⟨y4,e4,h⟩:=C6 h;refine C7 hS [] (And.intro c13 (by decide:(18:Nat)<=18)) (Sq hS hL e4) ?_;refine E7 hS trivial (b:=y4.2 != 0) (fun c14=>?_) (fun c14=>?_)
    ·replace h:=itT c14 h;obtain⟨c0,h⟩:=H0 h;obtain rfl:=C9 h;have j:Zt c=some (.iface 149 (pI .i64 y4.2)):=by
      have:¬y4.2=0:=by simpa using c14
      rw[<- c0];simp[Zt,this]
     refine Aj6 hS trivial (x:=.iface 149 (pI .i64 y4.2)) ?_;exact Ac7 hS trivial (x:=.iface 149 (pI .i64 y4.2)) (objs:=[(.cells [.p (vSl 2 A0 q0)]),.cells [.p (vSl 18 A9 q1)],.yld [] true]) [0,1,2] ⟨true,rfl,rfl,fun _=>by rw[j];rfl,fun e=>nomatch e⟩
    ·replace h:=itF c14 h;obtain⟨L5,rfl,f⟩:=NK h;replace h:=f;refine DJ hS trivial (ys:=(fun (x:Int×(Sl Sound))=>[pI .i64 x.1,vSl 2 A0 x.2]) (wrap .i64 (x2+1),y4.1)) (rest:=L5.map (fun (x:Int×(Sl Sound))=>[pI .i64 x.1,vSl 2 A0 x.2])) ?_ ?_
     ·refine E7 hS trivial (b:=false) (fun c15=>?_) (fun c15=>?_)
      ·exact Bool.noConfusion ((rfl:false=false).symm.trans c15)
      ·exact i _ [(0,0),(1,1),(2,2)] _ y4.1 (wrap .i64 (x2+1)) L5 trivial h
     ·refine E7 hS trivial (b:=true) (fun c16=>?_) (fun c16=>?_)
      ·exact B0 hS trivial (a:=.tup []) (objs:=[(.cells [.p (vSl 2 A0 q0)]),.cells [.p (vSl 18 A9 q1)],.yld [] false]) ⟨[],[(2,.yld [] false),(1,.cells [.p (vSl 18 A9 q1)]),(0,.cells [.p (vSl 2 A0 q0)])]⟩ [0,1,2] (ids:=[(0,0),(1,1),(2,2)]) ⟨false,rfl,rfl,fun e=>(nomatch e),fun _=>⟨_,rfl⟩⟩
      ·exact Bool.noConfusion ((rfl:true=true).symm.trans c16)
   ·obtain⟨c0,h⟩:=H0 h;obtain rfl:=C9 h;exact B0 hS trivial (a:=.tup []) (objs:=[(.cells [.p (vSl 2 A0 q0)]),.cells [.p (vSl 18 A9 q1)],.yld [] true]) ⟨[],[(2,.yld [] true),(1,.cells [.p (vSl 18 A9 q1)]),(0,.cells [.p (vSl 2 A0 q0)])]⟩ [0,1,2] (ids:=[(0,0),(1,1),(2,2)]) ⟨true,rfl,rfl,fun _=>by subst c0;exact⟨_,rfl⟩,fun e=>(nomatch e)⟩
 ·refine E7 hS trivial (b:=true) (fun c17=>?_) (fun c17=>?_)
  ·exact B0 hS trivial (a:=.tup []) (objs:=[(.cells [.p (vSl 2 A0 q0)]),.cells [.p (vSl 18 A9 q1)],.yld [] false]) ⟨[],[(2,.yld [] false),(1,.cells [.p (vSl 18 A9 q1)]),(0,.cells [.p (vSl 2 A0 q0)])]⟩ [0,1,2] (ids:=[(0,0),(1,1),(2,2)]) ⟨false,rfl,rfl,fun e=>(nomatch e),fun _=>⟨_,rfl⟩⟩
  ·exact Bool.noConfusion ((rfl:true=true).symm.trans c17)
def AS (N:Nat)(a:Sl Law)(b:Sl Sound):Option ((Sl Sound)×(Sl Law)):=
 some (b,a)
theorem FX {N:Nat}{a:Sl Law}{b:Sl Sound}{y:(Sl Sound)×(Sl Law)}(h:AS N a b=some y) :FunO S FS [.p (vSl 18 A9 a),.p (vSl 2 A0 b)] [] (.clo N9 [] [.reg 0 0,.reg 1 0]) ([.cells [.p (vSl 2 A0 y.1)],.cells [.p (vSl 18 A9 y.2)]]) []:=by unfold AS at h;refine A5 hS Tryz.func128 ?_;obtain rfl:=C9 h;exact B0 hS trivial ⟨[(4,.clo N9 [] [.reg 4000 0,.reg 3000 0])],[(4000,.cells [.p (vSl 2 A0 b)]),(3000,.cells [.p (vSl 18 A9 a)])]⟩ [4000,3000] (ids:=[(3000,3000),(4000,4000)]) ⟨rfl,rfl,rfl⟩
def E3 (N:Nat)(c:Int)(a:Sl Law)(d:Sl Sound):Option (Sl Sound):=
 (AS N a d).bind fun y1=>
 (Z4 N c y1.1 y1.2).bind fun L1=>
 Q4 L1 (fun b (x1:Int×(Sl Sound)) (z1:Sl Sound)=>
  b x1.2
  ) (fun (z1:Sl Sound)=>
   some z1
  ) (Sl.nil:Sl Sound)
theorem Ia {N:Nat}{a:Sl Law}{b:Sl Sound}{y:Sl Sound}(h:E3 N 0 a b=some y) :FunO S G9 [.p (vSl 18 A9 a),.p (vSl 2 A0 b)] [] (.p (vSl 2 A0 y)) ([]) []:=by
 unfold E3 at h;refine A5 hS Tryz.func111 ?_;refine kC hS h (FX hS hL) (fun y1 h=>?_);obtain⟨L1,e2,h⟩:=C6 h;have f:Kb S N9 [] [.reg 0 0,.reg 1 0] [.cells [.p (vSl 2 A0 y1.1)],.cells [.p (vSl 18 A9 y1.2)]] (L1.map (fun (x:Int×(Sl Sound))=>[pI .i64 x.1,vSl 2 A0 x.2])) none:=Et hS hL e2;refine TI hS trivial [8000,8001] [4] 901 (fun z1=>⟨[(4,.reg 5000 0)],[(5000,.cells [.p (vSl 2 A0 z1)])]⟩) (idl:=[(5000,5000)]) h f (fun _=>by kernel_rfl) (fun _=>by kernel_rfl) (fun _=>by kernel_rfl) (fun _=>by kernel_rfl) (fun x1 _ c z1 d h=>?_) (fun z1 h=>?_)
 ·refine JZ hS trivial ?_;exact d _ [(901,901),(5000,5000)] _ x1.2 trivial h
 ·cases h;exact kR hS
theorem Ib {N:Nat}{c:Int}{a:Sl Law}{b:Sl Sound}{y:Sl Sound}(hc:c≠0)(h:E3 N c a b=some y) :S.F G9 [.p (vSl 18 A9 a),.p (vSl 2 A0 b)] [] fun res o k=>res=.panic (.iface 149 (pI .i64 c))/\o=[]/\k=[]:=by
 unfold E3 at h;refine Zn hS Tryz.func111 ?_;refine kC hS h (FX hS hL) (fun y1 h=>?_);obtain⟨L1,e2,h⟩:=C6 h;have g:Kb S N9 [] [.reg 0 0,.reg 1 0] [.cells [.p (vSl 2 A0 y1.1)],.cells [.p (vSl 18 A9 y1.2)]] (L1.map (fun (x:Int×(Sl Sound))=>[pI .i64 x.1,vSl 2 A0 x.2])) (some (.iface 149 (pI .i64 c))):=by
  have:=Et hS hL e2
  simpa[Zt,hc]using this
 refine TI hS trivial [8000,8001] [4] 901 (fun z1=>⟨[(4,.reg 5000 0)],[(5000,.cells [.p (vSl 2 A0 z1)])]⟩) (idl:=[(5000,5000)]) h g (fun _=>by kernel_rfl) (fun _=>by kernel_rfl) (fun _=>by kernel_rfl) (fun _=>by kernel_rfl) (fun x1 _ d z1 f h=>?_) (fun z1 h=>?_)
 ·refine JZ hS trivial ?_;exact f _ [(901,901),(5000,5000)] _ x1.2 trivial h
 ·exact Ac7 hS trivial (x:=.iface 149 (pI .i64 c)) (objs:=[]) [] ⟨rfl,rfl,rfl⟩
def J9 (N:Nat)(a:Sl Law)(b:Sl Sound):Option ((Sl Sound)×Bool):=
 match E3 N 0 a b with
 |some y=>some (y,true)
 |none=>(E3 N 11 a b).bind fun _=>some ((Sl.nil:Sl Sound),false)
theorem Jd {N:Nat}{b:Sl Law}{c:Sl Sound}{y:(Sl Sound)×Bool}(h:J9 N b c=some y) :FunO S Eo [.p (vSl 18 A9 b),.p (vSl 2 A0 c)] [] (.tup [.p (vSl 2 A0 y.1),pB y.2]) ([]) []:=by
 unfold J9 at h;refine A5 hS Tryz.func82 ?_;rcases e:E3 N 0 b c with _|z
 ·rw[e]at h;obtain⟨z,e1,h⟩:=C6 h;obtain rfl:=C9 h;refine C7 hS [7000,3000,4000,5000] trivial (hL.attP (Ib hS hL (by decide) e1)) ?_;refine O5 hS trivial [(0,.l [5000]),(1,.l [7000]),(3,.a [5000])] ?_;refine P8 trivial ?_;exact B0 hS trivial ⟨[(5,pB false),(4,.reg 5000 0)],[(5000,.cells [.p (vSl 2 A0 Sl.nil)])]⟩ [] (ids:=[(5000,5000)]) ⟨rfl,rfl,rfl⟩
 ·rw[e]at h;obtain rfl:=C9 h;refine C7 hS [7000,3000,4000,5000] trivial (hL.attR (Ia hS hL e)) ?_;refine O5 hS trivial [(0,.l [5000]),(1,.l [7000]),(3,.a [5000])] ?_;refine P8 trivial ?_;exact B0 hS trivial ⟨[(5,pB true),(4,.reg 5000 0)],[(5000,.cells [.p (vSl 2 A0 z)])]⟩ [] (ids:=[(5000,5000)]) ⟨rfl,rfl,rfl⟩
end Go.AM
namespace Go.AM
open Go.Proofs
set_option maxRecDepth 10000
set_option maxHeartbeats 2000000
variable {S:X6}(hS:G5 S Tryz.prog) (hL:LL S)
include hS hL
def J2 (N:Nat)(a:Sl Law)(b:Sl Sound):Option ((Sl Sound)×Int):=
 (Z1 N a (Sl.of [b]:Sl (Sl Sound))).bind fun y1=>
 if (y1 != 0) then
  some ((Sl.nil:Sl Sound),y1)
 else
  (J9 N a b).bind fun y2=>
  if (!y2.2) then
   some ((Sl.nil:Sl Sound),11)
  else
   some (y2.1,0)
theorem Fb {N:Nat}{a:Sl Law}{b:Sl Sound}{y:(Sl Sound)×Int}(h:J2 N a b=some y) :FunO S EN [.p (vSl 18 A9 a),.p (vSl 2 A0 b)] [] (.tup [.p (vSl 2 A0 y.1),pN y.2]) ([]) []:=by
 unfold J2 at h;refine A5 hS Tryz.func32 ?_;refine Cw hS (rfl:true=true) ⟨[(11,.vec 12000),(9,.p (vSl 18 A9 a)),(1,.p (vSl 2 A0 b)),(0,.p (vSl 18 A9 a))],[(12000,.vec B3 1 (Sl.of [b]:Sl (Sl Sound)).n (fun i=>cL 2 A0 ((Sl.of [b]:Sl (Sl Sound)).g i)) false)]⟩ (ids:=[(12000,12000)]) ?_ (hle:=klR [(3,.fn 1 (Sl.of [b]:Sl (Sl Sound)).n (E6 [E5] [(0,cL 2 A0 b)]) (fun i=>cL 2 A0 ((Sl.of [b]:Sl (Sl Sound)).g i)))] (al1 ⟨rfl,(fun i c=>match i,c with|0,_=>rfl|_+1,c=>absurd c (by omega))⟩ al0));refine kC hS h (LW hS hL) (fun y1 h=>?_);refine kI hS h ?_ ?_<;>intro h
 ·obtain rfl:=C9 h;exact B0 hS trivial ⟨[(5,pN y1),(4,.p (vSl 2 A0 (Sl.nil:Sl Sound)))],[]⟩ [] (ids:=[]) ⟨rfl,rfl,rfl⟩
 ·refine kC hS h (Jd hS hL) (fun y2 h=>?_);refine kI hS h ?_ ?_<;>intro h
  ·obtain rfl:=C9 h;exact B0 hS trivial ⟨[(5,pN 11),(4,.p (vSl 2 A0 (Sl.nil:Sl Sound)))],[]⟩ [] (ids:=[]) ⟨rfl,rfl,rfl⟩
  ·cases h;exact kR hS
end Go.AM
namespace Go.AM
open IntKind (wrap)
open Go.Proofs
set_option maxRecDepth 10000
set_option maxHeartbeats 2000000
variable {S:X6}(hS:G5 S Tryz.prog) (hL:LL S)
include hS hL
def Qq (N:Nat)(a:Int):Option Bool:=
 some (((((decide (97<=a))&&(decide (a<=122)))||((decide (65<=a))&&(decide (a<=90))))||((decide (48<=a))&&(decide (a<=57))))||(a==45))
def Fw (N:Nat)(a:Str):Option Bool:=
 S8 N (fun b (x1:Int)=>
  if (decide (x1<(a.length:Int))) then
   if ((0:Int)<=x1/\x1<(a.length:Int))then
    (Qq N (BO a x1)).bind fun y3=>
    if (!y3) then
     some false
    else
     b (wrap .i64 (x1+1))
   else none
  else
   some ((decide (1<=(a.length:Int)))&&(decide ((a.length:Int)<=24)))
  ) 0
def DW (N:Nat)(a:Sl F0):Option Int:=
 if ((decide ((a.n:Int)<1))=false->((decide (63<(a.n:Int)))=false->((0:Int)<=0/\0<(a.n:Int))))then
  if (((decide ((a.n:Int)<1))||(decide (63<(a.n:Int))))||((a.g 0).Parent != (-1))) then
   some 16
  else
   S8 N (fun b (x3:Int)=>
    if (decide (x3<(a.n:Int))) then
     lt (fun (z3:Bool)=>
      if z3 then
       some 16
      else
       S8 N (fun c (x7:Int)=>
        if (decide (x7<x3)) then
         if (((0:Int)<=x7/\x7<(a.n:Int))/\((0:Int)<=x3/\x3<(a.n:Int)))then
          if (((a.g x7.toNat).Name==(a.g x3.toNat).Name) != false) then
           some 16
          else
           c (wrap .i64 (x7+1))
         else none
        else
         b (wrap .i64 (x3+1))
        ) 0
      ) fun k3=>
      if (decide (0<x3)) then
       if ((0:Int)<=x3/\x3<(a.n:Int))then
        if (decide ((a.g x3.toNat).Parent<0)) then
         k3 true
        else
         if ((0:Int)<=x3/\x3<(a.n:Int))then
          if (decide (x3<=(a.g x3.toNat).Parent)) then
           k3 true
          else
           if ((0:Int)<=x3/\x3<(a.n:Int))then
            (Fw N (a.g x3.toNat).Name).bind fun d=>
            k3 (!d)
           else none
         else none
       else none
      else
       if ((0:Int)<=x3/\x3<(a.n:Int))then
        (Fw N (a.g x3.toNat).Name).bind fun f=>
        k3 (!f)
       else none
    else
     some 0
    ) 0
 else none
def Qr (rec:A6->Int->Option (Sl Int))(N:Nat)(b:A6)(a:Int):Option (Sl Int):=
 if (decide (a<0)) then
  some (Sl.nil:Sl Int)
 else
  if ((0:Int)<=a/\a<(b.Tree.n:Int))then
   (rec b (b.Tree.g a.toNat).Parent).bind fun y1=>
   if (((0:Int)<=a/\a<(b.On.n:Int))/\((y1.n+(b.On.g a.toNat).n)*8<=140737488355328/\y1.n+(b.On.g a.toNat).n<=140737488355328))then
    some (y1.app (b.On.g a.toNat))
   else none
  else none
def Vh:Nat->A6->Int->Option (Sl Int)
 |0=>fun _ _=>none
 |N+1=>Qr (Vh N) N
def DX (N:Nat)(a:Int):Option Bool:=
 some (((((decide (97<=a))&&(decide (a<=122)))||((decide (65<=a))&&(decide (a<=90))))||((decide (48<=a))&&(decide (a<=57))))||(a==45))
theorem Or {N:Nat}{b:Int}{y:Bool}(h:DX N b=some y) :FunO S He [.p (pI .u8 b)] [] (pB y) ([]) []:=by unfold DX at h;refine A5 hS Tryz.func125 ?_;refine kB hS (A8 hS) trivial trivial 23 (.o (.o (.o (.n (.a (decide (97<=b))) (.a (decide (b<=122)))) (.n (.a (decide (65<=b))) (.a (decide (b<=90))))) (.n (.a (decide (48<=b))) (.a (decide (b<=57))))) (.a (b==45))) ?_;cases h;exact kR hS
def Bg (N:Nat)(a:Str):Option Bool:=
 S8 N (fun b (x1:Int)=>
  if (decide (x1<(a.length:Int))) then
   if ((0:Int)<=x1/\x1<(a.length:Int))then
    (DX N (BO a x1)).bind fun y3=>
    if (!y3) then
     some false
    else
     b (wrap .i64 (x1+1))
   else none
  else
   some ((decide (0<(a.length:Int)))&&(decide ((a.length:Int)<=24)))
  ) 0
theorem Qs {N:Nat}{b:Str}{y:Bool}(h:Bg N b=some y) :FunO S II [.p (.str b)] [] (pB y) ([]) []:=by
 unfold Bg at h;refine A5 hS Tryz.func106 ?_;refine Al hS trivial h (fun x1=>⟨[(6,pN x1),(5,pN (b.length:Int)),(0,.p (.str b))],[]⟩) (ids:=[]) (fun _ _ _ _ _ c x1 d h=>?_);refine kI hS h ?_ ?_<;>intro h
 ·obtain⟨c8,h⟩:=H0 h;obtain⟨y3,e3,h⟩:=C6 h;refine C7 hS [] c8 (Or hS hL e3) ?_;refine kI hS h ?_ ?_<;>intro h
  ·cases h;exact kR hS
  ·exact d _ [] _ (wrap .i64 (x1+1)) trivial h
 ·refine kB hS (A8 hS) trivial trivial 4 (.n (.a (decide (0<(b.length:Int)))) (.a (decide ((b.length:Int)<=24)))) ?_;cases h;exact kR hS
def U5 (N:Nat)(a:Sl F0):Option Int:=
 if (((a.n:Int)==0)||(decide (63<(a.n:Int)))) then
  some 16
 else
  S5 N (fun b (x2:List (Str×Bool)) (x3:Int)=>
   if (decide (x3<(a.n:Int))) then
    if ((0:Int)<=x3/\x3<(a.n:Int))then
     lt (fun (z3:Bool)=>
      if z3 then
       some 16
      else
       b (NE eqS (a.g x3.toNat).Name true x2) (wrap .i64 (x3+1))
      ) fun k3=>
      if (decide (x3<=(a.g x3.toNat).Parent)) then
       k3 true
      else
       if (decide ((a.g x3.toNat).Parent<(if 0<(wrap .i64 (x3-1))then 0 else (wrap .i64 (x3-1))))) then
        k3 true
       else
        (Bg N (a.g x3.toNat).Name).bind fun y6=>
        if (!y6) then
         k3 true
        else
         Ao7 (BQ eqS (a.g x3.toNat).Name x2) (
          k3 false
          ) fun v6=>
          k3 v6
    else none
   else
    some 0
   ) [] 0
theorem IN {N:Nat}{c:Sl F0}{y:Int}(h:U5 N c=some y) :FunO S IF [.p (vSl 2 B7 c)] [] (pN y) ([]) []:=by
 unfold U5 at h;refine A5 hS Tryz.func78 ?_;refine kB hS (A8 hS) trivial trivial 4 (.o (.a ((c.n:Int)==0)) (.a (decide (63<(c.n:Int))))) ?_;refine kI hS h ?_ ?_<;>intro h
 ·cases h;exact kR hS
 ·refine H9 hS trivial h (fun x2 x3=>⟨[(17,pN x3),(16,pN (c.n:Int)),(15,.p (vSl 2 B7 c)),(3,.mref 15000)],[(15000,.map (MB PV.str PV.bb x2))]⟩) (ids:=[(15000,15000)]) (fun _ _ _ _ _ f x2 x3 i h=>?_);refine kI hS h ?_ ?_<;>intro h
  ·obtain⟨c25,h⟩:=H0 h;refine Ls hS (And.intro c25 (by decide:(2:Nat)<=2)) (A8 hS) h 0 (fun z3=>⟨[(45,pB z3),(17,pN x3),(16,pN (c.n:Int)),(15,.p (vSl 2 B7 c)),(5,.reg 6000 0),(3,.mref 15000)],[(15000,.map (MB PV.str PV.bb x2)),(6000,.cells [pN (c.g x3.toNat).Parent,.p (.str (c.g x3.toNat).Name)])]⟩) (fun M3 k3 d h=>?_) (fun z3 h=>?_)
   ·refine kG hS h (fun h=>?_) (fun h=>?_)
    ·exact d _ [(6000,6000),(15000,15000)] _ true trivial h
    ·refine kG hS h (fun h=>?_) (fun h=>?_)
     ·exact d _ [(6000,6000),(15000,15000)] _ true trivial h
     ·refine kC hS h (Qs hS hL) (fun y6 h=>?_);refine kG hS h (fun h=>?_) (fun h=>?_)
      ·exact d _ [(6000,6000),(15000,15000)] _ true trivial h
      ·rcases o6:BQ eqS (c.g x3.toNat).Name x2 with _|v6
       ·replace h:=optN o6 h;refine Jm hS trivial (kt:=DR) (e:=Ac9) (key:=PV.str (c.g x3.toNat).Name) (es:=MB PV.str PV.bb x2) (x:=.v (.bool false)) (b:=false) (fd:=none) ((EH (kP:=PV.str) (vP:=PV.bb) (eq:=eqS) (fun _ _=>by kernel_rfl) (c.g x3.toNat).Name x2).trans (by rw[o6];rfl)) trivial ?_;exact d _ [(6000,6000),(15000,15000)] _ false trivial h
       ·replace h:=optS o6 h;refine Jm hS trivial (kt:=DR) (e:=Ac9) (key:=PV.str (c.g x3.toNat).Name) (es:=MB PV.str PV.bb x2) (x:=PV.bb v6) (b:=true) (fd:=some (PV.bb v6)) ((EH (kP:=PV.str) (vP:=PV.bb) (eq:=eqS) (fun _ _=>by kernel_rfl) (c.g x3.toNat).Name x2).trans (by rw[o6];rfl)) trivial ?_;exact d _ [(6000,6000),(15000,15000)] _ v6 trivial h
   ·refine kI hS h ?_ ?_<;>intro h
    ·cases h;exact kR hS
    ·refine NI hS trivial (kt:=DR) (key:=PV.str (c.g x3.toNat).Name) (y:=PV.bb true) (es:=MB PV.str PV.bb x2) (Jl (kP:=PV.str) (vP:=PV.bb) (eq:=eqS) (fun _ _=>by kernel_rfl) (c.g x3.toNat).Name true x2) trivial ?_;exact i _ [(15000,15000)] _ (NE eqS (c.g x3.toNat).Name true x2) (wrap .i64 (x3+1)) trivial h
  ·cases h;exact kR hS
def U6 (N:Nat)(a:A6):Option Int:=
 if ((0:Int)<=(a.On.n:Int)/\(a.On.n:Int)<=(a.On.n:Int)/\(a.On.n:Int)*8<=140737488355328/\(a.On.n:Int)<=140737488355328)then
  Ah8 N (fun c (x4:Sl Int) (x5:Bool) (x6:Int)=>
   if (decide (x6<(a.On.n:Int))) then
    if ((((0:Int)<=x6/\x6<(a.On.n:Int))/\((0:Int)<=x6/\x6<(x4.n:Int)))/\x6.toNat<x4.n)then
     if ((0:Int)<=x6/\x6<(a.Tree.n:Int))then
      lt (fun (z3:Sl Int)=>
       if (((0:Int)<=x6/\x6<(z3.n:Int))/\x6.toNat<z3.n)then
        if (decide (64<(z3.g x6.toNat))) then
         some 2
        else
         S5 N (fun d (f:Bool) (b:Int)=>
          if (decide (b<((a.On.g x6.toNat).n:Int))) then
           if ((0:Int)<=b/\b<((a.On.g x6.toNat).n:Int))then
            d ((f||(decide (((a.On.g x6.toNat).g b.toNat)<0)))||(decide ((a.Laws.n:Int)<=((a.On.g x6.toNat).g b.toNat)))) (wrap .i64 (b+1))
           else none
          else
           c z3 f (wrap .i64 (x6+1))
          ) x5 0
       else none
       ) fun k3=>
       if (decide (0<=(a.Tree.g x6.toNat).Parent)) then
        if (((((((0:Int)<=x6/\x6<((x4.upd x6.toNat ((a.On.g x6.toNat).n:Int)).n:Int))/\x6.toNat<(x4.upd x6.toNat ((a.On.g x6.toNat).n:Int)).n)/\((0:Int)<=(a.Tree.g x6.toNat).Parent/\(a.Tree.g x6.toNat).Parent<((x4.upd x6.toNat ((a.On.g x6.toNat).n:Int)).n:Int)))/\(a.Tree.g x6.toNat).Parent.toNat<(x4.upd x6.toNat ((a.On.g x6.toNat).n:Int)).n)/\((0:Int)<=x6/\x6<((x4.upd x6.toNat ((a.On.g x6.toNat).n:Int)).n:Int)))/\x6.toNat<(x4.upd x6.toNat ((a.On.g x6.toNat).n:Int)).n)then
         k3 ((x4.upd x6.toNat ((a.On.g x6.toNat).n:Int)).upd x6.toNat (wrap .i64 (((x4.upd x6.toNat ((a.On.g x6.toNat).n:Int)).g x6.toNat)+((x4.upd x6.toNat ((a.On.g x6.toNat).n:Int)).g (a.Tree.g x6.toNat).Parent.toNat))))
        else none
       else
        k3 (x4.upd x6.toNat ((a.On.g x6.toNat).n:Int))
     else none
    else none
   else
    if x5 then
     some 3
    else
     some 0
   ) (Sl.rep (a.On.n:Int).toNat 0:Sl Int) false 0
 else none
theorem KO {N:Nat}{d:A6}{y:Int}(h:U6 N d=some y) :FunO S EQ [.p (.agg (A3 d))] [] (pN y) ([]) []:=by
 unfold U6 at h;refine A5 hS Tryz.func79 ?_;refine K9 hS trivial 2 2000 (A3 d) ?_;obtain⟨c1,h⟩:=H0 h;refine Ac5 hS c1 h (fun x4 x5 x6=>⟨[(17,pN x6),(16,pN (d.On.n:Int)),(15,.p (vSl 1 (cL 1 (cI .i64)) d.On)),(4,pB x5),(3,.vec 14000),(1,.p (.ptr (A3 d)))],[(14000,.vec D5 1 x4.n (fun i=>cI .i64 (x4.g i)) false)]⟩) (ids:=[(14000,14000)]) (fun _ _ _ _ _ q x4 x5 x6 r h=>?_);refine kI hS h ?_ ?_<;>intro h
 ·obtain⟨c35,h⟩:=H0 h;refine N1 hS (And.intro (And.intro c35.1.1 c35.1.2) (And.intro (rfl:(1:Nat)=1) (And.intro c35.2 (by decide:(1:Nat)<=1)))) 27 ⟨[(17,pN x6),(16,pN (d.On.n:Int)),(15,.p (vSl 1 (cL 1 (cI .i64)) d.On)),(6,.p (vSl 1 (cI .i64) (d.On.g x6.toNat))),(5,pN x6),(4,pB x5),(3,.vec 14000),(1,.p (.ptr (A3 d)))],[(14000,.vec D5 1 (x4.upd x6.toNat ((d.On.g x6.toNat).n:Int)).n (fun i=>cI .i64 ((x4.upd x6.toNat ((d.On.g x6.toNat).n:Int)).g i)) false)]⟩ (ids:=[(14000,14000)]) ?_ (hle:=klR [(7,.fn x4.n (x4.upd x6.toNat ((d.On.g x6.toNat).n:Int)).n (fun l=>if l=x6.toNat then splice ((fun i=>cI .i64 (x4.g i)) l) 0 [pI .i64 ((d.On.g x6.toNat).n:Int)]else (fun i=>cI .i64 (x4.g i)) l) (fun i=>cI .i64 ((x4.upd x6.toNat ((d.On.g x6.toNat).n:Int)).g i)))] (al1 ⟨rfl,Ao6 (c:=cI .i64) (v:=x4) (x:=((d.On.g x6.toNat).n:Int)) same (fun _=>by first|rfl|(dsimp only;split<;>rfl))⟩ al0));obtain⟨c36,h⟩:=H0 h;refine Ls hS c36 (A8 hS) h 0 (fun z3=>⟨[(17,pN x6),(16,pN (d.On.n:Int)),(15,.p (vSl 1 (cL 1 (cI .i64)) d.On)),(6,.p (vSl 1 (cI .i64) (d.On.g x6.toNat))),(5,pN x6),(4,pB x5),(3,.vec 14000),(1,.p (.ptr (A3 d)))],[(14000,.vec D5 1 z3.n (fun i=>cI .i64 (z3.g i)) false)]⟩) (fun M3 k3 m h=>?_) (fun z3 h=>?_)
  ·refine kI hS h ?_ ?_<;>intro h
   ·refine NJ hS trivial ?_;obtain⟨c41,h⟩:=H0 h;refine P8 (And.intro (And.intro (And.intro (And.intro (And.intro c41.1.1.1.1.1 c41.1.1.1.1.2) c41.1.1.1.2) c41.1.1.2) c41.1.2) (And.intro (rfl:(1:Nat)=1) (And.intro c41.2 (by decide:(1:Nat)<=1)))) ?_;exact m _ [(14000,14000)] _ ((x4.upd x6.toNat ((d.On.g x6.toNat).n:Int)).upd x6.toNat (wrap .i64 (((x4.upd x6.toNat ((d.On.g x6.toNat).n:Int)).g x6.toNat)+((x4.upd x6.toNat ((d.On.g x6.toNat).n:Int)).g (d.Tree.g x6.toNat).Parent.toNat)))) trivial h (hle:=klR [(7,.fn (x4.upd x6.toNat ((d.On.g x6.toNat).n:Int)).n ((x4.upd x6.toNat ((d.On.g x6.toNat).n:Int)).upd x6.toNat (wrap .i64 (((x4.upd x6.toNat ((d.On.g x6.toNat).n:Int)).g x6.toNat)+((x4.upd x6.toNat ((d.On.g x6.toNat).n:Int)).g (d.Tree.g x6.toNat).Parent.toNat)))).n (fun l=>if l=x6.toNat then splice ((fun i=>cI .i64 ((x4.upd x6.toNat ((d.On.g x6.toNat).n:Int)).g i)) l) 0 [pI .i64 (wrap .i64 (((x4.upd x6.toNat ((d.On.g x6.toNat).n:Int)).g x6.toNat)+((x4.upd x6.toNat ((d.On.g x6.toNat).n:Int)).g (d.Tree.g x6.toNat).Parent.toNat)))]else (fun i=>cI .i64 ((x4.upd x6.toNat ((d.On.g x6.toNat).n:Int)).g i)) l) (fun i=>cI .i64 (((x4.upd x6.toNat ((d.On.g x6.toNat).n:Int)).upd x6.toNat (wrap .i64 (((x4.upd x6.toNat ((d.On.g x6.toNat).n:Int)).g x6.toNat)+((x4.upd x6.toNat ((d.On.g x6.toNat).n:Int)).g (d.Tree.g x6.toNat).Parent.toNat)))).g i)))] (al1 ⟨rfl,Ao6 (c:=cI .i64) (v:=x4.upd x6.toNat ((d.On.g x6.toNat).n:Int)) (x:=wrap .i64 (((x4.upd x6.toNat ((d.On.g x6.toNat).n:Int)).g x6.toNat)+((x4.upd x6.toNat ((d.On.g x6.toNat).n:Int)).g (d.Tree.g x6.toNat).Parent.toNat))) same (fun _=>by first|rfl|(dsimp only;split<;>rfl))⟩ al0))
   ·exact m _ [(14000,14000)] _ (x4.upd x6.toNat ((d.On.g x6.toNat).n:Int)) trivial h
  ·obtain⟨c42,h⟩:=H0 h;refine E7 hS c42 (b:=decide (64<(z3.g x6.toNat))) (fun c43=>?_) (fun c43=>?_)
   ·replace h:=itT c43 h;cases h;exact kR hS
   ·replace h:=itF c43 h;refine H9 hS trivial h (fun j f=>⟨[(52,pN f),(51,pN ((d.On.g x6.toNat).n:Int)),(50,.p (vSl 1 (cI .i64) (d.On.g x6.toNat))),(17,pN x6),(16,pN (d.On.n:Int)),(15,.p (vSl 1 (cL 1 (cI .i64)) d.On)),(4,pB j),(3,.vec 14000),(1,.p (.ptr (A3 d)))],[(14000,.vec D5 1 z3.n (fun i=>cI .i64 (z3.g i)) false)]⟩) (ids:=[(14000,14000)]) (fun _ _ _ _ _ s j f t h=>?_);refine kI hS h ?_ ?_<;>intro h
    ·obtain⟨c49,h⟩:=H0 h;refine kB hS (A8 hS) c49 trivial 10 (.o (.o (.a j) (.a (decide (((d.On.g x6.toNat).g f.toNat)<0)))) (.a (decide ((d.Laws.n:Int)<=((d.On.g x6.toNat).g f.toNat))))) ?_;exact t _ [(14000,14000)] _ ((j||(decide (((d.On.g x6.toNat).g f.toNat)<0)))||(decide ((d.Laws.n:Int)<=((d.On.g x6.toNat).g f.toNat)))) (wrap .i64 (f+1)) trivial h
    ·exact r _ [(14000,14000)] _ z3 j (wrap .i64 (x6+1)) trivial h
 ·refine kI hS h ?_ ?_<;>intro h
  ·cases h;exact kR hS
  ·cases h;exact kR hS
def D7 (N:Nat)(a:A6):Option Int:=
 (U5 N a.Tree).bind fun y1=>
 if (y1 != 0) then
  some 16
 else
  if (decide (64<(a.Laws.n:Int))) then
   some 12
  else
   S5 N (fun b (x1:List (Str×Int)) (x2:Int)=>
    if (decide (x2<(a.Laws.n:Int))) then
     if ((0:Int)<=x2/\x2<(a.Laws.n:Int))then
      (Q8 N (a.Laws.g x2.toNat)).bind fun y4=>
      if (y4 != 0) then
       some 17
      else
       Ao7 (BQ eqS (a.Laws.g x2.toNat).Name x1) (
        b (NE eqS (a.Laws.g x2.toNat).Name (wrap .i64 (0+1)) x1) (wrap .i64 (x2+1))
        ) fun v3=>
        b (NE eqS (a.Laws.g x2.toNat).Name (wrap .i64 (v3+1)) x1) (wrap .i64 (x2+1))
     else none
    else
     if (decide (((MB PV.str (pI .i64) x1).length:Int)<(a.Laws.n:Int))) then
      some 6
     else
      if ((a.On.n:Int) != (a.Tree.n:Int)) then
       some 2
      else
       (U6 N a).bind fun y5=>
       some y5
    ) [] 0
theorem Q3 {N:Nat}{a:A6}{y:Int}(h:D7 N a=some y) :FunO S EM [.p (.agg (A3 a))] [] (pN y) ([]) []:=by
 unfold D7 at h;refine A5 hS Tryz.func30 ?_;refine kC hS h (IN hS hL) (fun y1 h=>?_);refine kI hS h ?_ ?_<;>intro h
 ·cases h;exact kR hS
 ·refine kI hS h ?_ ?_<;>intro h
  ·cases h;exact kR hS
  ·refine H9 hS trivial h (fun x1 x2=>⟨[(18,pN x2),(17,pN (a.Laws.n:Int)),(16,.p (vSl 18 A9 a.Laws)),(3,.mref 15000),(1,.reg 2000 0)],[(15000,.map (MB PV.str (pI .i64) x1)),(2000,.cells ((A3 a).map .p))]⟩) (ids:=[(2000,2000),(15000,15000)]) (fun _ _ _ _ _ d x1 x2 c h=>?_);refine kI hS h ?_ ?_<;>intro h
   ·obtain⟨c10,h⟩:=H0 h;obtain⟨y4,e4,h⟩:=C6 h;refine C7 hS [] (And.intro c10 (by decide:(18:Nat)<=18)) (DT hS hL e4) ?_;refine kI hS h ?_ ?_<;>intro h
    ·cases h;exact kR hS
    ·rcases o3:BQ eqS (a.Laws.g x2.toNat).Name x1 with _|v3
     ·replace h:=optN o3 h;refine Jm hS trivial (kt:=DR) (e:=D5) (key:=PV.str (a.Laws.g x2.toNat).Name) (es:=MB PV.str (pI .i64) x1) (x:=pI .i64 0) (b:=false) (fd:=none) ((EH (kP:=PV.str) (vP:=pI .i64) (eq:=eqS) (fun _ _=>by kernel_rfl) (a.Laws.g x2.toNat).Name x1).trans (by rw[o3];rfl)) trivial ?_;refine NI hS trivial (kt:=DR) (key:=PV.str (a.Laws.g x2.toNat).Name) (y:=pI .i64 (wrap .i64 (0+1))) (es:=MB PV.str (pI .i64) x1) (Jl (kP:=PV.str) (vP:=pI .i64) (eq:=eqS) (fun _ _=>by kernel_rfl) (a.Laws.g x2.toNat).Name (wrap .i64 (0+1)) x1) trivial ?_;exact c _ [(2000,2000),(15000,15000)] _ (NE eqS (a.Laws.g x2.toNat).Name (wrap .i64 (0+1)) x1) (wrap .i64 (x2+1)) trivial h
     ·replace h:=optS o3 h;refine Jm hS trivial (kt:=DR) (e:=D5) (key:=PV.str (a.Laws.g x2.toNat).Name) (es:=MB PV.str (pI .i64) x1) (x:=pI .i64 v3) (b:=true) (fd:=some (pI .i64 v3)) ((EH (kP:=PV.str) (vP:=pI .i64) (eq:=eqS) (fun _ _=>by kernel_rfl) (a.Laws.g x2.toNat).Name x1).trans (by rw[o3];rfl)) trivial ?_;refine NI hS trivial (kt:=DR) (key:=PV.str (a.Laws.g x2.toNat).Name) (y:=pI .i64 (wrap .i64 (v3+1))) (es:=MB PV.str (pI .i64) x1) (Jl (kP:=PV.str) (vP:=pI .i64) (eq:=eqS) (fun _ _=>by kernel_rfl) (a.Laws.g x2.toNat).Name (wrap .i64 (v3+1)) x1) trivial ?_;exact c _ [(2000,2000),(15000,15000)] _ (NE eqS (a.Laws.g x2.toNat).Name (wrap .i64 (v3+1)) x1) (wrap .i64 (x2+1)) trivial h
   ·refine kI hS h ?_ ?_<;>intro h
    ·cases h;exact kR hS
    ·refine kI hS h ?_ ?_<;>intro h
     ·cases h;exact kR hS
     ·refine kC hS h (KO hS hL) (fun y5 h=>?_);cases h;exact kR hS
def Z2 (N:Nat)(b:A6)(a:Int):Option Bool:=
 some ((decide (0<=a))&&(decide (a<(b.Tree.n:Int))))
theorem CR {N:Nat}{c:A6}{b:Int}{y:Bool}(h:Z2 N c b=some y) :FunO S FN [.p (.agg (A3 c)),pN b] [] (pB y) ([]) []:=by unfold Z2 at h;refine A5 hS Tryz.func59 ?_;refine kB hS (A8 hS) trivial trivial 6 (.n (.a (decide (0<=b))) (.a (decide (b<(c.Tree.n:Int))))) ?_;cases h;exact kR hS
def Aw (N:Nat)(q0:Int)(q1:Sl F0):Option (List (Int)):=
 S5 N (fun a (x1:Int) (x2:Sl Int)=>
  if (decide (0<=x1)) then
   if (((x2.n+(Sl.of [x1]:Sl Int).n)*8<=140737488355328/\x2.n+(Sl.of [x1]:Sl Int).n<=140737488355328)/\((0:Int)<=x1/\x1<(q1.n:Int)))then
    a (q1.g x1.toNat).Parent (x2.push x1)
   else none
  else
   S8 N (fun b (x3:Int)=>
    if (decide (0<=x3)) then
     if (((0:Int)<=x3/\x3<(x2.n:Int))/\x3.toNat<x2.n)then
      Bm (x2.g x3.toNat) (
       b (wrap .i64 (x3-1))
       )
     else none
    else
     some []
    ) (wrap .i64 ((x2.n:Int)-1))
  ) q0 (Sl.nil:Sl Int)
theorem Fc {N:Nat}{q0:Int}{q1:Sl F0}{L:List (Int)}(h:Aw N q0 q1=some L) :Gh S An [] [.reg 0 0,.reg 1 0] [.cells [pN q0],.cells [.p (vSl 2 B7 q1)]] (L.map (fun (x:Int)=>[pI .i64 x])):=by
 unfold Aw at h;refine GT hS Tryz.func90 ?_;refine NL hS trivial h (fun x1 x2 L1=>⟨[(4,.vec 5500),(2,.reg 1 0),(1,.reg 0 0),(0,.yf 2)],[(5500,.vec D5 1 x2.n (fun i=>cI .i64 (x2.g i)) false),(2,.yld (L1.map (fun (x:Int)=>[pI .i64 x])) true),(1,.cells [.p (vSl 2 B7 q1)]),(0,.cells [pN x1])]⟩) (ids:=[(0,0),(1,1),(2,2)]) (fun _ _ _ _ _ f x1 x2 L1 j h=>?_);refine kI hS h ?_ ?_<;>intro h
 ·obtain⟨c4,h⟩:=H0 h;exact j _ [(0,0),(1,1),(2,2),(5500,17000)] _ (q1.g x1.toNat).Parent (x2.push x1) L1 (And.intro (And.intro (rfl:true=true) c4.1) c4.2) h (hle:=klR [(0,.fn (x2.n+1) (x2.push x1).n (Ab x2.n (fun i=>cI .i64 (x2.g i)) (E6 [pI .i64 0] [(0,cI .i64 x1)])) (fun i=>cI .i64 ((x2.push x1).g i)))] (al1 ⟨rfl,JV (c:=cI .i64) (v:=x2) (x:=x1) (z:=[(pI .i64 0)]) same rfl rfl⟩ al0))
 ·refine HS hS trivial h (fun x3 L2=>⟨[(5,pN x3),(4,.vec 5500),(0,.yf 2)],[(5500,.vec D5 1 x2.n (fun i=>cI .i64 (x2.g i)) false),(2,.yld (L2.map (fun (x:Int)=>[pI .i64 x])) true),(1,.cells [.p (vSl 2 B7 q1)]),(0,.cells [pN x1])]⟩) (ids:=[(0,0),(1,1),(2,2),(5500,5500)]) (fun _ _ _ _ _ l x3 L2 m h=>?_);refine kI hS h ?_ ?_<;>intro h
  ·obtain⟨c14,h⟩:=H0 h;obtain⟨L5,rfl,d⟩:=NK h;replace h:=d;refine DJ hS c14 (ys:=(fun (x:Int)=>[pI .i64 x]) (x2.g x3.toNat)) (rest:=L5.map (fun (x:Int)=>[pI .i64 x])) ?_ ?_
   ·refine E7 hS trivial (b:=false) (fun c15=>?_) (fun c15=>?_)
    ·exact Bool.noConfusion ((rfl:false=false).symm.trans c15)
    ·exact m _ [(0,0),(1,1),(2,2),(5500,5500)] _ (wrap .i64 (x3-1)) L5 trivial h
   ·refine E7 hS trivial (b:=true) (fun c16=>?_) (fun c16=>?_)
    ·exact B0 hS trivial (a:=.tup []) (objs:=[(.cells [pN x1]),.cells [.p (vSl 2 B7 q1)],.yld [] false]) ⟨[],[(2,.yld [] false),(1,.cells [.p (vSl 2 B7 q1)]),(0,.cells [pN x1])]⟩ [0,1,2] (ids:=[(0,0),(1,1),(2,2)]) ⟨false,rfl,rfl,_,rfl⟩
    ·exact Bool.noConfusion ((rfl:true=true).symm.trans c16)
  ·obtain rfl:=C9 h;exact B0 hS trivial (a:=.tup []) (objs:=[(.cells [pN x1]),.cells [.p (vSl 2 B7 q1)],.yld [] true]) ⟨[],[(2,.yld [] true),(1,.cells [.p (vSl 2 B7 q1)]),(0,.cells [pN x1])]⟩ [0,1,2] (ids:=[(0,0),(1,1),(2,2)]) ⟨true,rfl,rfl,_,rfl⟩
def Bz (N:Nat)(a:Sl F0)(b:Int):Option (Int×(Sl F0)):=
 some (b,a)
theorem Hs {N:Nat}{a:Sl F0}{b:Int}{y:Int×(Sl F0)}(h:Bz N a b=some y) :FunO S GY [.p (vSl 2 B7 a),pN b] [] (.clo An [] [.reg 0 0,.reg 1 0]) ([.cells [pN y.1],.cells [.p (vSl 2 B7 y.2)]]) []:=by unfold Bz at h;refine A5 hS Tryz.func60 ?_;obtain rfl:=C9 h;exact B0 hS trivial ⟨[(4,.clo An [] [.reg 4000 0,.reg 3000 0])],[(4000,.cells [pN b]),(3000,.cells [.p (vSl 2 B7 a)])]⟩ [4000,3000] (ids:=[(3000,3000),(4000,4000)]) ⟨rfl,rfl,rfl⟩
def CS (N:Nat)(a:A6)(c:Int):Option ((Sl Int)×Int):=
 (D7 N a).bind fun y1=>
 if (y1 != 0) then
  some ((Sl.nil:Sl Int),y1)
 else
  (Z2 N a c).bind fun y2=>
  if (!y2) then
   some ((Sl.nil:Sl Int),3)
  else
   (Bz N a.Tree c).bind fun y3=>
   (Aw N y3.1 y3.2).bind fun L1=>
   Q4 L1 (fun b (x1:Int) (z1:Sl Int)=>
    if (((0:Int)<=x1/\x1<(a.On.n:Int))/\((z1.n+(a.On.g x1.toNat).n)*8<=140737488355328/\z1.n+(a.On.g x1.toNat).n<=140737488355328))then
     b (z1.app (a.On.g x1.toNat))
    else none
    ) (fun (z1:Sl Int)=>
     some (z1,0)
    ) (Sl.nil:Sl Int)
theorem LX {N:Nat}{a:A6}{b:Int}{y:(Sl Int)×Int}(h:CS N a b=some y) :FunO S FM [.p (.agg (A3 a)),pN b] [] (.tup [.vec 0,pN y.2]) ([.vec D5 1 y.1.n (fun i=>cI .i64 (y.1.g i)) true]) []:=by
 unfold CS at h;refine A5 hS Tryz.func33 ?_;refine K9 hS trivial 4 3000 (A3 a) ?_;obtain⟨y1,e1,h⟩:=C6 h;refine C7 hS [] (by decide:(3:Nat)<=3) (Q3 hS hL e1) ?_;refine kI hS h ?_ ?_<;>intro h
 ·obtain rfl:=C9 h;exact B0 hS trivial ⟨[(5,pN y1),(4,.vec 5700)],[(5700,.vec D5 1 (Sl.nil:Sl Int).n (fun i=>cI .i64 ((Sl.nil:Sl Int).g i)) true)]⟩ [5700] (ids:=[]) ⟨rfl,rfl,rfl⟩
 ·obtain⟨y2,e2,h⟩:=C6 h;refine C7 hS [] (by decide:(3:Nat)<=3) (CR hS hL e2) ?_;refine kI hS h ?_ ?_<;>intro h
  ·obtain rfl:=C9 h;exact B0 hS trivial ⟨[(5,pN 3),(4,.vec 5700)],[(5700,.vec D5 1 (Sl.nil:Sl Int).n (fun i=>cI .i64 ((Sl.nil:Sl Int).g i)) true)]⟩ [5700] (ids:=[]) ⟨rfl,rfl,rfl⟩
  ·refine kC hS h (Hs hS hL) (fun y3 h=>?_);obtain⟨L1,e4,h⟩:=C6 h;refine Gm hS trivial [22000,22001] [7,2] 901 (fun z1=>⟨[(7,.reg 8000 0),(2,.p (.ptr (A3 a)))],[(8500,.vec D5 1 z1.n (fun i=>cI .i64 (z1.g i)) false),(8000,.cells [.vec 8500])]⟩) (idl:=[(8000,8000)]) h (Fc hS hL e4) (fun _=>by kernel_rfl) (fun _=>by kernel_rfl) (fun _=>by kernel_rfl) (fun _=>by kernel_rfl) (fun x1 _ d z1 f h=>?_) (fun z1 h=>?_)
   ·refine JZ hS trivial ?_;refine J5 hS trivial [2,4,5] ?_;obtain⟨c5,h⟩:=H0 h;refine P8 c5 ?_;exact f _ [(901,901),(8000,8000),(8500,30000)] _ (z1.app (a.On.g x1.toNat)) trivial h (hle:=klR [(0,.fn (z1.n+(a.On.g x1.toNat).n) (z1.app (a.On.g x1.toNat)).n (Ab z1.n (fun i=>cI .i64 (z1.g i)) (fun i=>cI .i64 ((a.On.g x1.toNat).g i))) (fun i=>cI .i64 ((z1.app (a.On.g x1.toNat)).g i)))] (al1 ⟨rfl,appL (c:=cI .i64) (v:=z1) (w:=a.On.g x1.toNat) same rfl same rfl⟩ al0))
   ·obtain rfl:=C9 h;exact B0 hS trivial ⟨[(5,pN 0),(4,.vec 8500)],[(8500,.vec D5 1 z1.n (fun i=>cI .i64 (z1.g i)) true)]⟩ [8500] (ids:=[(8500,8500)]) ⟨rfl,rfl,rfl⟩
def N6 (rec:Pat->Option Pat)(N:Nat)(a:Pat):Option Pat:=
 S5 N (fun b (x1:Sl Pat) (x2:Int)=>
  if (decide (x2<(a.L.n:Int))) then
   if ((0:Int)<=x2/\x2<(a.L.n:Int))then
    (rec (a.L.g x2.toNat)).bind fun y3=>
    if ((x1.n+(Sl.of [y3]:Sl Pat).n)*64<=140737488355328/\x1.n+(Sl.of [y3]:Sl Pat).n<=140737488355328)then
     b (x1.push y3) (wrap .i64 (x2+1))
    else none
   else none
  else
   some (Pat.mk a.Kind a.Is a.Not a.Min a.Max x1.n x1.g)
  ) (Sl.nil:Sl Pat) 0
def N0:Nat->Pat->Option Pat
 |0=>fun _=>none
 |N+1=>N6 (N0 N) N
theorem Ht {N:Nat}{rec:Pat->Option Pat}(b:∀{a:Pat}{y:Pat},rec a=some y->FunO S V6 [.p (.agg (B4 a))] [] (.p (.agg (B4 y))) ([]) []){a:Pat}{y:Pat}(h:N6 rec N a=some y) :FunO S V6 [.p (.agg (B4 a))] [] (.p (.agg (B4 y))) ([]) []:=by
 unfold N6 at h;refine A5 hS Tryz.func96 ?_;refine N1 hS trivial 8 ⟨[(7,.p (vSl 7 B4 a.L)),(3,.p E5),(2,.reg 3000 0),(1,.reg 2000 0)],[(3000,.cells [pN 0,pU 0,pU 0,.p (.v (.bool false)),pN 0,pN 0,.p E5]),(2000,.cells ((B4 a).map .p))]⟩ (ids:=[(2000,2000),(3000,3000)]) ?_ (hle:=klR [(0,.fn a.L.n a.L.n (BS a) (fun i=>B4 (a.L.g i)))] (al1 ⟨rfl,Am a⟩ al0));refine H9 hS trivial h (fun x1 x2=>⟨[(9,pN x2),(8,pN (a.L.n:Int)),(7,.p (vSl 7 B4 a.L)),(3,.vec 4500),(2,.reg 3000 0),(1,.reg 2000 0)],[(4500,.vec Ds 7 x1.n (fun i=>B4 (x1.g i)) false),(3000,.cells [pN 0,pU 0,pU 0,.p (.v (.bool false)),pN 0,pN 0,.p E5]),(2000,.cells ((B4 a).map .p))]⟩) (ids:=[(2000,2000),(3000,3000)]) (fun _ _ _ _ _ d x1 x2 f h=>?_);refine kI hS h ?_ ?_<;>intro h
 ·obtain⟨c6,h⟩:=H0 h;obtain⟨y3,e3,h⟩:=C6 h;refine C7 hS [] (And.intro c6 (by decide:(7:Nat)<=7)) (b e3) ?_;obtain⟨c7,h⟩:=H0 h;exact f _ [(2000,2000),(3000,3000),(4500,18000)] _ (x1.push y3) (wrap .i64 (x2+1)) (And.intro (rfl:true=true) c7) h (hle:=klR [(3,.fn (x1.n+1) (x1.push y3).n (Ab x1.n (fun i=>B4 (x1.g i)) (E6 [pI .i64 0,pI .u32 0,pI .u32 0,.v (.bool false),pI .i64 0,pI .i64 0,E5] [(0,B4 y3)])) (fun i=>B4 ((x1.push y3).g i)))] (al1 ⟨rfl,JV (c:=B4) (v:=x1) (x:=y3) (z:=[(pI .i64 0),pI .u32 0,pI .u32 0,.v (.bool false),pI .i64 0,pI .i64 0,E5]) same rfl rfl⟩ al0))
 ·obtain rfl:=C9 h;exact B0 hS trivial ⟨[(2,.reg 3000 0)],[(3000,.cells [pN a.Kind,pU a.Is.Plus,pU a.Is.Minus,pB a.Not,pN a.Min,pN a.Max,.p (.sl false 7 x1.n (BS (Pat.mk a.Kind a.Is a.Not a.Min a.Max x1.n x1.g)))])]⟩ [] (ids:=[(3000,3000)]) ⟨rfl,rfl,rfl⟩
theorem Dw {N:Nat}{a:Pat}{y:Pat}(h:N0 N a=some y) :FunO S V6 [.p (.agg (B4 a))] [] (.p (.agg (B4 y))) ([]) []:=by
 induction N generalizing a y with
 |zero=>cases (show (none:Option Pat)=some y from h)
 |succ N ih=>exact Ht hS hL (fun e=>ih e) h
def O2 (N:Nat)(a:Law):Option Law:=
 (N0 N a.Left).bind fun y1=>
 (N0 N a.Right).bind fun y2=>
 (A4 N a.If).bind fun y3=>
 (F2 N a.Out).bind fun y4=>
 some (⟨a.Name,y1,y2,y3,y4,a.Mode⟩:Law)
theorem Eu {N:Nat}{a:Law}{y:Law}(h:O2 N a=some y) :FunO S En [.p (.agg (A9 a))] [] (.p (.agg (A9 y))) ([]) []:=by unfold O2 at h;refine A5 hS Tryz.func73 ?_;refine J5 hS trivial [2,5] ?_;obtain⟨y1,e1,h⟩:=C6 h;refine AX trivial (Dw hS hL e1) ?_;obtain⟨y2,e2,h⟩:=C6 h;refine AX trivial (Dw hS hL e2) ?_;refine P8 trivial ?_;refine J5 hS trivial [2,5] ?_;obtain⟨y3,e3,h⟩:=C6 h;refine AX trivial (V9 hS hL e3) ?_;obtain⟨y4,e4,h⟩:=C6 h;refine AX trivial (Af hS hL e4) ?_;refine P8 trivial ?_;cases h;exact kR hS
def P2 (N:Nat)(c:A6)(a:Sl Int):Option (Sl Law):=
 S5 N (fun b (x1:Sl Law) (x2:Int)=>
  if (decide (x2<(a.n:Int))) then
   if (((0:Int)<=x2/\x2<(a.n:Int))/\((0:Int)<=(a.g x2.toNat)/\(a.g x2.toNat)<(c.Laws.n:Int)))then
    (O2 N (c.Laws.g (a.g x2.toNat).toNat)).bind fun y3=>
    if ((x1.n+(Sl.of [y3]:Sl Law).n)*200<=140737488355328/\x1.n+(Sl.of [y3]:Sl Law).n<=140737488355328)then
     b (x1.push y3) (wrap .i64 (x2+1))
    else none
   else none
  else
   some x1
  ) (Sl.nil:Sl Law) 0
theorem FY {N:Nat}{b:A6}{a:Sl Int}{y:Sl Law}(h:P2 N b a=some y) :FunO S FO [.p (.agg (A3 b)),.p (vSl 1 (cI .i64) a)] [] (.p (vSl 18 A9 y)) ([]) []:=by
 unfold P2 at h;refine A5 hS Tryz.func61 ?_;refine H9 hS trivial h (fun x1 x2=>⟨[(10,pN x2),(9,pN (a.n:Int)),(8,.p (vSl 1 (cI .i64) a)),(5,.vec 6500),(2,.reg 3000 0)],[(6500,.vec N4 18 x1.n (fun i=>A9 (x1.g i)) false),(3000,.cells ((A3 b).map .p))]⟩) (ids:=[(3000,3000)]) (fun _ _ _ _ _ d x1 x2 f h=>?_);refine kI hS h ?_ ?_<;>intro h
 ·obtain⟨c6,h⟩:=H0 h;obtain⟨y3,e3,h⟩:=C6 h;refine C7 hS [] (And.intro (And.intro c6.1 c6.2) (by decide:(18:Nat)<=18)) (Eu hS hL e3) ?_;obtain⟨c7,h⟩:=H0 h;exact f _ [(3000,3000),(6500,23000)] _ (x1.push y3) (wrap .i64 (x2+1)) (And.intro (rfl:true=true) c7) h (hle:=klR [(3,.fn (x1.n+1) (x1.push y3).n (Ab x1.n (fun i=>A9 (x1.g i)) (E6 [.str [],pI .i64 0,pI .u32 0,pI .u32 0,.v (.bool false),pI .i64 0,pI .i64 0,E5,pI .i64 0,pI .u32 0,pI .u32 0,.v (.bool false),pI .i64 0,pI .i64 0,E5,E5,E5,pI .i64 0] [(0,A9 y3)])) (fun i=>A9 ((x1.push y3).g i)))] (al1 ⟨rfl,JV (c:=A9) (v:=x1) (x:=y3) (z:=[(.str []),pI .i64 0,pI .u32 0,pI .u32 0,.v (.bool false),pI .i64 0,pI .i64 0,E5,pI .i64 0,pI .u32 0,pI .u32 0,.v (.bool false),pI .i64 0,pI .i64 0,E5,E5,E5,pI .i64 0]) same rfl rfl⟩ al0))
 ·obtain rfl:=C9 h;exact B0 hS trivial ⟨[(4,.p (vSl 18 A9 x1))],[]⟩ [] (ids:=[]) ⟨rfl,rfl,rfl⟩
def Ax (N:Nat)(a:A6)(b:Sl Sound):Option Int:=
 (D7 N a).bind fun y1=>
 if (y1 != 0) then
  some y1
 else
  (J0 N b).bind fun y2=>
  some y2
theorem Fd {N:Nat}{a:A6}{b:Sl Sound}{y:Int}(h:Ax N a b=some y) :FunO S EP [.p (.agg (A3 a)),.p (vSl 2 A0 b)] [] (pN y) ([]) []:=by
 unfold Ax at h;refine A5 hS Tryz.func58 ?_;refine kC hS h (Q3 hS hL) (fun y1 h=>?_);refine kI hS h ?_ ?_<;>intro h
 ·cases h;exact kR hS
 ·refine kC hS h (CB hS hL) (fun y2 h=>?_);cases h;exact kR hS
def CE (N:Nat)(a:A6)(c:Sl Sound)(d:Int):Option ((Sl Sound)×Int):=
 (Ax N a c).bind fun y1=>
 if (y1 != 0) then
  some ((Sl.nil:Sl Sound),y1)
 else
  (Z2 N a d).bind fun y2=>
  if (!y2) then
   some ((Sl.nil:Sl Sound),3)
  else
   (Bz N a.Tree d).bind fun y3=>
   (Aw N y3.1 y3.2).bind fun L1=>
   Q4 L1 (fun b (x1:Int) (z1:Sl Sound)=>
    if ((0:Int)<=x1/\x1<(a.On.n:Int))then
     (P2 N a (a.On.g x1.toNat)).bind fun y8=>
     (J2 N y8 z1).bind fun y9=>
     if (y9.2 != 0) then
      some ((Sl.nil:Sl Sound),y9.2)
     else
      b y9.1
    else none
    ) (fun (z1:Sl Sound)=>
     some (z1,0)
    ) c
theorem IO {N:Nat}{a:A6}{b:Sl Sound}{c:Int}{y:(Sl Sound)×Int}(h:CE N a b c=some y) :FunO S IB [.p (.agg (A3 a)),.p (vSl 2 A0 b),pN c] [] (.tup [.p (vSl 2 A0 y.1),pN y.2]) ([]) []:=by
 unfold CE at h;refine A5 hS Tryz.func14 ?_;refine K9 hS trivial 4 4000 (A3 a) ?_;obtain⟨y1,e1,h⟩:=C6 h;refine C7 hS [] (by decide:(3:Nat)<=3) (Fd hS hL e1) ?_;refine kI hS h ?_ ?_<;>intro h
 ·obtain rfl:=C9 h;exact B0 hS trivial ⟨[(7,.reg 8000 0),(6,.reg 7000 0)],[(8000,.cells [pN y1]),(7000,.cells [.p (vSl 2 A0 (Sl.nil:Sl Sound))])]⟩ [] (ids:=[(7000,7000),(8000,8000)]) ⟨rfl,rfl,rfl⟩
 ·obtain⟨y2,e2,h⟩:=C6 h;refine C7 hS [] (by decide:(3:Nat)<=3) (CR hS hL e2) ?_;refine kI hS h ?_ ?_<;>intro h
  ·obtain rfl:=C9 h;exact B0 hS trivial ⟨[(7,.reg 8000 0),(6,.reg 7000 0)],[(8000,.cells [pN 3]),(7000,.cells [.p (vSl 2 A0 (Sl.nil:Sl Sound))])]⟩ [] (ids:=[(7000,7000),(8000,8000)]) ⟨rfl,rfl,rfl⟩
  ·refine kC hS h (Hs hS hL) (fun y3 h=>?_);obtain⟨L1,e4,h⟩:=C6 h;refine Gm hS trivial [25000,25001] [7,6,4,3] 901 (fun z1=>⟨[(7,.reg 8000 0),(6,.reg 7000 0),(4,.reg 5000 0),(3,.p (.ptr (A3 a)))],[(8000,.cells [pN 0]),(7000,.cells [.p E5]),(5000,.cells [.p (vSl 2 A0 z1)])]⟩) (idl:=[(5000,5000),(7000,7000),(8000,8000)]) h (Fc hS hL e4) (fun _=>by kernel_rfl) (fun _=>by kernel_rfl) (fun _=>by kernel_rfl) (fun _=>by kernel_rfl) (fun x1 _ d z1 f h=>?_) (fun z1 h=>?_)
   ·refine JZ hS trivial ?_;refine J5 hS trivial [0,2,4,5,6,8] ?_;obtain⟨c7,h⟩:=H0 h;obtain⟨y8,e9,h⟩:=C6 h;refine AX (And.intro (by decide:(3:Nat)<=3) c7) (FY hS hL e9) ?_;obtain⟨y9,e10,h⟩:=C6 h;refine AX trivial (Fb hS hL e10) ?_;refine P8 trivial ?_;refine kI hS h ?_ ?_<;>intro h
    ·refine Jn hS trivial ⟨[(7,.reg 8000 0),(6,.reg 7000 0),(4,.reg 5000 0),(3,.p (.ptr (A3 a)))],[(8000,.cells [pN y9.2]),(7000,.cells [.p E5]),(5000,.cells [.p (vSl 2 A0 y9.1)])]⟩ (ids:=[(901,901),(5000,5000),(7000,7000),(8000,8000)]) ?_;obtain rfl:=C9 h;exact B0 hS trivial ⟨[(7,.reg 8000 0),(6,.reg 7000 0)],[(8000,.cells [pN y9.2]),(7000,.cells [.p (vSl 2 A0 (Sl.nil:Sl Sound))])]⟩ [] (ids:=[(7000,7000),(8000,8000)]) ⟨rfl,rfl,rfl⟩
    ·exact f _ [(901,901),(5000,5000),(7000,7000),(8000,8000)] _ y9.1 trivial h
   ·cases h;exact kR hS
end Go.AM
namespace Go.AM
open IntKind (wrap)
open Go.Proofs
set_option maxRecDepth 10000
set_option maxHeartbeats 2000000
variable {S:X6}(hS:G5 S Tryz.prog) (hL:LL S)
abbrev Fe {T:Type}(e:TypeId)(k:Nat)(c:T->List PV)(x:Sl T):Obj:=.vec e k x.n (fun q=>c (x.g q)) false
theorem obPut {T:Type}{e:TypeId}{k n i:Nat}{c:T->List PV}{X:Sl (Sl T)}{z:Sl T}:∀q,q<n->(fun q=>if q=i then Fe e k c z else if q=i then Obj.dead else Fe e k c (X.g q)) q=(fun q=>Fe e k c ((X.upd i z).g q)) q:=fun q _=>by by_cases h:q=i<;>simp[h]
include hS hL
def U7 (N:Nat)(a:Sl F0):Option (Sl (Sl Int)):=
 if ((0:Int)<=(a.n:Int)/\(a.n:Int)<=(a.n:Int)/\(a.n:Int)*24<=140737488355328/\(a.n:Int)<=140737488355328)then
  S5 N (fun b (x:Int) (X:Sl (Sl Int))=>
   if (decide (x<(a.n:Int))) then
    if ((0:Int)<=x/\x<(a.n:Int))then
     if (a.g x.toNat).Parent.toNat<X.n then
      lt (fun (z:Sl Int)=>b (wrap .i64 (x+1)) (X.upd (a.g x.toNat).Parent.toNat z)) fun k=>
       if (decide (0<x)) then
        if (((0:Int)<=(a.g x.toNat).Parent/\(a.g x.toNat).Parent<(X.n:Int))/\(((X.g (a.g x.toNat).Parent.toNat).n+1)*8<=140737488355328/\(X.g (a.g x.toNat).Parent.toNat).n+1<=140737488355328))then
         k ((X.g (a.g x.toNat).Parent.toNat).push x)
        else none
       else k (X.g (a.g x.toNat).Parent.toNat)
     else none
    else none
   else some X) 0 ⟨a.n,fun _=>Sl.nil⟩
 else none
theorem KP {N:Nat}{b:Sl F0}{y:Sl (Sl Int)}(h:U7 N b=some y) :FunO S ER [.p (vSl 2 B7 b)] [] (.p (vSl 1 (cL 1 (cI .i64)) y)) [] []:=by
 unfold U7 at h;refine A5 hS Tryz.func107 ?_;obtain⟨c1,h⟩:=H0 h;refine GU hS c1 9 (.fam 9000 9901 fun i=>Fe D5 1 (cI .i64) ((⟨b.n,fun _=>Sl.nil⟩:Sl (Sl Int)).g i)) (⟨by decide,fun i _=>rfl⟩:1000<=9901/\∀i,i<b.n->SV [E5] (Fe D5 1 (cI .i64) ((⟨b.n,fun _=>Sl.nil⟩:Sl (Sl Int)).g i))) ?_;refine H9 hS trivial h (fun x X=>⟨[(11,pN x),(10,pN (b.n:Int)),(9,.p (vSl 2 B7 b)),(3,.vec 9000)],[(9901,.rows X.n fun i=>Fe D5 1 (cI .i64) (X.g i)),(9000,.fam AR X.n 9901 none)]⟩) (ids:=[(9901,9901),(9000,9000)]) (fun _ _ _ _ _ j x X f h=>?_);refine kI hS h ?_ ?_<;>intro h
 ·obtain⟨c2,h⟩:=H0 h;obtain⟨c3,h⟩:=H0 h;refine GU hS (And.intro c2 (by decide:(2:Nat)<=2)) 17 (.take 9000 (b.g x.toNat).Parent.toNat 9801) (⟨⟨by decide,rfl⟩,c3⟩:(1000<=9801/\X.n=X.n)/\(b.g x.toNat).Parent.toNat<X.n) ?_;refine Ls hS trivial (A8 hS) h 0 (fun z=>⟨[(11,pN x),(10,pN (b.n:Int)),(9,.p (vSl 2 B7 b)),(3,.vec 9000)],
   [(9901,(.rows X.n fun l=>if l=(b.g x.toNat).Parent.toNat then .dead else Fe D5 1 (cI .i64) (X.g l))),(9801,Fe D5 1 (cI .i64) z),(9000,.fam AR X.n 9901 (some ((b.g x.toNat).Parent.toNat,.vec 9801)))]⟩) (fun M k d h=>?_) (fun z h=>?_)
  ·refine kI hS h ?_ ?_<;>intro h
   ·obtain⟨c4,h⟩:=H0 h;refine O5 hS trivial [(0,.n),(1,.n),(2,.l [6000]),(3,.n),(4,.n),(5,.l [6000]),(6,.l [9000]),(7,.l [9000]),(8,.n),(10,.a [29000,9801]),(11,.l [9000]),(12,.a [9000])] ?_;refine BR (And.intro c4.1 (And.intro c3 (rfl:(b.g x.toNat).Parent.toNat=(b.g x.toNat).Parent.toNat))) (x:=.sl true 1 1 (E6 [pI .i64 0] [(0,cI .i64 x)])) ?_;refine P8 (And.intro (And.intro c4.2 c4.1) (And.intro c3 (rfl:(b.g x.toNat).Parent.toNat=(b.g x.toNat).Parent.toNat))) ?_;exact d _ [(9901,9901),(9801,29000),(9000,9000)] _ ((X.g (b.g x.toNat).Parent.toNat).push x) trivial h (hle:=klR [(5,.fn ((X.g (b.g x.toNat).Parent.toNat).n+1) ((X.g (b.g x.toNat).Parent.toNat).push x).n (Ab (X.g (b.g x.toNat).Parent.toNat).n (fun i=>cI .i64 ((X.g (b.g x.toNat).Parent.toNat).g i)) (E6 [pI .i64 0] [(0,cI .i64 x)])) (fun i=>cI .i64 (((X.g (b.g x.toNat).Parent.toNat).push x).g i)))] (al1 ⟨rfl,JV (c:=cI .i64) (v:=X.g (b.g x.toNat).Parent.toNat) (x:=x) (z:=[(pI .i64 0)]) same rfl rfl⟩ al0))
   ·exact d _ [(9901,9901),(9801,9801),(9000,9000)] _ (X.g (b.g x.toNat).Parent.toNat) trivial h
  ·refine GU hS trivial 30 (.put 9000 9902) (⟨⟨by decide,rfl⟩,c3⟩:(1000<=9902/\X.n=X.n)/\(b.g x.toNat).Parent.toNat<X.n) ?_;exact f _ [(9901,9902),(9000,9000)] _ (wrap .i64 (x+1)) (X.upd (b.g x.toNat).Parent.toNat z) trivial h (hle:=klR [(4,.ob X.n (fun q=>if q=(b.g x.toNat).Parent.toNat then Fe D5 1 (cI .i64) z else if q=(b.g x.toNat).Parent.toNat then .dead else Fe D5 1 (cI .i64) (X.g q)) fun i=>Fe D5 1 (cI .i64) ((X.upd (b.g x.toNat).Parent.toNat z).g i))] (al1 obPut al0))
 ·refine GU hS trivial 31 (.pub 9000) (⟨rfl,fun i _=>rfl⟩:X.n=X.n/\∀i,i<X.n->(Ra (Fe D5 1 (cI .i64) (X.g i))).isSome=true) ?_;obtain rfl:=C9 h;exact B0 hS trivial ⟨[(2,.p (vSl 1 (cL 1 (cI .i64)) X))],[]⟩ [] (ids:=[]) ⟨rfl,rfl,rfl⟩ (hle:=klR [(0,.fn X.n X.n (fun i=>[(Ra (Fe D5 1 (cI .i64) (X.g i))).getD default]) (fun i=>cL 1 (cI .i64) (X.g i)))] (al1 ⟨rfl,fun _ _=>rfl⟩ al0))
end Go.AM
namespace Go.AM
open IntKind (wrap)
open Go.Proofs
set_option maxRecDepth 10000
set_option maxHeartbeats 2000000
variable {S:X6}(hS:G5 S Tryz.prog) (hL:LL S)
include hS hL
def Ay (N:Nat)(b:Sl F0):Option (Sl Int):=
 (U7 N b).bind fun y1=>
 S5 N (fun a (x1:Sl Int) (x2:Int)=>
  if (decide (x2<(y1.n:Int))) then
   if ((0:Int)<=x2/\x2<(y1.n:Int))then
    if (((y1.g x2.toNat).n:Int)==0) then
     if ((x1.n+(Sl.of [x2]:Sl Int).n)*8<=140737488355328/\x1.n+(Sl.of [x2]:Sl Int).n<=140737488355328)then
      a (x1.push x2) (wrap .i64 (x2+1))
     else none
    else
     a x1 (wrap .i64 (x2+1))
   else none
  else
   some x1
  ) (Sl.nil:Sl Int) 0
theorem Ot {N:Nat}{a:Sl F0}{y:Sl Int}(h:Ay N a=some y) :FunO S Ha [.p (vSl 2 B7 a)] [] (.vec 0) ([.vec D5 1 y.n (fun i=>cI .i64 (y.g i)) true]) []:=by
 unfold Ay at h;refine A5 hS Tryz.func80 ?_;refine kC hS h (KP hS hL) (fun y1 h=>?_);refine H9 hS trivial h (fun x1 x2=>⟨[(9,pN x2),(8,pN (y1.n:Int)),(7,.p (vSl 1 (cL 1 (cI .i64)) y1)),(3,.vec 4500)],[(4500,.vec D5 1 x1.n (fun i=>cI .i64 (x1.g i)) false)]⟩) (ids:=[]) (fun _ _ _ _ _ f x1 x2 d h=>?_);refine kI hS h ?_ ?_<;>intro h
 ·obtain⟨c8,h⟩:=H0 h;refine E7 hS c8 (b:=((y1.g x2.toNat).n:Int)==0) (fun c9=>?_) (fun c9=>?_)
  ·replace h:=itT c9 h;obtain⟨c10,h⟩:=H0 h;exact d _ [(4500,21000)] _ (x1.push x2) (wrap .i64 (x2+1)) (And.intro (rfl:true=true) c10) h (hle:=klR [(3,.fn (x1.n+1) (x1.push x2).n (Ab x1.n (fun i=>cI .i64 (x1.g i)) (E6 [pI .i64 0] [(0,cI .i64 x2)])) (fun i=>cI .i64 ((x1.push x2).g i)))] (al1 ⟨rfl,JV (c:=cI .i64) (v:=x1) (x:=x2) (z:=[(pI .i64 0)]) same rfl rfl⟩ al0))
  ·replace h:=itF c9 h;exact d _ [(4500,4500)] _ x1 (wrap .i64 (x2+1)) trivial h
 ·obtain rfl:=C9 h;exact B0 hS trivial ⟨[(2,.vec 4500)],[(4500,.vec D5 1 x1.n (fun i=>cI .i64 (x1.g i)) true)]⟩ [4500] (ids:=[(4500,4500)]) ⟨rfl,rfl,rfl⟩
def F8 (N:Nat)(a:Sl F0):Option ((Sl Int)×Int):=
 (U5 N a).bind fun y1=>
 if (y1 != 0) then
  some ((Sl.nil:Sl Int),y1)
 else
  (Ay N a).bind fun y2=>
  some (y2,0)
theorem DY {N:Nat}{a:Sl F0}{y:(Sl Int)×Int}(h:F8 N a=some y) :FunO S GW [.p (vSl 2 B7 a)] [] (.tup [.vec 0,pN y.2]) ([.vec D5 1 y.1.n (fun i=>cI .i64 (y.1.g i)) true]) []:=by
 unfold F8 at h;refine A5 hS Tryz.func31 ?_;refine kC hS h (IN hS hL) (fun y1 h=>?_);refine kI hS h ?_ ?_<;>intro h
 ·obtain rfl:=C9 h;exact B0 hS trivial ⟨[(3,pN y1),(2,.vec 3700)],[(3700,.vec D5 1 (Sl.nil:Sl Int).n (fun i=>cI .i64 ((Sl.nil:Sl Int).g i)) true)]⟩ [3700] (ids:=[]) ⟨rfl,rfl,rfl⟩
 ·refine kC hS h (Ot hS hL) (fun y2 h=>?_);obtain rfl:=C9 h;exact B0 hS trivial ⟨[(3,pN 0),(2,.vec 12000)],[(12000,.vec D5 1 y2.n (fun i=>cI .i64 (y2.g i)) true)]⟩ [12000] (ids:=[(12000,12000)]) ⟨rfl,rfl,rfl⟩
def CT (N:Nat)(b:Sl F0)(c:Int):Option (Sl Int):=
 S5 N (fun a (x1:Sl Int) (x2:Int)=>
  if (decide (x2<(b.n:Int))) then
   if ((0:Int)<=x2/\x2<(b.n:Int))then
    if ((b.g x2.toNat).Parent==c) then
     if ((x1.n+(Sl.of [x2]:Sl Int).n)*8<=140737488355328/\x1.n+(Sl.of [x2]:Sl Int).n<=140737488355328)then
      a (x1.push x2) (wrap .i64 (x2+1))
     else none
    else
     a x1 (wrap .i64 (x2+1))
   else none
  else
   some x1
  ) (Sl.nil:Sl Int) 0
def IP (N:Nat)(b:Sl F0):Option ((Sl Int)×Int):=
 (DW N b).bind fun y1=>
 if (y1 != 0) then
  some ((Sl.nil:Sl Int),y1)
 else
  S5 N (fun a (x1:Sl Int) (x2:Int)=>
   if (decide (x2<(b.n:Int))) then
    (CT N b x2).bind fun y4=>
    if ((y4.n:Int)==0) then
     if ((x1.n+(Sl.of [x2]:Sl Int).n)*8<=140737488355328/\x1.n+(Sl.of [x2]:Sl Int).n<=140737488355328)then
      a (x1.push x2) (wrap .i64 (x2+1))
     else none
    else
     a x1 (wrap .i64 (x2+1))
   else
    some (x1,0)
   ) (Sl.nil:Sl Int) 0
end Go.AM
namespace Go.AM
open IntKind (wrap)
open Go.Proofs
set_option maxRecDepth 10000
set_option maxHeartbeats 2000000
variable {S:X6}(hS:G5 S Tryz.prog) (hL:LL S)
include hS hL
def DZ (N:Nat)(a:Sl Int)(b:Sl Int):Option Bool:=
 if ((a.n:Int) != (b.n:Int)) then
  some false
 else
  S8 N (fun c (x1:Int)=>
   if (decide (x1<(a.n:Int))) then
    if (((0:Int)<=x1/\x1<(a.n:Int))/\((0:Int)<=x1/\x1<(b.n:Int)))then
     if ((a.g x1.toNat) != (b.g x1.toNat)) then
      some false
     else
      c (wrap .i64 (x1+1))
    else none
   else
    some true
   ) 0
theorem KQ {N:Nat}{a:Sl Int}{b:Sl Int}{y:Bool}(h:DZ N a b=some y) :FunO S Kj [.p (vSl 1 (cI .i64) a),.p (vSl 1 (cI .i64) b)] [] (pB y) ([]) []:=by
 unfold DZ at h;refine A5 hS Tryz.func34 ?_;refine kI hS h ?_ ?_<;>intro h
 ·cases h;exact kR hS
 ·refine Al hS trivial h (fun x1=>⟨[(5,pN x1),(1,.p (vSl 1 (cI .i64) b)),(0,.p (vSl 1 (cI .i64) a))],[]⟩) (ids:=[]) (fun _ _ _ _ _ c x1 d h=>?_);refine kI hS h ?_ ?_<;>intro h
  ·refine J5 hS trivial [2,3,6,7] ?_;obtain⟨c9,h⟩:=H0 h;refine P8 c9 ?_;refine kI hS h ?_ ?_<;>intro h
   ·cases h;exact kR hS
   ·exact d _ [] _ (wrap .i64 (x1+1)) trivial h
  ·cases h;exact kR hS
def CU (N:Nat)  : Option Sound:=
 some (⟨5,2⟩:Sound)
theorem Ff {N:Nat}    {y:Sound}(h:CU N  = some y) :FunO S WO [] [] (.p (.agg (A0 y))) ([]) []:=by unfold CU at h;refine A5 hS Tryz.func35 ?_;cases h;exact kR hS
def Ou (N:Nat)  : Option Sound:=
 some (⟨2,5⟩:Sound)
theorem WZ {N:Nat}    {y:Sound}(h:Ou N  = some y) :FunO S WQ [] [] (.p (.agg (A0 y))) ([]) []:=by unfold Ou at h;refine A5 hS Tryz.func36 ?_;cases h;exact kR hS
def Ic (N:Nat)  : Option Sound:=
 some (⟨3,4⟩:Sound)
theorem Ov {N:Nat}    {y:Sound}(h:Ic N  = some y) :FunO S WR [] [] (.p (.agg (A0 y))) ([]) []:=by unfold Ic at h;refine A5 hS Tryz.func49 ?_;cases h;exact kR hS
def Ea (N:Nat)  : Option A6:=
 some (⟨(Sl.of [(⟨-1,[112,114,111,116,111]⟩:F0),(⟨0,[119,101,115,116]⟩:F0),(⟨0,[101,97,115,116]⟩:F0),(⟨1,[110,111,114,116,104]⟩:F0),(⟨1,[115,111,117,116,104]⟩:F0)]:Sl F0),(Sl.of [(⟨[118,111,105,99,105,110,103],Pat.mk 1 (⟨4,0⟩:Sound) false 0 0 (Sl.nil:Sl Pat).n (Sl.nil:Sl Pat).g,Pat.mk 1 (⟨4,0⟩:Sound) false 0 0 (Sl.nil:Sl Pat).n (Sl.nil:Sl Pat).g,(Sl.of [(⟨2,0⟩:Sound)]:Sl Sound),(Sl.of [(⟨0,0,(⟨1,0⟩:Sound),0,0⟩:AE)]:Sl AE),1⟩:Law),(⟨[97,112,111,99,111,112,101],Pat.mk 0 (⟨0,0⟩:Sound) false 0 0 (Sl.nil:Sl Pat).n (Sl.nil:Sl Pat).g,Pat.mk 6 (⟨0,0⟩:Sound) false 0 0 (Sl.nil:Sl Pat).n (Sl.nil:Sl Pat).g,(Sl.of [(⟨4,0⟩:Sound)]:Sl Sound),(Sl.nil:Sl AE),1⟩:Law)]:Sl Law),(Sl.of [(Sl.nil:Sl Int),(Sl.of [0]:Sl Int),(Sl.of [1,0]:Sl Int),(Sl.of [1]:Sl Int),(Sl.nil:Sl Int)]:Sl (Sl Int))⟩:A6)
theorem Ow {N:Nat}    {y:A6}(h:Ea N  = some y) :FunO S GX [] [] (.p (.agg (A3 y))) ([]) []:=by unfold Ea at h;refine A5 hS Tryz.func47 ?_;refine N1 hS (rfl:true=true) 10 ⟨[(9,.vec 10000),(1,.reg 2000 0),(0,.reg 1000 0)],[(10000,.vec H8 2 (Sl.of [(⟨-1,[112,114,111,116,111]⟩:F0),(⟨0,[119,101,115,116]⟩:F0),(⟨0,[101,97,115,116]⟩:F0),(⟨1,[110,111,114,116,104]⟩:F0),(⟨1,[115,111,117,116,104]⟩:F0)]:Sl F0).n (fun i=>B7 ((Sl.of [(⟨-1,[112,114,111,116,111]⟩:F0),(⟨0,[119,101,115,116]⟩:F0),(⟨0,[101,97,115,116]⟩:F0),(⟨1,[110,111,114,116,104]⟩:F0),(⟨1,[115,111,117,116,104]⟩:F0)]:Sl F0).g i)) false),(2000,.cells [pN 1,pU 4,pU 0,pB false,pN 0,pN 0,.p (vSl 7 B4 (Sl.nil:Sl Pat))]),(1000,.cells [.p E5,.p E5,.p E5])]⟩ (ids:=[(1000,1000),(2000,2000),(10000,10000)]) ?_ (hle:=klR [(0,.fn 5 (Sl.of [(⟨-1,[112,114,111,116,111]⟩:F0),(⟨0,[119,101,115,116]⟩:F0),(⟨0,[101,97,115,116]⟩:F0),(⟨1,[110,111,114,116,104]⟩:F0),(⟨1,[115,111,117,116,104]⟩:F0)]:Sl F0).n (E6 [pI .i64 0,.str []] [(0,B7 (⟨-1,[112,114,111,116,111]⟩:F0)),(1,B7 (⟨0,[119,101,115,116]⟩:F0)),(2,B7 (⟨0,[101,97,115,116]⟩:F0)),(3,B7 (⟨1,[110,111,114,116,104]⟩:F0)),(4,B7 (⟨1,[115,111,117,116,104]⟩:F0))]) (fun i=>B7 ((Sl.of [(⟨-1,[112,114,111,116,111]⟩:F0),(⟨0,[119,101,115,116]⟩:F0),(⟨0,[101,97,115,116]⟩:F0),(⟨1,[110,111,114,116,104]⟩:F0),(⟨1,[115,111,117,116,104]⟩:F0)]:Sl F0).g i)))] (al1 ⟨rfl,(fun i a=>match i,a with|0,_=>rfl|1,_=>rfl|2,_=>rfl|3,_=>rfl|4,_=>rfl|_+5,a=>absurd a (by omega))⟩ al0));refine N1 hS (And.intro (rfl:true=true) (rfl:true=true)) 17 ⟨[(16,.p (vSl 6 P9 (Sl.of [(⟨0,0,(⟨1,0⟩:Sound),0,0⟩:AE)]:Sl AE))),(13,.p (vSl 2 A0 (Sl.of [(⟨2,0⟩:Sound)]:Sl Sound))),(11,.p (.agg [pI .i64 1,pI .u32 4,pI .u32 0,.bb false,pI .i64 0,pI .i64 0,vSl 7 B4 (Sl.nil:Sl Pat)])),(10,.p (.agg [pI .i64 1,pI .u32 4,pI .u32 0,.bb false,pI .i64 0,pI .i64 0,vSl 7 B4 (Sl.nil:Sl Pat)])),(9,.vec 10000),(0,.reg 1000 0)],[(10000,.vec H8 2 (Sl.of [(⟨-1,[112,114,111,116,111]⟩:F0),(⟨0,[119,101,115,116]⟩:F0),(⟨0,[101,97,115,116]⟩:F0),(⟨1,[110,111,114,116,104]⟩:F0),(⟨1,[115,111,117,116,104]⟩:F0)]:Sl F0).n (fun i=>B7 ((Sl.of [(⟨-1,[112,114,111,116,111]⟩:F0),(⟨0,[119,101,115,116]⟩:F0),(⟨0,[101,97,115,116]⟩:F0),(⟨1,[110,111,114,116,104]⟩:F0),(⟨1,[115,111,117,116,104]⟩:F0)]:Sl F0).g i)) false),(1000,.cells [.p E5,.p E5,.p E5])]⟩ (ids:=[(1000,1000),(10000,10000)]) ?_ (hle:=klR [(0,.fn 1 (Sl.of [(⟨0,0,(⟨1,0⟩:Sound),0,0⟩:AE)]:Sl AE).n (E6 [pI .i64 0,pI .u32 0,pI .u32 0,pI .u32 0,pI .u32 0,pI .i64 0] [(0,P9 (⟨0,0,(⟨1,0⟩:Sound),0,0⟩:AE))]) (fun i=>P9 ((Sl.of [(⟨0,0,(⟨1,0⟩:Sound),0,0⟩:AE)]:Sl AE).g i))),(1,.fn 1 (Sl.of [(⟨2,0⟩:Sound)]:Sl Sound).n (E6 [pI .u32 0,pI .u32 0] [(0,A0 (⟨2,0⟩:Sound))]) (fun i=>A0 ((Sl.of [(⟨2,0⟩:Sound)]:Sl Sound).g i)))] (al1 ⟨rfl,(fun i a=>match i,a with|0,_=>rfl|_+1,a=>absurd a (by omega))⟩ (al1 ⟨rfl,(fun i a=>match i,a with|0,_=>rfl|_+1,a=>absurd a (by omega))⟩ al0)));refine N1 hS (rfl:true=true) 21 ⟨[(20,.p (vSl 2 A0 (Sl.of [(⟨4,0⟩:Sound)]:Sl Sound))),(18,.p (.agg [pI .i64 6,pI .u32 0,pI .u32 0,.v (.bool false),pI .i64 0,pI .i64 0,E5])),(17,.p (.agg [.str [118,111,105,99,105,110,103],pI .i64 1,pI .u32 4,pI .u32 0,.bb false,pI .i64 0,pI .i64 0,vSl 7 B4 (Sl.nil:Sl Pat),pI .i64 1,pI .u32 4,pI .u32 0,.bb false,pI .i64 0,pI .i64 0,vSl 7 B4 (Sl.nil:Sl Pat),vSl 2 A0 (Sl.of [(⟨2,0⟩:Sound)]:Sl Sound),vSl 6 P9 (Sl.of [(⟨0,0,(⟨1,0⟩:Sound),0,0⟩:AE)]:Sl AE),pI .i64 1])),(9,.vec 10000),(0,.reg 1000 0)],[(10000,.vec H8 2 (Sl.of [(⟨-1,[112,114,111,116,111]⟩:F0),(⟨0,[119,101,115,116]⟩:F0),(⟨0,[101,97,115,116]⟩:F0),(⟨1,[110,111,114,116,104]⟩:F0),(⟨1,[115,111,117,116,104]⟩:F0)]:Sl F0).n (fun i=>B7 ((Sl.of [(⟨-1,[112,114,111,116,111]⟩:F0),(⟨0,[119,101,115,116]⟩:F0),(⟨0,[101,97,115,116]⟩:F0),(⟨1,[110,111,114,116,104]⟩:F0),(⟨1,[115,111,117,116,104]⟩:F0)]:Sl F0).g i)) false),(1000,.cells [.p E5,.p E5,.p E5])]⟩ (ids:=[(1000,1000),(10000,10000)]) ?_ (hle:=klR [(0,.fn 1 (Sl.of [(⟨4,0⟩:Sound)]:Sl Sound).n (E6 [pI .u32 0,pI .u32 0] [(0,A0 (⟨4,0⟩:Sound))]) (fun i=>A0 ((Sl.of [(⟨4,0⟩:Sound)]:Sl Sound).g i)))] (al1 ⟨rfl,(fun i a=>match i,a with|0,_=>rfl|_+1,a=>absurd a (by omega))⟩ al0));refine RG hS (rfl:true=true) 23 23000 (k:=18) (n:=2) (e:=N4) (vw:=false) (E6 [.str [],pI .i64 0,pI .u32 0,pI .u32 0,.v (.bool false),pI .i64 0,pI .i64 0,E5,pI .i64 0,pI .u32 0,pI .u32 0,.v (.bool false),pI .i64 0,pI .i64 0,E5,E5,E5,pI .i64 0] [(0,[.str [118,111,105,99,105,110,103],pI .i64 1,pI .u32 4,pI .u32 0,.bb false,pI .i64 0,pI .i64 0,vSl 7 B4 (Sl.nil:Sl Pat),pI .i64 1,pI .u32 4,pI .u32 0,.bb false,pI .i64 0,pI .i64 0,vSl 7 B4 (Sl.nil:Sl Pat),vSl 2 A0 (Sl.of [(⟨2,0⟩:Sound)]:Sl Sound),vSl 6 P9 (Sl.of [(⟨0,0,(⟨1,0⟩:Sound),0,0⟩:AE)]:Sl AE),pI .i64 1]),(1,[.str [97,112,111,99,111,112,101],pI .i64 0,pI .u32 0,pI .u32 0,.v (.bool false),pI .i64 0,pI .i64 0,E5,pI .i64 6,pI .u32 0,pI .u32 0,.v (.bool false),pI .i64 0,pI .i64 0,E5,vSl 2 A0 (Sl.of [(⟨4,0⟩:Sound)]:Sl Sound),E5,pI .i64 1])]) (fun i=>A9 ((Sl.of [(⟨[118,111,105,99,105,110,103],Pat.mk 1 (⟨4,0⟩:Sound) false 0 0 (Sl.nil:Sl Pat).n (Sl.nil:Sl Pat).g,Pat.mk 1 (⟨4,0⟩:Sound) false 0 0 (Sl.nil:Sl Pat).n (Sl.nil:Sl Pat).g,(Sl.of [(⟨2,0⟩:Sound)]:Sl Sound),(Sl.of [(⟨0,0,(⟨1,0⟩:Sound),0,0⟩:AE)]:Sl AE),1⟩:Law),(⟨[97,112,111,99,111,112,101],Pat.mk 0 (⟨0,0⟩:Sound) false 0 0 (Sl.nil:Sl Pat).n (Sl.nil:Sl Pat).g,Pat.mk 6 (⟨0,0⟩:Sound) false 0 0 (Sl.nil:Sl Pat).n (Sl.nil:Sl Pat).g,(Sl.of [(⟨4,0⟩:Sound)]:Sl Sound),(Sl.nil:Sl AE),1⟩:Law)]:Sl Law).g i)) (fun i a=>match i,a with|0,_=>(Dd (.inl rfl) (Dd (.inl rfl) (Dd (.inl rfl) (Dd (.inl rfl) (Dd (.inl rfl) (Dd (.inl rfl) (Dd (.inl rfl) (Dd (.inl rfl) (Dd (.inl rfl) (Dd (.inl rfl) (Dd (.inl rfl) (Dd (.inl rfl) (Dd (.inl rfl) (Dd (.inl rfl) (Dd (.inl rfl) (Dd (.inl rfl) (Dd (.inl rfl) (Dd (.inl rfl) Aw7))))))))))))))))))|1,_=>(Dd (.inl rfl) (Dd (.inl rfl) (Dd (.inl rfl) (Dd (.inl rfl) (Dd lePT (Dd (.inl rfl) (Dd (.inl rfl) (Dd Ao3 (Dd (.inl rfl) (Dd (.inl rfl) (Dd (.inl rfl) (Dd lePT (Dd (.inl rfl) (Dd (.inl rfl) (Dd Ao3 (Dd (.inl rfl) (Dd Ao3 (Dd (.inl rfl) Aw7))))))))))))))))))|_+2,a=>absurd a (by omega)) ?_;refine N1 hS (And.intro (And.intro (rfl:true=true) (rfl:true=true)) (rfl:true=true)) 26 ⟨[(25,.vec 26000),(24,.vec 25000),(23,.vec 24000),(22,.vec 23000),(9,.vec 10000),(0,.reg 1000 0)],[(26000,.vec D5 1 (Sl.of [1]:Sl Int).n (fun i=>cI .i64 ((Sl.of [1]:Sl Int).g i)) true),(25000,.vec D5 1 (Sl.of [1,0]:Sl Int).n (fun i=>cI .i64 ((Sl.of [1,0]:Sl Int).g i)) true),(24000,.vec D5 1 (Sl.of [0]:Sl Int).n (fun i=>cI .i64 ((Sl.of [0]:Sl Int).g i)) true),(23000,.vec N4 18 (Sl.of [(⟨[118,111,105,99,105,110,103],Pat.mk 1 (⟨4,0⟩:Sound) false 0 0 (Sl.nil:Sl Pat).n (Sl.nil:Sl Pat).g,Pat.mk 1 (⟨4,0⟩:Sound) false 0 0 (Sl.nil:Sl Pat).n (Sl.nil:Sl Pat).g,(Sl.of [(⟨2,0⟩:Sound)]:Sl Sound),(Sl.of [(⟨0,0,(⟨1,0⟩:Sound),0,0⟩:AE)]:Sl AE),1⟩:Law),(⟨[97,112,111,99,111,112,101],Pat.mk 0 (⟨0,0⟩:Sound) false 0 0 (Sl.nil:Sl Pat).n (Sl.nil:Sl Pat).g,Pat.mk 6 (⟨0,0⟩:Sound) false 0 0 (Sl.nil:Sl Pat).n (Sl.nil:Sl Pat).g,(Sl.of [(⟨4,0⟩:Sound)]:Sl Sound),(Sl.nil:Sl AE),1⟩:Law)]:Sl Law).n (fun i=>A9 ((Sl.of [(⟨[118,111,105,99,105,110,103],Pat.mk 1 (⟨4,0⟩:Sound) false 0 0 (Sl.nil:Sl Pat).n (Sl.nil:Sl Pat).g,Pat.mk 1 (⟨4,0⟩:Sound) false 0 0 (Sl.nil:Sl Pat).n (Sl.nil:Sl Pat).g,(Sl.of [(⟨2,0⟩:Sound)]:Sl Sound),(Sl.of [(⟨0,0,(⟨1,0⟩:Sound),0,0⟩:AE)]:Sl AE),1⟩:Law),(⟨[97,112,111,99,111,112,101],Pat.mk 0 (⟨0,0⟩:Sound) false 0 0 (Sl.nil:Sl Pat).n (Sl.nil:Sl Pat).g,Pat.mk 6 (⟨0,0⟩:Sound) false 0 0 (Sl.nil:Sl Pat).n (Sl.nil:Sl Pat).g,(Sl.of [(⟨4,0⟩:Sound)]:Sl Sound),(Sl.nil:Sl AE),1⟩:Law)]:Sl Law).g i)) false),(10000,.vec H8 2 (Sl.of [(⟨-1,[112,114,111,116,111]⟩:F0),(⟨0,[119,101,115,116]⟩:F0),(⟨0,[101,97,115,116]⟩:F0),(⟨1,[110,111,114,116,104]⟩:F0),(⟨1,[115,111,117,116,104]⟩:F0)]:Sl F0).n (fun i=>B7 ((Sl.of [(⟨-1,[112,114,111,116,111]⟩:F0),(⟨0,[119,101,115,116]⟩:F0),(⟨0,[101,97,115,116]⟩:F0),(⟨1,[110,111,114,116,104]⟩:F0),(⟨1,[115,111,117,116,104]⟩:F0)]:Sl F0).g i)) false),(1000,.cells [.p E5,.p E5,.p E5])]⟩ (ids:=[(1000,1000),(10000,10000),(23000,23000),(24000,24000),(25000,25000),(26000,26000)]) ?_ (hle:=klR [(0,.fn 1 (Sl.of [1]:Sl Int).n (E6 [pI .i64 0] [(0,cI .i64 1)]) (fun i=>cI .i64 ((Sl.of [1]:Sl Int).g i))),(1,.fn 2 (Sl.of [1,0]:Sl Int).n (E6 [pI .i64 0] [(0,cI .i64 1),(1,cI .i64 0)]) (fun i=>cI .i64 ((Sl.of [1,0]:Sl Int).g i))),(2,.fn 1 (Sl.of [0]:Sl Int).n (E6 [pI .i64 0] [(0,cI .i64 0)]) (fun i=>cI .i64 ((Sl.of [0]:Sl Int).g i)))] (al1 ⟨rfl,(fun i a=>match i,a with|0,_=>rfl|_+1,a=>absurd a (by omega))⟩ (al1 ⟨rfl,(fun i a=>match i,a with|0,_=>rfl|1,_=>rfl|_+2,a=>absurd a (by omega))⟩ (al1 ⟨rfl,(fun i a=>match i,a with|0,_=>rfl|_+1,a=>absurd a (by omega))⟩ al0))));refine RG hS (rfl:true=true) 27 27000 (k:=1) (n:=5) (e:=AR) (vw:=false) (E6 [E5] [(0,[E5]),(1,cL 1 (cI .i64) (Sl.of [0]:Sl Int)),(2,cL 1 (cI .i64) (Sl.of [1,0]:Sl Int)),(3,cL 1 (cI .i64) (Sl.of [1]:Sl Int)),(4,[E5])]) (fun i=>cL 1 (cI .i64) ((Sl.of [(Sl.nil:Sl Int),(Sl.of [0]:Sl Int),(Sl.of [1,0]:Sl Int),(Sl.of [1]:Sl Int),(Sl.nil:Sl Int)]:Sl (Sl Int)).g i)) (fun i a=>match i,a with|0,_=>leCn|1,_=>leCr _|2,_=>leCr _|3,_=>leCr _|4,_=>leCn|_+5,a=>absurd a (by omega)) ?_;refine N1 hS trivial 27 ⟨[(26,.p (vSl 1 (cL 1 (cI .i64)) (Sl.of [(Sl.nil:Sl Int),(Sl.of [0]:Sl Int),(Sl.of [1,0]:Sl Int),(Sl.of [1]:Sl Int),(Sl.nil:Sl Int)]:Sl (Sl Int)))),(22,.p (vSl 18 A9 (Sl.of [(⟨[118,111,105,99,105,110,103],Pat.mk 1 (⟨4,0⟩:Sound) false 0 0 (Sl.nil:Sl Pat).n (Sl.nil:Sl Pat).g,Pat.mk 1 (⟨4,0⟩:Sound) false 0 0 (Sl.nil:Sl Pat).n (Sl.nil:Sl Pat).g,(Sl.of [(⟨2,0⟩:Sound)]:Sl Sound),(Sl.of [(⟨0,0,(⟨1,0⟩:Sound),0,0⟩:AE)]:Sl AE),1⟩:Law),(⟨[97,112,111,99,111,112,101],Pat.mk 0 (⟨0,0⟩:Sound) false 0 0 (Sl.nil:Sl Pat).n (Sl.nil:Sl Pat).g,Pat.mk 6 (⟨0,0⟩:Sound) false 0 0 (Sl.nil:Sl Pat).n (Sl.nil:Sl Pat).g,(Sl.of [(⟨4,0⟩:Sound)]:Sl Sound),(Sl.nil:Sl AE),1⟩:Law)]:Sl Law))),(9,.p (vSl 2 B7 (Sl.of [(⟨-1,[112,114,111,116,111]⟩:F0),(⟨0,[119,101,115,116]⟩:F0),(⟨0,[101,97,115,116]⟩:F0),(⟨1,[110,111,114,116,104]⟩:F0),(⟨1,[115,111,117,116,104]⟩:F0)]:Sl F0))),(0,.reg 1000 0)],[(1000,.cells [.p E5,.p E5,.p E5])]⟩ (ids:=[(1000,1000)]) ?_;cases h;exact kR hS
def Gu (N:Nat)(a:Sl (Sl Sound))(b:Sl (Sl Sound)):Option Bool:=
 if ((a.n:Int) != (b.n:Int)) then
  some false
 else
  S8 N (fun c (x1:Int)=>
   if (decide (x1<(a.n:Int))) then
    if (((0:Int)<=x1/\x1<(a.n:Int))/\((0:Int)<=x1/\x1<(b.n:Int)))then
     (BY N (a.g x1.toNat) (b.g x1.toNat)).bind fun y3=>
     if (!y3) then
      some false
     else
      c (wrap .i64 (x1+1))
    else none
   else
    some true
   ) 0
theorem Sr {N:Nat}{a:Sl (Sl Sound)}{b:Sl (Sl Sound)}{y:Bool}(h:Gu N a b=some y) :FunO S Kg [.p (vSl 1 (cL 2 A0) a),.p (vSl 1 (cL 2 A0) b)] [] (pB y) ([]) []:=by
 unfold Gu at h;refine A5 hS Tryz.func21 ?_;refine kI hS h ?_ ?_<;>intro h
 ·cases h;exact kR hS
 ·refine Al hS trivial h (fun x1=>⟨[(5,pN x1),(1,.p (vSl 1 (cL 2 A0) b)),(0,.p (vSl 1 (cL 2 A0) a))],[]⟩) (ids:=[]) (fun _ _ _ _ _ c x1 d h=>?_);refine kI hS h ?_ ?_<;>intro h
  ·refine J5 hS trivial [2,3,6,7,8] ?_;obtain⟨c9,h⟩:=H0 h;obtain⟨y3,e3,h⟩:=C6 h;refine AX c9 (Gp hS hL e3) ?_;refine P8 trivial ?_;refine kI hS h ?_ ?_<;>intro h
   ·cases h;exact kR hS
   ·exact d _ [] _ (wrap .i64 (x1+1)) trivial h
  ·cases h;exact kR hS
def Cg (N:Nat)(a:A6):Option Bool:=
 if (((decide (70<(a.Tree.n:Int)))||(decide (70<(a.Laws.n:Int))))||(decide (70<(a.On.n:Int)))) then
  some false
 else
  S8 N (fun b (x1:Int)=>
   if (decide (x1<(a.On.n:Int))) then
    if ((0:Int)<=x1/\x1<(a.On.n:Int))then
     if (decide (70<((a.On.g x1.toNat).n:Int))) then
      some false
     else
      b (wrap .i64 (x1+1))
    else none
   else
    S8 N (fun c (x3:Int)=>
     if (decide (x3<(a.Laws.n:Int))) then
      if (((0:Int)<=x3/\x3<(a.Laws.n:Int))/\((0:Int)<=x3/\x3<=(wrap .i64 (x3+1))/\(wrap .i64 (x3+1))<=(a.Laws.n:Int)))then
       (BF N (a.Laws.sub x3.toNat (wrap .i64 (x3+1)).toNat)).bind fun d=>
       lt (fun (z3:Bool)=>
        if z3 then
         some false
        else
         c (wrap .i64 (x3+1))
        ) fun k3=>
        if (decide (4<d)) then
         k3 true
        else
         if (decide (20<((a.Laws.g x3.toNat).If.n:Int))) then
          k3 true
         else
          if (decide (20<((a.Laws.g x3.toNat).Out.n:Int))) then
           k3 true
          else
           (AH N (a.Laws.g x3.toNat).Left).bind fun f=>
           if (decide (41<f)) then
            k3 true
           else
            (AH N (a.Laws.g x3.toNat).Right).bind fun i=>
            k3 (decide (41<i))
      else none
     else
      some true
     ) 0
   ) 0
theorem Ss {N:Nat}{c:A6}{y:Bool}(h:Cg N c=some y) :FunO S Kc [.p (.agg (A3 c))] [] (pB y) ([]) []:=by
 unfold Cg at h;refine A5 hS Tryz.func12 ?_;refine kB hS (A8 hS) trivial trivial 11 (.o (.o (.a (decide (70<(c.Tree.n:Int)))) (.a (decide (70<(c.Laws.n:Int))))) (.a (decide (70<(c.On.n:Int))))) ?_;refine kI hS h ?_ ?_<;>intro h
 ·cases h;exact kR hS
 ·refine Al hS trivial h (fun x1=>⟨[(3,pN x1),(1,.reg 2000 0)],[(2000,.cells ((A3 c).map .p))]⟩) (ids:=[(2000,2000)]) (fun _ _ _ _ _ f x1 i h=>?_);refine kI hS h ?_ ?_<;>intro h
  ·obtain⟨c9,h⟩:=H0 h;refine E7 hS c9 (b:=decide (70<((c.On.g x1.toNat).n:Int))) (fun c10=>?_) (fun c10=>?_)
   ·replace h:=itT c10 h;cases h;exact kR hS
   ·replace h:=itF c10 h;exact i _ [(2000,2000)] _ (wrap .i64 (x1+1)) trivial h
  ·refine Al hS trivial h (fun x3=>⟨[(4,pN x3),(1,.reg 2000 0)],[(2000,.cells ((A3 c).map .p))]⟩) (ids:=[(2000,2000)]) (fun _ _ _ _ _ j x3 l h=>?_);refine kI hS h ?_ ?_<;>intro h
   ·obtain⟨c40,h⟩:=H0 h;obtain⟨q,e11,h⟩:=C6 h;refine C7 hS [] (And.intro (And.intro c40.1 (by decide:(18:Nat)<=18)) c40.2) (Vf hS hL e11) ?_;refine Ls hS trivial (A8 hS) h 0 (fun z3=>⟨[(79,pB z3),(4,pN x3),(1,.reg 2000 0)],[(2000,.cells ((A3 c).map .p))]⟩) (fun M3 k3 d h=>?_) (fun z3 h=>?_)
    ·refine kG hS h (fun h=>?_) (fun h=>?_)
     ·exact d _ [(2000,2000)] _ true trivial h
     ·refine kG hS h (fun h=>?_) (fun h=>?_)
      ·exact d _ [(2000,2000)] _ true trivial h
      ·refine kG hS h (fun h=>?_) (fun h=>?_)
       ·exact d _ [(2000,2000)] _ true trivial h
       ·refine kC hS h (HX hS hL) (fun r h=>?_);refine kG hS h (fun h=>?_) (fun h=>?_)
        ·exact d _ [(2000,2000)] _ true trivial h
        ·refine kC hS h (HX hS hL) (fun m h=>?_);exact d _ [(2000,2000)] _ (decide (41<m)) trivial h
    ·refine kI hS h ?_ ?_<;>intro h
     ·cases h;exact kR hS
     ·exact l _ [(2000,2000)] _ (wrap .i64 (x3+1)) trivial h
   ·cases h;exact kR hS
def Ci (N:Nat)(a:Law):Option Bool:=
 (Cg N (⟨(Sl.nil:Sl F0),(Sl.of [a]:Sl Law),(Sl.nil:Sl (Sl Int))⟩:A6)).bind fun y1=>
 some y1
theorem Su {N:Nat}{a:Law}{y:Bool}(h:Ci N a=some y) :FunO S Km [.p (.agg (A9 a))] [] (pB y) ([]) []:=by unfold Ci at h;refine A5 hS Tryz.func75 ?_;refine N1 hS (rfl:true=true) 5 ⟨[(4,.p (vSl 18 A9 (Sl.of [a]:Sl Law)))],[]⟩ (ids:=[]) ?_ (hle:=klR [(0,.fn 1 (Sl.of [a]:Sl Law).n (E6 [.str [],pI .i64 0,pI .u32 0,pI .u32 0,.v (.bool false),pI .i64 0,pI .i64 0,E5,pI .i64 0,pI .u32 0,pI .u32 0,.v (.bool false),pI .i64 0,pI .i64 0,E5,E5,E5,pI .i64 0] [(0,A9 a)]) (fun i=>A9 ((Sl.of [a]:Sl Law).g i)))] (al1 ⟨rfl,(fun i b=>match i,b with|0,_=>rfl|_+1,b=>absurd b (by omega))⟩ al0));obtain⟨y1,e1,h⟩:=C6 h;refine C7 hS [] trivial (FunO.le hS (args:=[(.p (.agg [E5,vSl 18 A9 (Sl.of [a]:Sl Law),E5]))]) (by exact⟨Aq1 (Dd Ao3 (Dd (.inl rfl) (Dd Ao3 Aw7))),trivial⟩) (Ss hS hL e1)) ?_;cases h;exact kR hS
def Bh (N:Nat)(b:Sl Int)(a:Int):Option Int:=
 if (decide (a<(b.n:Int))) then
  if ((0:Int)<=a/\a<(b.n:Int))then
   some (wrap .i64 (b.g a.toNat))
  else none
 else
  some 0
theorem Qt {N:Nat}{a:Sl Int}{b:Int}{y:Int}(h:Bh N a b=some y) :FunO S IE [.p (vSl 1 (cI .u16) a),pN b] [] (pN y) ([]) []:=by
 unfold Bh at h;refine A5 hS Tryz.func77 ?_;refine kI hS h ?_ ?_<;>intro h
 ·obtain⟨c2,h⟩:=H0 h;obtain rfl:=C9 h;exact Zd hS c2 [] ⟨rfl,rfl,rfl⟩
 ·cases h;exact kR hS
def P3 (N:Nat)(a:Sl Int)(c:Int):Option Int:=
 S8 N (fun b (x1:Int)=>
  if (decide (x1<(a.n:Int))) then
   if ((0:Int)<=x1/\x1<(a.n:Int))then
    if (c==(a.g x1.toNat)) then
     some x1
    else
     b (wrap .i64 (x1+1))
   else none
  else
   some (-1)
  ) 0
theorem CV {N:Nat}{a:Sl Int}{c:Int}{y:Int}(h:P3 N a c=some y) :FunO S Y1 [.p (vSl 1 (cI .i64) a),pN c] [] (pN y) ([]) []:=by
 unfold P3 at h;refine A5 hS Tryz.func112 ?_;refine Al hS trivial h (fun x1=>⟨[(8,pN x1),(7,pN (a.n:Int)),(1,pN c),(0,.p (vSl 1 (cI .i64) a))],[]⟩) (ids:=[]) (fun _ _ _ _ _ d x1 f h=>?_);refine kI hS h ?_ ?_<;>intro h
 ·obtain⟨c8,h⟩:=H0 h;refine E7 hS c8 (b:=c==(a.g x1.toNat)) (fun c9=>?_) (fun c9=>?_)
  ·replace h:=itT c9 h;cases h;exact kR hS
  ·replace h:=itF c9 h;exact f _ [] _ (wrap .i64 (x1+1)) trivial h
 ·cases h;exact kR hS
def H3 (N:Nat)(a:Sl Int)(b:Int):Option Bool:=
 (P3 N a b).bind fun y1=>
 some (decide (0<=y1))
theorem S7 {N:Nat}{a:Sl Int}{b:Int}{y:Bool}(h:H3 N a b=some y) :FunO S S6 [.p (vSl 1 (cI .i64) a),pN b] [] (pB y) ([]) []:=by unfold H3 at h;refine A5 hS Tryz.func83 ?_;refine kC hS h (CV hS hL) (fun y1 h=>?_);cases h;exact kR hS
def Cj (N:Nat)(a:A6)(b:Int):Option ((Sl Int)×Int):=
 (D7 N a).bind fun y1=>
 if (y1 != 0) then
  some ((Sl.nil:Sl Int),y1)
 else
  if ((decide (b<0))||(decide ((a.Laws.n:Int)<=b))) then
   some ((Sl.nil:Sl Int),3)
  else
   S5 N (fun c (x5:Sl Int) (x6:Int)=>
    if (decide (x6<(a.Tree.n:Int))) then
     if (((0:Int)<=x6/\x6<(a.Tree.n:Int))/\((0:Int)<=x6/\x6<(a.On.n:Int)))then
      (H3 N (a.On.g x6.toNat) b).bind fun d=>
      lt (fun (z4:Bool)=>
       if z4 then
        if ((x5.n+(Sl.of [x6]:Sl Int).n)*8<=140737488355328/\x5.n+(Sl.of [x6]:Sl Int).n<=140737488355328)then
         c (x5.push x6) (wrap .i64 (x6+1))
        else none
       else
        c x5 (wrap .i64 (x6+1))
       ) fun k4=>
       if d then
        k4 true
       else
        (H3 N x5 (a.Tree.g x6.toNat).Parent).bind fun f=>
        k4 f
     else none
    else
     some (x5,0)
    ) (Sl.nil:Sl Int) 0
theorem KR {N:Nat}{d:A6}{b:Int}{y:(Sl Int)×Int}(h:Cj N d b=some y) :FunO S EO [.p (.agg (A3 d)),pN b] [] (.tup [.vec 0,pN y.2]) ([.vec D5 1 y.1.n (fun i=>cI .i64 (y.1.g i)) true]) []:=by
 unfold Cj at h;refine A5 hS Tryz.func48 ?_;refine kC hS h (Q3 hS hL) (fun y1 h=>?_);refine kI hS h ?_ ?_<;>intro h
 ·obtain rfl:=C9 h;exact B0 hS trivial ⟨[(5,pN y1),(4,.vec 5700)],[(5700,.vec D5 1 (Sl.nil:Sl Int).n (fun i=>cI .i64 ((Sl.nil:Sl Int).g i)) true)]⟩ [5700] (ids:=[]) ⟨rfl,rfl,rfl⟩
 ·refine kB hS (A8 hS) trivial trivial 6 (.o (.a (decide (b<0))) (.a (decide ((d.Laws.n:Int)<=b)))) ?_;refine kI hS h ?_ ?_<;>intro h
  ·obtain rfl:=C9 h;exact B0 hS trivial ⟨[(5,pN 3),(4,.vec 5700)],[(5700,.vec D5 1 (Sl.nil:Sl Int).n (fun i=>cI .i64 ((Sl.nil:Sl Int).g i)) true)]⟩ [5700] (ids:=[]) ⟨rfl,rfl,rfl⟩
  ·refine H9 hS trivial h (fun x5 x6=>⟨[(27,pN x6),(26,pN (d.Tree.n:Int)),(25,.p (vSl 2 B7 d.Tree)),(7,.vec 8501),(2,.reg 3000 0),(1,pN b)],[(8501,.vec D5 1 x5.n (fun i=>cI .i64 (x5.g i)) true),(3000,.cells ((A3 d).map .p))]⟩) (ids:=[(3000,3000)]) (fun _ _ _ _ _ l x5 x6 f h=>?_);refine kI hS h ?_ ?_<;>intro h
   ·obtain⟨c22,h⟩:=H0 h;obtain⟨q,e11,h⟩:=C6 h;refine C7 hS [] (And.intro (And.intro c22.1 (by decide:(2:Nat)<=2)) c22.2) (S7 hS hL e11) ?_;refine Ls hS trivial (A8 hS) h 0 (fun z4=>⟨[(44,pB z4),(27,pN x6),(26,pN (d.Tree.n:Int)),(25,.p (vSl 2 B7 d.Tree)),(8,pN x6),(7,.vec 8501),(2,.reg 3000 0),(1,pN b)],[(8501,.vec D5 1 x5.n (fun i=>cI .i64 (x5.g i)) true),(3000,.cells ((A3 d).map .p))]⟩) (fun M4 k4 j h=>?_) (fun z4 h=>?_)
    ·refine kG hS h (fun h=>?_) (fun h=>?_)
     ·exact j _ [(3000,3000),(8501,8501)] _ true trivial h
     ·refine kC hS h (S7 hS hL) (fun m h=>?_);exact j _ [(3000,3000),(8501,8501)] _ m trivial h
    ·refine kI hS h ?_ ?_<;>intro h
     ·obtain⟨c27,h⟩:=H0 h;exact f _ [(3000,3000),(8501,49000)] _ (x5.push x6) (wrap .i64 (x6+1)) (And.intro (rfl:true=true) c27) h (hle:=klR [(4,.fn (x5.n+1) (x5.push x6).n (Ab x5.n (fun i=>cI .i64 (x5.g i)) (E6 [pI .i64 0] [(0,cI .i64 x6)])) (fun i=>cI .i64 ((x5.push x6).g i)))] (al1 ⟨rfl,JV (c:=cI .i64) (v:=x5) (x:=x6) (z:=[(pI .i64 0)]) same rfl rfl⟩ al0))
     ·exact f _ [(3000,3000),(8501,8501)] _ x5 (wrap .i64 (x6+1)) trivial h
   ·obtain rfl:=C9 h;exact B0 hS trivial ⟨[(5,pN 0),(4,.vec 8501)],[(8501,.vec D5 1 x5.n (fun i=>cI .i64 (x5.g i)) true)]⟩ [8501] (ids:=[(8501,8501)]) ⟨rfl,rfl,rfl⟩
def F9 (N:Nat)(a:A6)(c:Sl Sound):Option (Sl Q0):=
 if ((0:Int)<=(a.Tree.n:Int)/\(a.Tree.n:Int)<=(a.Tree.n:Int)/\(a.Tree.n:Int)*32<=140737488355328/\(a.Tree.n:Int)<=140737488355328)then
  S5 N (fun b (x1:Sl Q0) (x2:Int)=>
   if (decide (x2<(a.Tree.n:Int))) then
    if ((0:Int)<=x2/\x2<(a.Tree.n:Int))then
     if ((decide (0<=(a.Tree.g x2.toNat).Parent))=true->(((0:Int)<=(a.Tree.g x2.toNat).Parent/\(a.Tree.g x2.toNat).Parent<(x1.n:Int))/\(a.Tree.g x2.toNat).Parent.toNat<x1.n))then
      if ((if (decide (0<=(a.Tree.g x2.toNat).Parent)) then (x1.g (a.Tree.g x2.toNat).Parent.toNat).e else 0)==0) then
       if ((0:Int)<=x2/\x2<(a.On.n:Int))then
        (P2 N a (a.On.g x2.toNat)).bind fun y5=>
        (J2 N y5 (if (decide (0<=(a.Tree.g x2.toNat).Parent)) then (x1.g (a.Tree.g x2.toNat).Parent.toNat).w else c)).bind fun y6=>
        if (((0:Int)<=x2/\x2<(x1.n:Int))/\x2.toNat<x1.n)then
         b (x1.upd x2.toNat (⟨y6.1,y6.2⟩:Q0)) (wrap .i64 (x2+1))
        else none
       else none
      else
       if (((0:Int)<=x2/\x2<(x1.n:Int))/\x2.toNat<x1.n)then
        b (x1.upd x2.toNat (⟨(if (decide (0<=(a.Tree.g x2.toNat).Parent)) then (x1.g (a.Tree.g x2.toNat).Parent.toNat).w else c),(if (decide (0<=(a.Tree.g x2.toNat).Parent)) then (x1.g (a.Tree.g x2.toNat).Parent.toNat).e else 0)⟩:Q0)) (wrap .i64 (x2+1))
       else none
     else none
    else none
   else
    some x1
   ) (Sl.rep (a.Tree.n:Int).toNat (⟨(Sl.nil:Sl Sound),0⟩:Q0):Sl Q0) 0
 else none
theorem Eb {N:Nat}{a:A6}{d:Sl Sound}{y:Sl Q0}(h:F9 N a d=some y) :FunO S GZ [.p (.agg (A3 a)),.p (vSl 2 A0 d)] [] (.vec 0) ([.vec F1 2 y.n (fun i=>I1 (y.g i)) true]) []:=by
 unfold F9 at h;refine A5 hS Tryz.func65 ?_;refine K9 hS trivial 4 3000 (A3 a) ?_;obtain⟨c1,h⟩:=H0 h;refine RG hS c1 5 13000 (k:=2) (n:=(a.Tree.n:Int).toNat) (e:=F1) (vw:=false) (fun _=>[E5,pI .i64 0]) (fun i=>I1 ((Sl.rep (a.Tree.n:Int).toNat (⟨(Sl.nil:Sl Sound),0⟩:Q0):Sl Q0).g i)) (fun i r=>Dd Ao3 (Dd (.inl rfl) Aw7)) ?_;refine H9 hS trivial h (fun x1 x2=>⟨[(16,pN x2),(15,pN (a.Tree.n:Int)),(14,.p (vSl 2 B7 a.Tree)),(5,.vec 13000),(2,.p (.ptr (A3 a))),(1,.p (vSl 2 A0 d))],[(13000,.vec F1 2 x1.n (fun i=>I1 (x1.g i)) false)]⟩) (ids:=[(13000,13000)]) (fun _ _ _ _ _ q x1 x2 m h=>?_);refine kI hS h ?_ ?_<;>intro h
 ·obtain⟨c17,h⟩:=H0 h;refine K9 hS (And.intro c17 (by decide:(2:Nat)<=2)) 21 8000 [pI .i64 (a.Tree.g x2.toNat).Parent,.str (a.Tree.g x2.toNat).Name] ?_;obtain⟨c19,h⟩:=H0 h;obtain⟨t5,f⟩:∃x:Sl Sound,x=(if (decide (0<=(a.Tree.g x2.toNat).Parent)) then (x1.g (a.Tree.g x2.toNat).Parent.toNat).w else d):=⟨_,rfl⟩;obtain⟨t6,j⟩:∃x:Int,x=(if (decide (0<=(a.Tree.g x2.toNat).Parent)) then (x1.g (a.Tree.g x2.toNat).Parent.toNat).e else 0):=⟨_,rfl⟩;refine RE hS trivial (A8 hS) 0 ⟨[(16,pN x2),(15,pN (a.Tree.n:Int)),(14,.p (vSl 2 B7 a.Tree)),(8,.reg 9000 0),(6,pN x2),(5,.vec 13000),(2,.p (.ptr (A3 a))),(1,.p (vSl 2 A0 d))],[(13000,.vec F1 2 x1.n (fun i=>I1 (x1.g i)) false),(9000,.cells [.p (vSl 2 A0 t5),pN t6])]⟩ (fun M3 o=>?_) ?_
  ·refine E7 hS trivial (b:=decide (0<=(a.Tree.g x2.toNat).Parent)) (fun c20=>?_) (fun c20=>?_)
   ·exact o _ [(9000,9000),(13000,13000)] _ (And.intro (And.intro (c19 c20).1 (by decide:(2:Nat)<=2)) (c19 c20).2) (hle:=klR [(7,.fn (x1.g (a.Tree.g x2.toNat).Parent.toNat).w.n t5.n (fun i=>A0 ((x1.g (a.Tree.g x2.toNat).Parent.toNat).w.g i)) (fun i=>A0 (t5.g i))),(8,.eq (pI .i64 (x1.g (a.Tree.g x2.toNat).Parent.toNat).e) (pI .i64 t6))] (al1 (by have e:=f;simp only[c20,pm,if_true,if_false]at e;subst e;exact⟨rfl,fun _ _=>rfl⟩) (al1 (by simp only[f,j,c20,Leaf.ok,pm,if_true,if_false]) al0)))
   ·exact o _ [(9000,9000),(13000,13000)] _ trivial (hle:=klR [(7,.fn d.n t5.n (fun i=>A0 (d.g i)) (fun i=>A0 (t5.g i))),(8,.eq (pI .i64 0) (pI .i64 t6))] (al1 (by have e:=f;simp only[c20,pm,if_true,if_false]at e;subst e;exact⟨rfl,fun _ _=>rfl⟩) (al1 (by simp only[f,j,c20,Leaf.ok,pm,if_true,if_false]) al0)))
  ·subst j;subst f;refine kI hS h ?_ ?_<;>intro h
   ·refine J5 hS trivial [0,2,4,5,6,9] ?_;obtain⟨c22,h⟩:=H0 h;obtain⟨y5,e5,h⟩:=C6 h;refine AX (And.intro (by decide:(3:Nat)<=3) c22) (FY hS hL e5) ?_;obtain⟨y6,e6,h⟩:=C6 h;refine AX trivial (Fb hS hL e6) ?_;refine P8 trivial ?_;obtain⟨c23,h⟩:=H0 h;exact m _ [(13000,13000)] _ (x1.upd x2.toNat (⟨y6.1,y6.2⟩:Q0)) (wrap .i64 (x2+1)) (And.intro c23.1 (And.intro (rfl:(2:Nat)=2) (And.intro c23.2 (by decide:(2:Nat)<=2)))) h (hle:=klR [(5,.fn x1.n (x1.upd x2.toNat (⟨y6.1,y6.2⟩:Q0)).n (fun l=>if l=x2.toNat then splice ((fun i=>I1 (x1.g i)) l) 0 [vSl 2 A0 y6.1,pI .i64 y6.2]else (fun i=>I1 (x1.g i)) l) (fun i=>I1 ((x1.upd x2.toNat (⟨y6.1,y6.2⟩:Q0)).g i)))] (al1 ⟨rfl,Ao6 (c:=I1) (v:=x1) (x:=(⟨y6.1,y6.2⟩:Q0)) same (fun _=>by first|rfl|(dsimp only;split<;>rfl))⟩ al0))
   ·obtain⟨c24,h⟩:=H0 h;exact m _ [(13000,13000)] _ (x1.upd x2.toNat (⟨(if (decide (0<=(a.Tree.g x2.toNat).Parent)) then (x1.g (a.Tree.g x2.toNat).Parent.toNat).w else d),(if (decide (0<=(a.Tree.g x2.toNat).Parent)) then (x1.g (a.Tree.g x2.toNat).Parent.toNat).e else 0)⟩:Q0)) (wrap .i64 (x2+1)) (And.intro c24.1 (And.intro (rfl:(2:Nat)=2) (And.intro c24.2 (by decide:(2:Nat)<=2)))) h (hle:=klR [(5,.fn x1.n (x1.upd x2.toNat (⟨(if (decide (0<=(a.Tree.g x2.toNat).Parent)) then (x1.g (a.Tree.g x2.toNat).Parent.toNat).w else d),(if (decide (0<=(a.Tree.g x2.toNat).Parent)) then (x1.g (a.Tree.g x2.toNat).Parent.toNat).e else 0)⟩:Q0)).n (fun l=>if l=x2.toNat then splice ((fun i=>I1 (x1.g i)) l) 0 [vSl 2 A0 (if (decide (0<=(a.Tree.g x2.toNat).Parent)) then (x1.g (a.Tree.g x2.toNat).Parent.toNat).w else d),pI .i64 (if (decide (0<=(a.Tree.g x2.toNat).Parent)) then (x1.g (a.Tree.g x2.toNat).Parent.toNat).e else 0)]else (fun i=>I1 (x1.g i)) l) (fun i=>I1 ((x1.upd x2.toNat (⟨(if (decide (0<=(a.Tree.g x2.toNat).Parent)) then (x1.g (a.Tree.g x2.toNat).Parent.toNat).w else d),(if (decide (0<=(a.Tree.g x2.toNat).Parent)) then (x1.g (a.Tree.g x2.toNat).Parent.toNat).e else 0)⟩:Q0)).g i)))] (al1 ⟨rfl,Ao6 (c:=I1) (v:=x1) (x:=(⟨(if (decide (0<=(a.Tree.g x2.toNat).Parent)) then (x1.g (a.Tree.g x2.toNat).Parent.toNat).w else d),(if (decide (0<=(a.Tree.g x2.toNat).Parent)) then (x1.g (a.Tree.g x2.toNat).Parent.toNat).e else 0)⟩:Q0)) same (fun _=>by first|rfl|(dsimp only;split<;>rfl))⟩ al0))
 ·obtain rfl:=C9 h;exact B0 hS trivial ⟨[(4,.vec 13000)],[(13000,.vec F1 2 x1.n (fun i=>I1 (x1.g i)) true)]⟩ [13000] (ids:=[(13000,13000)]) ⟨rfl,rfl,rfl⟩
def Ck (N:Nat)(b:A6)(c:Sl Sound):Option ((Sl (Sl Sound))×Int):=
 (Ax N b c).bind fun y1=>
 if (y1 != 0) then
  some ((Sl.nil:Sl (Sl Sound)),y1)
 else
  (F9 N b c).bind fun y2=>
  S5 N (fun a (x1:Sl (Sl Sound)) (x2:Int)=>
   if (decide (x2<(y2.n:Int))) then
    if (((0:Int)<=x2/\x2<(y2.n:Int))/\x2.toNat<y2.n)then
     if ((y2.g x2.toNat).e != 0) then
      some ((Sl.nil:Sl (Sl Sound)),(y2.g x2.toNat).e)
     else
      (A4 N (y2.g x2.toNat).w).bind fun y5=>
      if ((x1.n+(Sl.of [y5]:Sl (Sl Sound)).n)*24<=140737488355328/\x1.n+(Sl.of [y5]:Sl (Sl Sound)).n<=140737488355328)then
       a (x1.push y5) (wrap .i64 (x2+1))
      else none
    else none
   else
    some (x1,0)
   ) (Sl.nil:Sl (Sl Sound)) 0
theorem KS {N:Nat}{a:A6}{b:Sl Sound}{y:(Sl (Sl Sound))×Int}(h:Ck N a b=some y) :FunO S EL [.p (.agg (A3 a)),.p (vSl 2 A0 b)] [] (.tup [.vec 0,pN y.2]) ([.vec B3 1 y.1.n (fun i=>cL 2 A0 (y.1.g i)) true]) []:=by
 unfold Ck at h;refine A5 hS Tryz.func16 ?_;refine K9 hS trivial 4 3000 (A3 a) ?_;obtain⟨y1,e1,h⟩:=C6 h;refine C7 hS [] (by decide:(3:Nat)<=3) (Fd hS hL e1) ?_;refine kI hS h ?_ ?_<;>intro h
 ·obtain rfl:=C9 h;exact B0 hS trivial ⟨[(5,pN y1),(4,.vec 5700)],[(5700,.vec B3 1 (Sl.nil:Sl (Sl Sound)).n (fun i=>cL 2 A0 ((Sl.nil:Sl (Sl Sound)).g i)) true)]⟩ [5700] (ids:=[]) ⟨rfl,rfl,rfl⟩
 ·obtain⟨y2,e2,h⟩:=C6 h;refine C7 hS [] (by decide:(3:Nat)<=3) (Eb hS hL e2) ?_;refine H9 hS trivial h (fun x1 x2=>⟨[(20,pN x2),(19,pN (y2.n:Int)),(18,.vec 19000),(7,.vec 8500)],[(19000,.vec F1 2 y2.n (fun i=>I1 (y2.g i)) true),(8500,.vec B3 1 x1.n (fun i=>cL 2 A0 (x1.g i)) false)]⟩) (ids:=[(19000,19000)]) (fun _ _ _ _ _ d x1 x2 f h=>?_);refine kI hS h ?_ ?_<;>intro h
  ·obtain⟨c9,h⟩:=H0 h;refine K9 hS (And.intro (And.intro c9.1 (by decide:(2:Nat)<=2)) c9.2) 24 10000 [vSl 2 A0 (y2.g x2.toNat).w,pI .i64 (y2.g x2.toNat).e] ?_;refine kI hS h ?_ ?_<;>intro h
   ·refine J5 hS trivial [1] ?_;refine P8 trivial ?_;obtain rfl:=C9 h;exact B0 hS trivial ⟨[(5,pN (y2.g x2.toNat).e),(4,.vec 5700)],[(5700,.vec B3 1 (Sl.nil:Sl (Sl Sound)).n (fun i=>cL 2 A0 ((Sl.nil:Sl (Sl Sound)).g i)) true)]⟩ [5700] (ids:=[]) ⟨rfl,rfl,rfl⟩
   ·refine kC hS h (G2 hS hL) (fun y5 h=>?_);obtain⟨c11,h⟩:=H0 h;exact f _ [(8500,35000),(19000,19000)] _ (x1.push y5) (wrap .i64 (x2+1)) (And.intro (rfl:true=true) c11) h (hle:=klR [(3,.fn (x1.n+1) (x1.push y5).n (Ab x1.n (fun i=>cL 2 A0 (x1.g i)) (E6 [E5] [(0,cL 2 A0 y5)])) (fun i=>cL 2 A0 ((x1.push y5).g i)))] (al1 ⟨rfl,JV (c:=cL 2 A0) (v:=x1) (x:=y5) (z:=[E5]) same rfl rfl⟩ al0))
  ·obtain rfl:=C9 h;exact B0 hS trivial ⟨[(5,pN 0),(4,.vec 8500)],[(8500,.vec B3 1 x1.n (fun i=>cL 2 A0 (x1.g i)) true)]⟩ [8500] (ids:=[(8500,8500)]) ⟨rfl,rfl,rfl⟩
def Bp (N:Nat)(b:A6)(c:Sl Sound):Option ((Sl (Sl Sound))×Int):=
 (Ck N b c).bind fun y1=>
 if (y1.2 != 0) then
  some ((Sl.nil:Sl (Sl Sound)),y1.2)
 else
  (F8 N b.Tree).bind fun y2=>
  S5 N (fun a (x1:Sl (Sl Sound)) (x2:Int)=>
   if (decide (x2<(y2.1.n:Int))) then
    if ((((((0:Int)<=x2/\x2<(y2.1.n:Int))/\x2.toNat<y2.1.n)/\((0:Int)<=(y2.1.g x2.toNat)/\(y2.1.g x2.toNat)<(y1.1.n:Int)))/\(y2.1.g x2.toNat).toNat<y1.1.n)/\((x1.n+(Sl.of [y1.1.g (y2.1.g x2.toNat).toNat]:Sl (Sl Sound)).n)*24<=140737488355328/\x1.n+(Sl.of [y1.1.g (y2.1.g x2.toNat).toNat]:Sl (Sl Sound)).n<=140737488355328))then
     a (x1.push (y1.1.g (y2.1.g x2.toNat).toNat)) (wrap .i64 (x2+1))
    else none
   else
    some (x1,y2.2)
   ) (Sl.nil:Sl (Sl Sound)) 0
theorem Je {N:Nat}{a:A6}{b:Sl Sound}{y:(Sl (Sl Sound))×Int}(h:Bp N a b=some y) :FunO S El [.p (.agg (A3 a)),.p (vSl 2 A0 b)] [] (.tup [.vec 0,pN y.2]) ([.vec B3 1 y.1.n (fun i=>cL 2 A0 (y.1.g i)) true]) []:=by
 unfold Bp at h;refine A5 hS Tryz.func18 ?_;refine kC hS h (KS hS hL) (fun y1 h=>?_);refine kI hS h ?_ ?_<;>intro h
 ·obtain rfl:=C9 h;exact B0 hS trivial ⟨[(5,pN y1.2),(4,.vec 5700)],[(5700,.vec B3 1 (Sl.nil:Sl (Sl Sound)).n (fun i=>cL 2 A0 ((Sl.nil:Sl (Sl Sound)).g i)) true)]⟩ [5700] (ids:=[]) ⟨rfl,rfl,rfl⟩
 ·refine kC hS h (DY hS hL) (fun y2 h=>?_);refine H9 hS trivial h (fun x1 x2=>⟨[(29,pN x2),(28,pN (y2.1.n:Int)),(27,.vec 25000),(9,.vec 10500),(7,pN y2.2),(6,.vec 16000)],[(25000,.vec D5 1 y2.1.n (fun i=>cI .i64 (y2.1.g i)) true),(16000,.vec B3 1 y1.1.n (fun i=>cL 2 A0 (y1.1.g i)) true),(10500,.vec B3 1 x1.n (fun i=>cL 2 A0 (x1.g i)) false)]⟩) (ids:=[(16000,16000),(25000,25000)]) (fun _ _ _ _ _ d x1 x2 f h=>?_);refine kI hS h ?_ ?_<;>intro h
  ·obtain⟨c5,h⟩:=H0 h;exact f _ [(10500,40000),(16000,16000),(25000,25000)] _ (x1.push (y1.1.g (y2.1.g x2.toNat).toNat)) (wrap .i64 (x2+1)) (And.intro (And.intro (And.intro (And.intro (And.intro c5.1.1.1.1 c5.1.1.1.2) c5.1.1.2) c5.1.2) (rfl:true=true)) c5.2) h (hle:=klR [(5,.fn (x1.n+1) (x1.push (y1.1.g (y2.1.g x2.toNat).toNat)).n (Ab x1.n (fun i=>cL 2 A0 (x1.g i)) (E6 [E5] [(0,cL 2 A0 (y1.1.g (y2.1.g x2.toNat).toNat))])) (fun i=>cL 2 A0 ((x1.push (y1.1.g (y2.1.g x2.toNat).toNat)).g i)))] (al1 ⟨rfl,JV (c:=cL 2 A0) (v:=x1) (x:=y1.1.g (y2.1.g x2.toNat).toNat) (z:=[E5]) same rfl rfl⟩ al0))
  ·obtain rfl:=C9 h;exact B0 hS trivial ⟨[(5,pN y2.2),(4,.vec 10500)],[(10500,.vec B3 1 x1.n (fun i=>cL 2 A0 (x1.g i)) true)]⟩ [10500] (ids:=[(10500,10500)]) ⟨rfl,rfl,rfl⟩
def H6 (N:Nat)(f:A6)(i:A6)(b:Sl (Sl Sound)):Option (Bool×Int):=
 (D7 N f).bind fun o=>
 if (o != 0) then
  some (false,o)
 else
  (D7 N i).bind fun q=>
  if (q != 0) then
   some (false,q)
  else
   if (decide (256<(b.n:Int))) then
    some (false,12)
   else
    S8 N (fun j (x1:Int)=>
     if (decide (x1<(b.n:Int))) then
      if ((0:Int)<=x1/\x1<(b.n:Int))then
       (J0 N (b.g x1.toNat)).bind fun y5=>
       if (y5 != 0) then
        some (false,y5)
       else
        j (wrap .i64 (x1+1))
      else none
     else
      (F8 N f.Tree).bind fun y6=>
      (F8 N i.Tree).bind fun y7=>
      if ((y6.1.n:Int) != (y7.1.n:Int)) then
       some (false,2)
      else
       S8 N (fun l (x6:Int)=>
        if (decide (x6<(b.n:Int))) then
         if ((0:Int)<=x6/\x6<(b.n:Int))then
          (F9 N f (b.g x6.toNat)).bind fun c=>
          (F9 N i (b.g x6.toNat)).bind fun d=>
          S8 N (fun m (a:Int)=>
           if (decide (a<(y6.1.n:Int))) then
            if (((((((((0:Int)<=a/\a<(y6.1.n:Int))/\a.toNat<y6.1.n)/\((0:Int)<=(y6.1.g a.toNat)/\(y6.1.g a.toNat)<(c.n:Int)))/\(y6.1.g a.toNat).toNat<c.n)/\((0:Int)<=a/\a<(y7.1.n:Int)))/\a.toNat<y7.1.n)/\((0:Int)<=(y7.1.g a.toNat)/\(y7.1.g a.toNat)<(d.n:Int)))/\(y7.1.g a.toNat).toNat<d.n)then
             lt (fun (z9:Bool)=>
              if z9 then
               some (false,0)
              else
               m (wrap .i64 (a+1))
              ) fun k9=>
              if ((c.g (y6.1.g a.toNat).toNat).e != (d.g (y7.1.g a.toNat).toNat).e) then
               k9 true
              else
               (M0 N (c.g (y6.1.g a.toNat).toNat).w (d.g (y7.1.g a.toNat).toNat).w).bind fun r=>
               k9 (!r)
            else none
           else
            l (wrap .i64 (x6+1))
           ) 0
         else none
        else
         some (true,0)
        ) 0
     ) 0
theorem S1 {N:Nat}{j:A6}{f:A6}{d:Sl (Sl Sound)}{y:Bool×Int}(h:H6 N j f d=some y) :FunO S FK [.p (.agg (A3 j)),.p (.agg (A3 f)),.p (vSl 1 (cL 2 A0) d)] [] (.tup [pB y.1,pN y.2]) ([]) []:=by
 unfold H6 at h;refine A5 hS Tryz.func23 ?_;refine K9 hS trivial 4 4000 (A3 j) ?_;refine K9 hS trivial 6 5000 (A3 f) ?_;refine Zf hS (And.intro (by decide:(3:Nat)<=3) (by decide:(3:Nat)<=3)) 2 (unrT [fun t=>t=⟨[(28,pN 0),(27,.p (.agg [vSl 2 B7 j.Tree,vSl 18 A9 j.Laws,vSl 1 (cL 1 (cI .i64)) j.On,vSl 2 B7 f.Tree,vSl 18 A9 f.Laws,vSl 1 (cL 1 (cI .i64)) f.On])),(4,.p (.ptr (A3 f))),(3,.p (.ptr (A3 j))),(2,.p (vSl 1 (cL 2 A0) d))],[]⟩/\(
  (D7 N j).bind fun z=>
  if (z != 0) then
   some (false,z)
  else
   (D7 N f).bind fun v=>
   if (v != 0) then
    some (false,v)
   else
    if (decide (256<(d.n:Int))) then
     some (false,12)
    else
     S8 N (fun q (x1:Int)=>
      if (decide (x1<(d.n:Int))) then
       if ((0:Int)<=x1/\x1<(d.n:Int))then
        (J0 N (d.g x1.toNat)).bind fun y5=>
        if (y5 != 0) then
         some (false,y5)
        else
         q (wrap .i64 (x1+1))
       else none
      else
       (F8 N j.Tree).bind fun y6=>
       (F8 N f.Tree).bind fun y7=>
       if ((y6.1.n:Int) != (y7.1.n:Int)) then
        some (false,2)
       else
        S8 N (fun r (x6:Int)=>
         if (decide (x6<(d.n:Int))) then
          if ((0:Int)<=x6/\x6<(d.n:Int))then
           (F9 N j (d.g x6.toNat)).bind fun m=>
           (F9 N f (d.g x6.toNat)).bind fun o=>
           S8 N (fun s (c:Int)=>
            if (decide (c<(y6.1.n:Int))) then
             if (((((((((0:Int)<=c/\c<(y6.1.n:Int))/\c.toNat<y6.1.n)/\((0:Int)<=(y6.1.g c.toNat)/\(y6.1.g c.toNat)<(m.n:Int)))/\(y6.1.g c.toNat).toNat<m.n)/\((0:Int)<=c/\c<(y7.1.n:Int)))/\c.toNat<y7.1.n)/\((0:Int)<=(y7.1.g c.toNat)/\(y7.1.g c.toNat)<(o.n:Int)))/\(y7.1.g c.toNat).toNat<o.n)then
              lt (fun (z9:Bool)=>
               if z9 then
                some (false,0)
               else
                s (wrap .i64 (c+1))
               ) fun k9=>
               if ((m.g (y6.1.g c.toNat).toNat).e != (o.g (y7.1.g c.toNat).toNat).e) then
                k9 true
               else
                (M0 N (m.g (y6.1.g c.toNat).toNat).w (o.g (y7.1.g c.toNat).toNat).w).bind fun u=>
                k9 (!u)
             else none
            else
             r (wrap .i64 (x6+1))
            ) 0
          else none
         else
          some (true,0)
         ) 0
      ) 0
  )=some y,fun t=>t=⟨[(28,pN 1),(27,.p (.agg [vSl 2 B7 j.Tree,vSl 18 A9 j.Laws,vSl 1 (cL 1 (cI .i64)) j.On,vSl 2 B7 f.Tree,vSl 18 A9 f.Laws,vSl 1 (cL 1 (cI .i64)) f.On])),(4,.p (.ptr (A3 f))),(3,.p (.ptr (A3 j))),(2,.p (vSl 1 (cL 2 A0) d))],[]⟩/\(
   (D7 N f).bind fun v=>
   if (v != 0) then
    some (false,v)
   else
    if (decide (256<(d.n:Int))) then
     some (false,12)
    else
     S8 N (fun q (x1:Int)=>
      if (decide (x1<(d.n:Int))) then
       if ((0:Int)<=x1/\x1<(d.n:Int))then
        (J0 N (d.g x1.toNat)).bind fun y5=>
        if (y5 != 0) then
         some (false,y5)
        else
         q (wrap .i64 (x1+1))
       else none
      else
       (F8 N j.Tree).bind fun y6=>
       (F8 N f.Tree).bind fun y7=>
       if ((y6.1.n:Int) != (y7.1.n:Int)) then
        some (false,2)
       else
        S8 N (fun r (x6:Int)=>
         if (decide (x6<(d.n:Int))) then
          if ((0:Int)<=x6/\x6<(d.n:Int))then
           (F9 N j (d.g x6.toNat)).bind fun m=>
           (F9 N f (d.g x6.toNat)).bind fun o=>
           S8 N (fun s (c:Int)=>
            if (decide (c<(y6.1.n:Int))) then
             if (((((((((0:Int)<=c/\c<(y6.1.n:Int))/\c.toNat<y6.1.n)/\((0:Int)<=(y6.1.g c.toNat)/\(y6.1.g c.toNat)<(m.n:Int)))/\(y6.1.g c.toNat).toNat<m.n)/\((0:Int)<=c/\c<(y7.1.n:Int)))/\c.toNat<y7.1.n)/\((0:Int)<=(y7.1.g c.toNat)/\(y7.1.g c.toNat)<(o.n:Int)))/\(y7.1.g c.toNat).toNat<o.n)then
              lt (fun (z9:Bool)=>
               if z9 then
                some (false,0)
               else
                s (wrap .i64 (c+1))
               ) fun k9=>
               if ((m.g (y6.1.g c.toNat).toNat).e != (o.g (y7.1.g c.toNat).toNat).e) then
                k9 true
               else
                (M0 N (m.g (y6.1.g c.toNat).toNat).w (o.g (y7.1.g c.toNat).toNat).w).bind fun u=>
                k9 (!u)
             else none
            else
             r (wrap .i64 (x6+1))
            ) 0
          else none
         else
          some (true,0)
         ) 0
      ) 0
  )=some y,fun t=>t=⟨[(28,pN 2),(27,.p (.agg [vSl 2 B7 j.Tree,vSl 18 A9 j.Laws,vSl 1 (cL 1 (cI .i64)) j.On,vSl 2 B7 f.Tree,vSl 18 A9 f.Laws,vSl 1 (cL 1 (cI .i64)) f.On])),(4,.p (.ptr (A3 f))),(3,.p (.ptr (A3 j))),(2,.p (vSl 1 (cL 2 A0) d))],[]⟩/\(
   if (decide (256<(d.n:Int))) then
    some (false,12)
   else
    S8 N (fun q (x1:Int)=>
     if (decide (x1<(d.n:Int))) then
      if ((0:Int)<=x1/\x1<(d.n:Int))then
       (J0 N (d.g x1.toNat)).bind fun y5=>
       if (y5 != 0) then
        some (false,y5)
       else
        q (wrap .i64 (x1+1))
      else none
     else
      (F8 N j.Tree).bind fun y6=>
      (F8 N f.Tree).bind fun y7=>
      if ((y6.1.n:Int) != (y7.1.n:Int)) then
       some (false,2)
      else
       S8 N (fun r (x6:Int)=>
        if (decide (x6<(d.n:Int))) then
         if ((0:Int)<=x6/\x6<(d.n:Int))then
          (F9 N j (d.g x6.toNat)).bind fun m=>
          (F9 N f (d.g x6.toNat)).bind fun o=>
          S8 N (fun s (c:Int)=>
           if (decide (c<(y6.1.n:Int))) then
            if (((((((((0:Int)<=c/\c<(y6.1.n:Int))/\c.toNat<y6.1.n)/\((0:Int)<=(y6.1.g c.toNat)/\(y6.1.g c.toNat)<(m.n:Int)))/\(y6.1.g c.toNat).toNat<m.n)/\((0:Int)<=c/\c<(y7.1.n:Int)))/\c.toNat<y7.1.n)/\((0:Int)<=(y7.1.g c.toNat)/\(y7.1.g c.toNat)<(o.n:Int)))/\(y7.1.g c.toNat).toNat<o.n)then
             lt (fun (z9:Bool)=>
              if z9 then
               some (false,0)
              else
               s (wrap .i64 (c+1))
              ) fun k9=>
              if ((m.g (y6.1.g c.toNat).toNat).e != (o.g (y7.1.g c.toNat).toNat).e) then
               k9 true
              else
               (M0 N (m.g (y6.1.g c.toNat).toNat).w (o.g (y7.1.g c.toNat).toNat).w).bind fun u=>
               k9 (!u)
            else none
           else
            r (wrap .i64 (x6+1))
           ) 0
         else none
        else
         some (true,0)
        ) 0
     ) 0
  )=some y]) ⟨[(28,pN 0),(27,.p (.agg [vSl 2 B7 j.Tree,vSl 18 A9 j.Laws,vSl 1 (cL 1 (cI .i64)) j.On,vSl 2 B7 f.Tree,vSl 18 A9 f.Laws,vSl 1 (cL 1 (cI .i64)) f.On])),(4,.p (.ptr (A3 f))),(3,.p (.ptr (A3 j))),(2,.p (vSl 1 (cL 2 A0) d))],[]⟩ (ids:=[]) ⟨rfl,h⟩ (fun _ _ _ _ i _ t hi ht a0=>?_)
 rcases i with _|_|_|i
 ·obtain⟨rfl,h⟩:=ht;refine E7 hS trivial (b:=decide ((0:Int)<2)) (fun c80=>?_) (fun c80=>?_)
  ·refine K9 hS (And.intro (by decide:(3:Nat)<=6) (by decide:(0:Int)<=0/\(0:Int)<2)) 31 10000 (A3 j) ?_;obtain⟨z,e33,h⟩:=C6 h;refine C7 hS [] (by decide:(3:Nat)<=3) (Q3 hS hL e33) ?_;refine kI hS h ?_ ?_<;>intro h
   ·cases h;exact kR hS
   ·exact a0 _ [] _ _ trivial rfl ⟨rfl,h⟩
  ·exact Bool.noConfusion ((by decide:decide ((0:Int)<2)=true).symm.trans c80)
 ·obtain⟨rfl,h⟩:=ht;refine E7 hS trivial (b:=decide ((1:Int)<2)) (fun c78=>?_) (fun c78=>?_)
  ·refine K9 hS (And.intro (by decide:(3:Nat)<=3) (by decide:(0:Int)<=1/\(1:Int)<2)) 31 10000 (A3 f) ?_;obtain⟨v,e32,h⟩:=C6 h;refine C7 hS [] (by decide:(3:Nat)<=3) (Q3 hS hL e32) ?_;refine kI hS h ?_ ?_<;>intro h
   ·cases h;exact kR hS
   ·exact a0 _ [] _ _ trivial rfl ⟨rfl,h⟩
  ·exact Bool.noConfusion ((by decide:decide ((1:Int)<2)=true).symm.trans c78)
 ·obtain⟨rfl,h⟩:=ht;refine E7 hS trivial (b:=decide ((2:Int)<2)) (fun c6=>?_) (fun c6=>?_)
  ·exact Bool.noConfusion ((by decide:decide ((2:Int)<2)=false).symm.trans c6)
  ·refine kI hS h ?_ ?_<;>intro h
   ·cases h;exact kR hS
   ·refine Al hS trivial h (fun x1=>⟨[(42,pN x1),(41,pN (d.n:Int)),(40,.p (vSl 1 (cL 2 A0) d)),(4,.p (.ptr (A3 f))),(3,.p (.ptr (A3 j))),(2,.p (vSl 1 (cL 2 A0) d))],[]⟩) (ids:=[]) (fun _ _ _ _ _ q x1 a3 h=>?_);refine kI hS h ?_ ?_<;>intro h
    ·obtain⟨c15,h⟩:=H0 h;obtain⟨y5,e5,h⟩:=C6 h;refine C7 hS [] c15 (CB hS hL e5) ?_;refine kI hS h ?_ ?_<;>intro h
     ·cases h;exact kR hS
     ·exact a3 _ [] _ (wrap .i64 (x1+1)) trivial h
    ·refine kC hS h (DY hS hL) (fun y6 h=>?_);refine kC hS h (DY hS hL) (fun y7 h=>?_);refine kI hS h ?_ ?_<;>intro h
     ·cases h;exact kR hS
     ·refine Al hS trivial h (fun x6=>⟨[(71,pN x6),(70,pN (d.n:Int)),(69,.p (vSl 1 (cL 2 A0) d)),(16,.vec 62000),(14,.vec 56000),(4,.p (.ptr (A3 f))),(3,.p (.ptr (A3 j)))],[(62000,.vec D5 1 y7.1.n (fun i=>cI .i64 (y7.1.g i)) true),(56000,.vec D5 1 y6.1.n (fun i=>cI .i64 (y6.1.g i)) true)]⟩) (ids:=[(56000,56000),(62000,62000)]) (fun _ _ _ _ _ r x6 a1 h=>?_);refine kI hS h ?_ ?_<;>intro h
      ·obtain⟨c59,h⟩:=H0 h;refine O5 hS c59 [(0,.n),(3,.n)] ?_;obtain⟨m,e24,h⟩:=C6 h;refine PF [] (by decide:(3:Nat)<=3) (Eb hS hL e24) ?_;obtain⟨o,e25,h⟩:=C6 h;refine PF [] (by decide:(3:Nat)<=3) (Eb hS hL e25) ?_;refine P8 trivial ?_;refine Al hS trivial h (fun c=>⟨[(83,pN c),(82,pN (y6.1.n:Int)),(71,pN x6),(70,pN (d.n:Int)),(69,.p (vSl 1 (cL 2 A0) d)),(21,.vec 81000),(20,.vec 78000),(16,.vec 62000),(14,.vec 56000),(4,.p (.ptr (A3 f))),(3,.p (.ptr (A3 j)))],[(81000,.vec F1 2 o.n (fun i=>I1 (o.g i)) true),(78000,.vec F1 2 m.n (fun i=>I1 (m.g i)) true),(62000,.vec D5 1 y7.1.n (fun i=>cI .i64 (y7.1.g i)) true),(56000,.vec D5 1 y6.1.n (fun i=>cI .i64 (y6.1.g i)) true)]⟩) (ids:=[(56000,56000),(62000,62000),(78000,78000),(81000,81000)]) (fun _ _ _ _ _ s c a2 h=>?_);refine kI hS h ?_ ?_<;>intro h
       ·refine O5 hS trivial [(3,.l [56000]),(4,.l [56000]),(5,.l [78000]),(6,.l [78000]),(10,.l [62000]),(11,.l [62000]),(12,.l [81000]),(13,.l [81000]),(14,.a [24000]),(15,.a [25000]),(16,.a [24000]),(17,.a [25000])] ?_;obtain⟨c73,h⟩:=H0 h;refine P8 (And.intro (And.intro (And.intro (And.intro (And.intro (And.intro (And.intro (And.intro (And.intro c73.1.1.1.1.1.1.1 c73.1.1.1.1.1.1.2) c73.1.1.1.1.1.2) (by decide:(2:Nat)<=2)) c73.1.1.1.1.2) c73.1.1.1.2) c73.1.1.2) c73.1.2) (by decide:(2:Nat)<=2)) c73.2) ?_;refine K9 hS trivial 100 24000 [vSl 2 A0 (m.g (y6.1.g c.toNat).toNat).w,pI .i64 (m.g (y6.1.g c.toNat).toNat).e] ?_;refine K9 hS trivial 100 25000 [vSl 2 A0 (o.g (y7.1.g c.toNat).toNat).w,pI .i64 (o.g (y7.1.g c.toNat).toNat).e] ?_;refine Ls hS trivial (A8 hS) h 0 (fun z9=>⟨[(112,pB z9),(83,pN c),(82,pN (y6.1.n:Int)),(71,pN x6),(70,pN (d.n:Int)),(69,.p (vSl 1 (cL 2 A0) d)),(21,.vec 81000),(20,.vec 78000),(16,.vec 62000),(14,.vec 56000),(4,.p (.ptr (A3 f))),(3,.p (.ptr (A3 j)))],[(81000,.vec F1 2 o.n (fun i=>I1 (o.g i)) true),(78000,.vec F1 2 m.n (fun i=>I1 (m.g i)) true),(62000,.vec D5 1 y7.1.n (fun i=>cI .i64 (y7.1.g i)) true),(56000,.vec D5 1 y6.1.n (fun i=>cI .i64 (y6.1.g i)) true)]⟩) (fun M9 k9 x h=>?_) (fun z9 h=>?_)
        ·refine kG hS h (fun h=>?_) (fun h=>?_)
         ·exact x _ [(56000,56000),(62000,62000),(78000,78000),(81000,81000)] _ true trivial h
         ·refine kC hS h (Ql hS hL) (fun u h=>?_);exact x _ [(56000,56000),(62000,62000),(78000,78000),(81000,81000)] _ (!u) trivial h
        ·refine kI hS h ?_ ?_<;>intro h
         ·cases h;exact kR hS
         ·exact a2 _ [(56000,56000),(62000,62000),(78000,78000),(81000,81000)] _ (wrap .i64 (c+1)) trivial h
       ·exact a1 _ [(56000,56000),(62000,62000)] _ (wrap .i64 (x6+1)) trivial h
      ·cases h;exact kR hS
 ·exact absurd hi (by omega)
end Go.AM
namespace Go.AM
open IntKind (wrap)
open Go.Proofs
set_option maxRecDepth 10000
set_option maxHeartbeats 2000000
variable {S:X6}(hS:G5 S Tryz.prog) (hL:LL S)
theorem Av1 {T:Type}{e:TypeId}{k:Nat}{c:T->List PV}{X:Sl (Sl T)}{z:Sl T}:∀q,q<X.n+1->(fun q=>if q=X.n then Fe e k c z else Fe e k c (X.g q)) q=(fun q=>Fe e k c ((X.push z).g q)) q:=fun q a=>by
 show (if q=X.n then Fe e k c z else Fe e k c (X.g q))=Fe e k c (if q<X.n then X.g q else z);by_cases h:q=X.n
 ·rw[if_pos h,if_neg (by omega)]
 ·rw[if_neg h,if_pos (by omega)]
theorem Ak7 {T:Type}{e:TypeId}{k n i:Nat}{c:T->List PV}{X:Sl (Sl T)}{z:Sl T}:∀q,q<n->(Ra (if q=i then Fe e k c z else if q=i then Obj.dead else Fe e k c (X.g q))).isSome=true:=fun q _=>by
 by_cases h:q=i
 ·rw[if_pos h];rfl
 ·rw[if_neg h,if_neg h];rfl
theorem Av2 {T:Type}{e:TypeId}{k n i:Nat}{c:T->List PV}{X:Sl (Sl T)}{z:Sl T}:∀q,q<n->[(Ra (if q=i then Fe e k c z else if q=i then Obj.dead else Fe e k c (X.g q))).getD default]=cL k c ((X.upd i z).g q):=fun q _=>by
 show _=cL k c (if q=i then z else X.g q);by_cases h:q=i
 ·rw[if_pos h,if_pos h];rfl
 ·rw[if_neg h,if_neg h,if_neg h];rfl
include hS hL
def H1 (N:Nat)(s:Sl F0):Option (Sl F0):=if (0+s.n)*24<=140737488355328/\0+s.n<=140737488355328 then some s else none
theorem Z9 {N:Nat}{s y:Sl F0}(h:H1 N s=some y):FunO S N2 [.p (vSl 2 B7 s)] [] (.vec 0) [.vec H8 2 y.n (fun i=>B7 (y.g i)) true] []:=by
 unfold H1 at h;obtain⟨c1,h⟩:=H0 h;obtain rfl:=C9 h;refine A5 hS Tryz.func72 ?_;refine WH hS trivial 3 (k:=2) (n:=s.n) (f:=fun i=>B7 (s.g i)) (fun a=>?_) ?_
 ·obtain⟨n,g⟩:=s;obtain rfl:n=0:=a;exact B0 hS trivial ⟨[(2,.vec 3700)],[(3700,.vec H8 2 0 (fun i=>B7 (g i)) true)]⟩ [3700] (ids:=[]) ⟨rfl,rfl,rfl⟩
 ·exact B0 hS (And.intro (rfl:true=true) c1) ⟨[(2,.vec 8000)],[(8000,.vec H8 2 s.n (fun i=>B7 (s.g i)) true)]⟩ [8000] (ids:=[(8000,8000)]) ⟨rfl,rfl,rfl⟩
   (hle:=klR [(0,.fn (0+s.n) s.n (Ab 0 (E6 [pI .i64 0,.str []] []) (fun i=>B7 (s.g i))) (fun i=>B7 (s.g i)))] (al1 ⟨AB0 _,fun i _=>by simp[Ab]⟩ al0))
def P4 (N:Nat)(s:Sl Int):Option (Sl Int):=if (0+s.n)*8<=140737488355328/\0+s.n<=140737488355328 then some s else none
theorem CW {N:Nat}{s y:Sl Int}(h:P4 N s=some y):FunO S Y0 [.p (vSl 1 (cI .i64) s)] [] (.vec 0) [.vec D5 1 y.n (fun i=>cI .i64 (y.g i)) false] []:=by
 unfold P4 at h;obtain⟨c1,h⟩:=H0 h;obtain rfl:=C9 h;refine A5 hS Tryz.func74 ?_;refine WH hS trivial 3 (k:=1) (n:=s.n) (f:=fun i=>cI .i64 (s.g i)) (fun a=>?_) ?_
 ·obtain⟨n,g⟩:=s;obtain rfl:n=0:=a;exact B0 hS trivial ⟨[(2,.vec 3700)],[(3700,.vec D5 1 0 (fun i=>cI .i64 (g i)) false)]⟩ [3700] (ids:=[]) ⟨rfl,rfl,rfl⟩
 ·exact B0 hS (And.intro (rfl:true=true) c1) ⟨[(2,.vec 8000)],[(8000,.vec D5 1 s.n (fun i=>cI .i64 (s.g i)) false)]⟩ [8000] (ids:=[(8000,8000)]) ⟨rfl,rfl,rfl⟩
   (hle:=klR [(0,.fn (0+s.n) s.n (Ab 0 (E6 [pI .i64 0] []) (fun i=>cI .i64 (s.g i))) (fun i=>cI .i64 (s.g i)))] (al1 ⟨AB0 _,fun i _=>by simp[Ab]⟩ al0))
def CX (N:Nat)(c:A6)(b:Int)(a:Int):Option (A6×Int):=
 (D7 N c).bind fun y1=>
 if (y1 != 0) then
  some ((⟨(Sl.nil:Sl F0),(Sl.nil:Sl Law),(Sl.nil:Sl (Sl Int))⟩:A6),y1)
 else
  (Z2 N c b).bind fun y2=>
  if ((!y2)=false->((decide (a<0))=false->((0:Int)<=b/\b<(c.On.n:Int))))then
   if (((!y2)||(decide (a<0)))||(decide ((wrap .i64 (((c.On.g b.toNat).n:Int)-1))<=a))) then
    some ((⟨(Sl.nil:Sl F0),(Sl.nil:Sl Law),(Sl.nil:Sl (Sl Int))⟩:A6),3)
   else
    (H1 N c.Tree).bind fun y3=>
    S5 N (fun d (x1:Sl Law) (x2:Int)=>
     if (decide (x2<(c.Laws.n:Int))) then
      if ((0:Int)<=x2/\x2<(c.Laws.n:Int))then
       (O2 N (c.Laws.g x2.toNat)).bind fun y6=>
       if ((x1.n+(Sl.of [y6]:Sl Law).n)*200<=140737488355328/\x1.n+(Sl.of [y6]:Sl Law).n<=140737488355328)then
        d (x1.push y6) (wrap .i64 (x2+1))
       else none
      else none
     else
      S5 N (fun f (x3:Sl (Sl Int)) (x4:Int)=>
       if (decide (x4<(c.On.n:Int))) then
        if ((0:Int)<=x4/\x4<(c.On.n:Int))then
         (P4 N (c.On.g x4.toNat)).bind fun y9=>
         if ((x3.n+(Sl.of [y9]:Sl (Sl Int)).n)*24<=140737488355328/\x3.n+(Sl.of [y9]:Sl (Sl Int)).n<=140737488355328)then
          f (x3.push y9) (wrap .i64 (x4+1))
         else none
        else none
       else if b.toNat<x3.n then
        if (((0:Int)<=b/\b<(x3.n:Int))/\((0:Int)<=a/\a<((x3.g b.toNat).n:Int))/\((0:Int)<=(wrap .i64 (a+1))/\(wrap .i64 (a+1))<((x3.g b.toNat).n:Int)))then
         some ((⟨y3,x1,x3.upd b.toNat (((x3.g b.toNat).upd a.toNat ((x3.g b.toNat).g (wrap .i64 (a+1)).toNat)).upd (wrap .i64 (a+1)).toNat ((x3.g b.toNat).g a.toNat))⟩:A6),0)
        else none
       else none
       ) (Sl.nil:Sl (Sl Int)) 0
     ) (Sl.nil:Sl Law) 0
  else none
theorem LY {N:Nat}{j:A6}{f:Int}{d:Int}{y:A6×Int}(h:CX N j f d=some y) :FunO S FL [.p (.agg (A3 j)),pN f,pN d] [] (.tup [.p (.agg (A3 y.1)),pN y.2]) ([]) []:=by
 unfold CX at h;refine A5 hS Tryz.func27 ?_;refine K9 hS trivial 6 4000 (A3 j) ?_;obtain⟨y1,e1,h⟩:=C6 h;refine C7 hS [] (by decide:(3:Nat)<=3) (Q3 hS hL e1) ?_;refine kI hS h ?_ ?_<;>intro h
 ·obtain rfl:=C9 h;exact B0 hS trivial ⟨[(7,pN y1),(6,.reg 7000 0)],[(7000,.cells [.p (vSl 2 B7 (Sl.nil:Sl F0)),.p (vSl 18 A9 (Sl.nil:Sl Law)),.p (vSl 1 (cL 1 (cI .i64)) (Sl.nil:Sl (Sl Int)))])]⟩ [] (ids:=[(7000,7000)]) ⟨rfl,rfl,rfl⟩
 ·obtain⟨y2,e2,h⟩:=C6 h;refine C7 hS [] (by decide:(3:Nat)<=3) (CR hS hL e2) ?_;obtain⟨c2,h⟩:=H0 h;refine kB hS (A8 hS) trivial c2 14 (.o (.o (.a (!y2)) (.a (decide (d<0)))) (.a (decide ((wrap .i64 (((j.On.g f.toNat).n:Int)-1))<=d)))) ?_;refine kI hS h ?_ ?_<;>intro h
  ·obtain rfl:=C9 h;exact B0 hS trivial ⟨[(7,pN 3),(6,.reg 7000 0)],[(7000,.cells [.p (vSl 2 B7 (Sl.nil:Sl F0)),.p (vSl 18 A9 (Sl.nil:Sl Law)),.p (vSl 1 (cL 1 (cI .i64)) (Sl.nil:Sl (Sl Int)))])]⟩ [] (ids:=[(7000,7000)]) ⟨rfl,rfl,rfl⟩
  ·refine kC hS h (Z9 hS hL) (fun y3 h=>?_);refine H9 hS trivial h (fun x1 x2=>⟨[(48,pN x2),(47,pN (j.Laws.n:Int)),(46,.p (vSl 18 A9 j.Laws)),(9,.reg 10000 0),(6,.reg 7000 0),(3,.p (.ptr (A3 j))),(2,pN d),(1,pN f)],[(44000,.vec H8 2 y3.n (fun i=>B7 (y3.g i)) true),(10500,.vec N4 18 x1.n (fun i=>A9 (x1.g i)) false),(10000,.cells [.vec 44000,.vec 10500,.p E5]),(7000,.cells [.p E5,.p E5,.p E5])]⟩) (ids:=[(7000,7000),(10000,10000),(44000,44000)]) (fun _ _ _ _ _ m x1 x2 r h=>?_);refine kI hS h ?_ ?_<;>intro h
   ·obtain⟨c11,h⟩:=H0 h;refine Aj1 hS (And.intro c11 (by decide:(18:Nat)<=18)) 12000 (A9 (j.Laws.g x2.toNat)) ?_;refine J5 hS trivial [2,3] ?_;obtain⟨y6,e6,h⟩:=C6 h;refine AX (by decide:(18:Nat)<=18) (Eu hS hL e6) ?_;refine BR trivial (x:=.sl true 18 1 (E6 [.str [],pI .i64 0,pI .u32 0,pI .u32 0,.v (.bool false),pI .i64 0,pI .i64 0,E5,pI .i64 0,pI .u32 0,pI .u32 0,.v (.bool false),pI .i64 0,pI .i64 0,E5,E5,E5,pI .i64 0] [(0,A9 y6)])) ?_;obtain⟨c12,h⟩:=H0 h;refine P8 c12 ?_;exact r _ [(7000,7000),(10000,10000),(10500,58000),(44000,44000)] _ (x1.push y6) (wrap .i64 (x2+1)) trivial h (hle:=klR [(7,.fn (x1.n+1) (x1.push y6).n (Ab x1.n (fun i=>A9 (x1.g i)) (E6 [.str [],pI .i64 0,pI .u32 0,pI .u32 0,.v (.bool false),pI .i64 0,pI .i64 0,E5,pI .i64 0,pI .u32 0,pI .u32 0,.v (.bool false),pI .i64 0,pI .i64 0,E5,E5,E5,pI .i64 0] [(0,A9 y6)])) (fun i=>A9 ((x1.push y6).g i)))] (al1 ⟨rfl,JV (c:=A9) (v:=x1) (x:=y6) (z:=[(.str []),pI .i64 0,pI .u32 0,pI .u32 0,.v (.bool false),pI .i64 0,pI .i64 0,E5,pI .i64 0,pI .u32 0,pI .u32 0,.v (.bool false),pI .i64 0,pI .i64 0,E5,E5,E5,pI .i64 0]) same rfl rfl⟩ al0))
   ·refine N1 hS trivial 60 ⟨[(9,.reg 10000 0),(6,.reg 7000 0),(3,.p (.ptr (A3 j))),(2,pN d),(1,pN f)],[(44000,.vec H8 2 y3.n (fun i=>B7 (y3.g i)) true),(10501,.vec AR 1 0 (fun _=>[]) false),(10500,.vec N4 18 x1.n (fun i=>A9 (x1.g i)) false),(10000,.cells [.vec 44000,.vec 10500,.vec 10501]),(7000,.cells [.p E5,.p E5,.p E5])]⟩ (ids:=[(7000,7000),(10000,10000),(10500,10500),(44000,44000)]) ?_;refine GU hS trivial 60 (.fam 10501 10901 fun i=>Fe D5 1 (cI .i64) ((Sl.nil:Sl (Sl Int)).g i)) (⟨by decide,fun i u=>absurd u (AC1 i)⟩:1000<=10901/\∀i,i<0->SV ((fun _=>[]) i) (Fe D5 1 (cI .i64) ((Sl.nil:Sl (Sl Int)).g i))) ?_;refine H9 hS trivial h (fun x3 x4=>⟨[(63,pN x4),(62,pN (j.On.n:Int)),(61,.p (vSl 1 (cL 1 (cI .i64)) j.On)),(9,.reg 10000 0),(6,.reg 7000 0),(2,pN d),(1,pN f)],[(44000,.vec H8 2 y3.n (fun i=>B7 (y3.g i)) true),(10901,.rows x3.n fun i=>Fe D5 1 (cI .i64) (x3.g i)),(10501,.fam AR x3.n 10901 none),(10500,.vec N4 18 x1.n (fun i=>A9 (x1.g i)) false),(10000,.cells [.vec 44000,.vec 10500,.vec 10501]),(7000,.cells [.p E5,.p E5,.p E5])]⟩) (ids:=[(7000,7000),(10000,10000),(10500,10500),(10501,10501),(10901,10901),(44000,44000)]) (fun _ _ _ _ _ s x3 x4 t h=>?_);refine kI hS h ?_ ?_<;>intro h
    ·obtain⟨c20,h⟩:=H0 h;refine O5 hS c20 [(1,.l [10000]),(3,.b [71000]),(4,.b [72000,71000])] ?_;obtain⟨y9,e9,h⟩:=C6 h;refine PF [] trivial (CW hS hL e9) ?_;obtain⟨c21,h⟩:=H0 h;refine P8 c21 ?_;refine GU hS trivial 74 (.psh 73000 10902) (⟨by decide,rfl,rfl⟩:1000<=10902/\x3.n+1=x3.n+1/\x3.n=x3.n) ?_;exact t _ [(7000,7000),(10000,10000),(10500,10500),(10501,73000),(10901,10902),(44000,44000)] _ (x3.push y9) (wrap .i64 (x4+1)) trivial h (hle:=klR [(7,.ob (x3.n+1) (fun q=>if q=x3.n then Fe D5 1 (cI .i64) y9 else Fe D5 1 (cI .i64) (x3.g q)) (fun i=>Fe D5 1 (cI .i64) ((x3.push y9).g i)))] (al1 Av1 al0))
    ·obtain⟨cT,h⟩:=H0 h;obtain⟨⟨c30,c31,c32⟩,h⟩:=H0 h;refine GU hS trivial 75 (.take 10501 f.toNat 10801) (⟨⟨by decide,rfl⟩,cT⟩:(1000<=10801/\x3.n=x3.n)/\f.toNat<x3.n) ?_;refine O5 hS (And.intro c30 (And.intro cT (rfl:f.toNat=f.toNat))) [(8,.l [10801]),(9,.l [10801]),(12,.l [10801]),(13,.l [10801]),(14,.l [10801]),(15,.a [10801]),(16,.l [10801]),(17,.a [10801])] ?_;have l1:(wrap .i64 (d+1)).toNat<(x3.g f.toNat).n:=by omega
     have l2:d.toNat<(x3.g f.toNat).n:=by omega
     refine P8 (And.intro (And.intro (And.intro (And.intro (And.intro (And.intro (And.intro c32 l1) c31) l2) c31) (And.intro (rfl:(1:Nat)=1) (And.intro l2 (by decide:(1:Nat)<=1)))) c32) (And.intro (rfl:(1:Nat)=1) (And.intro l1 (by decide:(1:Nat)<=1)))) ?_;refine N1 hS trivial 96 ⟨[(9,.reg 10000 0),(6,.reg 7000 0)],[(44000,.vec H8 2 y3.n (fun i=>B7 (y3.g i)) true),(10901,(.rows x3.n fun l=>if l=f.toNat then .dead else Fe D5 1 (cI .i64) (x3.g l))),(10801,Fe D5 1 (cI .i64) (((x3.g f.toNat).upd d.toNat ((x3.g f.toNat).g (wrap .i64 (d+1)).toNat)).upd (wrap .i64 (d+1)).toNat ((x3.g f.toNat).g d.toNat))),(10501,.fam AR x3.n 10901 (some (f.toNat,.vec 10801))),(10500,.vec N4 18 x1.n (fun i=>A9 (x1.g i)) false),(10000,.cells [.vec 44000,.vec 10500,.vec 10501]),(7000,.cells [.p E5,.p E5,.p E5])]⟩ (ids:=[(7000,7000),(10000,10000),(10500,10500),(10501,10501),(10801,10801),(10901,10901),(44000,44000)]) ?_ (hle:=klR [(3,.fn (x3.g f.toNat).n (((x3.g f.toNat).upd d.toNat ((x3.g f.toNat).g (wrap .i64 (d+1)).toNat)).upd (wrap .i64 (d+1)).toNat ((x3.g f.toNat).g d.toNat)).n (fun l=>if l=(wrap .i64 (d+1)).toNat then splice ((fun l=>if l=d.toNat then splice ((fun i=>cI .i64 ((x3.g f.toNat).g i)) l) 0 [pI .i64 ((x3.g f.toNat).g (wrap .i64 (d+1)).toNat)]else (fun i=>cI .i64 ((x3.g f.toNat).g i)) l) l) 0 [pI .i64 ((x3.g f.toNat).g d.toNat)]else (fun l=>if l=d.toNat then splice ((fun i=>cI .i64 ((x3.g f.toNat).g i)) l) 0 [pI .i64 ((x3.g f.toNat).g (wrap .i64 (d+1)).toNat)]else (fun i=>cI .i64 ((x3.g f.toNat).g i)) l) l) (fun i=>cI .i64 ((((x3.g f.toNat).upd d.toNat ((x3.g f.toNat).g (wrap .i64 (d+1)).toNat)).upd (wrap .i64 (d+1)).toNat ((x3.g f.toNat).g d.toNat)).g i)))] (al1 ⟨rfl,Ao6 (c:=cI .i64) (v:=(x3.g f.toNat).upd d.toNat ((x3.g f.toNat).g (wrap .i64 (d+1)).toNat)) (x:=(x3.g f.toNat).g d.toNat) (Ao6 (c:=cI .i64) (v:=x3.g f.toNat) (x:=(x3.g f.toNat).g (wrap .i64 (d+1)).toNat) same (fun _=>by first|rfl|(dsimp only;split<;>rfl))) (fun _=>by first|rfl|(dsimp only;split<;>rfl))⟩ al0));refine GU hS trivial 96 (.put 10501 10902) (⟨⟨by decide,rfl⟩,cT⟩:(1000<=10902/\x3.n=x3.n)/\f.toNat<x3.n) ?_;refine GU hS trivial 96 (.pub 10501) (⟨rfl,Ak7⟩:x3.n=x3.n/\∀q,q<x3.n->(Ra (if q=f.toNat then Fe D5 1 (cI .i64) (((x3.g f.toNat).upd d.toNat ((x3.g f.toNat).g (wrap .i64 (d+1)).toNat)).upd (wrap .i64 (d+1)).toNat ((x3.g f.toNat).g d.toNat))else if q=f.toNat then Obj.dead else Fe D5 1 (cI .i64) (x3.g q))).isSome=true) ?_;obtain rfl:=C9 h;exact B0 hS trivial ⟨[(7,pN 0),(6,.reg 7000 0)],[(7000,.cells [.p (vSl 2 B7 y3),.p (vSl 18 A9 x1),.p (vSl 1 (cL 1 (cI .i64)) (x3.upd f.toNat (((x3.g f.toNat).upd d.toNat ((x3.g f.toNat).g (wrap .i64 (d+1)).toNat)).upd (wrap .i64 (d+1)).toNat ((x3.g f.toNat).g d.toNat))))])]⟩ [] (ids:=[(7000,7000)]) ⟨rfl,rfl,rfl⟩ (hle:=klR [(3,.fn x3.n (x3.upd f.toNat (((x3.g f.toNat).upd d.toNat ((x3.g f.toNat).g (wrap .i64 (d+1)).toNat)).upd (wrap .i64 (d+1)).toNat ((x3.g f.toNat).g d.toNat))).n (fun q=>[(Ra (if q=f.toNat then Fe D5 1 (cI .i64) (((x3.g f.toNat).upd d.toNat ((x3.g f.toNat).g (wrap .i64 (d+1)).toNat)).upd (wrap .i64 (d+1)).toNat ((x3.g f.toNat).g d.toNat))else if q=f.toNat then Obj.dead else Fe D5 1 (cI .i64) (x3.g q))).getD default]) (fun i=>cL 1 (cI .i64) ((x3.upd f.toNat (((x3.g f.toNat).upd d.toNat ((x3.g f.toNat).g (wrap .i64 (d+1)).toNat)).upd (wrap .i64 (d+1)).toNat ((x3.g f.toNat).g d.toNat))).g i)))] (al1 ⟨rfl,Av2⟩ al0))
end Go.AM
namespace Go.AM
open Go.Proofs
set_option maxRecDepth 10000
set_option maxHeartbeats 2000000
variable {S:X6}(hS:G5 S Tryz.prog) (hL:LL S)
include hS hL
end Go.AM
namespace Go.AM
open Go.Proofs
set_option maxRecDepth 10000
set_option maxHeartbeats 2000000
variable {S:X6}(hS:G5 S Tryz.prog) (hL:LL S)
include hS hL
def U8 (N:Nat)  : Option Bool:=
 (Ea N ).bind fun y1=>
 (CU N ).bind fun y2=>
 (Ou N ).bind fun y3=>
 (CU N ).bind fun y4=>
 (CS N y1 3).bind fun y5=>
 (CE N y1 (Sl.of [y2,y3,y4]:Sl Sound) 3).bind fun y6=>
 (Bp N y1 (Sl.of [y2,y3,y4]:Sl Sound)).bind fun y7=>
 (Cj N y1 1).bind fun y8=>
 (CX N y1 2 0).bind fun y9=>
 (CE N y9.1 (Sl.of [y2,y3,y4]:Sl Sound) 2).bind fun a=>
 (H6 N y1 y9.1 (Sl.of [(Sl.of [y2,y3,y4]:Sl Sound)]:Sl (Sl Sound))).bind fun b=>
 lt (fun (z1:Bool)=>
  some z1
  ) fun k1=>
  if (y5.2==0) then
   if (y6.2==0) then
    if (y7.2==0) then
     if (y8.2==0) then
      if (y9.2==0) then
       if (a.2==0) then
        if (b.2==0) then
         (DZ N y5.1 (Sl.of [0,1]:Sl Int)).bind fun c=>
         if c then
          (CU N ).bind fun d=>
          (Ic N ).bind fun f=>
          (BY N y6.1 (Sl.of [d,f]:Sl Sound)).bind fun g=>
          if g then
           (CU N ).bind fun i=>
           (Ou N ).bind fun j=>
           (CU N ).bind fun l=>
           (Ic N ).bind fun m=>
           (CU N ).bind fun n=>
           (Ic N ).bind fun o=>
           (CU N ).bind fun q=>
           (Gu N y7.1 (Sl.of [(Sl.of [i,j]:Sl Sound),(Sl.of [l,m]:Sl Sound),(Sl.of [n,o,q]:Sl Sound)]:Sl (Sl Sound))).bind fun r=>
           if r then
            (DZ N y8.1 (Sl.of [2,3]:Sl Int)).bind fun s=>
            if s then
             (CU N ).bind fun t=>
             (Ic N ).bind fun u=>
             (BY N a.1 (Sl.of [t,u]:Sl Sound)).bind fun v=>
             if v then
              k1 (!b.1)
             else
              k1 false
            else
             k1 false
           else
            k1 false
          else
           k1 false
         else
          k1 false
        else
         k1 false
       else
        k1 false
      else
       k1 false
     else
      k1 false
    else
     k1 false
   else
    k1 false
  else
   k1 false
theorem Ec {N:Nat}    {y:Bool}(h:U8 N  = some y) :FunO S Kd [] [] (pB y) ([]) []:=by
 unfold U8 at h;refine A5 hS Tryz.func13 ?_;refine kC hS h (Ow hS hL) (fun y1 h=>?_);refine kC hS h (Ff hS hL) (fun y2 h=>?_);refine kC hS h (WZ hS hL) (fun y3 h=>?_);refine kC hS h (Ff hS hL) (fun y4 h=>?_);obtain⟨y5,e5,h⟩:=C6 h;refine C7 hS [] (rfl:true=true) (LX hS hL e5) ?_;refine Cw hS trivial ⟨[(29,.vec 22000),(28,.p (.agg (A3 y1))),(4,pN y5.2),(3,.vec 25000),(2,.vec 22000),(1,.reg 2000 0)],[(25000,.vec D5 1 y5.1.n (fun i=>cI .i64 (y5.1.g i)) true),(22000,.vec B5 2 (Sl.of [y2,y3,y4]:Sl Sound).n (fun i=>A0 ((Sl.of [y2,y3,y4]:Sl Sound).g i)) false),(2000,.cells ((A3 y1).map .p))]⟩ (ids:=[(2000,2000),(22000,22000),(25000,25000)]) ?_ (hle:=klR [(3,.fn 3 (Sl.of [y2,y3,y4]:Sl Sound).n (E6 [pI .u32 0,pI .u32 0] [(0,A0 y2),(1,A0 y3),(2,A0 y4)]) (fun i=>A0 ((Sl.of [y2,y3,y4]:Sl Sound).g i)))] (al1 ⟨rfl,(fun i a=>match i,a with|0,_=>rfl|1,_=>rfl|2,_=>rfl|_+3,a=>absurd a (by omega))⟩ al0));refine kC hS h (IO hS hL) (fun y6 h=>?_);refine kC hS h (Je hS hL) (fun y7 h=>?_);refine kC hS h (KR hS hL) (fun y8 h=>?_);refine kC hS h (LY hS hL) (fun y9 h=>?_);refine kC hS h (IO hS hL) (fun q h=>?_);refine Cw hS (rfl:true=true) ⟨[(59,.vec 60000),(57,.p (.agg (A3 y9.1))),(56,.p (.agg (A3 y1))),(14,pN q.2),(13,.p (vSl 2 A0 q.1)),(12,pN y9.2),(10,pN y8.2),(9,.vec 42000),(8,pN y7.2),(7,.vec 37000),(6,pN y6.2),(5,.p (vSl 2 A0 y6.1)),(4,pN y5.2),(3,.vec 25000)],[(60000,.vec B3 1 (Sl.of [(Sl.of [y2,y3,y4]:Sl Sound)]:Sl (Sl Sound)).n (fun i=>cL 2 A0 ((Sl.of [(Sl.of [y2,y3,y4]:Sl Sound)]:Sl (Sl Sound)).g i)) false),(42000,.vec D5 1 y8.1.n (fun i=>cI .i64 (y8.1.g i)) true),(37000,.vec B3 1 y7.1.n (fun i=>cL 2 A0 (y7.1.g i)) true),(25000,.vec D5 1 y5.1.n (fun i=>cI .i64 (y5.1.g i)) true)]⟩ (ids:=[(25000,25000),(37000,37000),(42000,42000),(60000,60000)]) ?_ (hle:=klR [(10,.fn 1 (Sl.of [(Sl.of [y2,y3,y4]:Sl Sound)]:Sl (Sl Sound)).n (E6 [E5] [(0,cL 2 A0 (Sl.of [y2,y3,y4]:Sl Sound))]) (fun i=>cL 2 A0 ((Sl.of [(Sl.of [y2,y3,y4]:Sl Sound)]:Sl (Sl Sound)).g i)))] (al1 ⟨rfl,(fun i a=>match i,a with|0,_=>rfl|_+1,a=>absurd a (by omega))⟩ al0));refine kC hS h (S1 hS hL) (fun r h=>?_);refine Ls hS trivial (A8 hS) h 0 (fun z1=>⟨[(0,pB z1)],[]⟩) (fun M1 k1 b h=>?_) (fun z1 h=>?_)
 ·refine kG hS h (fun h=>?_) (fun h=>?_)
  ·refine kG hS h (fun h=>?_) (fun h=>?_)
   ·refine kG hS h (fun h=>?_) (fun h=>?_)
    ·refine kG hS h (fun h=>?_) (fun h=>?_)
     ·refine kG hS h (fun h=>?_) (fun h=>?_)
      ·refine kG hS h (fun h=>?_) (fun h=>?_)
       ·refine kG hS h (fun h=>?_) (fun h=>?_)
        ·refine Cw hS (rfl:true=true) ⟨[(91,.vec 92000),(90,.vec 25000),(89,.p (.v (.bool true))),(15,pB r.1),(13,.p (vSl 2 A0 q.1)),(9,.vec 42000),(7,.vec 37000),(5,.p (vSl 2 A0 y6.1))],[(92000,.vec D5 1 (Sl.of [0,1]:Sl Int).n (fun i=>cI .i64 ((Sl.of [0,1]:Sl Int).g i)) false),(42000,.vec D5 1 y8.1.n (fun i=>cI .i64 (y8.1.g i)) true),(37000,.vec B3 1 y7.1.n (fun i=>cL 2 A0 (y7.1.g i)) true),(25000,.vec D5 1 y5.1.n (fun i=>cI .i64 (y5.1.g i)) true)]⟩ (ids:=[(25000,25000),(37000,37000),(42000,42000),(92000,92000)]) ?_ (hle:=klR [(4,.fn 2 (Sl.of [0,1]:Sl Int).n (E6 [pI .i64 0] [(0,cI .i64 0),(1,cI .i64 1)]) (fun i=>cI .i64 ((Sl.of [0,1]:Sl Int).g i)))] (al1 ⟨rfl,(fun i a=>match i,a with|0,_=>rfl|1,_=>rfl|_+2,a=>absurd a (by omega))⟩ al0));refine kC hS h (KQ hS hL) (fun x h=>?_);refine kG hS h (fun h=>?_) (fun h=>?_)
         ·refine kC hS h (Ff hS hL) (fun s h=>?_);refine kC hS h (Ov hS hL) (fun t h=>?_);refine Cw hS (rfl:true=true) ⟨[(98,.vec 99000),(95,.p (vSl 2 A0 y6.1)),(94,.p (.v (.bool true))),(15,pB r.1),(13,.p (vSl 2 A0 q.1)),(9,.vec 42000),(7,.vec 37000)],[(99000,.vec B5 2 (Sl.of [s,t]:Sl Sound).n (fun i=>A0 ((Sl.of [s,t]:Sl Sound).g i)) false),(42000,.vec D5 1 y8.1.n (fun i=>cI .i64 (y8.1.g i)) true),(37000,.vec B3 1 y7.1.n (fun i=>cL 2 A0 (y7.1.g i)) true)]⟩ (ids:=[(37000,37000),(42000,42000),(99000,99000)]) ?_ (hle:=klR [(4,.fn 2 (Sl.of [s,t]:Sl Sound).n (E6 [pI .u32 0,pI .u32 0] [(0,A0 s),(1,A0 t)]) (fun i=>A0 ((Sl.of [s,t]:Sl Sound).g i)))] (al1 ⟨rfl,(fun i a=>match i,a with|0,_=>rfl|1,_=>rfl|_+2,a=>absurd a (by omega))⟩ al0));refine kC hS h (Gp hS hL) (fun z h=>?_);refine kG hS h (fun h=>?_) (fun h=>?_)
          ·refine kC hS h (Ff hS hL) (fun c h=>?_);refine kC hS h (WZ hS hL) (fun d h=>?_);obtain⟨f,e34,h⟩:=C6 h;refine C7 hS [] (rfl:true=true) (Ff hS hL e34) ?_;refine kC hS h (Ov hS hL) (fun j h=>?_);obtain⟨l,e36,h⟩:=C6 h;refine C7 hS [] (rfl:true=true) (Ff hS hL e36) ?_;refine kC hS h (Ov hS hL) (fun m h=>?_);refine kC hS h (Ff hS hL) (fun o h=>?_);refine N1 hS (rfl:true=true) 113 ⟨[(112,.vec 113000),(108,.vec 109000),(105,.vec 106000),(102,.vec 37000),(101,.p (.v (.bool true))),(15,pB r.1),(13,.p (vSl 2 A0 q.1)),(9,.vec 42000)],[(113000,.vec B5 2 (Sl.of [l,m,o]:Sl Sound).n (fun i=>A0 ((Sl.of [l,m,o]:Sl Sound).g i)) true),(109000,.vec B5 2 (Sl.of [f,j]:Sl Sound).n (fun i=>A0 ((Sl.of [f,j]:Sl Sound).g i)) true),(106000,.vec B5 2 (Sl.of [c,d]:Sl Sound).n (fun i=>A0 ((Sl.of [c,d]:Sl Sound).g i)) true),(42000,.vec D5 1 y8.1.n (fun i=>cI .i64 (y8.1.g i)) true),(37000,.vec B3 1 y7.1.n (fun i=>cL 2 A0 (y7.1.g i)) true)]⟩ (ids:=[(37000,37000),(42000,42000),(106000,106000),(109000,109000),(113000,113000)]) ?_ (hle:=klR [(3,.fn 3 (Sl.of [l,m,o]:Sl Sound).n (E6 [pI .u32 0,pI .u32 0] [(0,A0 l),(1,A0 m),(2,A0 o)]) (fun i=>A0 ((Sl.of [l,m,o]:Sl Sound).g i))),(4,.fn 2 (Sl.of [f,j]:Sl Sound).n (E6 [pI .u32 0,pI .u32 0] [(0,A0 f),(1,A0 j)]) (fun i=>A0 ((Sl.of [f,j]:Sl Sound).g i))),(5,.fn 2 (Sl.of [c,d]:Sl Sound).n (E6 [pI .u32 0,pI .u32 0] [(0,A0 c),(1,A0 d)]) (fun i=>A0 ((Sl.of [c,d]:Sl Sound).g i)))] (al1 ⟨rfl,(fun i a=>match i,a with|0,_=>rfl|1,_=>rfl|2,_=>rfl|_+3,a=>absurd a (by omega))⟩ (al1 ⟨rfl,(fun i a=>match i,a with|0,_=>rfl|1,_=>rfl|_+2,a=>absurd a (by omega))⟩ (al1 ⟨rfl,(fun i a=>match i,a with|0,_=>rfl|1,_=>rfl|_+2,a=>absurd a (by omega))⟩ al0))));refine Cw hS (rfl:true=true) ⟨[(113,.vec 114000),(102,.vec 37000),(101,.p (.v (.bool true))),(15,pB r.1),(13,.p (vSl 2 A0 q.1)),(9,.vec 42000)],[(114000,.vec B3 1 (Sl.of [(Sl.of [c,d]:Sl Sound),(Sl.of [f,j]:Sl Sound),(Sl.of [l,m,o]:Sl Sound)]:Sl (Sl Sound)).n (fun i=>cL 2 A0 ((Sl.of [(Sl.of [c,d]:Sl Sound),(Sl.of [f,j]:Sl Sound),(Sl.of [l,m,o]:Sl Sound)]:Sl (Sl Sound)).g i)) false),(42000,.vec D5 1 y8.1.n (fun i=>cI .i64 (y8.1.g i)) true),(37000,.vec B3 1 y7.1.n (fun i=>cL 2 A0 (y7.1.g i)) true)]⟩ (ids:=[(37000,37000),(42000,42000),(114000,114000)]) ?_ (hle:=klR [(3,.fn 3 (Sl.of [(Sl.of [c,d]:Sl Sound),(Sl.of [f,j]:Sl Sound),(Sl.of [l,m,o]:Sl Sound)]:Sl (Sl Sound)).n (E6 [E5] [(0,cL 2 A0 (Sl.of [c,d]:Sl Sound)),(1,cL 2 A0 (Sl.of [f,j]:Sl Sound)),(2,cL 2 A0 (Sl.of [l,m,o]:Sl Sound))]) (fun i=>cL 2 A0 ((Sl.of [(Sl.of [c,d]:Sl Sound),(Sl.of [f,j]:Sl Sound),(Sl.of [l,m,o]:Sl Sound)]:Sl (Sl Sound)).g i)))] (al1 ⟨rfl,(fun i a=>match i,a with|0,_=>rfl|1,_=>rfl|2,_=>rfl|_+3,a=>absurd a (by omega))⟩ al0));refine kC hS h (Sr hS hL) (fun a0 h=>?_);refine kG hS h (fun h=>?_) (fun h=>?_)
           ·refine Cw hS (rfl:true=true) ⟨[(118,.vec 119000),(117,.vec 42000),(116,.p (.v (.bool true))),(15,pB r.1),(13,.p (vSl 2 A0 q.1))],[(119000,.vec D5 1 (Sl.of [2,3]:Sl Int).n (fun i=>cI .i64 ((Sl.of [2,3]:Sl Int).g i)) false),(42000,.vec D5 1 y8.1.n (fun i=>cI .i64 (y8.1.g i)) true)]⟩ (ids:=[(42000,42000),(119000,119000)]) ?_ (hle:=klR [(3,.fn 2 (Sl.of [2,3]:Sl Int).n (E6 [pI .i64 0] [(0,cI .i64 2),(1,cI .i64 3)]) (fun i=>cI .i64 ((Sl.of [2,3]:Sl Int).g i)))] (al1 ⟨rfl,(fun i a=>match i,a with|0,_=>rfl|1,_=>rfl|_+2,a=>absurd a (by omega))⟩ al0));refine kC hS h (KQ hS hL) (fun a1 h=>?_);refine kG hS h (fun h=>?_) (fun h=>?_)
            ·refine kC hS h (Ff hS hL) (fun u h=>?_);refine kC hS h (Ov hS hL) (fun w h=>?_);refine Cw hS (rfl:true=true) ⟨[(125,.vec 126000),(122,.p (vSl 2 A0 q.1)),(121,.p (.v (.bool true))),(15,pB r.1)],[(126000,.vec B5 2 (Sl.of [u,w]:Sl Sound).n (fun i=>A0 ((Sl.of [u,w]:Sl Sound).g i)) false)]⟩ (ids:=[(126000,126000)]) ?_ (hle:=klR [(3,.fn 2 (Sl.of [u,w]:Sl Sound).n (E6 [pI .u32 0,pI .u32 0] [(0,A0 u),(1,A0 w)]) (fun i=>A0 ((Sl.of [u,w]:Sl Sound).g i)))] (al1 ⟨rfl,(fun i a=>match i,a with|0,_=>rfl|1,_=>rfl|_+2,a=>absurd a (by omega))⟩ al0));refine kC hS h (Gp hS hL) (fun a2 h=>?_);refine kG hS h (fun h=>?_) (fun h=>?_)
             ·exact b _ [] _ (!r.1) trivial h
             ·exact b _ [] _ false trivial h
            ·exact b _ [] _ false trivial h
           ·exact b _ [] _ false trivial h
          ·exact b _ [] _ false trivial h
         ·exact b _ [] _ false trivial h
        ·exact b _ [] _ false trivial h
       ·exact b _ [] _ false trivial h
      ·exact b _ [] _ false trivial h
     ·exact b _ [] _ false trivial h
    ·exact b _ [] _ false trivial h
   ·exact b _ [] _ false trivial h
  ·exact b _ [] _ false trivial h
 ·cases h;exact kR hS
end Go.AM
namespace Go.AM
open IntKind (wrap)
open Go.Proofs
set_option maxRecDepth 10000
set_option maxHeartbeats 2000000
variable {S:X6}(hS:G5 S Tryz.prog) (hL:LL S)
include hS hL
def O3 (N:Nat)(p_x:Ez):Option (A6×Bool):=
 S5 N (fun d (x1:Sl F0) (x2:Int)=>
  if ((decide (x2<=(p_x.Parents.n:Int)))&&(decide (x2<10))) then
   if (((0:Int)<=(wrap .i64 (x2-1))/\(wrap .i64 (x2-1))<(p_x.Parents.n:Int))/\x2≠0)then
    if ((x1.n+(Sl.of [(⟨(wrap .i64 (p_x.Parents.g (wrap .i64 (x2-1)).toNat)).tmod x2,[UInt8.ofNat (wrap .u8 (97+(wrap .u8 x2))).toNat]⟩:F0)]:Sl F0).n)*24<=140737488355328/\x1.n+(Sl.of [(⟨(wrap .i64 (p_x.Parents.g (wrap .i64 (x2-1)).toNat)).tmod x2,[UInt8.ofNat (wrap .u8 (97+(wrap .u8 x2))).toNat]⟩:F0)]:Sl F0).n<=140737488355328)then
     d (x1.push (⟨(wrap .i64 (p_x.Parents.g (wrap .i64 (x2-1)).toNat)).tmod x2,[UInt8.ofNat (wrap .u8 (97+(wrap .u8 x2))).toNat]⟩:F0)) (wrap .i64 (x2+1))
    else none
   else none
  else
   S5 N (fun f (x4:Sl Law) (x5:Int)=>
    if ((decide (x5<(p_x.Laws.n:Int)))&&(decide (x5<6))) then
     if ((0:Int)<=x5/\x5<(p_x.Laws.n:Int))then
      (Ci N (⟨[UInt8.ofNat (wrap .u8 (65+(wrap .u8 x5))).toNat],(p_x.Laws.g x5.toNat).Left,(p_x.Laws.g x5.toNat).Right,(p_x.Laws.g x5.toNat).If,(p_x.Laws.g x5.toNat).Out,(p_x.Laws.g x5.toNat).Mode⟩:Law)).bind fun y7=>
      lt (fun (z3:Bool)=>
       if z3 then
        some ((⟨(Sl.nil:Sl F0),(Sl.nil:Sl Law),(Sl.nil:Sl (Sl Int))⟩:A6),false)
       else
        if ((x4.n+(Sl.of [(⟨[UInt8.ofNat (wrap .u8 (65+(wrap .u8 x5))).toNat],(p_x.Laws.g x5.toNat).Left,(p_x.Laws.g x5.toNat).Right,(p_x.Laws.g x5.toNat).If,(p_x.Laws.g x5.toNat).Out,(p_x.Laws.g x5.toNat).Mode⟩:Law)]:Sl Law).n)*200<=140737488355328/\x4.n+(Sl.of [(⟨[UInt8.ofNat (wrap .u8 (65+(wrap .u8 x5))).toNat],(p_x.Laws.g x5.toNat).Left,(p_x.Laws.g x5.toNat).Right,(p_x.Laws.g x5.toNat).If,(p_x.Laws.g x5.toNat).Out,(p_x.Laws.g x5.toNat).Mode⟩:Law)]:Sl Law).n<=140737488355328)then
         f (x4.push (⟨[UInt8.ofNat (wrap .u8 (65+(wrap .u8 x5))).toNat],(p_x.Laws.g x5.toNat).Left,(p_x.Laws.g x5.toNat).Right,(p_x.Laws.g x5.toNat).If,(p_x.Laws.g x5.toNat).Out,(p_x.Laws.g x5.toNat).Mode⟩:Law)) (wrap .i64 (x5+1))
        else none
       ) fun k3=>
       if (!y7) then
        k3 true
       else
        (Q8 N (⟨[UInt8.ofNat (wrap .u8 (65+(wrap .u8 x5))).toNat],(p_x.Laws.g x5.toNat).Left,(p_x.Laws.g x5.toNat).Right,(p_x.Laws.g x5.toNat).If,(p_x.Laws.g x5.toNat).Out,(p_x.Laws.g x5.toNat).Mode⟩:Law)).bind fun y9=>
        k3 (y9 != 0)
     else none
    else
     S5 N (fun i (c:Sl (Sl Int)) (j:Int)=>
      if (decide (j<(x1.n:Int))) then
       (Bh N p_x.On j).bind fun m=>
       S5 N (fun l (a:Sl Int) (b:Int)=>
        if (wrap .i64 ((x4.n:Int)+1))≠0 then
         if (((b.tmod (wrap .i64 ((x4.n:Int)+1))) != 0)&&(decide ((a.n:Int)<5))) then
          if (((wrap .i64 ((x4.n:Int)+1))≠0/\((a.n+(Sl.of [wrap .i64 ((b.tmod (wrap .i64 ((x4.n:Int)+1)))-1)]:Sl Int).n)*8<=140737488355328/\a.n+(Sl.of [wrap .i64 ((b.tmod (wrap .i64 ((x4.n:Int)+1)))-1)]:Sl Int).n<=140737488355328))/\(wrap .i64 ((x4.n:Int)+1))≠0)then
           l (a.push (wrap .i64 ((b.tmod (wrap .i64 ((x4.n:Int)+1)))-1))) (wrap .i64 (b.tdiv (wrap .i64 ((x4.n:Int)+1))))
          else none
         else
          if ((c.n+(Sl.of [a]:Sl (Sl Int)).n)*24<=140737488355328/\c.n+(Sl.of [a]:Sl (Sl Int)).n<=140737488355328)then
           i (c.push a) (wrap .i64 (j+1))
          else none
        else none
        ) (Sl.nil:Sl Int) m
      else
       some ((⟨x1,x4,c⟩:A6),true)
      ) (Sl.nil:Sl (Sl Int)) 0
    ) (Sl.nil:Sl Law) 0
  ) (Sl.of [(⟨-1,[114]⟩:F0)]:Sl F0) 1
theorem Ev {N:Nat}{p_x:Ez}{y:A6×Bool}(h:O3 N p_x=some y) :FunO S Em [.p (.agg (W8 p_x))] [] (.tup [.p (.agg (A3 y.1)),pB y.2]) ([]) []:=by
 unfold O3 at h;refine A5 hS Tryz.func29 ?_;refine K9 hS trivial 2 2000 (W8 p_x) ?_;refine H9 hS (rfl:true=true) h (fun x1 x2=>⟨[(5,pN x2),(4,.reg 5000 0),(2,.reg 3000 0),(1,.p (.ptr (W8 p_x)))],[(5500,.vec H8 2 x1.n (fun i=>B7 (x1.g i)) false),(5000,.cells [.vec 5500,.p E5,.p E5]),(3000,.cells [.p E5,.p E5,.p E5])]⟩) (ids:=[(3000,3000),(5000,5000),(5500,13000)]) (fun _ _ _ _ _ o x1 x2 q h=>?_) (hle:=klR [(2,.fn 1 (Sl.of [(⟨-1,[114]⟩:F0)]:Sl F0).n (E6 [pI .i64 0,.str []] [(0,B7 (⟨-1,[114]⟩:F0))]) (fun i=>B7 ((Sl.of [(⟨-1,[114]⟩:F0)]:Sl F0).g i)))] (al1 ⟨rfl,(fun i j=>match i,j with|0,_=>rfl|_+1,j=>absurd j (by omega))⟩ al0));refine kB hS (A8 hS) trivial trivial 3 (.n (.a (decide (x2<=(p_x.Parents.n:Int)))) (.a (decide (x2<10)))) ?_;refine kI hS h ?_ ?_<;>intro h
 ·refine J5 hS trivial [3,6,7] ?_;obtain⟨c8,h⟩:=H0 h;refine BR c8 (x:=.sl true 1 1 (E6 [pI .u8 0] [(0,cI .u8 (wrap .u8 (97+(wrap .u8 x2))))])) ?_;refine BR ((fun i j=>match i,j with|0,_=>rfl|_+1,j=>absurd j (by omega)):∀i:Nat,i<1->(Eh (E6 [pI .u8 0] [(0,cI .u8 (wrap .u8 (97+(wrap .u8 x2))))] i)).isSome=true) (x:=.sl true 2 1 (E6 [pI .i64 0,.str []] [(0,B7 (⟨(wrap .i64 (p_x.Parents.g (wrap .i64 (x2-1)).toNat)).tmod x2,[UInt8.ofNat (wrap .u8 (97+(wrap .u8 x2))).toNat]⟩:F0))])) ?_;obtain⟨c9,h⟩:=H0 h;refine P8 c9 ?_;exact q _ [(3000,3000),(5000,5000),(5500,44000)] _ (x1.push (⟨(wrap .i64 (p_x.Parents.g (wrap .i64 (x2-1)).toNat)).tmod x2,[UInt8.ofNat (wrap .u8 (97+(wrap .u8 x2))).toNat]⟩:F0)) (wrap .i64 (x2+1)) trivial h (hle:=klR [(2,.fn (x1.n+1) (x1.push (⟨(wrap .i64 (p_x.Parents.g (wrap .i64 (x2-1)).toNat)).tmod x2,[UInt8.ofNat (wrap .u8 (97+(wrap .u8 x2))).toNat]⟩:F0)).n (Ab x1.n (fun i=>B7 (x1.g i)) (E6 [pI .i64 0,.str []] [(0,B7 (⟨(wrap .i64 (p_x.Parents.g (wrap .i64 (x2-1)).toNat)).tmod x2,[UInt8.ofNat (wrap .u8 (97+(wrap .u8 x2))).toNat]⟩:F0))])) (fun i=>B7 ((x1.push (⟨(wrap .i64 (p_x.Parents.g (wrap .i64 (x2-1)).toNat)).tmod x2,[UInt8.ofNat (wrap .u8 (97+(wrap .u8 x2))).toNat]⟩:F0)).g i)))] (al1 ⟨rfl,JV (c:=B7) (v:=x1) (x:=(⟨(wrap .i64 (p_x.Parents.g (wrap .i64 (x2-1)).toNat)).tmod x2,[UInt8.ofNat (wrap .u8 (97+(wrap .u8 x2))).toNat]⟩:F0)) (z:=[(pI .i64 0),.str []]) same rfl rfl⟩ al0))
 ·refine H9 hS trivial h (fun x4 x5=>⟨[(6,pN x5),(4,.reg 5000 0),(2,.reg 3000 0),(1,.p (.ptr (W8 p_x)))],[(5501,.vec N4 18 x4.n (fun i=>A9 (x4.g i)) false),(5500,.vec H8 2 x1.n (fun i=>B7 (x1.g i)) false),(5000,.cells [.vec 5500,.vec 5501,.p E5]),(3000,.cells [.p E5,.p E5,.p E5])]⟩) (ids:=[(3000,3000),(5000,5000),(5500,5500)]) (fun _ _ _ _ _ r x4 x5 s h=>?_);refine kB hS (A8 hS) trivial trivial 3 (.n (.a (decide (x5<(p_x.Laws.n:Int)))) (.a (decide (x5<6)))) ?_;refine kI hS h ?_ ?_<;>intro h
  ·obtain⟨c23,h⟩:=H0 h;obtain⟨y7,e7,h⟩:=C6 h;refine C7 hS [] (And.intro (And.intro (And.intro c23 (by decide:(18:Nat)<=18)) (rfl:true=true)) ((fun i j=>match i,j with|0,_=>rfl|_+1,j=>absurd j (by omega)):∀i:Nat,i<1->(Eh (E6 [pI .u8 0] [(0,cI .u8 (wrap .u8 (65+(wrap .u8 x5))))] i)).isSome=true)) (Su hS hL e7) ?_;refine Ls hS trivial (A8 hS) h 0 (fun z3=>⟨[(74,pB z3),(7,.reg 8000 0),(6,pN x5),(4,.reg 5000 0),(2,.reg 3000 0),(1,.p (.ptr (W8 p_x)))],[(8000,.cells [.p (.str [UInt8.ofNat (wrap .u8 (65+(wrap .u8 x5))).toNat]),pN (p_x.Laws.g x5.toNat).Left.Kind,pU (p_x.Laws.g x5.toNat).Left.Is.Plus,pU (p_x.Laws.g x5.toNat).Left.Is.Minus,pB (p_x.Laws.g x5.toNat).Left.Not,pN (p_x.Laws.g x5.toNat).Left.Min,pN (p_x.Laws.g x5.toNat).Left.Max,.p (.sl false 7 (p_x.Laws.g x5.toNat).Left.L.n (BS (p_x.Laws.g x5.toNat).Left)),pN (p_x.Laws.g x5.toNat).Right.Kind,pU (p_x.Laws.g x5.toNat).Right.Is.Plus,pU (p_x.Laws.g x5.toNat).Right.Is.Minus,pB (p_x.Laws.g x5.toNat).Right.Not,pN (p_x.Laws.g x5.toNat).Right.Min,pN (p_x.Laws.g x5.toNat).Right.Max,.p (.sl false 7 (p_x.Laws.g x5.toNat).Right.L.n (BS (p_x.Laws.g x5.toNat).Right)),.p (vSl 2 A0 (p_x.Laws.g x5.toNat).If),.p (vSl 6 P9 (p_x.Laws.g x5.toNat).Out),pN (p_x.Laws.g x5.toNat).Mode]),(5501,.vec N4 18 x4.n (fun i=>A9 (x4.g i)) false),(5500,.vec H8 2 x1.n (fun i=>B7 (x1.g i)) false),(5000,.cells [.vec 5500,.vec 5501,.p E5]),(3000,.cells [.p E5,.p E5,.p E5])]⟩) (fun M3 k3 m h=>?_) (fun z3 h=>?_)
   ·refine kG hS h (fun h=>?_) (fun h=>?_)
    ·exact m _ [(3000,3000),(5000,5000),(5500,5500),(5501,5501),(8000,8000)] _ true trivial h
    ·refine kC hS h (DT hS hL) (fun y9 h=>?_);exact m _ [(3000,3000),(5000,5000),(5500,5500),(5501,5501),(8000,8000)] _ (y9 != 0) trivial h
   ·refine kI hS h ?_ ?_<;>intro h
    ·obtain rfl:=C9 h;exact B0 hS trivial ⟨[(3,pB false),(2,.reg 3000 0)],[(3000,.cells [.p (vSl 2 B7 (Sl.nil:Sl F0)),.p (vSl 18 A9 (Sl.nil:Sl Law)),.p (vSl 1 (cL 1 (cI .i64)) (Sl.nil:Sl (Sl Int)))])]⟩ [] (ids:=[(3000,3000)]) ⟨rfl,rfl,rfl⟩
    ·obtain⟨c28,h⟩:=H0 h;exact s _ [(3000,3000),(5000,5000),(5500,5500),(5501,81000)] _ (x4.push (⟨[UInt8.ofNat (wrap .u8 (65+(wrap .u8 x5))).toNat],(p_x.Laws.g x5.toNat).Left,(p_x.Laws.g x5.toNat).Right,(p_x.Laws.g x5.toNat).If,(p_x.Laws.g x5.toNat).Out,(p_x.Laws.g x5.toNat).Mode⟩:Law)) (wrap .i64 (x5+1)) (And.intro (rfl:true=true) c28) h (hle:=klR [(2,.fn (x4.n+1) (x4.push (⟨[UInt8.ofNat (wrap .u8 (65+(wrap .u8 x5))).toNat],(p_x.Laws.g x5.toNat).Left,(p_x.Laws.g x5.toNat).Right,(p_x.Laws.g x5.toNat).If,(p_x.Laws.g x5.toNat).Out,(p_x.Laws.g x5.toNat).Mode⟩:Law)).n (Ab x4.n (fun i=>A9 (x4.g i)) (E6 [.str [],pI .i64 0,pI .u32 0,pI .u32 0,.v (.bool false),pI .i64 0,pI .i64 0,E5,pI .i64 0,pI .u32 0,pI .u32 0,.v (.bool false),pI .i64 0,pI .i64 0,E5,E5,E5,pI .i64 0] [(0,A9 (⟨[UInt8.ofNat (wrap .u8 (65+(wrap .u8 x5))).toNat],(p_x.Laws.g x5.toNat).Left,(p_x.Laws.g x5.toNat).Right,(p_x.Laws.g x5.toNat).If,(p_x.Laws.g x5.toNat).Out,(p_x.Laws.g x5.toNat).Mode⟩:Law))])) (fun i=>A9 ((x4.push (⟨[UInt8.ofNat (wrap .u8 (65+(wrap .u8 x5))).toNat],(p_x.Laws.g x5.toNat).Left,(p_x.Laws.g x5.toNat).Right,(p_x.Laws.g x5.toNat).If,(p_x.Laws.g x5.toNat).Out,(p_x.Laws.g x5.toNat).Mode⟩:Law)).g i)))] (al1 ⟨rfl,JV (c:=A9) (v:=x4) (x:=(⟨[UInt8.ofNat (wrap .u8 (65+(wrap .u8 x5))).toNat],(p_x.Laws.g x5.toNat).Left,(p_x.Laws.g x5.toNat).Right,(p_x.Laws.g x5.toNat).If,(p_x.Laws.g x5.toNat).Out,(p_x.Laws.g x5.toNat).Mode⟩:Law)) (z:=[(.str []),pI .i64 0,pI .u32 0,pI .u32 0,.v (.bool false),pI .i64 0,pI .i64 0,E5,pI .i64 0,pI .u32 0,pI .u32 0,.v (.bool false),pI .i64 0,pI .i64 0,E5,E5,E5,pI .i64 0]) same rfl rfl⟩ al0))
  ·refine H9 hS trivial h (fun d l=>⟨[(8,pN l),(4,.reg 5000 0),(2,.reg 3000 0),(1,.p (.ptr (W8 p_x)))],[(5502,.vec AR 1 d.n (fun i=>cL 1 (cI .i64) (d.g i)) false),(5501,.vec N4 18 x4.n (fun i=>A9 (x4.g i)) false),(5500,.vec H8 2 x1.n (fun i=>B7 (x1.g i)) false),(5000,.cells [.vec 5500,.vec 5501,.vec 5502]),(3000,.cells [.p E5,.p E5,.p E5])]⟩) (ids:=[(3000,3000),(5000,5000),(5500,5500),(5501,5501)]) (fun _ _ _ _ _ t d l u h=>?_);refine kI hS h ?_ ?_<;>intro h
   ·refine kC hS h (Qt hS hL) (fun a1 h=>?_);refine H9 hS trivial h (fun b f=>⟨[(10,pN f),(9,.vec 10500),(8,pN l),(4,.reg 5000 0),(2,.reg 3000 0),(1,.p (.ptr (W8 p_x)))],[(10500,.vec D5 1 b.n (fun i=>cI .i64 (b.g i)) false),(5502,.vec AR 1 d.n (fun i=>cL 1 (cI .i64) (d.g i)) false),(5501,.vec N4 18 x4.n (fun i=>A9 (x4.g i)) false),(5500,.vec H8 2 x1.n (fun i=>B7 (x1.g i)) false),(5000,.cells [.vec 5500,.vec 5501,.vec 5502]),(3000,.cells [.p E5,.p E5,.p E5])]⟩) (ids:=[(3000,3000),(5000,5000),(5500,5500),(5501,5501),(5502,5502)]) (fun _ _ _ _ _ w b f a0 h=>?_);obtain⟨c50,h⟩:=H0 h;refine kB hS (A8 hS) c50 trivial 4 (.n (.a ((f.tmod (wrap .i64 ((x4.n:Int)+1))) != 0)) (.a (decide ((b.n:Int)<5)))) ?_;refine kI hS h ?_ ?_<;>intro h
    ·obtain⟨c52,h⟩:=H0 h;exact a0 _ [(3000,3000),(5000,5000),(5500,5500),(5501,5501),(5502,5502),(10500,121000)] _ (b.push (wrap .i64 ((f.tmod (wrap .i64 ((x4.n:Int)+1)))-1))) (wrap .i64 (f.tdiv (wrap .i64 ((x4.n:Int)+1)))) (And.intro (And.intro (And.intro c52.1.1 (rfl:true=true)) c52.1.2) c52.2) h (hle:=klR [(3,.fn (b.n+1) (b.push (wrap .i64 ((f.tmod (wrap .i64 ((x4.n:Int)+1)))-1))).n (Ab b.n (fun i=>cI .i64 (b.g i)) (E6 [pI .i64 0] [(0,cI .i64 (wrap .i64 ((f.tmod (wrap .i64 ((x4.n:Int)+1)))-1)))])) (fun i=>cI .i64 ((b.push (wrap .i64 ((f.tmod (wrap .i64 ((x4.n:Int)+1)))-1))).g i)))] (al1 ⟨rfl,JV (c:=cI .i64) (v:=b) (x:=wrap .i64 ((f.tmod (wrap .i64 ((x4.n:Int)+1)))-1)) (z:=[(pI .i64 0)]) same rfl rfl⟩ al0))
    ·obtain⟨c53,h⟩:=H0 h;exact u _ [(3000,3000),(5000,5000),(5500,5500),(5501,5501),(5502,126000)] _ (d.push b) (wrap .i64 (l+1)) (And.intro (rfl:true=true) c53) h (hle:=klR [(2,.fn (d.n+1) (d.push b).n (Ab d.n (fun i=>cL 1 (cI .i64) (d.g i)) (E6 [E5] [(0,cL 1 (cI .i64) b)])) (fun i=>cL 1 (cI .i64) ((d.push b).g i)))] (al1 ⟨rfl,JV (c:=cL 1 (cI .i64)) (v:=d) (x:=b) (z:=[E5]) same rfl rfl⟩ al0))
   ·obtain rfl:=C9 h;exact B0 hS trivial ⟨[(3,pB true),(2,.reg 3000 0)],[(3000,.cells [.p (vSl 2 B7 x1),.p (vSl 18 A9 x4),.p (vSl 1 (cL 1 (cI .i64)) d)])]⟩ [] (ids:=[(3000,3000)]) ⟨rfl,rfl,rfl⟩
end Go.AM
