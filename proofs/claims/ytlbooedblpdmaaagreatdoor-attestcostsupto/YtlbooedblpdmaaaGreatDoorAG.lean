/- What a law's walk and its plain proof need, part 7: no condition of its own. -/
import Derived.Test.YtlbooedblpdmaaaGreatDoorAF
import Derived.Test.YtlbooedblpdmaaaGreatDoorAD
set_option linter.defProp false
set_option linter.unusedSimpArgs false
set_option linter.unusedVariables false
set_option linter.unusedSectionVars false
namespace Go.AM
abbrev Tn(z:Int):Sl Int:=(Sl.of [IntKind.wrap .u8 z,IntKind.wrap .u8 (shI .shr .u32 z 8),IntKind.wrap .u8 (shI .shr .u32 z 16)]:Sl Int)
variable {N:Nat}
open IntKind (wrap)
open Go.Proofs
set_option maxRecDepth 10000
set_option maxHeartbeats 2000000
variable {S:W1}(hS:H9 S Tryz.prog) (hL:GD S)
include hS hL
def Eg (N:Nat)(a:Str):Option Bool:= lt (fun (z1:Bool)=>some z1) fun k1=>if ((a==[]) != true) then if (decide ((a.length:Int)<=24)) then (Hn N a [97,98,99,100,101,102,103,104,105,106,107,108,109,110,111,112,113,114,115,116,117,118,119,120,121,122,65,66,67,68,69,70,71,72,73,74,75,76,77,78,79,80,81,82,83,84,85,86,87,88,89,90,48,49,50,51,52,53,54,55,56,57,45]).bind fun y2=>k1 ((y2==[]) != false) else k1 false else k1 false
theorem AP7 {b:Str}{y:Bool}(h:Eg N b=some y) :FunO S VY [.p (.str b)] [] (pB y) ([]) []:=by
 unfold Eg at h;refine A1 hS Tryz.func106 ?_;refine Ai hS T3 (A2 hS) h 0 (fun z1=>⟨[(2,pB z1)],[]⟩) (fun M1 k1 a h=>?_) (fun z1 h=>?_)
 .refine kG hS h (fun h=>?_) (fun h=>?_)
  .refine kG hS h (fun h=>?_) (fun h=>?_)
   .refine kC hS h (Zt hS hL) (fun y2 h=>?_);exact a _ [] _ ((y2==[]) != false) T3 h
   exact a _ [] _ false T3 h
  exact a _ [] _ false T3 h
 cases h;exact kR hS
def AO (N:Nat)(p_x:Hk)(a:Int):Option Bool:= lt (fun (z1:Bool)=>if z1 then some false else if ((((E9 .andNot .u32 (E9 .or .u32 p_x.Clear p_x.Take) 16777215) != 0)||((E9 .and .u32 p_x.Clear (E9 .or .u32 p_x.Set.Plus p_x.Set.Minus)) != 0))||((E9 .and .u32 p_x.Take (E9 .or .u32 (E9 .or .u32 p_x.Set.Plus p_x.Set.Minus) p_x.Clear)) != 0)) then some false else if (p_x.Take==0) then some (p_x.Of==0) else some ((decide (0<=p_x.Of))&&(decide (p_x.Of<a)))) fun k1=>if (decide (p_x.From<(-1))) then k1 true else if (decide (a<=p_x.From)) then k1 true else (J8 N p_x.Set).bind fun y2=>k1 (!y2)
theorem Bg9 {p_x:Hk}{b:Int}{y:Bool}(h:AO N p_x b=some y) :FunO S Aj2 [.p (.agg (P1 p_x)),pN b] [] (pB y) ([]) []:=by
 unfold AO at h;refine A1 hS Tryz.func103 ?_;refine Ai hS T3 (A2 hS) h 0 (fun z1=>⟨[(13,pB z1),(5,pU (E9 .or .u32 p_x.Set.Plus p_x.Set.Minus)),(2,.reg 3000 0),(1,pN b)],[(3000,.cells ((P1 p_x).map .p))]⟩) (fun M1 k1 c h=>?_) (fun z1 h=>?_)
 .refine kG hS h (fun h=>?_) (fun h=>?_)
  .exact c _ [(3000,3000)] _ true T3 h
  refine kG hS h (fun h=>?_) (fun h=>?_)
  .exact c _ [(3000,3000)] _ true T3 h
  refine kC hS h (W9 hS hL) (fun y2 h=>?_);exact c _ [(3000,3000)] _ (!y2) T3 h
 apply kI hS h<;>intro h
 .cases h;exact kR hS
 refine kB hS (A2 hS) T3 T3 16 (.o (.o (.a ((E9 .andNot .u32 (E9 .or .u32 p_x.Clear p_x.Take) 16777215) != 0)) (.a ((E9 .and .u32 p_x.Clear (E9 .or .u32 p_x.Set.Plus p_x.Set.Minus)) != 0))) (.a ((E9 .and .u32 p_x.Take (E9 .or .u32 (E9 .or .u32 p_x.Set.Plus p_x.Set.Minus) p_x.Clear)) != 0))) ?_;apply kI hS h<;>intro h
 .cases h;exact kR hS
 apply kI hS h<;>intro h
 .cases h;exact kR hS
 refine kB hS (A2 hS) T3 T3 5 (.n (.a (decide (0<=p_x.Of))) (.a (decide (p_x.Of<b)))) ?_;cases h;exact kR hS
def BR (N:Nat)(p_x:Hk)(q0:Int):Option Bool:= (AO N p_x q0).bind fun y1=>some (!y1)
theorem Ar9 {p_x:Hk}{q0:Int}{y:Bool}(h:BR N p_x q0=some y) :FunO S PI [.p (.agg (P1 p_x)),.reg 0 0] [.cells [pN q0]] (pB y) ([.cells [pN q0]]) [true]:=by unfold BR at h;refine A1 hS Tryz.func102 ?_;refine kC hS h (Bg9 hS hL) (fun y1 h=>?_);obtain rfl:=C0 h;exact A8 hS T3 ⟨[(3,pB (!y1))],[(0,.cells [pN q0])]⟩ [0] (ids:=[(0,0)]) ⟨rfl,rfl,rfl⟩
def BS (N:Nat)(a:To):Option Bool:= (J8 N a).bind fun y1=>some (!y1)
theorem As0 {a:To}{y:Bool}(h:BS N a=some y) :FunO S PJ [.p (.agg (A0 a))] [] (pB y) ([]) []:=by unfold BS at h;refine A1 hS Tryz.func104 ?_;refine kC hS h (W9 hS hL) (fun y1 h=>?_);cases h;exact kR hS
def H5 (N:Nat)(a:Sl Hk)(c:Hk->Option Bool):Option Int:= T9 N (fun b (x1:Int)=>if (decide (x1<(a.n:Int))) then if ((0:Int)<=x1/\x1<(a.n:Int))then (c (a.g x1.toNat)).bind fun y3=>if y3 then some x1 else b (wrap .i64 (x1+1)) else none else some (-1)) 0
theorem Co {c:Sl Hk}{d:Hk->Option Bool}{a:Int}{kp_f:Nat}(f:∀{a0:Hk}{b:Bool},d a0=some b->FunO S kp_f [.p (.agg (P1 a0)),.reg 0 0] [.cells [pN a]] (pB b) [.cells [pN a]] [true]){y:Int}(h:H5 N c d=some y) :FunO S T4 [.p (vSl 6 P1 c),.clo kp_f [] [.reg 0 0]] [.cells [pN a]] (pN y) ([.cells [pN a]]) [true]:=by
 unfold H5 at h;refine A1 hS Tryz.func133 ?_;refine E2 hS T3 h (fun x1=>⟨[(8,pN x1),(7,pN (c.n:Int)),(1,.clo kp_f [] [.reg 0 0]),(0,.p (vSl 6 P1 c))],[(0,.cells [pN a])]⟩) (ids:=[(0,0)]) (fun _ _ _ _ _ g x1 i h=>?_);apply kI hS h<;>intro h
 .obtain⟨c8,h⟩:=C7 h;obtain⟨y3,e3,h⟩:=B1 h;refine B6 hS [0] (And.intro c8 (by decide:(6:Nat)<=6)) (f e3) ?_;apply kI hS h<;>intro h
  .obtain rfl:=C0 h;exact A8 hS T3 ⟨[(4,pN x1)],[(0,.cells [pN a])]⟩ [0] (ids:=[(0,0)]) ⟨rfl,rfl,rfl⟩
  exact i _ [(0,0)] _ (wrap .i64 (x1+1)) T3 h
 obtain rfl:=C0 h;exact A8 hS T3 ⟨[(4,pN (-1))],[(0,.cells [pN a])]⟩ [0] (ids:=[(0,0)]) ⟨rfl,rfl,rfl⟩
def F3 (N:Nat)(a:Sl Hk)(b:Hk->Option Bool):Option Bool:= (H5 N a b).bind fun y1=>some (decide (0<=y1))
theorem Bh {c:Sl Hk}{d:Hk->Option Bool}{a:Int}{kp_f:Nat}(f:∀{a0:Hk}{b:Bool},d a0=some b->FunO S kp_f [.p (.agg (P1 a0)),.reg 0 0] [.cells [pN a]] (pB b) [.cells [pN a]] [true]){y:Bool}(h:F3 N c d=some y) :FunO S Q0 [.p (vSl 6 P1 c),.clo kp_f [] [.reg 0 0]] [.cells [pN a]] (pB y) ([.cells [pN a]]) [true]:=by unfold F3 at h;refine A1 hS Tryz.func109 ?_;obtain⟨y1,e1,h⟩:=B1 h;refine B6 hS [0] T3 (Co hS hL (fun e=>f e) e1) ?_;obtain rfl:=C0 h;exact A8 hS T3 ⟨[(4,pB (decide (0<=y1)))],[(0,.cells [pN a])]⟩ [0] (ids:=[(0,0)]) ⟨rfl,rfl,rfl⟩
def Bt (N:Nat)(a:Law):Option Int:= (Eg N a.Name).bind fun y1=>if (!y1) then some 17 else (Bs N a.Left).bind fun y2=>if (y2 != 0) then some 17 else (Bs N a.Right).bind fun y3=>if (y3 != 0) then some 17 else if (decide (4<(a.If.n:Int))) then some 17 else if (decide (6<(a.Out.n:Int))) then some 17 else if ((wrap .i64 ((a.If.n:Int)+(a.Out.n:Int)))==0) then some 17 else if ((decide (a.Mode<1))||(decide (3<a.Mode))) then some 17 else (D6 N a.If (fun (u1:To)=>BS N u1)).bind fun y4=>if y4 then some 17 else (F3 N a.Out (fun (u2:Hk)=>BR N u2 (a.If.n:Int))).bind fun y5=>if y5 then some 17 else some 0
theorem OF {c:Law}{y:Int}(h:Bt N c=some y) :FunO S VT [.p (.agg (B2 c))] [] (pN y) ([]) []:=by
 unfold Bt at h;refine A1 hS Tryz.func75 ?_;refine kC hS h (AP7 hS hL) (fun y1 h=>?_);refine D1 hS T3 (b:=!y1) (fun c1=>?_) (fun c1=>?_)
 .replace h:=itT c1 h;refine D1 hS T3 (b:=!y1) (fun c2=>?_) (fun c2=>?_)
  .cases h;exact kR hS
  exact Bool.noConfusion (c1.symm.trans c2)
 replace h:=itF c1 h;refine kC hS h (KP hS hL) (fun y2 h=>?_);refine D1 hS T3 (b:=y2 != 0) (fun c3=>?_) (fun c3=>?_)
 .replace h:=itT c3 h;refine D1 hS T3 (b:=y2 != 0) (fun c4=>?_) (fun c4=>?_)
  .cases h;exact kR hS
  exact Bool.noConfusion (c3.symm.trans c4)
 replace h:=itF c3 h;refine kC hS h (KP hS hL) (fun y3 h=>?_);refine D1 hS T3 (b:=y3 != 0) (fun c5=>?_) (fun c5=>?_)
 .replace h:=itT c5 h;refine D1 hS T3 (b:=y3 != 0) (fun c6=>?_) (fun c6=>?_)
  .cases h;exact kR hS
  exact Bool.noConfusion (c5.symm.trans c6)
 replace h:=itF c5 h;refine D1 hS T3 (b:=decide (4<(c.If.n:Int))) (fun c7=>?_) (fun c7=>?_)
 .replace h:=itT c7 h;refine D1 hS T3 (b:=decide (4<(c.If.n:Int))) (fun c8=>?_) (fun c8=>?_)
  .cases h;exact kR hS
  exact Bool.noConfusion (c7.symm.trans c8)
 replace h:=itF c7 h;refine D1 hS T3 (b:=decide (6<(c.Out.n:Int))) (fun c9=>?_) (fun c9=>?_)
 .replace h:=itT c9 h;refine D1 hS T3 (b:=decide (6<(c.Out.n:Int))) (fun c10=>?_) (fun c10=>?_)
  .cases h;exact kR hS
  exact Bool.noConfusion (c9.symm.trans c10)
 replace h:=itF c9 h;refine D1 hS T3 (b:=(wrap .i64 ((c.If.n:Int)+(c.Out.n:Int)))==0) (fun c11=>?_) (fun c11=>?_)
 .replace h:=itT c11 h;refine D1 hS T3 (b:=(wrap .i64 ((c.If.n:Int)+(c.Out.n:Int)))==0) (fun c12=>?_) (fun c12=>?_)
  .cases h;exact kR hS
  exact Bool.noConfusion (c11.symm.trans c12)
 replace h:=itF c11 h;refine kB hS (A2 hS) T3 T3 4 (.o (.a (decide (c.Mode<1))) (.a (decide (3<c.Mode)))) ?_;refine D1 hS T3 (b:=(decide (c.Mode<1))||(decide (3<c.Mode))) (fun c13=>?_) (fun c13=>?_)
 .replace h:=itT c13 h;refine D1 hS T3 (b:=(decide (c.Mode<1))||(decide (3<c.Mode))) (fun c14=>?_) (fun c14=>?_)
  .cases h;exact kR hS
  exact Bool.noConfusion (c13.symm.trans c14)
 replace h:=itF c13 h;refine kC hS h (N7 hS hL (fun e=>As0 hS hL e)) (fun y4 h=>?_);refine D1 hS T3 (b:=y4) (fun c15=>?_) (fun c15=>?_)
 .replace h:=itT c15 h;refine D1 hS T3 (b:=y4) (fun c16=>?_) (fun c16=>?_)
  .cases h;exact kR hS
  exact Bool.noConfusion (c15.symm.trans c16)
 replace h:=itF c15 h;obtain⟨y5,e5,h⟩:=B1 h;refine B6 hS [4000] T3 (Bh hS hL (fun e=>Ar9 hS hL e) e5) ?_;apply kI hS h<;>intro h
 .cases h;exact kR hS
 cases h;exact kR hS
def Je (N:Nat)(a:Law)(b:Sl To):Option Int:= (Bt N a).bind fun y1=>if (y1 != 0) then some y1 else (Q7 N b).bind fun y2=>some y2
theorem AP8 {a:Law}{b:Sl To}{y:Int}(h:Je N a b=some y) :FunO S Wc [.p (.agg (B2 a)),.p (vSl 2 A0 b)] [] (pN y) ([]) []:=by
 unfold Je at h;refine A1 hS Tryz.func174 ?_;refine kC hS h (OF hS hL) (fun y1 h=>?_);apply kI hS h<;>intro h
 .cases h;exact kR hS
 refine kC hS h (EM hS hL) (fun y2 h=>?_);cases h;exact kR hS
def AP (N:Nat)(a:Int)(q0:Law)(q1:Sl To):Option Bool:= (Dy N q0.Left q1 a).bind fun y1=>if ((y1.1.n:Int)==0) then some false else (Ge N q0.Right q1 (wrap .i64 (a+(q0.If.n:Int)))).bind fun y2=>some (decide (0<(y2.1.n:Int)))
theorem Zy {a:Int}{q0:Law}{q1:Sl To}{y:Bool}(h:AP N a q0 q1=some y) :FunO S AH [pN a,.reg 0 0,.reg 1 0] [.cells ((B2 q0).map .p),.cells [.p (vSl 2 A0 q1)]] (pB y) ([.cells ((B2 q0).map .p),.cells [.p (vSl 2 A0 q1)]]) [true,true]:=by
 unfold AP at h;refine A1 hS Tryz.func209 ?_;refine kC hS h (Ar8 hS hL) (fun y1 h=>?_);apply kI hS h<;>intro h
 .obtain rfl:=C0 h;exact A8 hS T3 ⟨[(4,pB false)],[(1,.cells [.p (vSl 2 A0 q1)]),(0,.cells ((B2 q0).map .p))]⟩ [0,1] (ids:=[(0,0),(1,1)]) ⟨rfl,rfl,rfl⟩
 refine kC hS h (AP6 hS hL) (fun y2 h=>?_);obtain rfl:=C0 h;exact A8 hS T3 ⟨[(4,pB (decide (0<(y2.1.n:Int))))],[(1,.cells [.p (vSl 2 A0 q1)]),(0,.cells ((B2 q0).map .p))]⟩ [0,1] (ids:=[(0,0),(1,1)]) ⟨rfl,rfl,rfl⟩
def KR (N:Nat)(a:Law)(b:Sl To):Option (Law×(Sl To)):= some (a,b)
theorem AD4 {a:Law}{b:Sl To}{y:Law×(Sl To)}(h:KR N a b=some y) :FunO S SU [.p (.agg (B2 a)),.p (vSl 2 A0 b)] [] (.clo AH [] [.reg 0 0,.reg 1 0]) ([.cells ((B2 y.1).map .p),.cells [.p (vSl 2 A0 y.2)]]) []:=by unfold KR at h;refine A1 hS Tryz.func197 ?_;obtain rfl:=C0 h;exact A8 hS T3 ⟨[(4,.clo AH [] [.reg 3000 0,.reg 4000 0])],[(4000,.cells [.p (vSl 2 A0 b)]),(3000,.cells ((B2 a).map .p))]⟩ [3000,4000] (ids:=[(3000,3000),(4000,4000)]) ⟨rfl,rfl,rfl⟩
def T7 (N:Nat)(a:Law)(b:Sl To):Option (Sl To):= P9 N (fun c (x1:Sl To) (x2:Int)=>if (decide (x2<(a.Out.n:Int))) then if ((0:Int)<=x2/\x2<(a.Out.n:Int))then if ((decide (0<=(a.Out.g x2.toNat).From))=true->((0:Int)<=(a.Out.g x2.toNat).From/\(a.Out.g x2.toNat).From<(b.n:Int)))then (U3 N (⟨(if (decide (0<=(a.Out.g x2.toNat).From)) then (b.g (a.Out.g x2.toNat).From.toNat).Plus else 0),(if (decide (0<=(a.Out.g x2.toNat).From)) then (b.g (a.Out.g x2.toNat).From.toNat).Minus else 0)⟩:To) (a.Out.g x2.toNat).Clear (a.Out.g x2.toNat).Set).bind fun y5=>if ((a.Out.g x2.toNat).Take != 0) then if ((0:Int)<=(a.Out.g x2.toNat).Of/\(a.Out.g x2.toNat).Of<(b.n:Int))then (Ad N y5.1 (b.g (a.Out.g x2.toNat).Of.toNat) (a.Out.g x2.toNat).Take).bind fun y6=>if ((x1.n+(Sl.of [y6.1]:Sl To).n)*8<=140737488355328/\x1.n+(Sl.of [y6.1]:Sl To).n<=140737488355328)then c (x1.push y6.1) (wrap .i64 (x2+1)) else none else none else if ((x1.n+(Sl.of [y5.1]:Sl To).n)*8<=140737488355328/\x1.n+(Sl.of [y5.1]:Sl To).n<=140737488355328)then c (x1.push y5.1) (wrap .i64 (x2+1)) else none else none else none else some x1) (Sl.nil:Sl To) 0
theorem AD5 {d:Law}{a:Sl To}{y:Sl To}(h:T7 N d a=some y) :FunO S AC2 [.p (.agg (B2 d)),.p (vSl 2 A0 a)] [] (.p (vSl 2 A0 y)) ([]) []:=by
 unfold T7 at h;refine A1 hS Tryz.func188 ?_;refine D8 hS T3 4 3000 (B2 d) ?_;refine D7 hS T3 h (fun x1 x2=>⟨[(12,pN x2),(11,pN (d.Out.n:Int)),(10,.p (vSl 6 P1 d.Out)),(5,.vec 6500),(1,.p (vSl 2 A0 a))],[(6500,.vec B0 2 x1.n (fun i=>A0 (x1.g i)) false)]⟩) (ids:=[]) (fun _ _ _ _ _ o x1 x2 l h=>?_);apply kI hS h<;>intro h
 .obtain⟨c16,h⟩:=C7 h;refine D8 hS (And.intro c16 (by decide:(6:Nat)<=6)) 8 8000 (P1 (d.Out.g x2.toNat)) ?_;obtain⟨c18,h⟩:=C7 h;obtain⟨t5,f⟩:∃x:Int,x=(if (decide (0<=(d.Out.g x2.toNat).From)) then (a.g (d.Out.g x2.toNat).From.toNat).Plus else 0):=⟨_,rfl⟩;obtain⟨t6,j⟩:∃x:Int,x=(if (decide (0<=(d.Out.g x2.toNat).From)) then (a.g (d.Out.g x2.toNat).From.toNat).Minus else 0):=⟨_,rfl⟩;refine Tm hS T3 (A2 hS) 0 ⟨[(12,pN x2),(11,pN (d.Out.n:Int)),(10,.p (vSl 6 P1 d.Out)),(8,.reg 9000 0),(7,.p (.ptr (P1 (d.Out.g x2.toNat)))),(5,.vec 6500),(1,.p (vSl 2 A0 a))],[(9000,.cells [pU t5,pU t6]),(6500,.vec B0 2 x1.n (fun i=>A0 (x1.g i)) false)]⟩ (fun M3 m=>?_) ?_
  .refine D1 hS T3 (b:=decide (0<=(d.Out.g x2.toNat).From)) (fun c19=>?_) (fun c19=>?_)
   .exact m _ [(6500,6500),(9000,9000)] _ (And.intro (c18 c19) (by decide:(2:Nat)<=2)) (hle:=klR [(5,.eq (pI .u32 (a.g (d.Out.g x2.toNat).From.toNat).Plus) (pI .u32 t5)),(6,.eq (pI .u32 (a.g (d.Out.g x2.toNat).From.toNat).Minus) (pI .u32 t6))] (al1 (by simp only[f,j,c19,Leaf.ok,pm,Rm,Rn]) (al1 (by simp only[f,j,c19,Leaf.ok,pm,Rm,Rn]) al0)))
   exact m _ [(6500,6500),(9000,9000)] _ T3 (hle:=klR [(5,.eq (pI .u32 0) (pI .u32 t5)),(6,.eq (pI .u32 0) (pI .u32 t6))] (al1 (by simp only[f,j,c19,Leaf.ok,pm,Rm,Rn]) (al1 (by simp only[f,j,c19,Leaf.ok,pm,Rm,Rn]) al0)))
  subst j;subst f;obtain⟨y5,e5,h⟩:=B1 h;refine B6 hS [] (by decide:(2:Nat)<=4) (Zu hS hL e5) ?_;apply kI hS h<;>intro h
  .refine C5 hS T3 [3,4,5,7,8] ?_;obtain⟨c21,h⟩:=C7 h;obtain⟨y6,e6,h⟩:=B1 h;refine F8 (And.intro c21 (by decide:(2:Nat)<=2)) (AD1 hS hL e6) ?_;refine D9 T3 ?_;obtain⟨c22,h⟩:=C7 h;exact l _ [(6500,52000)] _ (x1.push y6.1) (wrap .i64 (x2+1)) (And.intro (rfl:true=true) c22) h (hle:=klR [(4,.fn (x1.n+1) (x1.push y6.1).n (I4 x1.n (fun i=>A0 (x1.g i)) (D0 [pI .u32 0,pI .u32 0] [(0,A0 y6.1)])) (fun i=>A0 ((x1.push y6.1).g i)))] (al1 ⟨rfl,W3 (c:=A0) (v:=x1) (x:=y6.1) (z:=[(pI .u32 0),pI .u32 0]) same rfl rfl⟩ al0))
  obtain⟨c23,h⟩:=C7 h;exact l _ [(6500,52000)] _ (x1.push y5.1) (wrap .i64 (x2+1)) (And.intro (rfl:true=true) c23) h (hle:=klR [(4,.fn (x1.n+1) (x1.push y5.1).n (I4 x1.n (fun i=>A0 (x1.g i)) (D0 [pI .u32 0,pI .u32 0] [(0,A0 y5.1)])) (fun i=>A0 ((x1.push y5.1).g i)))] (al1 ⟨rfl,W3 (c:=A0) (v:=x1) (x:=y5.1) (z:=[(pI .u32 0),pI .u32 0]) same rfl rfl⟩ al0))
 obtain rfl:=C0 h;exact A8 hS T3 ⟨[(4,.p (vSl 2 A0 x1))],[]⟩ [] (ids:=[]) ⟨rfl,rfl,rfl⟩
def D2 (N:Nat)(a:Sl (Sl To)):Option (Sl To):= P9 N (fun b (x1:Int) (x2:Int)=>if (decide (x2<(a.n:Int))) then if ((0:Int)<=x2/\x2<(a.n:Int))then if (decide ((wrap .i64 (x1+((a.g x2.toNat).n:Int)))<0)) then none else b (wrap .i64 (x1+((a.g x2.toNat).n:Int))) (wrap .i64 (x2+1)) else none else (K8 N x1).bind fun y1=>P9 N (fun c (x3:Sl To) (x4:Int)=>if (decide (x4<(a.n:Int))) then if (((0:Int)<=x4/\x4<(a.n:Int))/\((x3.n+(a.g x4.toNat).n)*8<=140737488355328/\x3.n+(a.g x4.toNat).n<=140737488355328))then c (x3.app (a.g x4.toNat)) (wrap .i64 (x4+1)) else none else some x3) y1 0) 0 0
theorem S1 {a:Sl (Sl To)}{y:Sl To}(h:D2 N a=some y) :FunO S R9 [.p (vSl 1 (cL 2 A0) a)] [] (.vec 0) ([.vec B0 2 y.n (fun i=>A0 (y.g i)) true]) []:=by
 unfold D2 at h;refine A1 hS Tryz.func187 ?_;refine D7 hS T3 h (fun x1 x2=>⟨[(11,pN x2),(10,pN (a.n:Int)),(9,.p (vSl 1 (cL 2 A0) a)),(3,pN x1),(0,.p (vSl 1 (cL 2 A0) a))],[]⟩) (ids:=[]) (fun _ _ _ _ _ d x1 x2 f h=>?_);apply kI hS h<;>intro h
 .obtain⟨c8,h⟩:=C7 h;refine D1 hS c8 (b:=decide ((wrap .i64 (x1+((a.g x2.toNat).n:Int)))<0)) (fun c9=>?_) (fun c9=>?_)
  .replace h:=itT c9 h;cases h
  replace h:=itF c9 h;exact f _ [] _ (wrap .i64 (x1+((a.g x2.toNat).n:Int))) (wrap .i64 (x2+1)) T3 h
 refine kC hS h (Cy hS hL) (fun y1 h=>?_);refine D7 hS T3 h (fun x3 x4=>⟨[(27,pN x4),(26,pN (a.n:Int)),(25,.p (vSl 1 (cL 2 A0) a)),(6,.vec 7500)],[(7500,.vec B0 2 x3.n (fun i=>A0 (x3.g i)) false)]⟩) (ids:=[(7500,25000)]) (fun _ _ _ _ _ j x3 x4 l h=>?_);apply kI hS h<;>intro h
 .obtain⟨c13,h⟩:=C7 h;exact l _ [(7500,34000)] _ (x3.app (a.g x4.toNat)) (wrap .i64 (x4+1)) c13 h (hle:=klR [(3,.fn (x3.n+(a.g x4.toNat).n) (x3.app (a.g x4.toNat)).n (I4 x3.n (fun i=>A0 (x3.g i)) (fun i=>A0 ((a.g x4.toNat).g i))) (fun i=>A0 ((x3.app (a.g x4.toNat)).g i)))] (al1 ⟨rfl,KB (c:=A0) (v:=x3) (w:=a.g x4.toNat) same rfl same rfl⟩ al0))
 obtain rfl:=C0 h;exact A8 hS T3 ⟨[(2,.vec 7500)],[(7500,.vec B0 2 x3.n (fun i=>A0 (x3.g i)) true)]⟩ [7500] (ids:=[(7500,7500)]) ⟨rfl,rfl,rfl⟩
def X3 (N:Nat)(b:Law)(c:Sl To)(a:Int):Option (Sl To):= if (((0:Int)<=a/\a<=(c.n:Int))/\((0:Int)<=a/\a<=(wrap .i64 (a+(b.If.n:Int)))/\(wrap .i64 (a+(b.If.n:Int)))<=(c.n:Int)))then (T7 N b (c.sub a.toNat (wrap .i64 (a+(b.If.n:Int))).toNat)).bind fun y1=>if ((0:Int)<=(wrap .i64 (a+(b.If.n:Int)))/\(wrap .i64 (a+(b.If.n:Int)))<=(c.n:Int))then (D2 N (Sl.of [c.take a.toNat,y1,c.drop (wrap .i64 (a+(b.If.n:Int))).toNat]:Sl (Sl To))).bind fun y2=>some y2 else none else none
theorem PY {c:Law}{b:Sl To}{a:Int}{y:Sl To}(h:X3 N c b a=some y) :FunO S PM [.p (.agg (B2 c)),.p (vSl 2 A0 b),pN a] [] (.vec 0) ([.vec B0 2 y.n (fun i=>A0 (y.g i)) true]) []:=by unfold X3 at h;refine A1 hS Tryz.func190 ?_;refine D8 hS T3 6 4000 (B2 c) ?_;refine C5 hS T3 [3,8] ?_;obtain⟨c1,h⟩:=C7 h;obtain⟨y1,e1,h⟩:=B1 h;refine F8 (And.intro (And.intro c1.1 (by decide:(18:Nat)<=18)) c1.2) (AD5 hS hL e1) ?_;obtain⟨c2,h⟩:=C7 h;refine Aj c2 (x:=.sl true 1 3 (D0 [G6] [(0,cL 2 A0 (b.take a.toNat)),(1,cL 2 A0 y1),(2,cL 2 A0 (b.drop (wrap .i64 (a+(c.If.n:Int))).toNat))])) ?_;obtain⟨y2,e2,h⟩:=B1 h;refine Ac [] T3 (FunO.le hS (args:=[.p (.sl true 1 3 (D0 [G6] [(0,cL 2 A0 (b.take a.toNat)),(1,cL 2 A0 y1),(2,cL 2 A0 (b.drop (wrap .i64 (a+(c.If.n:Int))).toNat))]))]) (by exact⟨Ag0 rfl (fun i d=>match i,d with|0,_=>rfl|1,_=>rfl|2,_=>rfl|_+3,d=>Kh d (by omega)),trivial⟩) (S1 hS hL e2)) ?_;refine D9 T3 ?_;obtain rfl:=C0 h;exact A8 hS T3 ⟨[(6,.vec 27000)],[(27000,.vec B0 2 y2.n (fun i=>A0 (y2.g i)) true)]⟩ [27000] (ids:=[(27000,27000)]) ⟨rfl,rfl,rfl⟩
def Bu (N:Nat)(q0:Law)(q1:Sl To)(q2:Int):Option (List (Int)):= (KR N q0 q1).bind fun y1=>T9 N (fun a (x2:Int)=>if (decide ((wrap .i64 (x2+(q0.If.n:Int)))<=(q1.n:Int))) then T9 N (fun b (x4:Int)=>if (decide (x4<(q0.If.n:Int))) then if ((0:Int)<=x4/\x4<(q0.If.n:Int))then if ((0:Int)<=(wrap .i64 (x2+x4))/\(wrap .i64 (x2+x4))<(q1.n:Int))then (P4 N (q1.g (wrap .i64 (x2+x4)).toNat) (q0.If.g x4.toNat)).bind fun c=>if (!c) then a (wrap .i64 (x2+1)) else b (wrap .i64 (x4+1)) else none else none else (AP N x2 y1.1 y1.2).bind fun d=>if d then Be x2 (a (wrap .i64 (x2+1))) else a (wrap .i64 (x2+1))) 0 else some []) q2
theorem SW {q0:Law}{q1:Sl To}{q2:Int}{L:List (Int)}(h:Bu N q0 q1 q2=some L) :IN S GM [] [.reg 0 0,.reg 1 0,.reg 2 0] [.cells ((B2 q0).map .p),.cells [.p (vSl 2 A0 q1)],.cells [pN q2]] (L.map (fun (x:Int)=>[pI .i64 x])):=by
 unfold Bu at h;refine IT hS Tryz.func196 ?_;refine kC hS h (AD4 hS hL) (fun y1 h=>?_);refine IS hS T3 h (fun x2 L1=>⟨[(6,pN x2),(5,.clo AH [] [.reg 12000 0,.reg 12001 0]),(2,.reg 1 0),(1,.reg 0 0),(0,.yf 3)],[(12001,.cells [.p (vSl 2 A0 y1.2)]),(12000,.cells ((B2 y1.1).map .p)),(3,.yld (L1.map (fun (x:Int)=>[pI .i64 x])) true),(2,.cells [pN q2]),(1,.cells [.p (vSl 2 A0 q1)]),(0,.cells ((B2 q0).map .p))]⟩) (ids:=[(0,0),(1,1),(2,2),(3,3),(12000,12000),(12001,12001)]) (fun _ _ _ _ _ f x2 L1 c h=>?_);apply kI hS h<;>intro h
 .refine IS hS T3 h (fun x4 L8=>⟨[(26,pN x4),(25,pN (q0.If.n:Int)),(24,.p (vSl 2 A0 q0.If)),(6,pN x2),(5,.clo AH [] [.reg 12000 0,.reg 12001 0]),(2,.reg 1 0),(1,.reg 0 0),(0,.yf 3)],[(12001,.cells [.p (vSl 2 A0 y1.2)]),(12000,.cells ((B2 y1.1).map .p)),(3,.yld (L8.map (fun (x:Int)=>[pI .i64 x])) true),(2,.cells [pN q2]),(1,.cells [.p (vSl 2 A0 q1)]),(0,.cells ((B2 q0).map .p))]⟩) (ids:=[(0,0),(1,1),(2,2),(3,3),(12000,12000),(12001,12001)]) (fun _ _ _ _ _ i x4 L8 j h=>?_);apply kI hS h<;>intro h
  .obtain⟨c47,h⟩:=C7 h;refine Bq0 hS (And.intro c47 (by decide:(2:Nat)<=2)) 9000 [pI .u32 (q0.If.g x4.toNat).Plus,pI .u32 (q0.If.g x4.toNat).Minus] ?_;refine C5 hS T3 [4,5,6,7] ?_;obtain⟨c48,h⟩:=C7 h;obtain⟨l,e12,h⟩:=B1 h;refine F8 (And.intro (And.intro c48 (by decide:(2:Nat)<=2)) (by decide:(2:Nat)<=2)) (Rq hS hL e12) ?_;refine D9 T3 ?_;apply kI hS h<;>intro h
   .exact c _ [(0,0),(1,1),(2,2),(3,3),(12000,12000),(12001,12001)] _ (wrap .i64 (x2+1)) L8 T3 h
   exact j _ [(0,0),(1,1),(2,2),(3,3),(12000,12000),(12001,12001)] _ (wrap .i64 (x4+1)) L8 T3 h
  obtain⟨m,e13,h⟩:=B1 h;refine B6 hS [12000,12001] T3 (Zy hS hL e13) ?_;refine kG hS h (fun h=>?_) (fun h=>?_)
  .obtain⟨L10,rfl,d⟩:=VD h;replace h:=d;refine FX hS T3 (ys:=(fun (x:Int)=>[pI .i64 x]) x2) (rest:=L10.map (fun (x:Int)=>[pI .i64 x])) ?_ ?_
   .refine D1 hS T3 (b:=false) (fun c53=>?_) (fun c53=>?_)
    .exact Bool.noConfusion ((rfl:false=false).symm.trans c53)
    exact c _ [(0,0),(1,1),(2,2),(3,3),(12000,12000),(12001,12001)] _ (wrap .i64 (x2+1)) L10 T3 h
   refine D1 hS T3 (b:=true) (fun c54=>?_) (fun c54=>?_)
   .exact A8 hS T3 (a:=.tup []) (objs:=[(.cells ((B2 q0).map .p)),.cells [.p (vSl 2 A0 q1)],.cells [pN q2],.yld [] false]) ⟨[],[(3,.yld [] false),(2,.cells [pN q2]),(1,.cells [.p (vSl 2 A0 q1)]),(0,.cells ((B2 q0).map .p))]⟩ [0,1,2,3] (ids:=[(0,0),(1,1),(2,2),(3,3)]) ⟨false,rfl,rfl,_,rfl⟩
   exact Bool.noConfusion ((rfl:true=true).symm.trans c54)
  exact c _ [(0,0),(1,1),(2,2),(3,3),(12000,12000),(12001,12001)] _ (wrap .i64 (x2+1)) L8 T3 h
 obtain rfl:=C0 h;exact A8 hS T3 (a:=.tup []) (objs:=[(.cells ((B2 q0).map .p)),.cells [.p (vSl 2 A0 q1)],.cells [pN q2],.yld [] true]) ⟨[],[(3,.yld [] true),(2,.cells [pN q2]),(1,.cells [.p (vSl 2 A0 q1)]),(0,.cells ((B2 q0).map .p))]⟩ [0,1,2,3] (ids:=[(0,0),(1,1),(2,2),(3,3)]) ⟨true,rfl,rfl,_,rfl⟩
def ME (N:Nat)(b:Law)(c:Sl To)(a:Int):Option (Law×(Sl To)×Int):= some (b,c,a)
theorem Aj6 {b:Law}{c:Sl To}{a:Int}{y:Law×(Sl To)×Int}(h:ME N b c a=some y) :FunO S Aj3 [.p (.agg (B2 b)),.p (vSl 2 A0 c),pN a] [] (.clo GM [] [.reg 0 0,.reg 1 0,.reg 2 0]) ([.cells ((B2 y.1).map .p),.cells [.p (vSl 2 A0 y.2.1)],.cells [pN y.2.2]]) []:=by unfold ME at h;refine A1 hS Tryz.func186 ?_;obtain rfl:=C0 h;exact A8 hS T3 ⟨[(6,.clo GM [] [.reg 4000 0,.reg 5000 0,.reg 6000 0])],[(6000,.cells [pN a]),(5000,.cells [.p (vSl 2 A0 c)]),(4000,.cells ((B2 b).map .p))]⟩ [4000,5000,6000] (ids:=[(4000,4000),(5000,5000),(6000,6000)]) ⟨rfl,rfl,rfl⟩
def EQ (N:Nat)(b:Law)(c:Sl To)(a:Int):Option Bool:= (ME N b c a).bind fun y1=>(Bu N y1.1 y1.2.1 y1.2.2).bind fun L1=>Q5 L1 (fun d (x1:Int) (_:Unit)=>some (x1==a)) (fun (_:Unit)=>some false) ()
theorem AD6 {b:Law}{c:Sl To}{a:Int}{y:Bool}(h:EQ N b c a=some y) :FunO S AC3 [.p (.agg (B2 b)),.p (vSl 2 A0 c),pN a] [] (pB y) ([]) []:=by
 unfold EQ at h;refine A1 hS Tryz.func189 ?_;refine kC hS h (Aj6 hS hL) (fun y1 h=>?_);obtain⟨L1,e2,h⟩:=B1 h;refine Hj hS T3 [12000,12001,12002] [6,5] 901 (fun _=>⟨[(6,.reg 7000 0),(5,.reg 6000 0)],[(7000,.cells [.p (.v (.bool false))]),(6000,.cells [pN a])]⟩) (idl:=[(6000,6000),(7000,7000)]) h (SW hS hL e2) (fun _=>by kernel_rfl) (fun _=>by kernel_rfl) (fun _=>by kernel_rfl) (fun _=>by kernel_rfl) (fun x1 _ d _ f h=>?_) (fun _ h=>?_)
 .refine OC hS T3 ?_;refine UO hS T3 ⟨[(6,.reg 7000 0),(5,.reg 6000 0)],[(7000,.cells [pB (x1==a)]),(6000,.cells [pN a])]⟩ (ids:=[(901,901),(6000,6000),(7000,7000)]) ?_;cases h;exact kR hS
 cases h;exact kR hS
def Eh (N:Nat)(q0:Sl To)(q1:Law)(q2:Int)(q3:Int):Option (List (Int×(Sl To))):= if (q1.Mode==1) then (ME N q1 q0 0).bind fun y1=>(Bu N y1.1 y1.2.1 y1.2.2).bind fun L1=>Q5 L1 (fun b (x1:Int) (z1:(Sl To)×Int×Int)=>if (decide (x1<z1.2.1)) then b (z1.1,z1.2.1,z1.2.2) else if (((0:Int)<=(wrap .i64 (x1+z1.2.2))/\(wrap .i64 (x1+z1.2.2))<=(z1.1.n:Int))/\((0:Int)<=x1/\x1<=(wrap .i64 (x1+q2))/\(wrap .i64 (x1+q2))<=(q0.n:Int)))then (T7 N q1 (q0.sub x1.toNat (wrap .i64 (x1+q2)).toNat)).bind fun y6=>if ((0:Int)<=(wrap .i64 (x1+q2))/\(wrap .i64 (x1+q2))<=(q0.n:Int))then (D2 N (Sl.of [z1.1.take (wrap .i64 (x1+z1.2.2)).toNat,y6,q0.drop (wrap .i64 (x1+q2)).toNat]:Sl (Sl To))).bind fun y7=>Be (x1,y7) (b (y7,wrap .i64 (x1+(if q2<1 then 1 else q2)),wrap .i64 ((wrap .i64 (z1.2.2+q3))-q2))) else none else none) (fun (z1:(Sl To)×Int×Int)=>some []) (q0,0,0) else if (q1.Mode==2) then P9 N (fun a (x5:Sl To) (x6:Int)=>if (decide ((wrap .i64 (x6+q2))<=(x5.n:Int))) then (EQ N q1 x5 x6).bind fun g=>if (!g) then a x5 (wrap .i64 (x6+1)) else (X3 N q1 x5 x6).bind fun d=>Be (x6,d) (if (q2==0) then a d (wrap .i64 ((wrap .i64 (x6+q3))+1)) else a d (wrap .i64 (x6+q3))) else some []) q0 0 else if (q1.Mode==3) then P9 N (fun c (x7:Sl To) (x8:Int)=>if (decide (0<=x8)) then (EQ N q1 x7 x8).bind fun i=>if (!i) then c x7 (wrap .i64 (x8-1)) else (X3 N q1 x7 x8).bind fun f=>Be (x8,f) (c f (wrap .i64 (x8-(if q2<1 then 1 else q2)))) else some []) q0 (wrap .i64 ((q0.n:Int)-q2)) else some []
theorem AP9 {q0:Sl To}{q1:Law}{q2:Int}{q3:Int}{L:List (Int×(Sl To))}(h:Eh N q0 q1 q2 q3=some L) :IN S IY [] [.reg 0 0,.reg 1 0,.reg 2 0,.reg 3 0] [.cells [.p (vSl 2 A0 q0)],.cells ((B2 q1).map .p),.cells [pN q2],.cells [pN q3]] (L.map (fun (x:Int×(Sl To))=>[pI .i64 x.1,vSl 2 A0 x.2])):=by
 unfold Eh at h;refine IT hS Tryz.func185 ?_;apply kI hS h<;>intro h
 .refine kC hS h (Aj6 hS hL) (fun y1 h=>?_);obtain⟨L1,e2,h⟩:=B1 h;refine BF1 hS T3 [20000,20001,20002] [8,7,6,5,4,3,2,1] 900 (fun z1 L2=>⟨[(8,.reg 9000 0),(7,.reg 8000 0),(6,.reg 7000 0),(5,.reg 6000 0),(4,.reg 3 0),(3,.reg 2 0),(2,.reg 1 0),(1,.reg 0 0)],[(9000,.cells [pN z1.2.2]),(8000,.cells [pN z1.2.1]),(7000,.cells [.p (vSl 2 A0 z1.1)]),(6000,.cells [.yf 4]),(4,.yld (L2.map (fun (x:Int×(Sl To))=>[pI .i64 x.1,vSl 2 A0 x.2])) true),(3,.cells [pN q3]),(2,.cells [pN q2]),(1,.cells ((B2 q1).map .p)),(0,.cells [.p (vSl 2 A0 q0)])]⟩) (idl:=[(0,0),(1,1),(2,2),(3,3),(4,4),(6000,6000),(7000,7000),(8000,8000),(9000,9000)]) h (SW hS hL e2) (fun _=>by kernel_rfl) (fun _ _=>by kernel_rfl) (fun _ _=>by kernel_rfl) (fun _ _=>by kernel_rfl) (fun x1 _ s z1 L2 j h=>?_) (fun z1 L2 h=>?_)
  .refine OC hS T3 ?_;apply kI hS h<;>intro h
   .exact j _ [(0,0),(1,1),(2,2),(3,3),(4,4),(900,900),(6000,6000),(7000,7000),(8000,8000),(9000,9000)] _ (z1.1,z1.2.1,z1.2.2) L2 T3 h
   refine Y6 hS T3 [(0,.l [7000]),(2,.l [9000]),(5,.l [1]),(6,.l [0]),(9,.l [2]),(12,.n),(13,.l [0]),(15,.l [2]),(20,.a [7000])] ?_;obtain⟨c13,h⟩:=C7 h;obtain⟨y6,e7,h⟩:=B1 h;refine F8 c13 (AD5 hS hL e7) ?_;obtain⟨c14,h⟩:=C7 h;refine Aj c14 (x:=.sl true 1 3 (D0 [G6] [(0,cL 2 A0 (z1.1.take (wrap .i64 (x1+z1.2.2)).toNat)),(1,cL 2 A0 y6),(2,cL 2 A0 (q0.drop (wrap .i64 (x1+q2)).toNat))])) ?_;obtain⟨y7,e8,h⟩:=B1 h;refine Ac [] T3 (FunO.le hS (args:=[.p (.sl true 1 3 (D0 [G6] [(0,cL 2 A0 (z1.1.take (wrap .i64 (x1+z1.2.2)).toNat)),(1,cL 2 A0 y6),(2,cL 2 A0 (q0.drop (wrap .i64 (x1+q2)).toNat))]))]) (by exact⟨Ag0 rfl (fun i t=>match i,t with|0,_=>rfl|1,_=>rfl|2,_=>rfl|_+3,t=>Kh t (by omega)),trivial⟩) (S1 hS hL e8)) ?_;refine D9 T3 ?_;obtain⟨L5,rfl,m⟩:=VD h;replace h:=m;refine FX hS T3 (ys:=(fun (x:Int×(Sl To))=>[pI .i64 x.1,vSl 2 A0 x.2]) (x1,y7)) (rest:=L5.map (fun (x:Int×(Sl To))=>[pI .i64 x.1,vSl 2 A0 x.2])) ?_ ?_
   .refine D1 hS T3 (b:=false) (fun c15=>?_) (fun c15=>?_)
    .exact Bool.noConfusion ((rfl:false=false).symm.trans c15)
    refine Y6 hS T3 [(1,.l [2]),(4,.l [9000]),(5,.l [3]),(7,.l [2]),(9,.a [8000]),(10,.a [9000])] ?_;refine D9 T3 ?_;exact j _ [(0,0),(1,1),(2,2),(3,3),(4,4),(900,900),(6000,6000),(7000,7000),(8000,8000),(9000,9000)] _ (y7,wrap .i64 (x1+(if q2<1 then 1 else q2)),wrap .i64 ((wrap .i64 (z1.2.2+q3))-q2)) L5 T3 h
   refine D1 hS T3 (b:=true) (fun c16=>?_) (fun c16=>?_)
   .refine UO hS T3 ⟨[(8,.reg 9000 0),(7,.reg 8000 0),(6,.reg 7000 0),(5,.reg 6000 0),(4,.reg 3 0),(3,.reg 2 0),(2,.reg 1 0),(1,.reg 0 0)],[(44000,.vec B0 2 y7.n (fun i=>A0 (y7.g i)) true),(9000,.cells [pN z1.2.2]),(8000,.cells [pN z1.2.1]),(7000,.cells [.vec 44000]),(6000,.cells [.yf 4]),(4,.yld [] false),(3,.cells [pN q3]),(2,.cells [pN q2]),(1,.cells ((B2 q1).map .p)),(0,.cells [.p (vSl 2 A0 q0)])]⟩ (ids:=[(0,0),(1,1),(2,2),(3,3),(4,4),(900,900),(6000,6000),(7000,7000),(8000,8000),(9000,9000),(44000,44000)]) ?_;exact A8 hS T3 (a:=.tup []) (objs:=[(.cells [.p (vSl 2 A0 q0)]),.cells ((B2 q1).map .p),.cells [pN q2],.cells [pN q3],.yld [] false]) ⟨[],[(4,.yld [] false),(3,.cells [pN q3]),(2,.cells [pN q2]),(1,.cells ((B2 q1).map .p)),(0,.cells [.p (vSl 2 A0 q0)])]⟩ [0,1,2,3,4] (ids:=[(0,0),(1,1),(2,2),(3,3),(4,4)]) ⟨false,rfl,rfl,_,rfl⟩
   exact Bool.noConfusion ((rfl:true=true).symm.trans c16)
  obtain rfl:=C0 h;exact A8 hS T3 (a:=.tup []) (objs:=[(.cells [.p (vSl 2 A0 q0)]),.cells ((B2 q1).map .p),.cells [pN q2],.cells [pN q3],.yld [] true]) ⟨[],[(4,.yld [] true),(3,.cells [pN q3]),(2,.cells [pN q2]),(1,.cells ((B2 q1).map .p)),(0,.cells [.p (vSl 2 A0 q0)])]⟩ [0,1,2,3,4] (ids:=[(0,0),(1,1),(2,2),(3,3),(4,4)]) ⟨true,rfl,rfl,_,rfl⟩
 apply kI hS h<;>intro h
 .refine Ap0 hS T3 h (fun x5 x6 L6=>⟨[(10,pN x6),(6,.reg 7000 0),(5,.reg 6000 0),(4,.reg 3 0),(3,.reg 2 0),(2,.reg 1 0)],[(7000,.cells [.p (vSl 2 A0 x5)]),(6000,.cells [.yf 4]),(4,.yld (L6.map (fun (x:Int×(Sl To))=>[pI .i64 x.1,vSl 2 A0 x.2])) true),(3,.cells [pN q3]),(2,.cells [pN q2]),(1,.cells ((B2 q1).map .p)),(0,.cells [.p (vSl 2 A0 q0)])]⟩) (ids:=[(0,0),(1,1),(2,2),(3,3),(4,4),(6000,6000),(7000,7000)]) (fun _ _ _ _ _ u x5 x6 L6 c h=>?_);apply kI hS h<;>intro h
  .refine kC hS h (AD6 hS hL) (fun w h=>?_);apply kI hS h<;>intro h
   .exact c _ [(0,0),(1,1),(2,2),(3,3),(4,4),(6000,6000),(7000,7000)] _ x5 (wrap .i64 (x6+1)) L6 T3 h
   refine kC hS h (PY hS hL) (fun d h=>?_);obtain⟨L9,rfl,o⟩:=VD h;replace h:=o;refine FX hS T3 (ys:=(fun (x:Int×(Sl To))=>[pI .i64 x.1,vSl 2 A0 x.2]) (x6,d)) (rest:=L9.map (fun (x:Int×(Sl To))=>[pI .i64 x.1,vSl 2 A0 x.2])) ?_ ?_
   .refine D1 hS T3 (b:=false) (fun c30=>?_) (fun c30=>?_)
    .exact Bool.noConfusion ((rfl:false=false).symm.trans c30)
    apply kI hS h<;>intro h
    .exact c _ [(0,0),(1,1),(2,2),(3,3),(4,4),(6000,6000),(7000,7000)] _ d (wrap .i64 ((wrap .i64 (x6+q3))+1)) L9 T3 h
    exact c _ [(0,0),(1,1),(2,2),(3,3),(4,4),(6000,6000),(7000,7000)] _ d (wrap .i64 (x6+q3)) L9 T3 h
   refine D1 hS T3 (b:=true) (fun c32=>?_) (fun c32=>?_)
   .exact A8 hS T3 (a:=.tup []) (objs:=[(.cells [.p (vSl 2 A0 q0)]),.cells ((B2 q1).map .p),.cells [pN q2],.cells [pN q3],.yld [] false]) ⟨[],[(4,.yld [] false),(3,.cells [pN q3]),(2,.cells [pN q2]),(1,.cells ((B2 q1).map .p)),(0,.cells [.p (vSl 2 A0 q0)])]⟩ [0,1,2,3,4] (ids:=[(0,0),(1,1),(2,2),(3,3),(4,4)]) ⟨false,rfl,rfl,_,rfl⟩
   exact Bool.noConfusion ((rfl:true=true).symm.trans c32)
  obtain rfl:=C0 h;exact A8 hS T3 (a:=.tup []) (objs:=[(.cells [.p (vSl 2 A0 q0)]),.cells ((B2 q1).map .p),.cells [pN q2],.cells [pN q3],.yld [] true]) ⟨[],[(4,.yld [] true),(3,.cells [pN q3]),(2,.cells [pN q2]),(1,.cells ((B2 q1).map .p)),(0,.cells [.p (vSl 2 A0 q0)])]⟩ [0,1,2,3,4] (ids:=[(0,0),(1,1),(2,2),(3,3),(4,4)]) ⟨true,rfl,rfl,_,rfl⟩
 apply kI hS h<;>intro h
 .refine Ap0 hS T3 h (fun x7 x8 L10=>⟨[(11,pN x8),(6,.reg 7000 0),(5,.reg 6000 0),(3,.reg 2 0),(2,.reg 1 0)],[(7000,.cells [.p (vSl 2 A0 x7)]),(6000,.cells [.yf 4]),(4,.yld (L10.map (fun (x:Int×(Sl To))=>[pI .i64 x.1,vSl 2 A0 x.2])) true),(3,.cells [pN q3]),(2,.cells [pN q2]),(1,.cells ((B2 q1).map .p)),(0,.cells [.p (vSl 2 A0 q0)])]⟩) (ids:=[(0,0),(1,1),(2,2),(3,3),(4,4),(6000,6000),(7000,7000)]) (fun _ _ _ _ _ v x7 x8 L10 q h=>?_);apply kI hS h<;>intro h
  .refine kC hS h (AD6 hS hL) (fun y h=>?_);apply kI hS h<;>intro h
   .exact q _ [(0,0),(1,1),(2,2),(3,3),(4,4),(6000,6000),(7000,7000)] _ x7 (wrap .i64 (x8-1)) L10 T3 h
   refine kC hS h (PY hS hL) (fun r h=>?_);obtain⟨L13,rfl,f⟩:=VD h;replace h:=f;refine FX hS T3 (ys:=(fun (x:Int×(Sl To))=>[pI .i64 x.1,vSl 2 A0 x.2]) (x8,r)) (rest:=L13.map (fun (x:Int×(Sl To))=>[pI .i64 x.1,vSl 2 A0 x.2])) ?_ ?_
   .refine D1 hS T3 (b:=false) (fun c44=>?_) (fun c44=>?_)
    .exact Bool.noConfusion ((rfl:false=false).symm.trans c44)
    exact q _ [(0,0),(1,1),(2,2),(3,3),(4,4),(6000,6000),(7000,7000)] _ r (wrap .i64 (x8-(if q2<1 then 1 else q2))) L13 T3 h
   refine D1 hS T3 (b:=true) (fun c45=>?_) (fun c45=>?_)
   .exact A8 hS T3 (a:=.tup []) (objs:=[(.cells [.p (vSl 2 A0 q0)]),.cells ((B2 q1).map .p),.cells [pN q2],.cells [pN q3],.yld [] false]) ⟨[],[(4,.yld [] false),(3,.cells [pN q3]),(2,.cells [pN q2]),(1,.cells ((B2 q1).map .p)),(0,.cells [.p (vSl 2 A0 q0)])]⟩ [0,1,2,3,4] (ids:=[(0,0),(1,1),(2,2),(3,3),(4,4)]) ⟨false,rfl,rfl,_,rfl⟩
   exact Bool.noConfusion ((rfl:true=true).symm.trans c45)
  obtain rfl:=C0 h;exact A8 hS T3 (a:=.tup []) (objs:=[(.cells [.p (vSl 2 A0 q0)]),.cells ((B2 q1).map .p),.cells [pN q2],.cells [pN q3],.yld [] true]) ⟨[],[(4,.yld [] true),(3,.cells [pN q3]),(2,.cells [pN q2]),(1,.cells ((B2 q1).map .p)),(0,.cells [.p (vSl 2 A0 q0)])]⟩ [0,1,2,3,4] (ids:=[(0,0),(1,1),(2,2),(3,3),(4,4)]) ⟨true,rfl,rfl,_,rfl⟩
 obtain rfl:=C0 h;exact A8 hS T3 (a:=.tup []) (objs:=[(.cells [.p (vSl 2 A0 q0)]),.cells ((B2 q1).map .p),.cells [pN q2],.cells [pN q3],.yld [] true]) ⟨[],[(4,.yld [] true),(3,.cells [pN q3]),(2,.cells [pN q2]),(1,.cells ((B2 q1).map .p)),(0,.cells [.p (vSl 2 A0 q0)])]⟩ [0,1,2,3,4] (ids:=[(0,0),(1,1),(2,2),(3,3),(4,4)]) ⟨true,rfl,rfl,_,rfl⟩
def PZ (N:Nat)(a:Law)(b:Sl To):Option ((Sl To)×Law×Int×Int):= some (b,a,(a.If.n:Int),(a.Out.n:Int))
theorem Br7 {b:Law}{c:Sl To}{y:(Sl To)×Law×Int×Int}(h:PZ N b c=some y) :FunO S AC1 [.p (.agg (B2 b)),.p (vSl 2 A0 c)] [] (.clo IY [] [.reg 0 0,.reg 1 0,.reg 2 0,.reg 3 0]) ([.cells [.p (vSl 2 A0 y.1)],.cells ((B2 y.2.1).map .p),.cells [pN y.2.2.1],.cells [pN y.2.2.2]]) []:=by unfold PZ at h;refine A1 hS Tryz.func175 ?_;refine Y6 hS T3 [(1,.l [3000]),(2,.n),(4,.l [3000]),(5,.n),(6,.a [6000]),(7,.a [7000]),(8,.a [6000]),(9,.a [7000])] ?_;refine D9 T3 ?_;obtain rfl:=C0 h;exact A8 hS T3 ⟨[(4,.clo IY [] [.reg 4000 0,.reg 3000 0,.reg 6000 0,.reg 7000 0])],[(7000,.cells [pN (b.Out.n:Int)]),(6000,.cells [pN (b.If.n:Int)]),(4000,.cells [.p (vSl 2 A0 c)]),(3000,.cells ((B2 b).map .p))]⟩ [4000,3000,6000,7000] (ids:=[(3000,3000),(4000,4000),(6000,6000),(7000,7000)]) ⟨rfl,rfl,rfl⟩
def Gf (N:Nat)(b:Law)(c:Sl To):Option ((Sl Int)×(Sl (Sl To))×Int):= (Je N b c).bind fun y1=>if (y1 != 0) then some ((Sl.nil:Sl Int),(Sl.nil:Sl (Sl To)),y1) else (PZ N b c).bind fun y2=>(Eh N y2.1 y2.2.1 y2.2.2.1 y2.2.2.2).bind fun L1=>Q5 L1 (fun a (x1:Int×(Sl To)) (z1:(Sl Int)×(Sl (Sl To)))=>if (decide (32<(x1.2.n:Int))) then some ((Sl.nil:Sl Int),(Sl.nil:Sl (Sl To)),11) else if ((z1.1.n+(Sl.of [x1.1]:Sl Int).n)*8<=140737488355328/\z1.1.n+(Sl.of [x1.1]:Sl Int).n<=140737488355328)then if ((z1.2.n+(Sl.of [x1.2]:Sl (Sl To)).n)*24<=140737488355328/\z1.2.n+(Sl.of [x1.2]:Sl (Sl To)).n<=140737488355328)then a (z1.1.push x1.1,z1.2.push x1.2) else none else none) (fun (z1:(Sl Int)×(Sl (Sl To)))=>some (z1.1,z1.2,0)) ((Sl.nil:Sl Int),(Sl.nil:Sl (Sl To)))
theorem AQ0 {b:Law}{d:Sl To}{y:(Sl Int)×(Sl (Sl To))×Int}(h:Gf N b d=some y) :FunO S Wb [.p (.agg (B2 b)),.p (vSl 2 A0 d)] [] (.tup [.vec 0,.vec 1,pN y.2.2]) ([.vec B8 1 y.1.n (fun i=>cI .i64 (y.1.g i)) true,.vec A6 1 y.2.1.n (fun i=>cL 2 A0 (y.2.1.g i)) true]) []:=by
 unfold Gf at h;refine A1 hS Tryz.func167 ?_;refine D8 hS T3 4 3000 (B2 b) ?_;obtain⟨y1,e1,h⟩:=B1 h;refine B6 hS [] (by decide:(18:Nat)<=18) (AP8 hS hL e1) ?_;apply kI hS h<;>intro h
 .obtain rfl:=C0 h;exact A8 hS T3 ⟨[(6,.reg 7000 0),(5,.reg 6000 0),(4,.reg 5000 0)],[(7000,.cells [pN y1]),(6701,.vec A6 1 (Sl.nil:Sl (Sl To)).n (fun i=>cL 2 A0 ((Sl.nil:Sl (Sl To)).g i)) true),(6000,.cells [.vec 6701]),(5700,.vec B8 1 (Sl.nil:Sl Int).n (fun i=>cI .i64 ((Sl.nil:Sl Int).g i)) true),(5000,.cells [.vec 5700])]⟩ [5700,6701] (ids:=[(5000,5000),(6000,6000),(7000,7000)]) ⟨rfl,rfl,rfl⟩
 obtain⟨y2,e2,h⟩:=B1 h;refine B6 hS [] (by decide:(18:Nat)<=18) (Br7 hS hL e2) ?_;obtain⟨L1,e3,h⟩:=B1 h;refine Hj hS T3 [21000,21001,21002,21003] [9,8,6,5,4] 901 (fun z1=>⟨[(9,.reg 10000 0),(8,.reg 9000 0),(6,.reg 7000 0),(5,.reg 6000 0),(4,.reg 5000 0)],[(10500,.vec A6 1 z1.2.n (fun i=>cL 2 A0 (z1.2.g i)) false),(10000,.cells [.vec 10500]),(9500,.vec B8 1 z1.1.n (fun i=>cI .i64 (z1.1.g i)) false),(9000,.cells [.vec 9500]),(7000,.cells [pN 0]),(6000,.cells [.p G6]),(5000,.cells [.p G6])]⟩) (idl:=[(5000,5000),(6000,6000),(7000,7000),(9000,9000),(10000,10000)]) h (AP9 hS hL e3) (fun _=>by kernel_rfl) (fun _=>by kernel_rfl) (fun _=>by kernel_rfl) (fun _=>by kernel_rfl) (fun x1 _ f z1 j h=>?_) (fun z1 h=>?_)
 .refine OC hS T3 ?_;apply kI hS h<;>intro h
  .refine UO hS T3 ⟨[(9,.reg 10000 0),(8,.reg 9000 0),(6,.reg 7000 0),(5,.reg 6000 0),(4,.reg 5000 0)],[(10500,.vec A6 1 z1.2.n (fun i=>cL 2 A0 (z1.2.g i)) false),(10000,.cells [.vec 10500]),(9500,.vec B8 1 z1.1.n (fun i=>cI .i64 (z1.1.g i)) false),(9000,.cells [.vec 9500]),(7000,.cells [pN 11]),(6000,.cells [.p G6]),(5000,.cells [.p G6])]⟩ (ids:=[(901,901),(5000,5000),(6000,6000),(7000,7000),(9000,9000),(9500,9500),(10000,10000),(10500,10500)]) ?_;obtain rfl:=C0 h;exact A8 hS T3 ⟨[(6,.reg 7000 0),(5,.reg 6000 0),(4,.reg 5000 0)],[(7000,.cells [pN 11]),(6701,.vec A6 1 (Sl.nil:Sl (Sl To)).n (fun i=>cL 2 A0 ((Sl.nil:Sl (Sl To)).g i)) true),(6000,.cells [.vec 6701]),(5700,.vec B8 1 (Sl.nil:Sl Int).n (fun i=>cI .i64 ((Sl.nil:Sl Int).g i)) true),(5000,.cells [.vec 5700])]⟩ [5700,6701] (ids:=[(5000,5000),(6000,6000),(7000,7000)]) ⟨rfl,rfl,rfl⟩
  refine Y6 hS T3 [(0,.l [9000]),(3,.a [30000,9500]),(4,.l [10000]),(7,.a [34000,10500]),(8,.a [9000]),(9,.a [10000])] ?_;refine Aj T3 (x:=.sl true 1 1 (D0 [pI .i64 0] [(0,cI .i64 x1.1)])) ?_;obtain⟨c9,h⟩:=C7 h;refine Aj c9 (x:=.sl true 1 1 (D0 [G6] [(0,cL 2 A0 x1.2)])) ?_;obtain⟨c10,h⟩:=C7 h;refine D9 c10 ?_;exact j _ [(901,901),(5000,5000),(6000,6000),(7000,7000),(9000,9000),(9500,30000),(10000,10000),(10500,34000)] _ (z1.1.push x1.1,z1.2.push x1.2) T3 h (hle:=klR [(0,.fn (z1.2.n+1) (z1.2.push x1.2).n (I4 z1.2.n (fun i=>cL 2 A0 (z1.2.g i)) (D0 [G6] [(0,cL 2 A0 x1.2)])) (fun i=>cL 2 A0 ((z1.2.push x1.2).g i))),(1,.fn (z1.1.n+1) (z1.1.push x1.1).n (I4 z1.1.n (fun i=>cI .i64 (z1.1.g i)) (D0 [pI .i64 0] [(0,cI .i64 x1.1)])) (fun i=>cI .i64 ((z1.1.push x1.1).g i)))] (al1 ⟨rfl,W3 (c:=cL 2 A0) (v:=z1.2) (x:=x1.2) (z:=[G6]) same rfl rfl⟩ (al1 ⟨rfl,W3 (c:=cI .i64) (v:=z1.1) (x:=x1.1) (z:=[(pI .i64 0)]) same rfl rfl⟩ al0)))
 refine Y6 hS T3 [(0,.l [9000]),(1,.l [10000]),(2,.a [5000]),(3,.a [6000]),(4,.a [7000])] ?_;refine D9 T3 ?_;obtain rfl:=C0 h;exact A8 hS T3 ⟨[(6,.reg 7000 0),(5,.reg 6000 0),(4,.reg 5000 0)],[(10500,.vec A6 1 z1.2.n (fun i=>cL 2 A0 (z1.2.g i)) true),(9500,.vec B8 1 z1.1.n (fun i=>cI .i64 (z1.1.g i)) true),(7000,.cells [pN 0]),(6000,.cells [.vec 10500]),(5000,.cells [.vec 9500])]⟩ [9500,10500] (ids:=[(5000,5000),(6000,6000),(7000,7000),(9500,9500),(10500,10500)]) ⟨rfl,rfl,rfl⟩
def Y2 (N:Nat)(b:Law)(a:Sl To):Option ((Sl To)×Int):= (Gf N b a).bind fun y1=>if (y1.2.2 != 0) then some ((Sl.nil:Sl To),y1.2.2) else if (decide (0<(y1.2.1.n:Int))) then if (((0:Int)<=(wrap .i64 ((y1.2.1.n:Int)-1))/\(wrap .i64 ((y1.2.1.n:Int)-1))<(y1.2.1.n:Int))/\(wrap .i64 ((y1.2.1.n:Int)-1)).toNat<y1.2.1.n)then some (y1.2.1.g (wrap .i64 ((y1.2.1.n:Int)-1)).toNat,0) else none else (B9 N a).bind fun y2=>some (y2,0)
theorem AQ1 {a:Law}{b:Sl To}{y:(Sl To)×Int}(h:Y2 N a b=some y) :FunO S Wa [.p (.agg (B2 a)),.p (vSl 2 A0 b)] [] (.tup [.p (vSl 2 A0 y.1),pN y.2]) ([]) []:=by
 unfold Y2 at h;refine A1 hS Tryz.func158 ?_;refine kC hS h (AQ0 hS hL) (fun y1 h=>?_);apply kI hS h<;>intro h
 .obtain rfl:=C0 h;exact A8 hS T3 ⟨[(5,pN y1.2.2),(4,.p (vSl 2 A0 (Sl.nil:Sl To)))],[]⟩ [] (ids:=[]) ⟨rfl,rfl,rfl⟩
 apply kI hS h<;>intro h
 .obtain⟨c3,h⟩:=C7 h;obtain rfl:=C0 h;exact AN0 hS c3 [] ⟨rfl,rfl,rfl⟩
 refine kC hS h (T6 hS hL) (fun y2 h=>?_);obtain rfl:=C0 h;exact A8 hS T3 ⟨[(5,pN 0),(4,.p (vSl 2 A0 y2))],[]⟩ [] (ids:=[]) ⟨rfl,rfl,rfl⟩
end Go.AM
namespace Go.AM
variable {N:Nat}
open IntKind (wrap)
open Go.Proofs
set_option maxRecDepth 10000
set_option maxHeartbeats 2000000
variable {S:W1}(hS:H9 S Tryz.prog) (hL:GD S)
include hS hL
def W6 (N:Nat)(a:Law):Option Bool:= (Bt N a).bind fun y1=>some (y1 != 0)
theorem Tu {a:Law}{y:Bool}(h:W6 N a=some y) :FunO S JC [.p (.agg (B2 a))] [] (pB y) ([]) []:=by unfold W6 at h;refine A1 hS Tryz.func143 ?_;refine kC hS h (OF hS hL) (fun y1 h=>?_);cases h;exact kR hS
def H6 (N:Nat)(a:Sl Law)(c:Law->Option Bool):Option Int:= T9 N (fun b (x1:Int)=>if (decide (x1<(a.n:Int))) then if ((0:Int)<=x1/\x1<(a.n:Int))then (c (a.g x1.toNat)).bind fun y3=>if y3 then some x1 else b (wrap .i64 (x1+1)) else none else some (-1)) 0
theorem Cp {a:Sl Law}{c:Law->Option Bool}{kp_f:Nat}(d:∀{a0:Law}{b:Bool},c a0=some b->FunO S kp_f [.p (.agg (B2 a0))] [] (pB b) [] []){y:Int}(h:H6 N a c=some y) :FunO S T5 [.p (vSl 18 B2 a),.clo kp_f [] []] [] (pN y) ([]) []:=by
 unfold H6 at h;refine A1 hS Tryz.func156 ?_;refine E2 hS T3 h (fun x1=>⟨[(8,pN x1),(7,pN (a.n:Int)),(1,.clo kp_f [] []),(0,.p (vSl 18 B2 a))],[]⟩) (ids:=[]) (fun _ _ _ _ _ f x1 g h=>?_);apply kI hS h<;>intro h
 .obtain⟨c8,h⟩:=C7 h;obtain⟨y3,e3,h⟩:=B1 h;refine B6 hS [] (And.intro c8 (by decide:(18:Nat)<=18)) (d e3) ?_;apply kI hS h<;>intro h
  .cases h;exact kR hS
  exact g _ [] _ (wrap .i64 (x1+1)) T3 h
 cases h;exact kR hS
def F4 (N:Nat)(a:Sl Law)(b:Law->Option Bool):Option Bool:= (H6 N a b).bind fun y1=>some (decide (0<=y1))
theorem Bi {a:Sl Law}{c:Law->Option Bool}{kp_f:Nat}(d:∀{a0:Law}{b:Bool},c a0=some b->FunO S kp_f [.p (.agg (B2 a0))] [] (pB b) [] []){y:Bool}(h:F4 N a c=some y) :FunO S Q1 [.p (vSl 18 B2 a),.clo kp_f [] []] [] (pB y) ([]) []:=by unfold F4 at h;refine A1 hS Tryz.func142 ?_;refine kC hS h (Cp hS hL (fun e=>d e)) (fun y1 h=>?_);cases h;exact kR hS
def AQ (N:Nat)(a:Sl Law):Option Int:= if (decide (64<(a.n:Int))) then some 12 else (F4 N a (fun (u1:Law)=>W6 N u1)).bind fun y1=>if y1 then some 17 else some 0
theorem Zz {a:Sl Law}{y:Int}(h:AQ N a=some y) :FunO S Nl [.p (vSl 18 B2 a)] [] (pN y) ([]) []:=by
 unfold AQ at h;refine A1 hS Tryz.func122 ?_;apply kI hS h<;>intro h
 .cases h;exact kR hS
 refine kC hS h (Bi hS hL (fun e=>Tu hS hL e)) (fun y1 h=>?_);apply kI hS h<;>intro h
 .cases h;exact kR hS
 cases h;exact kR hS
def CF (N:Nat)(b:Sl Law)(a:Sl (Sl To)):Option Int:= (AQ N b).bind fun y1=>if (y1 != 0) then some y1 else if (decide (256<(a.n:Int))) then some 12 else T9 N (fun c (x1:Int)=>if (decide (x1<(a.n:Int))) then if ((0:Int)<=x1/\x1<(a.n:Int))then (Q7 N (a.g x1.toNat)).bind fun y4=>if (y4 != 0) then some y4 else c (wrap .i64 (x1+1)) else none else some 0) 0
theorem ZA {b:Sl Law}{a:Sl (Sl To)}{y:Int}(h:CF N b a=some y) :FunO S Nk [.p (vSl 18 B2 b),.p (vSl 1 (cL 2 A0) a)] [] (pN y) ([]) []:=by
 unfold CF at h;refine A1 hS Tryz.func99 ?_;refine kC hS h (Zz hS hL) (fun y1 h=>?_);apply kI hS h<;>intro h
 .cases h;exact kR hS
 apply kI hS h<;>intro h
 .cases h;exact kR hS
 refine E2 hS T3 h (fun x1=>⟨[(19,pN x1),(18,pN (a.n:Int)),(17,.p (vSl 1 (cL 2 A0) a))],[]⟩) (ids:=[]) (fun _ _ _ _ _ c x1 d h=>?_);apply kI hS h<;>intro h
 .obtain⟨c10,h⟩:=C7 h;obtain⟨y4,e4,h⟩:=B1 h;refine B6 hS [] c10 (EM hS hL e4) ?_;apply kI hS h<;>intro h
  .cases h;exact kR hS
  exact d _ [] _ (wrap .i64 (x1+1)) T3 h
 cases h;exact kR hS
end Go.AM
namespace Go.AM
variable {N:Nat}
open IntKind (wrap)
open Go.Proofs
set_option maxRecDepth 10000
set_option maxHeartbeats 2000000
variable {S:W1}(hS:H9 S Tryz.prog) (hL:GD S)
include hS hL
def BG6 (c:Int):Option PV:=if c=0 then none else some (.iface 181 (pI .i64 c))
def AB (N:Nat)(c:Int)(q0:Sl To)(q1:Sl Law):Option (List (Int×(Sl To))):= (B9 N q0).bind fun y1=>Be (0,y1) (P9 N (fun a (x1:Sl To) (x2:Int)=>if (decide (x2<(q1.n:Int))) then if ((0:Int)<=x2/\x2<(q1.n:Int))then (Y2 N (q1.g x2.toNat) x1).bind fun y4=>if (y4.2 != 0) then if y4.2=c then some []else none else Be (wrap .i64 (x2+1),y4.1) (a y4.1 (wrap .i64 (x2+1))) else none else if c=0 then some []else none) y1 0)
theorem JE {q0:Sl To}{q1:Sl Law}{c:Int}{L:List (Int×(Sl To))}(h:AB N c q0 q1=some L) :VG S W4 [] [.reg 0 0,.reg 1 0] [.cells [.p (vSl 2 A0 q0)],.cells [.p (vSl 18 B2 q1)]] (L.map (fun (x:Int×(Sl To))=>[pI .i64 x.1,vSl 2 A0 x.2])) (BG6 c):=by
 unfold AB at h;refine Bq2 hS Tryz.func157 ?_;refine kC hS h (T6 hS hL) (fun y1 h=>?_);obtain⟨L1,rfl,d⟩:=VD h;replace h:=d;refine FX hS T3 (ys:=(fun (x:Int×(Sl To))=>[pI .i64 x.1,vSl 2 A0 x.2]) (0,y1)) (rest:=L1.map (fun (x:Int×(Sl To))=>[pI .i64 x.1,vSl 2 A0 x.2])) ?_ ?_
 .refine D1 hS T3 (b:=false) (fun c1=>?_) (fun c1=>?_)
  .exact Bool.noConfusion ((rfl:false=false).symm.trans c1)
  refine Ap0 hS T3 h (fun x1 x2 L2=>⟨[(17,pN x2),(16,pN (q1.n:Int)),(15,.p (vSl 18 B2 q1)),(4,.p (vSl 2 A0 x1)),(0,.yf 2)],[(2,.yld (L2.map (fun (x:Int×(Sl To))=>[pI .i64 x.1,vSl 2 A0 x.2])) true),(1,.cells [.p (vSl 18 B2 q1)]),(0,.cells [.p (vSl 2 A0 q0)])]⟩) (ids:=[(0,0),(1,1),(2,2)]) (fun _ _ _ _ _ g x1 x2 L2 i h=>?_);apply kI hS h<;>intro h
  .obtain⟨c13,h⟩:=C7 h;obtain⟨y4,e4,h⟩:=B1 h;refine B6 hS [] (And.intro c13 (by decide:(18:Nat)<=18)) (AQ1 hS hL e4) ?_;refine D1 hS T3 (b:=y4.2 != 0) (fun c14=>?_) (fun c14=>?_)
   .replace h:=itT c14 h;obtain⟨c0,h⟩:=C7 h;obtain rfl:=C0 h;have j:BG6 c=some (.iface 181 (pI .i64 y4.2)):=by
     have:¬y4.2=0:=by simpa using c14
     rw[<- c0];simp[BG6,this]
    refine BV2 hS T3 (x:=.iface 181 (pI .i64 y4.2)) ?_;exact BN4 hS T3 (x:=.iface 181 (pI .i64 y4.2)) (objs:=[(.cells [.p (vSl 2 A0 q0)]),.cells [.p (vSl 18 B2 q1)],.yld [] true]) [0,1,2] ⟨true,rfl,rfl,fun _=>by rw[j];rfl,fun e=>nomatch e⟩
   replace h:=itF c14 h;obtain⟨L5,rfl,f⟩:=VD h;replace h:=f;refine FX hS T3 (ys:=(fun (x:Int×(Sl To))=>[pI .i64 x.1,vSl 2 A0 x.2]) (wrap .i64 (x2+1),y4.1)) (rest:=L5.map (fun (x:Int×(Sl To))=>[pI .i64 x.1,vSl 2 A0 x.2])) ?_ ?_
   .refine D1 hS T3 (b:=false) (fun c15=>?_) (fun c15=>?_)
    .exact Bool.noConfusion ((rfl:false=false).symm.trans c15)
    exact i _ [(0,0),(1,1),(2,2)] _ y4.1 (wrap .i64 (x2+1)) L5 T3 h
   refine D1 hS T3 (b:=true) (fun c16=>?_) (fun c16=>?_)
   .exact A8 hS T3 (a:=.tup []) (objs:=[(.cells [.p (vSl 2 A0 q0)]),.cells [.p (vSl 18 B2 q1)],.yld [] false]) ⟨[],[(2,.yld [] false),(1,.cells [.p (vSl 18 B2 q1)]),(0,.cells [.p (vSl 2 A0 q0)])]⟩ [0,1,2] (ids:=[(0,0),(1,1),(2,2)]) ⟨false,rfl,rfl,fun e=>(nomatch e),fun _=>⟨_,rfl⟩⟩
   exact Bool.noConfusion ((rfl:true=true).symm.trans c16)
  obtain⟨c0,h⟩:=C7 h;obtain rfl:=C0 h;exact A8 hS T3 (a:=.tup []) (objs:=[(.cells [.p (vSl 2 A0 q0)]),.cells [.p (vSl 18 B2 q1)],.yld [] true]) ⟨[],[(2,.yld [] true),(1,.cells [.p (vSl 18 B2 q1)]),(0,.cells [.p (vSl 2 A0 q0)])]⟩ [0,1,2] (ids:=[(0,0),(1,1),(2,2)]) ⟨true,rfl,rfl,fun _=>by subst c0;exact⟨_,rfl⟩,fun e=>(nomatch e)⟩
 refine D1 hS T3 (b:=true) (fun c17=>?_) (fun c17=>?_)
 .exact A8 hS T3 (a:=.tup []) (objs:=[(.cells [.p (vSl 2 A0 q0)]),.cells [.p (vSl 18 B2 q1)],.yld [] false]) ⟨[],[(2,.yld [] false),(1,.cells [.p (vSl 18 B2 q1)]),(0,.cells [.p (vSl 2 A0 q0)])]⟩ [0,1,2] (ids:=[(0,0),(1,1),(2,2)]) ⟨false,rfl,rfl,fun e=>(nomatch e),fun _=>⟨_,rfl⟩⟩
 exact Bool.noConfusion ((rfl:true=true).symm.trans c17)
def CG (N:Nat)(a:Sl Law)(b:Sl To):Option ((Sl To)×(Sl Law)):= some (b,a)
theorem Nr {a:Sl Law}{b:Sl To}{y:(Sl To)×(Sl Law)}(h:CG N a b=some y) :FunO S Nn [.p (vSl 18 B2 a),.p (vSl 2 A0 b)] [] (.clo W4 [] [.reg 0 0,.reg 1 0]) ([.cells [.p (vSl 2 A0 y.1)],.cells [.p (vSl 18 B2 y.2)]]) []:=by unfold CG at h;refine A1 hS Tryz.func144 ?_;obtain rfl:=C0 h;exact A8 hS T3 ⟨[(4,.clo W4 [] [.reg 4000 0,.reg 3000 0])],[(4000,.cells [.p (vSl 2 A0 b)]),(3000,.cells [.p (vSl 18 B2 a)])]⟩ [4000,3000] (ids:=[(3000,3000),(4000,4000)]) ⟨rfl,rfl,rfl⟩
def F0 (N:Nat)(c:Int)(a:Sl Law)(d:Sl To):Option (Sl To):= (CG N a d).bind fun y1=>(AB N c y1.1 y1.2).bind fun L1=>Q5 L1 (fun b (x1:Int×(Sl To)) (z1:Sl To)=>b x1.2) (fun (z1:Sl To)=>some z1) (Sl.nil:Sl To)
theorem Rr {a:Sl Law}{b:Sl To}{y:Sl To}(h:F0 N 0 a b=some y) :FunO S L7 [.p (vSl 18 B2 a),.p (vSl 2 A0 b)] [] (.p (vSl 2 A0 y)) ([]) []:=by
 unfold F0 at h;refine A1 hS Tryz.func125 ?_;refine kC hS h (Nr hS hL) (fun y1 h=>?_);obtain⟨L1,e2,h⟩:=B1 h;have f:VG S W4 [] [.reg 0 0,.reg 1 0] [.cells [.p (vSl 2 A0 y1.1)],.cells [.p (vSl 18 B2 y1.2)]] (L1.map (fun (x:Int×(Sl To))=>[pI .i64 x.1,vSl 2 A0 x.2])) none:=JE hS hL e2;refine AY1 hS T3 [8000,8001] [4] 901 (fun z1=>⟨[(4,.reg 5000 0)],[(5000,.cells [.p (vSl 2 A0 z1)])]⟩) (idl:=[(5000,5000)]) h f (fun _=>by kernel_rfl) (fun _=>by kernel_rfl) (fun _=>by kernel_rfl) (fun _=>by kernel_rfl) (fun x1 _ c z1 d h=>?_) (fun z1 h=>?_)
 .refine OC hS T3 ?_;exact d _ [(901,901),(5000,5000)] _ x1.2 T3 h
 cases h;exact kR hS
theorem Rs {c:Int}{a:Sl Law}{b:Sl To}{y:Sl To}(hc:c≠0)(h:F0 N c a b=some y) :S.F L7 [.p (vSl 18 B2 a),.p (vSl 2 A0 b)] [] fun res o k=>res=.panic (.iface 181 (pI .i64 c))/\o=[]/\k=[]:=by
 unfold F0 at h;refine BG0 hS Tryz.func125 ?_;refine kC hS h (Nr hS hL) (fun y1 h=>?_);obtain⟨L1,e2,h⟩:=B1 h;have g:VG S W4 [] [.reg 0 0,.reg 1 0] [.cells [.p (vSl 2 A0 y1.1)],.cells [.p (vSl 18 B2 y1.2)]] (L1.map (fun (x:Int×(Sl To))=>[pI .i64 x.1,vSl 2 A0 x.2])) (some (.iface 181 (pI .i64 c))):=by
  have:=JE hS hL e2
  simpa[BG6,hc]using this
 refine AY1 hS T3 [8000,8001] [4] 901 (fun z1=>⟨[(4,.reg 5000 0)],[(5000,.cells [.p (vSl 2 A0 z1)])]⟩) (idl:=[(5000,5000)]) h g (fun _=>by kernel_rfl) (fun _=>by kernel_rfl) (fun _=>by kernel_rfl) (fun _=>by kernel_rfl) (fun x1 _ d z1 f h=>?_) (fun z1 h=>?_)
 .refine OC hS T3 ?_;exact f _ [(901,901),(5000,5000)] _ x1.2 T3 h
 exact BN4 hS T3 (x:=.iface 181 (pI .i64 c)) (objs:=[]) [] ⟨rfl,rfl,rfl⟩
def I5 (N:Nat)(a:Sl Law)(b:Sl To):Option ((Sl To)×Bool):=
 match F0 N 0 a b with
 |some y=>some (y,true)
 |none=>(F0 N 11 a b).bind fun _=>some ((Sl.nil:Sl To),false)
theorem Tv {b:Sl Law}{c:Sl To}{y:(Sl To)×Bool}(h:I5 N b c=some y) :FunO S JA [.p (vSl 18 B2 b),.p (vSl 2 A0 c)] [] (.tup [.p (vSl 2 A0 y.1),pB y.2]) ([]) []:=by
 unfold I5 at h;refine A1 hS Tryz.func100 ?_;rcases e:F0 N 0 b c with _|z
 .rw[e]at h;obtain⟨z,e1,h⟩:=B1 h;obtain rfl:=C0 h;refine B6 hS [7000,3000,4000,5000] T3 (hL.attP (Rs hS hL (by decide) e1)) ?_;refine Y6 hS T3 [(0,.l [5000]),(1,.l [7000]),(3,.a [5000])] ?_;refine D9 T3 ?_;exact A8 hS T3 ⟨[(5,pB false),(4,.reg 5000 0)],[(5000,.cells [.p (vSl 2 A0 Sl.nil)])]⟩ [] (ids:=[(5000,5000)]) ⟨rfl,rfl,rfl⟩
 rw[e]at h;obtain rfl:=C0 h;refine B6 hS [7000,3000,4000,5000] T3 (hL.attR (Rr hS hL e)) ?_;refine Y6 hS T3 [(0,.l [5000]),(1,.l [7000]),(3,.a [5000])] ?_;refine D9 T3 ?_;exact A8 hS T3 ⟨[(5,pB true),(4,.reg 5000 0)],[(5000,.cells [.p (vSl 2 A0 z)])]⟩ [] (ids:=[(5000,5000)]) ⟨rfl,rfl,rfl⟩
end Go.AM
namespace Go.AM
open Go.Proofs
set_option maxRecDepth 10000
set_option maxHeartbeats 2000000
variable {S:W1}(hS:H9 S Tryz.prog) (hL:GD S)
include hS hL
def J4 (N:Nat)(a:Sl Law)(b:Sl To):Option ((Sl To)×Int):= (CF N a (Sl.of [b]:Sl (Sl To))).bind fun y1=>if (y1 != 0) then some ((Sl.nil:Sl To),y1) else (I5 N a b).bind fun y2=>if (!y2.2) then some ((Sl.nil:Sl To),11) else some (y2.1,0)
theorem KS {N:Nat}{a:Sl Law}{b:Sl To}{y:(Sl To)×Int}(h:J4 N a b=some y) :FunO S KH [.p (vSl 18 B2 a),.p (vSl 2 A0 b)] [] (.tup [.p (vSl 2 A0 y.1),pN y.2]) ([]) []:=by
 unfold J4 at h;refine A1 hS Tryz.func72 ?_;refine Da hS (rfl:true=true) ⟨[(11,.vec 12000),(9,.p (vSl 18 B2 a)),(1,.p (vSl 2 A0 b)),(0,.p (vSl 18 B2 a))],[(12000,.vec A6 1 (Sl.of [b]:Sl (Sl To)).n (fun i=>cL 2 A0 ((Sl.of [b]:Sl (Sl To)).g i)) false)]⟩ (ids:=[(12000,12000)]) ?_ (hle:=klR [(3,.fn 1 (Sl.of [b]:Sl (Sl To)).n (D0 [G6] [(0,cL 2 A0 b)]) (fun i=>cL 2 A0 ((Sl.of [b]:Sl (Sl To)).g i)))] (al1 ⟨rfl,(fun i c=>match i,c with|0,_=>rfl|_+1,c=>Kh c (by omega))⟩ al0));refine kC hS h (ZA hS hL) (fun y1 h=>?_);apply kI hS h<;>intro h
 .obtain rfl:=C0 h;exact A8 hS T3 ⟨[(5,pN y1),(4,.p (vSl 2 A0 (Sl.nil:Sl To)))],[]⟩ [] (ids:=[]) ⟨rfl,rfl,rfl⟩
 refine kC hS h (Tv hS hL) (fun y2 h=>?_);apply kI hS h<;>intro h
 .obtain rfl:=C0 h;exact A8 hS T3 ⟨[(5,pN 11),(4,.p (vSl 2 A0 (Sl.nil:Sl To)))],[]⟩ [] (ids:=[]) ⟨rfl,rfl,rfl⟩
 cases h;exact kR hS
end Go.AM
namespace Go.AM
variable {N:Nat}
open IntKind (wrap)
open Go.Proofs
set_option maxRecDepth 10000
set_option maxHeartbeats 2000000
variable {S:W1}(hS:H9 S Tryz.prog) (hL:GD S)
include hS hL
def Bv (N:Nat)(a:Int):Option Bool:= some (((((decide (97<=a))&&(decide (a<=122)))||((decide (65<=a))&&(decide (a<=90))))||((decide (48<=a))&&(decide (a<=57))))||(a==45))
def S2 (N:Nat)(a:Str):Option Bool:= T9 N (fun b (x1:Int)=>if (decide (x1<(a.length:Int))) then if ((0:Int)<=x1/\x1<(a.length:Int))then (Bv N (P8 a x1)).bind fun y3=>if (!y3) then some false else b (wrap .i64 (x1+1)) else none else some ((decide (1<=(a.length:Int)))&&(decide ((a.length:Int)<=24)))) 0
def S7 (N:Nat)(a:Sl J6):Option Int:= if ((decide ((a.n:Int)<1))=false->((decide (63<(a.n:Int)))=false->((0:Int)<=0/\0<(a.n:Int))))then if (((decide ((a.n:Int)<1))||(decide (63<(a.n:Int))))||((a.g 0).Parent != (-1))) then some 16 else T9 N (fun b (x3:Int)=>if (decide (x3<(a.n:Int))) then lt (fun (z3:Bool)=>if z3 then some 16 else T9 N (fun c (x7:Int)=>if (decide (x7<x3)) then if (((0:Int)<=x7/\x7<(a.n:Int))/\((0:Int)<=x3/\x3<(a.n:Int)))then if (((a.g x7.toNat).Name==(a.g x3.toNat).Name) != false) then some 16 else c (wrap .i64 (x7+1)) else none else b (wrap .i64 (x3+1))) 0) fun k3=>if (decide (0<x3)) then if ((0:Int)<=x3/\x3<(a.n:Int))then if (decide ((a.g x3.toNat).Parent<0)) then k3 true else if ((0:Int)<=x3/\x3<(a.n:Int))then if (decide (x3<=(a.g x3.toNat).Parent)) then k3 true else if ((0:Int)<=x3/\x3<(a.n:Int))then (S2 N (a.g x3.toNat).Name).bind fun d=>k3 (!d) else none else none else none else if ((0:Int)<=x3/\x3<(a.n:Int))then (S2 N (a.g x3.toNat).Name).bind fun f=>k3 (!f) else none else some 0) 0 else none
def R5 (rec:A5->Int->Option (Sl Int))(N:Nat)(b:A5)(a:Int):Option (Sl Int):= if (decide (a<0)) then some (Sl.nil:Sl Int) else if ((0:Int)<=a/\a<(b.Tree.n:Int))then (rec b (b.Tree.g a.toNat).Parent).bind fun y1=>if (((0:Int)<=a/\a<(b.On.n:Int))/\((y1.n+(b.On.g a.toNat).n)*8<=140737488355328/\y1.n+(b.On.g a.toNat).n<=140737488355328))then some (y1.app (b.On.g a.toNat)) else none else none
def BU:Nat->A5->Int->Option (Sl Int)
 |0=>fun _ _=>none
 |N+1=>R5 (BU N) N
def P6 (N:Nat)(a:A5):Option Int:= (S7 N a.Tree).bind fun y1=>if (y1 != 0) then some 16 else if (decide (64<(a.Laws.n:Int))) then some 12 else T9 N (fun d (x1:Int)=>if (decide (x1<(a.Laws.n:Int))) then if ((0:Int)<=x1/\x1<(a.Laws.n:Int))then (S6 N (a.Laws.g x1.toNat)).bind fun y4=>if (y4 != 0) then some 17 else d (wrap .i64 (x1+1)) else none else T9 N (fun f (x3:Int)=>if (decide (x3<(a.Laws.n:Int))) then T9 N (fun i (x5:Int)=>if (decide (x5<x3)) then if (((0:Int)<=x3/\x3<(a.Laws.n:Int))/\((0:Int)<=x5/\x5<(a.Laws.n:Int)))then if (((a.Laws.g x3.toNat).Name==(a.Laws.g x5.toNat).Name) != false) then some 6 else i (wrap .i64 (x5+1)) else none else f (wrap .i64 (x3+1))) 0 else if ((a.On.n:Int) != (a.Tree.n:Int)) then some 2 else T9 N (fun j (x6:Int)=>if (decide (x6<(a.On.n:Int))) then (BU N a x6).bind fun y7=>if (decide (64<(y7.n:Int))) then some 2 else j (wrap .i64 (x6+1)) else T9 N (fun l (x8:Int)=>if (decide (x8<(a.On.n:Int))) then T9 N (fun c (b:Int)=>if ((0:Int)<=x8/\x8<(a.On.n:Int))then if (decide (b<((a.On.g x8.toNat).n:Int))) then if (((0:Int)<=x8/\x8<(a.On.n:Int))/\((0:Int)<=b/\b<((a.On.g x8.toNat).n:Int)))then if (decide (((a.On.g x8.toNat).g b.toNat)<0)) then some 3 else if (((0:Int)<=x8/\x8<(a.On.n:Int))/\((0:Int)<=b/\b<((a.On.g x8.toNat).n:Int)))then if (decide ((a.Laws.n:Int)<=((a.On.g x8.toNat).g b.toNat))) then some 3 else c (wrap .i64 (b+1)) else none else none else l (wrap .i64 (x8+1)) else none) 0 else some 0) 0) 0) 0) 0
def Jf (N:Nat)(a:Int):Option Bool:= some (((((decide (97<=a))&&(decide (a<=122)))||((decide (65<=a))&&(decide (a<=90))))||((decide (48<=a))&&(decide (a<=57))))||(a==45))
theorem As1 {b:Int}{y:Bool}(h:Jf N b=some y) :FunO S PL [.p (pI .u8 b)] [] (pB y) ([]) []:=by unfold Jf at h;refine A1 hS Tryz.func121 ?_;refine kB hS (A2 hS) T3 T3 23 (.o (.o (.o (.n (.a (decide (97<=b))) (.a (decide (b<=122)))) (.n (.a (decide (65<=b))) (.a (decide (b<=90))))) (.n (.a (decide (48<=b))) (.a (decide (b<=57))))) (.a (b==45))) ?_;cases h;exact kR hS
def ER (N:Nat)(a:Str):Option Bool:= T9 N (fun b (x1:Int)=>if (decide (x1<(a.length:Int))) then if ((0:Int)<=x1/\x1<(a.length:Int))then (Jf N (P8 a x1)).bind fun y3=>if (!y3) then some false else b (wrap .i64 (x1+1)) else none else some ((decide (0<(a.length:Int)))&&(decide ((a.length:Int)<=24)))) 0
theorem AD7 {b:Str}{y:Bool}(h:ER N b=some y) :FunO S SQ [.p (.str b)] [] (pB y) ([]) []:=by
 unfold ER at h;refine A1 hS Tryz.func96 ?_;refine E2 hS T3 h (fun x1=>⟨[(6,pN x1),(5,pN (b.length:Int)),(0,.p (.str b))],[]⟩) (ids:=[]) (fun _ _ _ _ _ c x1 d h=>?_);apply kI hS h<;>intro h
 .obtain⟨c8,h⟩:=C7 h;obtain⟨y3,e3,h⟩:=B1 h;refine B6 hS [] c8 (As1 hS hL e3) ?_;apply kI hS h<;>intro h
  .cases h;exact kR hS
  exact d _ [] _ (wrap .i64 (x1+1)) T3 h
 refine kB hS (A2 hS) T3 T3 4 (.n (.a (decide (0<(b.length:Int)))) (.a (decide ((b.length:Int)<=24)))) ?_;cases h;exact kR hS
def X4 (N:Nat)(a:Sl J6):Option Int:= if (((a.n:Int)==0)||(decide (63<(a.n:Int)))) then some 16 else P9 N (fun b (x2:List (Str×Bool)) (x3:Int)=>if (decide (x3<(a.n:Int))) then if ((0:Int)<=x3/\x3<(a.n:Int))then lt (fun (z3:Bool)=>if z3 then some 16 else b (Rk eqS (a.g x3.toNat).Name true x2) (wrap .i64 (x3+1))) fun k3=>if (decide (x3<=(a.g x3.toNat).Parent)) then k3 true else if (decide ((a.g x3.toNat).Parent<(if 0<(wrap .i64 (x3-1))then 0 else (wrap .i64 (x3-1))))) then k3 true else (ER N (a.g x3.toNat).Name).bind fun y6=>if (!y6) then k3 true else BS8 (DW eqS (a.g x3.toNat).Name x2) (k3 false) fun v6=>k3 v6 else none else some 0) [] 0
theorem GS {c:Sl J6}{y:Int}(h:X4 N c=some y) :FunO S SN [.p (vSl 2 E4 c)] [] (pN y) ([]) []:=by
 unfold X4 at h;refine A1 hS Tryz.func65 ?_;refine kB hS (A2 hS) T3 T3 4 (.o (.a ((c.n:Int)==0)) (.a (decide (63<(c.n:Int))))) ?_;apply kI hS h<;>intro h
 .cases h;exact kR hS
 refine D7 hS T3 h (fun x2 x3=>⟨[(17,pN x3),(16,pN (c.n:Int)),(15,.p (vSl 2 E4 c)),(3,.mref 15000)],[(15000,.map (UM PV.str PV.bb x2))]⟩) (ids:=[(15000,15000)]) (fun _ _ _ _ _ f x2 x3 i h=>?_);apply kI hS h<;>intro h
 .obtain⟨c25,h⟩:=C7 h;refine Ai hS (And.intro c25 (by decide:(2:Nat)<=2)) (A2 hS) h 0 (fun z3=>⟨[(45,pB z3),(17,pN x3),(16,pN (c.n:Int)),(15,.p (vSl 2 E4 c)),(5,.reg 6000 0),(3,.mref 15000)],[(15000,.map (UM PV.str PV.bb x2)),(6000,.cells [pN (c.g x3.toNat).Parent,.p (.str (c.g x3.toNat).Name)])]⟩) (fun M3 k3 d h=>?_) (fun z3 h=>?_)
  .refine kG hS h (fun h=>?_) (fun h=>?_)
   .exact d _ [(6000,6000),(15000,15000)] _ true T3 h
   refine kG hS h (fun h=>?_) (fun h=>?_)
   .exact d _ [(6000,6000),(15000,15000)] _ true T3 h
   refine kC hS h (AD7 hS hL) (fun y6 h=>?_);refine kG hS h (fun h=>?_) (fun h=>?_)
   .exact d _ [(6000,6000),(15000,15000)] _ true T3 h
   rcases o6:DW eqS (c.g x3.toNat).Name x2 with _|v6
   .replace h:=optN o6 h;refine UN hS T3 (kt:=EB) (e:=BN7) (key:=PV.str (c.g x3.toNat).Name) (es:=UM PV.str PV.bb x2) (x:=.v (.bool false)) (b:=false) (fd:=none) ((FT (kP:=PV.str) (vP:=PV.bb) (eq:=eqS) (fun _ _=>by kernel_rfl) (c.g x3.toNat).Name x2).trans (by rw[o6];rfl)) T3 ?_;exact d _ [(6000,6000),(15000,15000)] _ false T3 h
   replace h:=optS o6 h;refine UN hS T3 (kt:=EB) (e:=BN7) (key:=PV.str (c.g x3.toNat).Name) (es:=UM PV.str PV.bb x2) (x:=PV.bb v6) (b:=true) (fd:=some (PV.bb v6)) ((FT (kP:=PV.str) (vP:=PV.bb) (eq:=eqS) (fun _ _=>by kernel_rfl) (c.g x3.toNat).Name x2).trans (by rw[o6];rfl)) T3 ?_;exact d _ [(6000,6000),(15000,15000)] _ v6 T3 h
  apply kI hS h<;>intro h
  .cases h;exact kR hS
  refine Ao9 hS T3 (kt:=EB) (key:=PV.str (c.g x3.toNat).Name) (y:=PV.bb true) (es:=UM PV.str PV.bb x2) (Pv (kP:=PV.str) (vP:=PV.bb) (eq:=eqS) (fun _ _=>by kernel_rfl) (c.g x3.toNat).Name true x2) T3 ?_;exact i _ [(15000,15000)] _ (Rk eqS (c.g x3.toNat).Name true x2) (wrap .i64 (x3+1)) T3 h
 cases h;exact kR hS
def Bw (N:Nat)(a:A5):Option Int:= if ((0:Int)<=(a.On.n:Int)/\(a.On.n:Int)<=(a.On.n:Int)/\(a.On.n:Int)*8<=140737488355328/\(a.On.n:Int)<=140737488355328)then Zb N (fun c (x4:Sl Int) (x5:Bool) (x6:Int)=>if (decide (x6<(a.On.n:Int))) then if ((((0:Int)<=x6/\x6<(a.On.n:Int))/\((0:Int)<=x6/\x6<(x4.n:Int)))/\x6.toNat<x4.n)then if ((0:Int)<=x6/\x6<(a.Tree.n:Int))then lt (fun (z3:Sl Int)=>if (((0:Int)<=x6/\x6<(z3.n:Int))/\x6.toNat<z3.n)then if (decide (64<(z3.g x6.toNat))) then some 2 else P9 N (fun d (f:Bool) (b:Int)=>if (decide (b<((a.On.g x6.toNat).n:Int))) then if ((0:Int)<=b/\b<((a.On.g x6.toNat).n:Int))then d ((f||(decide (((a.On.g x6.toNat).g b.toNat)<0)))||(decide ((a.Laws.n:Int)<=((a.On.g x6.toNat).g b.toNat)))) (wrap .i64 (b+1)) else none else c z3 f (wrap .i64 (x6+1))) x5 0 else none) fun k3=>if (decide (0<=(a.Tree.g x6.toNat).Parent)) then if (((((((0:Int)<=x6/\x6<((x4.upd x6.toNat ((a.On.g x6.toNat).n:Int)).n:Int))/\x6.toNat<(x4.upd x6.toNat ((a.On.g x6.toNat).n:Int)).n)/\((0:Int)<=(a.Tree.g x6.toNat).Parent/\(a.Tree.g x6.toNat).Parent<((x4.upd x6.toNat ((a.On.g x6.toNat).n:Int)).n:Int)))/\(a.Tree.g x6.toNat).Parent.toNat<(x4.upd x6.toNat ((a.On.g x6.toNat).n:Int)).n)/\((0:Int)<=x6/\x6<((x4.upd x6.toNat ((a.On.g x6.toNat).n:Int)).n:Int)))/\x6.toNat<(x4.upd x6.toNat ((a.On.g x6.toNat).n:Int)).n)then k3 ((x4.upd x6.toNat ((a.On.g x6.toNat).n:Int)).upd x6.toNat (wrap .i64 (((x4.upd x6.toNat ((a.On.g x6.toNat).n:Int)).g x6.toNat)+((x4.upd x6.toNat ((a.On.g x6.toNat).n:Int)).g (a.Tree.g x6.toNat).Parent.toNat)))) else none else k3 (x4.upd x6.toNat ((a.On.g x6.toNat).n:Int)) else none else none else if x5 then some 3 else some 0) (Sl.rep (a.On.n:Int).toNat 0:Sl Int) false 0 else none
theorem Wr {d:A5}{y:Int}(h:Bw N d=some y) :FunO S KI [.p (.agg (A4 d))] [] (pN y) ([]) []:=by
 unfold Bw at h;refine A1 hS Tryz.func76 ?_;refine D8 hS T3 2 2000 (A4 d) ?_;obtain⟨c1,h⟩:=C7 h;refine Cv hS c1 h (fun x4 x5 x6=>⟨[(17,pN x6),(16,pN (d.On.n:Int)),(15,.p (vSl 1 (cL 1 (cI .i64)) d.On)),(4,pB x5),(3,.vec 14000),(1,.p (.ptr (A4 d)))],[(14000,.vec B8 1 x4.n (fun i=>cI .i64 (x4.g i)) false)]⟩) (ids:=[(14000,14000)]) (fun _ _ _ _ _ q x4 x5 x6 r h=>?_);apply kI hS h<;>intro h
 .obtain⟨c35,h⟩:=C7 h;refine G9 hS (And.intro (And.intro c35.1.1 c35.1.2) (And.intro (rfl:(1:Nat)=1) (And.intro c35.2 (by decide:(1:Nat)<=1)))) 27 ⟨[(17,pN x6),(16,pN (d.On.n:Int)),(15,.p (vSl 1 (cL 1 (cI .i64)) d.On)),(6,.p (vSl 1 (cI .i64) (d.On.g x6.toNat))),(5,pN x6),(4,pB x5),(3,.vec 14000),(1,.p (.ptr (A4 d)))],[(14000,.vec B8 1 (x4.upd x6.toNat ((d.On.g x6.toNat).n:Int)).n (fun i=>cI .i64 ((x4.upd x6.toNat ((d.On.g x6.toNat).n:Int)).g i)) false)]⟩ (ids:=[(14000,14000)]) ?_ (hle:=klR [(7,.fn x4.n (x4.upd x6.toNat ((d.On.g x6.toNat).n:Int)).n (fun l=>if l=x6.toNat then splice ((fun i=>cI .i64 (x4.g i)) l) 0 [pI .i64 ((d.On.g x6.toNat).n:Int)]else (fun i=>cI .i64 (x4.g i)) l) (fun i=>cI .i64 ((x4.upd x6.toNat ((d.On.g x6.toNat).n:Int)).g i)))] (al1 ⟨rfl,QW (c:=cI .i64) (v:=x4) (x:=((d.On.g x6.toNat).n:Int)) same (fun _=>by first|rfl|(dsimp only;split<;>rfl))⟩ al0));obtain⟨c36,h⟩:=C7 h;refine Ai hS c36 (A2 hS) h 0 (fun z3=>⟨[(17,pN x6),(16,pN (d.On.n:Int)),(15,.p (vSl 1 (cL 1 (cI .i64)) d.On)),(6,.p (vSl 1 (cI .i64) (d.On.g x6.toNat))),(5,pN x6),(4,pB x5),(3,.vec 14000),(1,.p (.ptr (A4 d)))],[(14000,.vec B8 1 z3.n (fun i=>cI .i64 (z3.g i)) false)]⟩) (fun M3 k3 m h=>?_) (fun z3 h=>?_)
  .apply kI hS h<;>intro h
   .refine Ec hS T3 ?_;obtain⟨c41,h⟩:=C7 h;refine D9 (And.intro (And.intro (And.intro (And.intro (And.intro c41.1.1.1.1.1 c41.1.1.1.1.2) c41.1.1.1.2) c41.1.1.2) c41.1.2) (And.intro (rfl:(1:Nat)=1) (And.intro c41.2 (by decide:(1:Nat)<=1)))) ?_;exact m _ [(14000,14000)] _ ((x4.upd x6.toNat ((d.On.g x6.toNat).n:Int)).upd x6.toNat (wrap .i64 (((x4.upd x6.toNat ((d.On.g x6.toNat).n:Int)).g x6.toNat)+((x4.upd x6.toNat ((d.On.g x6.toNat).n:Int)).g (d.Tree.g x6.toNat).Parent.toNat)))) T3 h (hle:=klR [(7,.fn (x4.upd x6.toNat ((d.On.g x6.toNat).n:Int)).n ((x4.upd x6.toNat ((d.On.g x6.toNat).n:Int)).upd x6.toNat (wrap .i64 (((x4.upd x6.toNat ((d.On.g x6.toNat).n:Int)).g x6.toNat)+((x4.upd x6.toNat ((d.On.g x6.toNat).n:Int)).g (d.Tree.g x6.toNat).Parent.toNat)))).n (fun l=>if l=x6.toNat then splice ((fun i=>cI .i64 ((x4.upd x6.toNat ((d.On.g x6.toNat).n:Int)).g i)) l) 0 [pI .i64 (wrap .i64 (((x4.upd x6.toNat ((d.On.g x6.toNat).n:Int)).g x6.toNat)+((x4.upd x6.toNat ((d.On.g x6.toNat).n:Int)).g (d.Tree.g x6.toNat).Parent.toNat)))]else (fun i=>cI .i64 ((x4.upd x6.toNat ((d.On.g x6.toNat).n:Int)).g i)) l) (fun i=>cI .i64 (((x4.upd x6.toNat ((d.On.g x6.toNat).n:Int)).upd x6.toNat (wrap .i64 (((x4.upd x6.toNat ((d.On.g x6.toNat).n:Int)).g x6.toNat)+((x4.upd x6.toNat ((d.On.g x6.toNat).n:Int)).g (d.Tree.g x6.toNat).Parent.toNat)))).g i)))] (al1 ⟨rfl,QW (c:=cI .i64) (v:=x4.upd x6.toNat ((d.On.g x6.toNat).n:Int)) (x:=wrap .i64 (((x4.upd x6.toNat ((d.On.g x6.toNat).n:Int)).g x6.toNat)+((x4.upd x6.toNat ((d.On.g x6.toNat).n:Int)).g (d.Tree.g x6.toNat).Parent.toNat))) same (fun _=>by first|rfl|(dsimp only;split<;>rfl))⟩ al0))
   exact m _ [(14000,14000)] _ (x4.upd x6.toNat ((d.On.g x6.toNat).n:Int)) T3 h
  obtain⟨c42,h⟩:=C7 h;refine D1 hS c42 (b:=decide (64<(z3.g x6.toNat))) (fun c43=>?_) (fun c43=>?_)
  .replace h:=itT c43 h;cases h;exact kR hS
  replace h:=itF c43 h;refine D7 hS T3 h (fun j f=>⟨[(52,pN f),(51,pN ((d.On.g x6.toNat).n:Int)),(50,.p (vSl 1 (cI .i64) (d.On.g x6.toNat))),(17,pN x6),(16,pN (d.On.n:Int)),(15,.p (vSl 1 (cL 1 (cI .i64)) d.On)),(4,pB j),(3,.vec 14000),(1,.p (.ptr (A4 d)))],[(14000,.vec B8 1 z3.n (fun i=>cI .i64 (z3.g i)) false)]⟩) (ids:=[(14000,14000)]) (fun _ _ _ _ _ s j f t h=>?_);apply kI hS h<;>intro h
  .obtain⟨c49,h⟩:=C7 h;refine kB hS (A2 hS) c49 T3 10 (.o (.o (.a j) (.a (decide (((d.On.g x6.toNat).g f.toNat)<0)))) (.a (decide ((d.Laws.n:Int)<=((d.On.g x6.toNat).g f.toNat))))) ?_;exact t _ [(14000,14000)] _ ((j||(decide (((d.On.g x6.toNat).g f.toNat)<0)))||(decide ((d.Laws.n:Int)<=((d.On.g x6.toNat).g f.toNat)))) (wrap .i64 (f+1)) T3 h
  exact r _ [(14000,14000)] _ z3 j (wrap .i64 (x6+1)) T3 h
 apply kI hS h<;>intro h
 .cases h;exact kR hS
 cases h;exact kR hS
def R6 (N:Nat)(a:A5):Option Int:= (X4 N a.Tree).bind fun y1=>if (y1 != 0) then some 16 else if (decide (64<(a.Laws.n:Int))) then some 12 else P9 N (fun b (x1:List (Str×Int)) (x2:Int)=>if (decide (x2<(a.Laws.n:Int))) then if ((0:Int)<=x2/\x2<(a.Laws.n:Int))then (Bt N (a.Laws.g x2.toNat)).bind fun y4=>if (y4 != 0) then some 17 else BS8 (DW eqS (a.Laws.g x2.toNat).Name x1) (b (Rk eqS (a.Laws.g x2.toNat).Name (wrap .i64 (0+1)) x1) (wrap .i64 (x2+1))) fun v3=>b (Rk eqS (a.Laws.g x2.toNat).Name (wrap .i64 (v3+1)) x1) (wrap .i64 (x2+1)) else none else if (decide (((UM PV.str (pI .i64) x1).length:Int)<(a.Laws.n:Int))) then some 6 else if ((a.On.n:Int) != (a.Tree.n:Int)) then some 2 else (Bw N a).bind fun y5=>some y5) [] 0
theorem Gg {a:A5}{y:Int}(h:R6 N a=some y) :FunO S KF [.p (.agg (A4 a))] [] (pN y) ([]) []:=by
 unfold R6 at h;refine A1 hS Tryz.func46 ?_;refine kC hS h (GS hS hL) (fun y1 h=>?_);apply kI hS h<;>intro h
 .cases h;exact kR hS
 apply kI hS h<;>intro h
 .cases h;exact kR hS
 refine D7 hS T3 h (fun x1 x2=>⟨[(18,pN x2),(17,pN (a.Laws.n:Int)),(16,.p (vSl 18 B2 a.Laws)),(3,.mref 15000),(1,.reg 2000 0)],[(15000,.map (UM PV.str (pI .i64) x1)),(2000,.cells ((A4 a).map .p))]⟩) (ids:=[(2000,2000),(15000,15000)]) (fun _ _ _ _ _ d x1 x2 c h=>?_);apply kI hS h<;>intro h
 .obtain⟨c10,h⟩:=C7 h;obtain⟨y4,e4,h⟩:=B1 h;refine B6 hS [] (And.intro c10 (by decide:(18:Nat)<=18)) (OF hS hL e4) ?_;apply kI hS h<;>intro h
  .cases h;exact kR hS
  rcases o3:DW eqS (a.Laws.g x2.toNat).Name x1 with _|v3
  .replace h:=optN o3 h;refine UN hS T3 (kt:=EB) (e:=B8) (key:=PV.str (a.Laws.g x2.toNat).Name) (es:=UM PV.str (pI .i64) x1) (x:=pI .i64 0) (b:=false) (fd:=none) ((FT (kP:=PV.str) (vP:=pI .i64) (eq:=eqS) (fun _ _=>by kernel_rfl) (a.Laws.g x2.toNat).Name x1).trans (by rw[o3];rfl)) T3 ?_;refine Ao9 hS T3 (kt:=EB) (key:=PV.str (a.Laws.g x2.toNat).Name) (y:=pI .i64 (wrap .i64 (0+1))) (es:=UM PV.str (pI .i64) x1) (Pv (kP:=PV.str) (vP:=pI .i64) (eq:=eqS) (fun _ _=>by kernel_rfl) (a.Laws.g x2.toNat).Name (wrap .i64 (0+1)) x1) T3 ?_;exact c _ [(2000,2000),(15000,15000)] _ (Rk eqS (a.Laws.g x2.toNat).Name (wrap .i64 (0+1)) x1) (wrap .i64 (x2+1)) T3 h
  replace h:=optS o3 h;refine UN hS T3 (kt:=EB) (e:=B8) (key:=PV.str (a.Laws.g x2.toNat).Name) (es:=UM PV.str (pI .i64) x1) (x:=pI .i64 v3) (b:=true) (fd:=some (pI .i64 v3)) ((FT (kP:=PV.str) (vP:=pI .i64) (eq:=eqS) (fun _ _=>by kernel_rfl) (a.Laws.g x2.toNat).Name x1).trans (by rw[o3];rfl)) T3 ?_;refine Ao9 hS T3 (kt:=EB) (key:=PV.str (a.Laws.g x2.toNat).Name) (y:=pI .i64 (wrap .i64 (v3+1))) (es:=UM PV.str (pI .i64) x1) (Pv (kP:=PV.str) (vP:=pI .i64) (eq:=eqS) (fun _ _=>by kernel_rfl) (a.Laws.g x2.toNat).Name (wrap .i64 (v3+1)) x1) T3 ?_;exact c _ [(2000,2000),(15000,15000)] _ (Rk eqS (a.Laws.g x2.toNat).Name (wrap .i64 (v3+1)) x1) (wrap .i64 (x2+1)) T3 h
 apply kI hS h<;>intro h
 .cases h;exact kR hS
 apply kI hS h<;>intro h
 .cases h;exact kR hS
 refine kC hS h (Wr hS hL) (fun y5 h=>?_);cases h;exact kR hS
end Go.AM
namespace Go.AM
open IntKind (wrap)
open Go.Proofs
set_option maxRecDepth 10000
set_option maxHeartbeats 2000000
variable {S:W1}(hS:H9 S Tryz.prog) (hL:GD S)
abbrev Tw {T:Type}(e:TypeId)(k:Nat)(c:T->List PV)(x:Sl T):Obj:=.vec e k x.n (fun q=>c (x.g q)) false
theorem Ci1 {T:Type}{e:TypeId}{k n i:Nat}{c:T->List PV}{X:Sl (Sl T)}{z:Sl T}:∀q,q<n->(fun q=>if q=i then Tw e k c z else if q=i then Obj.dead else Tw e k c (X.g q)) q=(fun q=>Tw e k c ((X.upd i z).g q)) q:=fun q _=>by by_cases h:q=i<;>simp[h]
include hS hL
def Bx (N:Nat)(a:Sl J6):Option (Sl (Sl Int)):= if ((0:Int)<=(a.n:Int)/\(a.n:Int)<=(a.n:Int)/\(a.n:Int)*24<=140737488355328/\(a.n:Int)<=140737488355328)then P9 N (fun b (x:Int) (X:Sl (Sl Int))=>if (decide (x<(a.n:Int))) then if ((0:Int)<=x/\x<(a.n:Int))then if (a.g x.toNat).Parent.toNat<X.n then lt (fun (z:Sl Int)=>b (wrap .i64 (x+1)) (X.upd (a.g x.toNat).Parent.toNat z)) fun k=>if (decide (0<x)) then if (((0:Int)<=(a.g x.toNat).Parent/\(a.g x.toNat).Parent<(X.n:Int))/\(((X.g (a.g x.toNat).Parent.toNat).n+1)*8<=140737488355328/\(X.g (a.g x.toNat).Parent.toNat).n+1<=140737488355328))then k ((X.g (a.g x.toNat).Parent.toNat).push x) else none else k (X.g (a.g x.toNat).Parent.toNat) else none else none else some X) 0 ⟨a.n,fun _=>Sl.nil⟩ else none
theorem Ws {N:Nat}{b:Sl J6}{y:Sl (Sl Int)}(h:Bx N b=some y) :FunO S KJ [.p (vSl 2 E4 b)] [] (.p (vSl 1 (cL 1 (cI .i64)) y)) [] []:=by
 unfold Bx at h;refine A1 hS Tryz.func97 ?_;obtain⟨c1,h⟩:=C7 h;refine Nd hS c1 9 (.fam 9000 9901 fun i=>Tw B8 1 (cI .i64) ((⟨b.n,fun _=>Sl.nil⟩:Sl (Sl Int)).g i)) (⟨by decide,fun i _=>rfl⟩:1000<=9901/\∀i,i<b.n->Aw8 [G6] (Tw B8 1 (cI .i64) ((⟨b.n,fun _=>Sl.nil⟩:Sl (Sl Int)).g i))) ?_;refine D7 hS T3 h (fun x X=>⟨[(11,pN x),(10,pN (b.n:Int)),(9,.p (vSl 2 E4 b)),(3,.vec 9000)],[(9901,.rows X.n fun i=>Tw B8 1 (cI .i64) (X.g i)),(9000,.fam PS X.n 9901 none)]⟩) (ids:=[(9901,9901),(9000,9000)]) (fun _ _ _ _ _ j x X f h=>?_);apply kI hS h<;>intro h
 .obtain⟨c2,h⟩:=C7 h;obtain⟨c3,h⟩:=C7 h;refine Nd hS (And.intro c2 (by decide:(2:Nat)<=2)) 17 (.take 9000 (b.g x.toNat).Parent.toNat 9801) (⟨⟨by decide,rfl⟩,c3⟩:(1000<=9801/\X.n=X.n)/\(b.g x.toNat).Parent.toNat<X.n) ?_;refine Ai hS T3 (A2 hS) h 0 (fun z=>⟨[(11,pN x),(10,pN (b.n:Int)),(9,.p (vSl 2 E4 b)),(3,.vec 9000)],
   [(9901,(.rows X.n fun l=>if l=(b.g x.toNat).Parent.toNat then .dead else Tw B8 1 (cI .i64) (X.g l))),(9801,Tw B8 1 (cI .i64) z),(9000,.fam PS X.n 9901 (some ((b.g x.toNat).Parent.toNat,.vec 9801)))]⟩) (fun M k d h=>?_) (fun z h=>?_)
  .apply kI hS h<;>intro h
   .obtain⟨c4,h⟩:=C7 h;refine Y6 hS T3 [(0,.n),(1,.n),(2,.l [6000]),(3,.n),(4,.n),(5,.l [6000]),(6,.l [9000]),(7,.l [9000]),(8,.n),(10,.a [29000,9801]),(11,.l [9000]),(12,.a [9000])] ?_;refine Aj (And.intro c4.1 (And.intro c3 (rfl:(b.g x.toNat).Parent.toNat=(b.g x.toNat).Parent.toNat))) (x:=.sl true 1 1 (D0 [pI .i64 0] [(0,cI .i64 x)])) ?_;refine D9 (And.intro (And.intro c4.2 c4.1) (And.intro c3 (rfl:(b.g x.toNat).Parent.toNat=(b.g x.toNat).Parent.toNat))) ?_;exact d _ [(9901,9901),(9801,29000),(9000,9000)] _ ((X.g (b.g x.toNat).Parent.toNat).push x) T3 h (hle:=klR [(5,.fn ((X.g (b.g x.toNat).Parent.toNat).n+1) ((X.g (b.g x.toNat).Parent.toNat).push x).n (I4 (X.g (b.g x.toNat).Parent.toNat).n (fun i=>cI .i64 ((X.g (b.g x.toNat).Parent.toNat).g i)) (D0 [pI .i64 0] [(0,cI .i64 x)])) (fun i=>cI .i64 (((X.g (b.g x.toNat).Parent.toNat).push x).g i)))] (al1 ⟨rfl,W3 (c:=cI .i64) (v:=X.g (b.g x.toNat).Parent.toNat) (x:=x) (z:=[(pI .i64 0)]) same rfl rfl⟩ al0))
   exact d _ [(9901,9901),(9801,9801),(9000,9000)] _ (X.g (b.g x.toNat).Parent.toNat) T3 h
  refine Nd hS T3 30 (.put 9000 9902) (⟨⟨by decide,rfl⟩,c3⟩:(1000<=9902/\X.n=X.n)/\(b.g x.toNat).Parent.toNat<X.n) ?_;exact f _ [(9901,9902),(9000,9000)] _ (wrap .i64 (x+1)) (X.upd (b.g x.toNat).Parent.toNat z) T3 h (hle:=klR [(4,.ob X.n (fun q=>if q=(b.g x.toNat).Parent.toNat then Tw B8 1 (cI .i64) z else if q=(b.g x.toNat).Parent.toNat then .dead else Tw B8 1 (cI .i64) (X.g q)) fun i=>Tw B8 1 (cI .i64) ((X.upd (b.g x.toNat).Parent.toNat z).g i))] (al1 Ci1 al0))
 refine Nd hS T3 31 (.pub 9000) (⟨rfl,fun i _=>rfl⟩:X.n=X.n/\∀i,i<X.n->(Bc7 (Tw B8 1 (cI .i64) (X.g i))).isSome=true) ?_;obtain rfl:=C0 h;exact A8 hS T3 ⟨[(2,.p (vSl 1 (cL 1 (cI .i64)) X))],[]⟩ [] (ids:=[]) ⟨rfl,rfl,rfl⟩ (hle:=klR [(0,.fn X.n X.n (fun i=>[(Bc7 (Tw B8 1 (cI .i64) (X.g i))).getD default]) (fun i=>cL 1 (cI .i64) (X.g i)))] (al1 ⟨rfl,fun _ _=>rfl⟩ al0))
end Go.AM
namespace Go.AM
open IntKind (wrap)
open Go.Proofs
set_option maxRecDepth 10000
set_option maxHeartbeats 2000000
variable {S:W1}(hS:H9 S Tryz.prog) (hL:GD S)
include hS hL
def Dz (N:Nat)(b:Sl J6):Option (Sl Int):= (Bx N b).bind fun y1=>P9 N (fun a (x1:Sl Int) (x2:Int)=>if (decide (x2<(y1.n:Int))) then if ((0:Int)<=x2/\x2<(y1.n:Int))then if (((y1.g x2.toNat).n:Int)==0) then if ((x1.n+(Sl.of [x2]:Sl Int).n)*8<=140737488355328/\x1.n+(Sl.of [x2]:Sl Int).n<=140737488355328)then a (x1.push x2) (wrap .i64 (x2+1)) else none else a x1 (wrap .i64 (x2+1)) else none else some x1) (Sl.nil:Sl Int) 0
theorem As2 {N:Nat}{a:Sl J6}{y:Sl Int}(h:Dz N a=some y) :FunO S PG [.p (vSl 2 E4 a)] [] (.vec 0) ([.vec B8 1 y.n (fun i=>cI .i64 (y.g i)) true]) []:=by
 unfold Dz at h;refine A1 hS Tryz.func66 ?_;refine kC hS h (Ws hS hL) (fun y1 h=>?_);refine D7 hS T3 h (fun x1 x2=>⟨[(9,pN x2),(8,pN (y1.n:Int)),(7,.p (vSl 1 (cL 1 (cI .i64)) y1)),(3,.vec 4500)],[(4500,.vec B8 1 x1.n (fun i=>cI .i64 (x1.g i)) false)]⟩) (ids:=[]) (fun _ _ _ _ _ f x1 x2 d h=>?_);apply kI hS h<;>intro h
 .obtain⟨c8,h⟩:=C7 h;refine D1 hS c8 (b:=((y1.g x2.toNat).n:Int)==0) (fun c9=>?_) (fun c9=>?_)
  .replace h:=itT c9 h;obtain⟨c10,h⟩:=C7 h;exact d _ [(4500,21000)] _ (x1.push x2) (wrap .i64 (x2+1)) (And.intro (rfl:true=true) c10) h (hle:=klR [(3,.fn (x1.n+1) (x1.push x2).n (I4 x1.n (fun i=>cI .i64 (x1.g i)) (D0 [pI .i64 0] [(0,cI .i64 x2)])) (fun i=>cI .i64 ((x1.push x2).g i)))] (al1 ⟨rfl,W3 (c:=cI .i64) (v:=x1) (x:=x2) (z:=[(pI .i64 0)]) same rfl rfl⟩ al0))
  replace h:=itF c9 h;exact d _ [(4500,4500)] _ x1 (wrap .i64 (x2+1)) T3 h
 obtain rfl:=C0 h;exact A8 hS T3 ⟨[(2,.vec 4500)],[(4500,.vec B8 1 x1.n (fun i=>cI .i64 (x1.g i)) true)]⟩ [4500] (ids:=[(4500,4500)]) ⟨rfl,rfl,rfl⟩
def U1 (N:Nat)(a:Sl J6):Option ((Sl Int)×Int):= (X4 N a).bind fun y1=>if (y1 != 0) then some ((Sl.nil:Sl Int),y1) else (Dz N a).bind fun y2=>some (y2,0)
theorem Fw {N:Nat}{a:Sl J6}{y:(Sl Int)×Int}(h:U1 N a=some y) :FunO S PD [.p (vSl 2 E4 a)] [] (.tup [.vec 0,pN y.2]) ([.vec B8 1 y.1.n (fun i=>cI .i64 (y.1.g i)) true]) []:=by
 unfold U1 at h;refine A1 hS Tryz.func37 ?_;refine kC hS h (GS hS hL) (fun y1 h=>?_);apply kI hS h<;>intro h
 .obtain rfl:=C0 h;exact A8 hS T3 ⟨[(3,pN y1),(2,.vec 3700)],[(3700,.vec B8 1 (Sl.nil:Sl Int).n (fun i=>cI .i64 ((Sl.nil:Sl Int).g i)) true)]⟩ [3700] (ids:=[]) ⟨rfl,rfl,rfl⟩
 refine kC hS h (As2 hS hL) (fun y2 h=>?_);obtain rfl:=C0 h;exact A8 hS T3 ⟨[(3,pN 0),(2,.vec 12000)],[(12000,.vec B8 1 y2.n (fun i=>cI .i64 (y2.g i)) true)]⟩ [12000] (ids:=[(12000,12000)]) ⟨rfl,rfl,rfl⟩
def Q2 (N:Nat)(b:Sl J6)(c:Int):Option (Sl Int):= P9 N (fun a (x1:Sl Int) (x2:Int)=>if (decide (x2<(b.n:Int))) then if ((0:Int)<=x2/\x2<(b.n:Int))then if ((b.g x2.toNat).Parent==c) then if ((x1.n+(Sl.of [x2]:Sl Int).n)*8<=140737488355328/\x1.n+(Sl.of [x2]:Sl Int).n<=140737488355328)then a (x1.push x2) (wrap .i64 (x2+1)) else none else a x1 (wrap .i64 (x2+1)) else none else some x1) (Sl.nil:Sl Int) 0
def K5 (N:Nat)(b:Sl J6):Option ((Sl Int)×Int):= (S7 N b).bind fun y1=>if (y1 != 0) then some ((Sl.nil:Sl Int),y1) else P9 N (fun a (x1:Sl Int) (x2:Int)=>if (decide (x2<(b.n:Int))) then (Q2 N b x2).bind fun y4=>if ((y4.n:Int)==0) then if ((x1.n+(Sl.of [x2]:Sl Int).n)*8<=140737488355328/\x1.n+(Sl.of [x2]:Sl Int).n<=140737488355328)then a (x1.push x2) (wrap .i64 (x2+1)) else none else a x1 (wrap .i64 (x2+1)) else some (x1,0)) (Sl.nil:Sl Int) 0
end Go.AM
namespace Go.AM
variable {N:Nat}
open IntKind (wrap)
open Go.Proofs
set_option maxRecDepth 10000
set_option maxHeartbeats 2000000
variable {S:W1}(hS:H9 S Tryz.prog) (hL:GD S)
include hS hL
def Dd (N:Nat)(a:Sl J6)(b:Int):Option Int:= (S7 N a).bind fun y1=>if ((y1==0)&&((decide (b<0))||(decide ((a.n:Int)<=b)))) then some 3 else some y1
def ES (rec:(Sl J6)->Int->Option (Sl Int))(N:Nat)(b:Sl J6)(a:Int):Option (Sl Int):= if (a==0) then some (Sl.of [0]:Sl Int) else if ((0:Int)<=a/\a<(b.n:Int))then (rec b (b.g a.toNat).Parent).bind fun y1=>if ((y1.n+(Sl.of [a]:Sl Int).n)*8<=140737488355328/\y1.n+(Sl.of [a]:Sl Int).n<=140737488355328)then some (y1.push a) else none else none
def Ei:Nat->(Sl J6)->Int->Option (Sl Int)
 |0=>fun _ _=>none
 |N+1=>ES (Ei N) N
theorem OG {rec:(Sl J6)->Int->Option (Sl Int)}(d:∀{b:Sl J6}{a:Int}{y:Sl Int},rec b a=some y->FunO S FE [.p (vSl 2 E4 b),pN a] [] (.vec 0) ([.vec B8 1 y.n (fun i=>cI .i64 (y.g i)) true]) []){b:Sl J6}{a:Int}{y:Sl Int}(h:ES rec N b a=some y) :FunO S FE [.p (vSl 2 E4 b),pN a] [] (.vec 0) ([.vec B8 1 y.n (fun i=>cI .i64 (y.g i)) true]) []:=by
 unfold ES at h;refine A1 hS Tryz.func140 ?_;apply kI hS h<;>intro h
 .obtain rfl:=C0 h;exact A8 hS (rfl:true=true) ⟨[(4,.vec 8000)],[(8000,.vec B8 1 (Sl.of [0]:Sl Int).n (fun i=>cI .i64 ((Sl.of [0]:Sl Int).g i)) true)]⟩ [8000] (ids:=[(8000,8000)]) ⟨rfl,rfl,rfl⟩ (hle:=klR [(0,.fn 1 (Sl.of [0]:Sl Int).n (D0 [pI .i64 0] [(0,cI .i64 0)]) (fun i=>cI .i64 ((Sl.of [0]:Sl Int).g i)))] (al1 ⟨rfl,(fun i f=>match i,f with|0,_=>rfl|_+1,f=>Kh f (by omega))⟩ al0))
 obtain⟨c2,h⟩:=C7 h;obtain⟨y1,e1,h⟩:=B1 h;refine B6 hS [] c2 (d e1) ?_;obtain⟨c3,h⟩:=C7 h;obtain rfl:=C0 h;exact A8 hS (And.intro (rfl:true=true) c3) ⟨[(4,.vec 18000)],[(18000,.vec B8 1 (y1.push a).n (fun i=>cI .i64 ((y1.push a).g i)) true)]⟩ [18000] (ids:=[(18000,18000)]) ⟨rfl,rfl,rfl⟩ (hle:=klR [(0,.fn (y1.n+1) (y1.push a).n (I4 y1.n (fun i=>cI .i64 (y1.g i)) (D0 [pI .i64 0] [(0,cI .i64 a)])) (fun i=>cI .i64 ((y1.push a).g i)))] (al1 ⟨rfl,W3 (c:=cI .i64) (v:=y1) (x:=a) (z:=[(pI .i64 0)]) same rfl rfl⟩ al0))
def BV (N:Nat)(a:Sl J6)(b:Int):Option ((Sl Int)×Int):= (Dd N a b).bind fun y1=>if (y1 != 0) then some ((Sl.nil:Sl Int),y1) else (Ei N a b).bind fun y2=>some (y2,0)
def ET (N:Nat)(c:Sl J6)(a:Sl Int):Option Int:= (X4 N c).bind fun y1=>if (y1 != 0) then some y1 else T9 N (fun b (x1:Int)=>if (decide (x1<(a.n:Int))) then if ((0:Int)<=x1/\x1<(a.n:Int))then if ((decide ((a.g x1.toNat)<0))||(decide ((c.n:Int)<=(a.g x1.toNat)))) then some 3 else b (wrap .i64 (x1+1)) else none else some 0) 0
theorem AD8 {c:Sl J6}{b:Sl Int}{y:Int}(h:ET N c b=some y) :FunO S SS [.p (vSl 2 E4 c),.p (vSl 1 (cI .i64) b)] [] (pN y) ([]) []:=by
 unfold ET at h;refine A1 hS Tryz.func110 ?_;refine kC hS h (GS hS hL) (fun y1 h=>?_);apply kI hS h<;>intro h
 .cases h;exact kR hS
 refine E2 hS T3 h (fun x1=>⟨[(15,pN x1),(14,pN (b.n:Int)),(13,.p (vSl 1 (cI .i64) b)),(0,.p (vSl 2 E4 c))],[]⟩) (ids:=[]) (fun _ _ _ _ _ d x1 f h=>?_);apply kI hS h<;>intro h
 .obtain⟨c9,h⟩:=C7 h;refine kB hS (A2 hS) c9 T3 5 (.o (.a (decide ((b.g x1.toNat)<0))) (.a (decide ((c.n:Int)<=(b.g x1.toNat))))) ?_;apply kI hS h<;>intro h
  .cases h;exact kR hS
  exact f _ [] _ (wrap .i64 (x1+1)) T3 h
 cases h;exact kR hS
def Ej (N:Nat)(q0:Int)(q1:Sl J6):Option (List (Int)):= T9 N (fun a (x1:Int)=>if (decide (0<=x1)) then Be x1 (if ((0:Int)<=x1/\x1<(q1.n:Int))then a (q1.g x1.toNat).Parent else none) else some []) q0
theorem AQ2 {q0:Int}{q1:Sl J6}{L:List (Int)}(h:Ej N q0 q1=some L) :IN S IX [] [.reg 0 0,.reg 1 0] [.cells [pN q0],.cells [.p (vSl 2 E4 q1)]] (L.map (fun (x:Int)=>[pI .i64 x])):=by
 unfold Ej at h;refine IT hS Tryz.func135 ?_;refine IS hS T3 h (fun x1 L1=>⟨[(2,.reg 1 0),(1,.reg 0 0),(0,.yf 2)],[(2,.yld (L1.map (fun (x:Int)=>[pI .i64 x])) true),(1,.cells [.p (vSl 2 E4 q1)]),(0,.cells [pN x1])]⟩) (ids:=[(0,0),(1,1),(2,2)]) (fun _ _ _ _ _ d x1 L1 f h=>?_);apply kI hS h<;>intro h
 .obtain⟨L4,rfl,c⟩:=VD h;replace h:=c;refine FX hS T3 (ys:=(fun (x:Int)=>[pI .i64 x]) x1) (rest:=L4.map (fun (x:Int)=>[pI .i64 x])) ?_ ?_
  .refine D1 hS T3 (b:=false) (fun c8=>?_) (fun c8=>?_)
   .exact Bool.noConfusion ((rfl:false=false).symm.trans c8)
   obtain⟨c9,h⟩:=C7 h;exact f _ [(0,0),(1,1),(2,2)] _ (q1.g x1.toNat).Parent L4 c9 h
  refine D1 hS T3 (b:=true) (fun c10=>?_) (fun c10=>?_)
  .exact A8 hS T3 (a:=.tup []) (objs:=[(.cells [pN x1]),.cells [.p (vSl 2 E4 q1)],.yld [] false]) ⟨[],[(2,.yld [] false),(1,.cells [.p (vSl 2 E4 q1)]),(0,.cells [pN x1])]⟩ [0,1,2] (ids:=[(0,0),(1,1),(2,2)]) ⟨false,rfl,rfl,_,rfl⟩
  exact Bool.noConfusion ((rfl:true=true).symm.trans c10)
 obtain rfl:=C0 h;exact A8 hS T3 (a:=.tup []) (objs:=[(.cells [pN x1]),.cells [.p (vSl 2 E4 q1)],.yld [] true]) ⟨[],[(2,.yld [] true),(1,.cells [.p (vSl 2 E4 q1)]),(0,.cells [pN x1])]⟩ [0,1,2] (ids:=[(0,0),(1,1),(2,2)]) ⟨true,rfl,rfl,_,rfl⟩
def Qa (N:Nat)(a:Sl J6)(b:Int):Option (Int×(Sl J6)):= some (b,a)
theorem Br8 {a:Sl J6}{b:Int}{y:Int×(Sl J6)}(h:Qa N a b=some y) :FunO S AB9 [.p (vSl 2 E4 a),pN b] [] (.clo IX [] [.reg 0 0,.reg 1 0]) ([.cells [pN y.1],.cells [.p (vSl 2 E4 y.2)]]) []:=by unfold Qa at h;refine A1 hS Tryz.func112 ?_;obtain rfl:=C0 h;exact A8 hS T3 ⟨[(4,.clo IX [] [.reg 4000 0,.reg 3000 0])],[(4000,.cells [pN b]),(3000,.cells [.p (vSl 2 E4 a)])]⟩ [4000,3000] (ids:=[(3000,3000),(4000,4000)]) ⟨rfl,rfl,rfl⟩
def K6 (N:Nat)(a:List (Int)):Option (Sl Int):= Q5 a (fun b (x1:Int) (z1:Sl Int)=>if ((z1.n+(Sl.of [x1]:Sl Int).n)*8<=140737488355328/\z1.n+(Sl.of [x1]:Sl Int).n<=140737488355328)then b (z1.push x1) else none) (fun (z1:Sl Int)=>some z1) (Sl.nil:Sl Int)
theorem EU {d:List (Int)}{a:Int}{b:(Sl J6)}{kp_seq:Nat}(fp_seq:∃fn,Cl1[kp_seq]? = some fn/\fn.body.isSome=true/\(fn.name == "runtime.NumGoroutine")=false)(f:IN S kp_seq [] [.reg 0 0,.reg 1 0] [(.cells [(pN a)]),(.cells [(.p (vSl 2 E4 b))])] (d.map (fun (x:Int)=>[(pI .i64) x]))){y:(Sl Int)}(h:K6 N d=some y) :FunO S S5 [(.p G6),(.clo kp_seq [] [(.reg 0 0),(.reg 1 0)])] [(.cells [(pN a)]),(.cells [(.p (vSl 2 E4 b))])] (.vec 0) ([(.vec B8 1 y.n (fun i=>(cI .i64) (y.g i)) false)]) [false,false]:=by
 unfold K6 at h;refine A1 hS Tryz.func134 ?_;refine Ap1 hS T3 fp_seq [0,1] [2] 901 (fun z1=>⟨[(2,(.reg 3000 0))],[(3500,(.vec B8 1 z1.n (fun i=>(cI .i64) (z1.g i)) false)),(3000,(.cells [(.vec 3500)]))]⟩) (idl:=[(3000,3000)]) h f (fun _=>by kernel_rfl) (fun _=>by kernel_rfl) (fun _=>by kernel_rfl) (fun _=>by kernel_rfl) (fun x1 _ j z1 l h=>?_) (fun z1 h=>?_)
 .refine OC hS T3 ?_;obtain⟨c1,h⟩:=C7 h;exact l _ [(901,901),(3000,3000),(3500,12000)] _ (z1.push x1) (And.intro (rfl:true=true) c1) h (hle:=klR [(0,.fn (z1.n+1) (z1.push x1).n (I4 z1.n (fun i=>(cI .i64) (z1.g i)) (D0 [(pI .i64 0)] [(0,(cI .i64) x1)])) (fun i=>(cI .i64) ((z1.push x1).g i)))] (al1 ⟨rfl,(W3 (c:=(cI .i64)) (v:=z1) (x:=x1) (z:=[(pI .i64 0)]) same rfl rfl)⟩ al0))
 obtain rfl:=C0 h;exact A8 hS T3 ⟨[(4,(.vec 3500))],[(3500,(.vec B8 1 z1.n (fun i=>(cI .i64) (z1.g i)) false))]⟩ [3500] (ids:=[(3500,3500)]) ⟨rfl,rfl,rfl⟩
def X5 (N:Nat)(a:List (Int)):Option (Sl Int):= (K6 N a).bind fun y1=>some y1
theorem KT {c:List (Int)}{a:Int}{b:(Sl J6)}{kp_seq:Nat}(fp_seq:∃fn,Cl1[kp_seq]? = some fn/\fn.body.isSome=true/\(fn.name == "runtime.NumGoroutine")=false)(d:IN S kp_seq [] [.reg 0 0,.reg 1 0] [(.cells [(pN a)]),(.cells [(.p (vSl 2 E4 b))])] (c.map (fun (x:Int)=>[(pI .i64) x]))){y:(Sl Int)}(h:X5 N c=some y) :FunO S Cj [(.clo kp_seq [] [(.reg 0 0),(.reg 1 0)])] [(.cells [(pN a)]),(.cells [(.p (vSl 2 E4 b))])] (.vec 0) ([(.vec B8 1 y.n (fun i=>(cI .i64) (y.g i)) false)]) [false,false]:=by unfold X5 at h;refine A1 hS Tryz.func111 ?_;obtain⟨y1,e1,h⟩:=B1 h;refine B6 hS [0,1] T3 (EU hS hL fp_seq d e1) ?_;obtain rfl:=C0 h;exact A8 hS T3 ⟨[(2,(.vec 5000))],[(5000,(.vec B8 1 y1.n (fun i=>(cI .i64) (y1.g i)) false))]⟩ [5000] (ids:=[(5000,5000)]) ⟨rfl,rfl,rfl⟩
def J5 (N:Nat)(b:Sl Int):Option (Sl Int):= Zb N (fun a (x1:Sl Int) (x2:Int) (x3:Int)=>if (decide (x2<x3)) then if (((((((((0:Int)<=x3/\x3<(x1.n:Int))/\x3.toNat<x1.n)/\((0:Int)<=x2/\x2<(x1.n:Int)))/\x2.toNat<x1.n)/\((0:Int)<=x2/\x2<(x1.n:Int)))/\x2.toNat<x1.n)/\((0:Int)<=x3/\x3<((x1.upd x2.toNat (x1.g x3.toNat)).n:Int)))/\x3.toNat<(x1.upd x2.toNat (x1.g x3.toNat)).n)then a ((x1.upd x2.toNat (x1.g x3.toNat)).upd x3.toNat (x1.g x2.toNat)) (wrap .i64 (x2+1)) (wrap .i64 (x3-1)) else none else some x1) b 0 (wrap .i64 ((b.n:Int)-1))
theorem Gh {a:Sl Int}{y:Sl Int}(h:J5 N a=some y) :FunO S Bl [.vec 0] [.vec B8 1 a.n (fun i=>cI .i64 (a.g i)) false] (.tup []) ([.vec B8 1 y.n (fun i=>cI .i64 (y.g i)) false]) [true]:=by
 unfold J5 at h;refine A1 hS Tryz.func113 ?_;refine Cv hS T3 h (fun x1 x2 x3=>⟨[(3,pN x3),(2,pN x2),(0,.vec 0)],[(0,.vec B8 1 x1.n (fun i=>cI .i64 (x1.g i)) false)]⟩) (ids:=[(0,0)]) (fun _ _ _ _ _ b x1 x2 x3 d h=>?_);apply kI hS h<;>intro h
 .refine Ec hS T3 ?_;obtain⟨c6,h⟩:=C7 h;refine D9 (And.intro (And.intro (And.intro (And.intro (And.intro (And.intro (And.intro c6.1.1.1.1.1.1.1 c6.1.1.1.1.1.1.2) c6.1.1.1.1.1.2) c6.1.1.1.1.2) c6.1.1.1.2) (And.intro (rfl:(1:Nat)=1) (And.intro c6.1.1.2 (by decide:(1:Nat)<=1)))) c6.1.2) (And.intro (rfl:(1:Nat)=1) (And.intro c6.2 (by decide:(1:Nat)<=1)))) ?_;exact d _ [(0,0)] _ ((x1.upd x2.toNat (x1.g x3.toNat)).upd x3.toNat (x1.g x2.toNat)) (wrap .i64 (x2+1)) (wrap .i64 (x3-1)) T3 h (hle:=klR [(2,.fn x1.n ((x1.upd x2.toNat (x1.g x3.toNat)).upd x3.toNat (x1.g x2.toNat)).n (fun l=>if l=x3.toNat then splice ((fun l=>if l=x2.toNat then splice ((fun i=>cI .i64 (x1.g i)) l) 0 [pI .i64 (x1.g x3.toNat)]else (fun i=>cI .i64 (x1.g i)) l) l) 0 [pI .i64 (x1.g x2.toNat)]else (fun l=>if l=x2.toNat then splice ((fun i=>cI .i64 (x1.g i)) l) 0 [pI .i64 (x1.g x3.toNat)]else (fun i=>cI .i64 (x1.g i)) l) l) (fun i=>cI .i64 (((x1.upd x2.toNat (x1.g x3.toNat)).upd x3.toNat (x1.g x2.toNat)).g i)))] (al1 ⟨rfl,QW (c:=cI .i64) (v:=x1.upd x2.toNat (x1.g x3.toNat)) (x:=x1.g x2.toNat) (QW (c:=cI .i64) (v:=x1) (x:=x1.g x3.toNat) same (fun _=>by first|rfl|(dsimp only;split<;>rfl))) (fun _=>by first|rfl|(dsimp only;split<;>rfl))⟩ al0))
 obtain rfl:=C0 h;exact A8 hS T3 ⟨[],[(0,.vec B8 1 x1.n (fun i=>cI .i64 (x1.g i)) false)]⟩ [0] (ids:=[(0,0)]) ⟨rfl,rfl,rfl⟩
def Gi (N:Nat)(a:Sl J6)(b:Int):Option ((Sl Int)×Int):= (ET N a (Sl.of [b]:Sl Int)).bind fun y1=>if (y1 != 0) then some ((Sl.nil:Sl Int),y1) else (Qa N a b).bind fun y2=>(Ej N y2.1 y2.2).bind fun L1=>(X5 N L1).bind fun y3=>(J5 N y3).bind fun y4=>some (y4,0)
theorem AQ3 {b:Sl J6}{a:Int}{y:(Sl Int)×Int}(h:Gi N b a=some y) :FunO S VV [.p (vSl 2 E4 b),pN a] [] (.tup [.vec 0,pN y.2]) ([.vec B8 1 y.1.n (fun i=>cI .i64 (y.1.g i)) true]) []:=by
 unfold Gi at h;refine A1 hS Tryz.func79 ?_;refine Da hS (rfl:true=true) ⟨[(10,.vec 11000),(8,.p (vSl 2 E4 b)),(1,pN a),(0,.p (vSl 2 E4 b))],[(11000,.vec B8 1 (Sl.of [a]:Sl Int).n (fun i=>cI .i64 ((Sl.of [a]:Sl Int).g i)) false)]⟩ (ids:=[(11000,11000)]) ?_ (hle:=klR [(3,.fn 1 (Sl.of [a]:Sl Int).n (D0 [pI .i64 0] [(0,cI .i64 a)]) (fun i=>cI .i64 ((Sl.of [a]:Sl Int).g i)))] (al1 ⟨rfl,(fun i c=>match i,c with|0,_=>rfl|_+1,c=>Kh c (by omega))⟩ al0));refine kC hS h (AD8 hS hL) (fun y1 h=>?_);apply kI hS h<;>intro h
 .obtain rfl:=C0 h;exact A8 hS T3 ⟨[(5,pN y1),(4,.vec 5700)],[(5700,.vec B8 1 (Sl.nil:Sl Int).n (fun i=>cI .i64 ((Sl.nil:Sl Int).g i)) true)]⟩ [5700] (ids:=[]) ⟨rfl,rfl,rfl⟩
 refine kC hS h (Br8 hS hL) (fun y2 h=>?_);obtain⟨L1,e3,h⟩:=B1 h;obtain⟨y3,e4,h⟩:=B1 h;refine B6 hS [18000,18001] T3 (KT hS hL ⟨_,Tryz.func135,by decide +kernel,by decide +kernel⟩ (AQ2 hS hL e3) e4) ?_;obtain⟨y4,e5,h⟩:=B1 h;refine BU6 hS [19000] T3 (Gh hS hL e5) ?_;obtain rfl:=C0 h;exact A8 hS T3 ⟨[(5,pN 0),(4,.vec 19000)],[(19000,.vec B8 1 y4.n (fun i=>cI .i64 (y4.g i)) true)]⟩ [19000] (ids:=[(19000,19000)]) ⟨rfl,rfl,rfl⟩
def EV (N:Nat)(a:Sl To):Option Str:= P9 N (fun b (x1:Sl Int) (x2:Int)=>if (decide (x2<(a.n:Int))) then if ((0:Int)<=x2/\x2<(a.n:Int))then if ((x1.n+(Tn (a.g x2.toNat).Plus).n)*1<=140737488355328/\x1.n+(Tn (a.g x2.toNat).Plus).n<=140737488355328)then if (((x1.app (Tn (a.g x2.toNat).Plus)).n+(Tn (a.g x2.toNat).Minus).n)*1<=140737488355328/\(x1.app (Tn (a.g x2.toNat).Plus)).n+(Tn (a.g x2.toNat).Minus).n<=140737488355328)then b ((x1.app (Tn (a.g x2.toNat).Plus)).app (Tn (a.g x2.toNat).Minus)) (wrap .i64 (x2+1)) else none else none else none else some (AM3 x1)) (Sl.nil:Sl Int) 0
theorem SX {a:Sl To}{y:Str}(h:EV N a=some y) :FunO S SP [.p (vSl 2 A0 a)] [] (.p (.str y)) ([]) []:=by
 unfold EV at h;refine A1 hS Tryz.func81 ?_;refine D7 hS T3 h (fun x1 x2=>⟨[(10,pN x2),(9,pN (a.n:Int)),(8,.p (vSl 2 A0 a)),(3,.vec 4500)],[(4500,.vec Wj 1 x1.n (fun i=>cI .u8 (x1.g i)) false)]⟩) (ids:=[]) (fun _ _ _ _ _ d x1 x2 l h=>?_);apply kI hS h<;>intro h
 .obtain⟨c22,h⟩:=C7 h;refine BF2 hS (And.intro c22 (by decide:(2:Nat)<=2)) 2 (unrT [fun t=>t=⟨[(19,pN 0),(18,.p (.agg [pI .u32 (a.g x2.toNat).Plus,pI .u32 (a.g x2.toNat).Minus])),(10,pN x2),(9,pN (a.n:Int)),(8,.p (vSl 2 A0 a)),(3,.vec 4501)],[(4501,.vec Wj 1 x1.n (fun i=>cI .u8 (x1.g i)) false)]⟩/\(
   if ((x1.n+(Tn (a.g x2.toNat).Plus).n)*1<=140737488355328/\x1.n+(Tn (a.g x2.toNat).Plus).n<=140737488355328)then
    if (((x1.app (Tn (a.g x2.toNat).Plus)).n+(Tn (a.g x2.toNat).Minus).n)*1<=140737488355328/\(x1.app (Tn (a.g x2.toNat).Plus)).n+(Tn (a.g x2.toNat).Minus).n<=140737488355328)then
     d ((x1.app (Tn (a.g x2.toNat).Plus)).app (Tn (a.g x2.toNat).Minus)) (wrap .i64 (x2+1))
    else none
   else none
   )=some y,fun t=>t=⟨[(19,pN 1),(18,.p (.agg [pI .u32 (a.g x2.toNat).Plus,pI .u32 (a.g x2.toNat).Minus])),(10,pN x2),(9,pN (a.n:Int)),(8,.p (vSl 2 A0 a)),(3,.vec 4500)],[(4500,.vec Wj 1 (x1.app (Tn (a.g x2.toNat).Plus)).n (fun i=>cI .u8 ((x1.app (Tn (a.g x2.toNat).Plus)).g i)) false)]⟩/\(
    if (((x1.app (Tn (a.g x2.toNat).Plus)).n+(Tn (a.g x2.toNat).Minus).n)*1<=140737488355328/\(x1.app (Tn (a.g x2.toNat).Plus)).n+(Tn (a.g x2.toNat).Minus).n<=140737488355328)then
     d ((x1.app (Tn (a.g x2.toNat).Plus)).app (Tn (a.g x2.toNat).Minus)) (wrap .i64 (x2+1))
    else none
   )=some y,fun t=>t=⟨[(19,pN 2),(18,.p (.agg [pI .u32 (a.g x2.toNat).Plus,pI .u32 (a.g x2.toNat).Minus])),(10,pN x2),(9,pN (a.n:Int)),(8,.p (vSl 2 A0 a)),(3,.vec 4501)],[(4501,.vec Wj 1 ((x1.app (Tn (a.g x2.toNat).Plus)).app (Tn (a.g x2.toNat).Minus)).n (fun i=>cI .u8 (((x1.app (Tn (a.g x2.toNat).Plus)).app (Tn (a.g x2.toNat).Minus)).g i)) false)]⟩/\(
    d ((x1.app (Tn (a.g x2.toNat).Plus)).app (Tn (a.g x2.toNat).Minus)) (wrap .i64 (x2+1))
   )=some y]) ⟨[(19,pN 0),(18,.p (.agg [pI .u32 (a.g x2.toNat).Plus,pI .u32 (a.g x2.toNat).Minus])),(10,pN x2),(9,pN (a.n:Int)),(8,.p (vSl 2 A0 a)),(3,.vec 4501)],[(4501,.vec Wj 1 x1.n (fun i=>cI .u8 (x1.g i)) false)]⟩ (ids:=[(4501,4500)]) ⟨rfl,h⟩ (fun _ _ _ _ i _ t f ht j=>?_)
  rcases i with _|_|_|i
  .obtain⟨rfl,h⟩:=ht;refine D1 hS T3 (b:=decide ((0:Int)<2)) (fun c29=>?_) (fun c29=>?_)
   .obtain⟨c30,h⟩:=C7 h;exact j _ [(4500,33000)] _ _ (And.intro (And.intro (And.intro (And.intro (by decide:(0:Int)<=0/\(0:Int)<2) (by decide:(0:Int)<=8)) (by decide:(0:Int)<=16)) (rfl:true=true)) c30) rfl ⟨rfl,h⟩ (hle:=klR [(5,.fn (x1.n+3) (x1.app (Tn (a.g x2.toNat).Plus)).n (I4 x1.n (fun i=>cI .u8 (x1.g i)) (D0 [pI .u8 0] [(0,cI .u8 (wrap .u8 (a.g x2.toNat).Plus)),(1,cI .u8 (wrap .u8 (shI .shr .u32 (a.g x2.toNat).Plus 8))),(2,cI .u8 (wrap .u8 (shI .shr .u32 (a.g x2.toNat).Plus 16)))])) (fun i=>cI .u8 ((x1.app (Tn (a.g x2.toNat).Plus)).g i)))] (al1 ⟨rfl,KB (c:=cI .u8) (v:=x1) (w:=(Tn (a.g x2.toNat).Plus)) same rfl (fun i f=>match i,f with|0,_=>rfl|1,_=>rfl|2,_=>rfl|_+3,f=>Kh f (by omega)) rfl⟩ al0))
   exact Bool.noConfusion ((by decide:decide ((0:Int)<2)=true).symm.trans c29)
  .obtain⟨rfl,h⟩:=ht;refine D1 hS T3 (b:=decide ((1:Int)<2)) (fun c27=>?_) (fun c27=>?_)
   .obtain⟨c28,h⟩:=C7 h;exact j _ [(4501,33000)] _ _ (And.intro (And.intro (And.intro (And.intro (by decide:(0:Int)<=1/\(1:Int)<2) (by decide:(0:Int)<=8)) (by decide:(0:Int)<=16)) (rfl:true=true)) c28) rfl ⟨rfl,h⟩ (hle:=klR [(5,.fn ((x1.app (Tn (a.g x2.toNat).Plus)).n+3) ((x1.app (Tn (a.g x2.toNat).Plus)).app (Tn (a.g x2.toNat).Minus)).n (I4 (x1.app (Tn (a.g x2.toNat).Plus)).n (fun i=>cI .u8 ((x1.app (Tn (a.g x2.toNat).Plus)).g i)) (D0 [pI .u8 0] [(0,cI .u8 (wrap .u8 (a.g x2.toNat).Minus)),(1,cI .u8 (wrap .u8 (shI .shr .u32 (a.g x2.toNat).Minus 8))),(2,cI .u8 (wrap .u8 (shI .shr .u32 (a.g x2.toNat).Minus 16)))])) (fun i=>cI .u8 (((x1.app (Tn (a.g x2.toNat).Plus)).app (Tn (a.g x2.toNat).Minus)).g i)))] (al1 ⟨rfl,KB (c:=cI .u8) (v:=x1.app (Tn (a.g x2.toNat).Plus)) (w:=(Tn (a.g x2.toNat).Minus)) same rfl (fun i f=>match i,f with|0,_=>rfl|1,_=>rfl|2,_=>rfl|_+3,f=>Kh f (by omega)) rfl⟩ al0))
   exact Bool.noConfusion ((by decide:decide ((1:Int)<2)=true).symm.trans c27)
  .obtain⟨rfl,h⟩:=ht;refine D1 hS T3 (b:=decide ((2:Int)<2)) (fun c26=>?_) (fun c26=>?_)
   .exact Bool.noConfusion ((by decide:decide ((2:Int)<2)=false).symm.trans c26)
   exact l _ [(4500,4501)] _ ((x1.app (Tn (a.g x2.toNat).Plus)).app (Tn (a.g x2.toNat).Minus)) (wrap .i64 (x2+1)) T3 h
  exact Kh f (by omega)
 obtain rfl:=C0 h;exact AN0 hS ((fun _ _=>rfl):∀i:Nat,i<x1.n->true=true) [] ⟨rfl,rfl,rfl⟩
def F6 (N:Nat)(a:Sl E6)(c:E6->Option Bool):Option Int:= T9 N (fun b (x1:Int)=>if (decide (x1<(a.n:Int))) then if ((0:Int)<=x1/\x1<(a.n:Int))then (c (a.g x1.toNat)).bind fun y3=>if y3 then some x1 else b (wrap .i64 (x1+1)) else none else some (-1)) 0
theorem By {a:Sl E6}{c:E6->Option Bool}{kp_f:Nat}(d:∀{a0:E6}{b:Bool},c a0=some b->FunO S kp_f [.p (.agg (C6 a0))] [] (pB b) [] []){y:Int}(h:F6 N a c=some y) :FunO S Q6 [.p (vSl 2 C6 a),.clo kp_f [] []] [] (pN y) ([]) []:=by
 unfold F6 at h;refine A1 hS Tryz.func116 ?_;refine E2 hS T3 h (fun x1=>⟨[(8,pN x1),(7,pN (a.n:Int)),(1,.clo kp_f [] []),(0,.p (vSl 2 C6 a))],[]⟩) (ids:=[]) (fun _ _ _ _ _ f x1 g h=>?_);apply kI hS h<;>intro h
 .obtain⟨c8,h⟩:=C7 h;obtain⟨y3,e3,h⟩:=B1 h;refine B6 hS [] (And.intro c8 (by decide:(2:Nat)<=2)) (d e3) ?_;apply kI hS h<;>intro h
  .cases h;exact kR hS
  exact g _ [] _ (wrap .i64 (x1+1)) T3 h
 cases h;exact kR hS
def G3 (N:Nat)(a:Sl E6)(b:E6->Option Bool):Option Bool:= (F6 N a b).bind fun y1=>some (decide (0<=y1))
theorem AC {a:Sl E6}{c:E6->Option Bool}{kp_f:Nat}(d:∀{a0:E6}{b:Bool},c a0=some b->FunO S kp_f [.p (.agg (C6 a0))] [] (pB b) [] []){y:Bool}(h:G3 N a c=some y) :FunO S O6 [.p (vSl 2 C6 a),.clo kp_f [] []] [] (pB y) ([]) []:=by unfold G3 at h;refine A1 hS Tryz.func86 ?_;refine kC hS h (By hS hL (fun e=>d e)) (fun y1 h=>?_);cases h;exact kR hS
def CL (N:Nat)(a:E6):Option Bool:= some ((!a.Has)&&(decide (0<(a.W.n:Int))))
theorem Tx {b:E6}{y:Bool}(h:CL N b=some y) :FunO S Jz [.p (.agg (C6 b))] [] (pB y) ([]) []:=by unfold CL at h;refine A1 hS Tryz.func87 ?_;refine kB hS (A2 hS) T3 T3 5 (.n (.a (!b.Has)) (.a (decide (0<(b.W.n:Int))))) ?_;cases h;exact kR hS
def AR (N:Nat)(a:Sl E6):Option Bool:= (G3 N a (fun (u1:E6)=>CL N u1)).bind fun y1=>some (!y1)
theorem Ns {a:Sl E6}{y:Bool}(h:AR N a=some y) :FunO S Nh [.p (vSl 2 C6 a)] [] (pB y) ([]) []:=by unfold AR at h;refine A1 hS Tryz.func54 ?_;refine kC hS h (AC hS hL (fun e=>Tx hS hL e)) (fun y1 h=>?_);cases h;exact kR hS
def Q3 (N:Nat)(a:Sl E6):Option Int:= T9 N (fun b (x1:Int)=>if (decide (x1<(a.n:Int))) then if ((0:Int)<=x1/\x1<(a.n:Int))then (Q7 N (a.g x1.toNat).W).bind fun y3=>if (y3 != 0) then some y3 else b (wrap .i64 (x1+1)) else none else some 0) 0
theorem Hq {a:Sl E6}{y:Int}(h:Q3 N a=some y) :FunO S Ni [.p (vSl 2 C6 a)] [] (pN y) ([]) []:=by
 unfold Q3 at h;refine A1 hS Tryz.func56 ?_;refine E2 hS T3 h (fun x1=>⟨[(8,pN x1),(7,pN (a.n:Int)),(6,.p (vSl 2 C6 a))],[]⟩) (ids:=[]) (fun _ _ _ _ _ b x1 c h=>?_);apply kI hS h<;>intro h
 .obtain⟨c8,h⟩:=C7 h;obtain⟨y3,e3,h⟩:=B1 h;refine B6 hS [] (And.intro c8 (by decide:(2:Nat)<=2)) (EM hS hL e3) ?_;apply kI hS h<;>intro h
  .cases h;exact kR hS
  exact c _ [] _ (wrap .i64 (x1+1)) T3 h
 cases h;exact kR hS
def CH (N:Nat)(a:Str):Option Bool:= (X4 N (Sl.of [(⟨-1,a⟩:J6)]:Sl J6)).bind fun y1=>some (y1==0)
theorem ZB {a:Str}{y:Bool}(h:CH N a=some y) :FunO S Nj [.p (.str a)] [] (pB y) ([]) []:=by unfold CH at h;refine A1 hS Tryz.func88 ?_;refine Da hS (rfl:true=true) ⟨[(5,.vec 6000)],[(6000,.vec Rp 2 (Sl.of [(⟨-1,a⟩:J6)]:Sl J6).n (fun i=>E4 ((Sl.of [(⟨-1,a⟩:J6)]:Sl J6).g i)) false)]⟩ (ids:=[(6000,6000)]) ?_ (hle:=klR [(0,.fn 1 (Sl.of [(⟨-1,a⟩:J6)]:Sl J6).n (D0 [pI .i64 0,.str []] [(0,E4 (⟨-1,a⟩:J6))]) (fun i=>E4 ((Sl.of [(⟨-1,a⟩:J6)]:Sl J6).g i)))] (al1 ⟨rfl,(fun i b=>match i,b with|0,_=>rfl|_+1,b=>Kh b (by omega))⟩ al0));refine kC hS h (GS hS hL) (fun y1 h=>?_);cases h;exact kR hS
def O7 (N:Nat)(a:Sl Entry)(b:Int):Option Int:= T9 N (fun c (x2:Int)=>if (decide (x2<(a.n:Int))) then if ((0:Int)<=x2/\x2<(a.n:Int))then lt (fun (z3:Bool)=>if z3 then some 2 else c (wrap .i64 (x2+1))) fun k3=>if (((a.g x2.toNat).Forms.n:Int) != b) then k3 true else (AR N (a.g x2.toNat).Forms).bind fun y6=>k3 (!y6) else none else T9 N (fun d (x5:Int)=>if (decide (x5<(a.n:Int))) then if ((0:Int)<=x5/\x5<(a.n:Int))then (CH N (a.g x5.toNat).Gloss).bind fun y9=>if (!y9) then some 15 else d (wrap .i64 (x5+1)) else none else some 0) 0) 0
theorem JF {b:Sl Entry}{a:Int}{y:Int}(h:O7 N b a=some y) :FunO S Jy [.p (vSl 2 B7 b),pN a] [] (pN y) ([]) []:=by
 unfold O7 at h;refine A1 hS Tryz.func55 ?_;refine E2 hS T3 h (fun x2=>⟨[(11,pN x2),(10,pN (b.n:Int)),(9,.p (vSl 2 B7 b)),(1,pN a),(0,.p (vSl 2 B7 b))],[]⟩) (ids:=[]) (fun _ _ _ _ _ d x2 f h=>?_);apply kI hS h<;>intro h
 .obtain⟨c14,h⟩:=C7 h;refine Ai hS (And.intro c14 (by decide:(2:Nat)<=2)) (A2 hS) h 0 (fun z3=>⟨[(25,pB z3),(11,pN x2),(10,pN (b.n:Int)),(9,.p (vSl 2 B7 b)),(1,pN a),(0,.p (vSl 2 B7 b))],[]⟩) (fun M3 k3 c h=>?_) (fun z3 h=>?_)
  .refine kG hS h (fun h=>?_) (fun h=>?_)
   .exact c _ [] _ true T3 h
   refine kC hS h (Ns hS hL) (fun y6 h=>?_);exact c _ [] _ (!y6) T3 h
  apply kI hS h<;>intro h
  .cases h;exact kR hS
  exact f _ [] _ (wrap .i64 (x2+1)) T3 h
 refine E2 hS T3 h (fun x5=>⟨[(29,pN x5),(28,pN (b.n:Int)),(27,.p (vSl 2 B7 b))],[]⟩) (ids:=[]) (fun _ _ _ _ _ g x5 i h=>?_);apply kI hS h<;>intro h
 .obtain⟨c26,h⟩:=C7 h;obtain⟨y9,e9,h⟩:=B1 h;refine B6 hS [] (And.intro c26 (by decide:(2:Nat)<=2)) (ZB hS hL e9) ?_;apply kI hS h<;>intro h
  .cases h;exact kR hS
  exact i _ [] _ (wrap .i64 (x5+1)) T3 h
 cases h;exact kR hS
def N8 (N:Nat)(d:A5)(a:Sl E6)(b:Sl Entry):Option Int:= (R6 N d).bind fun y1=>if (y1 != 0) then some y1 else (U1 N d.Tree).bind fun y2=>if (decide (256<(b.n:Int))) then some 12 else lt (fun (z1:Bool)=>if z1 then some 2 else (O7 N b (y2.1.n:Int)).bind fun y5=>if (y5 != 0) then some y5 else (Q3 N a).bind fun y6=>if (y6 != 0) then some y6 else T9 N (fun c (x2:Int)=>if (decide (x2<(b.n:Int))) then if ((0:Int)<=x2/\x2<(b.n:Int))then (Q3 N (b.g x2.toNat).Forms).bind fun y9=>if (y9 != 0) then some y9 else c (wrap .i64 (x2+1)) else none else some 0) 0) fun k1=>if ((a.n:Int) != (b.n:Int)) then k1 true else (AR N a).bind fun y4=>k1 (!y4)
theorem AS {c:A5}{a:Sl E6}{b:Sl Entry}{y:Int}(h:N8 N c a b=some y) :FunO S Nf [.p (.agg (A4 c)),.p (vSl 2 C6 a),.p (vSl 2 B7 b)] [] (pN y) ([]) []:=by
 unfold N8 at h;refine A1 hS Tryz.func21 ?_;refine kC hS h (Gg hS hL) (fun y1 h=>?_);apply kI hS h<;>intro h
 .cases h;exact kR hS
 refine kC hS h (Fw hS hL) (fun y2 h=>?_);apply kI hS h<;>intro h
 .cases h;exact kR hS
 refine Ai hS T3 (A2 hS) h 0 (fun z1=>⟨[(30,pB z1),(8,.vec 24000),(2,.p (vSl 2 B7 b)),(1,.p (vSl 2 C6 a))],[(24000,.vec B8 1 y2.1.n (fun i=>cI .i64 (y2.1.g i)) true)]⟩) (fun M1 k1 d h=>?_) (fun z1 h=>?_)
 .refine kG hS h (fun h=>?_) (fun h=>?_)
  .exact d _ [(24000,24000)] _ true T3 h
  refine kC hS h (Ns hS hL) (fun y4 h=>?_);exact d _ [(24000,24000)] _ (!y4) T3 h
 apply kI hS h<;>intro h
 .cases h;exact kR hS
 refine kC hS h (JF hS hL) (fun y5 h=>?_);apply kI hS h<;>intro h
 .cases h;exact kR hS
 refine kC hS h (Hq hS hL) (fun y6 h=>?_);apply kI hS h<;>intro h
 .cases h;exact kR hS
 refine E2 hS T3 h (fun x2=>⟨[(55,pN x2),(54,pN (b.n:Int)),(53,.p (vSl 2 B7 b))],[]⟩) (ids:=[]) (fun _ _ _ _ _ f x2 j h=>?_);apply kI hS h<;>intro h
 .obtain⟨c16,h⟩:=C7 h;obtain⟨y9,e9,h⟩:=B1 h;refine B6 hS [] (And.intro c16 (by decide:(2:Nat)<=2)) (Hq hS hL e9) ?_;apply kI hS h<;>intro h
  .cases h;exact kR hS
  exact j _ [] _ (wrap .i64 (x2+1)) T3 h
 cases h;exact kR hS
def F2 (N:Nat)(q0:Sl Entry):Option (List (Bd×(Sl To))):= T9 N (fun b (x2:Int)=>if (decide (x2<(q0.n:Int))) then if ((0:Int)<=x2/\x2<(q0.n:Int))then T9 N (fun a (x4:Int)=>if (decide (x4<((q0.g x2.toNat).Forms.n:Int))) then if ((0:Int)<=x4/\x4<((q0.g x2.toNat).Forms.n:Int))then if ((q0.g x2.toNat).Forms.g x4.toNat).Has then Be ((⟨x2,x4⟩:Bd),((q0.g x2.toNat).Forms.g x4.toNat).W) (a (wrap .i64 (x4+1))) else a (wrap .i64 (x4+1)) else none else b (wrap .i64 (x2+1))) 0 else none else some []) 0
theorem Ao {q0:Sl Entry}{L:List (Bd×(Sl To))}(h:F2 N q0=some L) :IN S Ak [] [.reg 0 0] [.cells [.p (vSl 2 B7 q0)]] (L.map (fun (x:Bd×(Sl To))=>[(fun x=>.agg (VL x)) x.1,vSl 2 A0 x.2])):=by
 unfold F2 at h;refine IT hS Tryz.func82 ?_;refine IS hS T3 h (fun x2 L1=>⟨[(9,pN x2),(8,pN (q0.n:Int)),(7,.p (vSl 2 B7 q0)),(0,.yf 1)],[(1,.yld (L1.map (fun (x:Bd×(Sl To))=>[(fun x=>.agg (VL x)) x.1,vSl 2 A0 x.2])) true),(0,.cells [.p (vSl 2 B7 q0)])]⟩) (ids:=[(0,0),(1,1)]) (fun _ _ _ _ _ f x2 L1 i h=>?_);apply kI hS h<;>intro h
 .obtain⟨c48,h⟩:=C7 h;refine IS hS (And.intro c48 (by decide:(2:Nat)<=2)) h (fun x4 L16=>⟨[(17,pN x4),(16,pN ((q0.g x2.toNat).Forms.n:Int)),(15,.p (vSl 2 C6 (q0.g x2.toNat).Forms)),(9,pN x2),(8,pN (q0.n:Int)),(7,.p (vSl 2 B7 q0)),(3,pN x2),(0,.yf 1)],[(1,.yld (L16.map (fun (x:Bd×(Sl To))=>[(fun x=>.agg (VL x)) x.1,vSl 2 A0 x.2])) true),(0,.cells [.p (vSl 2 B7 q0)])]⟩) (ids:=[(0,0),(1,1)]) (fun _ _ _ _ _ j x4 L16 d h=>?_);apply kI hS h<;>intro h
  .obtain⟨c64,h⟩:=C7 h;refine X9 hS (And.intro c64 (by decide:(2:Nat)<=2)) (b:=((q0.g x2.toNat).Forms.g x4.toNat).Has) (fun c67=>?_) (fun c67=>?_)
   .replace h:=itT c67 h;obtain⟨L22,rfl,c⟩:=VD h;replace h:=c;refine FX hS T3 (ys:=(fun (x:Bd×(Sl To))=>[(fun x=>.agg (VL x)) x.1,vSl 2 A0 x.2]) ((⟨x2,x4⟩:Bd),((q0.g x2.toNat).Forms.g x4.toNat).W)) (rest:=L22.map (fun (x:Bd×(Sl To))=>[(fun x=>.agg (VL x)) x.1,vSl 2 A0 x.2])) ?_ ?_
    .refine D1 hS T3 (b:=false) (fun c68=>?_) (fun c68=>?_)
     .exact Bool.noConfusion ((rfl:false=false).symm.trans c68)
     exact d _ [(0,0),(1,1)] _ (wrap .i64 (x4+1)) L22 T3 h
    refine D1 hS T3 (b:=true) (fun c69=>?_) (fun c69=>?_)
    .exact A8 hS T3 (a:=.tup []) (objs:=[(.cells [.p (vSl 2 B7 q0)]),.yld [] false]) ⟨[],[(1,.yld [] false),(0,.cells [.p (vSl 2 B7 q0)])]⟩ [0,1] (ids:=[(0,0),(1,1)]) ⟨false,rfl,rfl,_,rfl⟩
    exact Bool.noConfusion ((rfl:true=true).symm.trans c69)
   replace h:=itF c67 h;exact d _ [(0,0),(1,1)] _ (wrap .i64 (x4+1)) L16 T3 h
  exact i _ [(0,0),(1,1)] _ (wrap .i64 (x2+1)) L16 T3 h
 obtain rfl:=C0 h;exact A8 hS T3 (a:=.tup []) (objs:=[(.cells [.p (vSl 2 B7 q0)]),.yld [] true]) ⟨[],[(1,.yld [] true),(0,.cells [.p (vSl 2 B7 q0)])]⟩ [0,1] (ids:=[(0,0),(1,1)]) ⟨true,rfl,rfl,_,rfl⟩
def P7 (N:Nat)(a:Sl Entry):Option (Sl Entry):= some a
theorem BW {a:Sl Entry}{y:Sl Entry}(h:P7 N a=some y) :FunO S HO [.p (vSl 2 B7 a)] [] (.clo Ak [] [.reg 0 0]) ([.cells [.p (vSl 2 B7 y)]]) []:=by unfold P7 at h;refine A1 hS Tryz.func50 ?_;obtain rfl:=C0 h;exact A8 hS T3 ⟨[(2,.clo Ak [] [.reg 2000 0])],[(2000,.cells [.p (vSl 2 B7 a)])]⟩ [2000] (ids:=[(2000,2000)]) ⟨rfl,rfl,rfl⟩
def I7 (N:Nat)(a:Sl E6):Option Bool:= T9 N (fun b (x1:Int)=>if (decide (x1<(a.n:Int))) then if ((0:Int)<=x1/\x1<(a.n:Int))then if ((!(a.g x1.toNat).Has)=true->((0:Int)<=x1/\x1<(a.n:Int)))then if ((!(a.g x1.toNat).Has)&&(decide (0<((a.g x1.toNat).W.n:Int)))) then some false else b (wrap .i64 (x1+1)) else none else none else some true) 0
def H2 (N:Nat)(a:Sl E6):Option Int:= T9 N (fun b (x1:Int)=>if (decide (x1<(a.n:Int))) then if ((0:Int)<=x1/\x1<(a.n:Int))then (P5 N (a.g x1.toNat).W).bind fun y3=>if (y3 != 0) then some y3 else b (wrap .i64 (x1+1)) else none else some 0) 0
def BX (N:Nat)(a:A5)(f:Int)(b:Int):Option (Sl Law):= (BV N a.Tree f).bind fun y1=>P9 N (fun d (x3:Sl Law) (x4:Int)=>if (decide (x4<(y1.1.n:Int))) then if ((((0:Int)<=x4/\x4<(y1.1.n:Int))/\x4.toNat<y1.1.n)/\((0:Int)<=(y1.1.g x4.toNat)/\(y1.1.g x4.toNat)<(a.On.n:Int)))then P9 N (fun c (x7:Sl Law) (x8:Int)=>if (decide (x8<((a.On.g (y1.1.g x4.toNat).toNat).n:Int))) then if ((0:Int)<=x8/\x8<((a.On.g (y1.1.g x4.toNat).toNat).n:Int))then if (((a.On.g (y1.1.g x4.toNat).toNat).g x8.toNat) != b) then if (((0:Int)<=x8/\x8<((a.On.g (y1.1.g x4.toNat).toNat).n:Int))/\((0:Int)<=((a.On.g (y1.1.g x4.toNat).toNat).g x8.toNat)/\((a.On.g (y1.1.g x4.toNat).toNat).g x8.toNat)<(a.Laws.n:Int)))then if ((x7.n+(Sl.of [a.Laws.g ((a.On.g (y1.1.g x4.toNat).toNat).g x8.toNat).toNat]:Sl Law).n)*200<=140737488355328/\x7.n+(Sl.of [a.Laws.g ((a.On.g (y1.1.g x4.toNat).toNat).g x8.toNat).toNat]:Sl Law).n<=140737488355328)then c (x7.push (a.Laws.g ((a.On.g (y1.1.g x4.toNat).toNat).g x8.toNat).toNat)) (wrap .i64 (x8+1)) else none else none else c x7 (wrap .i64 (x8+1)) else none else d x7 (wrap .i64 (x4+1))) x3 0 else none else some x3) (Sl.nil:Sl Law) 0
def O2 (N:Nat)(d:A5)(b:E6)(a:Int)(c:Int):Option E6:= if (!b.Has) then some (⟨false,(Sl.nil:Sl To)⟩:E6) else (K5 N d.Tree).bind fun y1=>if (((0:Int)<=a/\a<(y1.1.n:Int))/\a.toNat<y1.1.n)then (BX N d (y1.1.g a.toNat) c).bind fun y2=>(U5 N y2 b.W).bind fun y3=>if (y3.2 != 0) then some (⟨false,(Sl.nil:Sl To)⟩:E6) else some (⟨true,y3.1⟩:E6) else none
def I8 (N:Nat)(d:A5)(b:E6)(c:Int)(f:E6)(a:Int):Option Bool:= (O2 N d b c a).bind fun y1=>lt (fun (z1:Bool)=>some z1) fun k1=>if y1.Has then (Jd N y1.W f.W).bind fun y3=>k1 y3 else k1 false
def FG (N:Nat)(a:Sl A3)(b:Sl A3):Option Bool:= if ((a.n:Int) != (b.n:Int)) then some false else T9 N (fun c (x1:Int)=>if (decide (x1<(a.n:Int))) then if (((0:Int)<=x1/\x1<(a.n:Int))/\((0:Int)<=x1/\x1<(b.n:Int)))then if ((((a.g x1.toNat).Entry==(b.g x1.toNat).Entry)&&(((a.g x1.toNat).Leaf==(b.g x1.toNat).Leaf)&&(((a.g x1.toNat).Kind==(b.g x1.toNat).Kind)&&((a.g x1.toNat).Cost==(b.g x1.toNat).Cost)))) != true) then some false else c (wrap .i64 (x1+1)) else none else some true) 0
theorem Aj7 {a:Sl A3}{b:Sl A3}{y:Bool}(h:FG N a b=some y) :FunO S Ai9 [.p (vSl 4 A9 a),.p (vSl 4 A9 b)] [] (pB y) ([]) []:=by
 unfold FG at h;refine A1 hS Tryz.func23 ?_;apply kI hS h<;>intro h
 .cases h;exact kR hS
 refine E2 hS T3 h (fun x1=>⟨[(5,pN x1),(1,.p (vSl 4 A9 b)),(0,.p (vSl 4 A9 a))],[]⟩) (ids:=[]) (fun _ _ _ _ _ c x1 d h=>?_);apply kI hS h<;>intro h
 .refine C5 hS T3 [2,3,6,7] ?_;obtain⟨c9,h⟩:=C7 h;refine D9 (And.intro (And.intro (And.intro (And.intro c9.1 (by decide:(4:Nat)<=4)) c9.2) (by decide:(4:Nat)<=4)) (by decide +kernel:AJ4 Tryz.prog B5=true)) ?_;apply kI hS h<;>intro h
  .cases h;exact kR hS
  exact d _ [] _ (wrap .i64 (x1+1)) T3 h
 cases h;exact kR hS
def BY (N:Nat)(p_x:Sl Int)(a:Sl Int):Option Bool:= if ((p_x.n:Int) != (a.n:Int)) then some false else T9 N (fun b (x1:Int)=>if (decide (x1<(p_x.n:Int))) then if (((0:Int)<=x1/\x1<(p_x.n:Int))/\((0:Int)<=x1/\x1<(a.n:Int)))then if ((p_x.g x1.toNat) != (a.g x1.toNat)) then some false else b (wrap .i64 (x1+1)) else none else some true) 0
theorem Qb {p_x:Sl Int}{a:Sl Int}{y:Bool}(h:BY N p_x a=some y) :FunO S PB [.p (vSl 1 (cI .i64) p_x),.p (vSl 1 (cI .i64) a)] [] (pB y) ([]) []:=by
 unfold BY at h;refine A1 hS Tryz.func26 ?_;apply kI hS h<;>intro h
 .cases h;exact kR hS
 refine E2 hS T3 h (fun x1=>⟨[(5,pN x1),(1,.p (vSl 1 (cI .i64) a)),(0,.p (vSl 1 (cI .i64) p_x))],[]⟩) (ids:=[]) (fun _ _ _ _ _ b x1 c h=>?_);apply kI hS h<;>intro h
 .refine C5 hS T3 [2,3,6,7] ?_;obtain⟨c9,h⟩:=C7 h;refine D9 c9 ?_;apply kI hS h<;>intro h
  .cases h;exact kR hS
  exact c _ [] _ (wrap .i64 (x1+1)) T3 h
 cases h;exact kR hS
def S8 (N:Nat)(a:A5):Option Bool:= if ((decide (63<(a.Tree.n:Int)))||(decide (64<(a.Laws.n:Int)))) then some (((decide ((a.Tree.n:Int)<=200))&&(decide ((a.Laws.n:Int)<=200)))&&(decide ((a.On.n:Int)<=200))) else P9 N (fun b (x1:Int) (x2:Int)=>if ((decide (x2<(a.Laws.n:Int)))&&(decide (x2<=6))) then if ((0:Int)<=x2/\x2<(a.Laws.n:Int))then (FF N (a.Laws.g x2.toNat).Left).bind fun y5=>if ((0:Int)<=x2/\x2<(a.Laws.n:Int))then (FF N (a.Laws.g x2.toNat).Right).bind fun y6=>b (wrap .i64 ((wrap .i64 (x1+y5))+y6)) (wrap .i64 (x2+1)) else none else none else P9 N (fun c (x3:Int) (x4:Int)=>if ((decide (x4<(a.On.n:Int)))&&(decide (x4<=200))) then if ((0:Int)<=x4/\x4<(a.On.n:Int))then c (wrap .i64 (x3+((a.On.g x4.toNat).n:Int))) (wrap .i64 (x4+1)) else none else some (((((decide ((a.Laws.n:Int)<=6))&&(decide (x1<=60)))&&(decide ((a.On.n:Int)<=200)))&&(decide (x3<=12)))&&(decide ((a.Tree.n:Int)<=8)))) 0 0) 0 0
theorem Ek {b:A5}{y:Bool}(h:S8 N b=some y) :FunO S VM [.p (.agg (A4 b))] [] (pB y) ([]) []:=by
 unfold S8 at h;refine A1 hS Tryz.func14 ?_;refine D8 hS T3 2 2000 (A4 b) ?_;refine kB hS (A2 hS) T3 T3 5 (.o (.a (decide (63<(b.Tree.n:Int)))) (.a (decide (64<(b.Laws.n:Int))))) ?_;apply kI hS h<;>intro h
 .refine kB hS (A2 hS) T3 T3 11 (.n (.n (.a (decide ((b.Tree.n:Int)<=200))) (.a (decide ((b.Laws.n:Int)<=200)))) (.a (decide ((b.On.n:Int)<=200)))) ?_;cases h;exact kR hS
 refine D7 hS T3 h (fun x1 x2=>⟨[(5,pN x2),(4,pN 0),(3,pN x1),(1,.p (.ptr (A4 b)))],[]⟩) (ids:=[]) (fun _ _ _ _ _ c x1 x2 d h=>?_);refine kB hS (A2 hS) T3 T3 3 (.n (.a (decide (x2<(b.Laws.n:Int)))) (.a (decide (x2<=6)))) ?_;apply kI hS h<;>intro h
 .refine C5 hS T3 [2,4,6,7,10,12,14,15] ?_;obtain⟨c9,h⟩:=C7 h;obtain⟨y5,e5,h⟩:=B1 h;refine F8 (And.intro c9 (by decide:(7:Nat)<=17)) (Aj5 hS hL e5) ?_;obtain⟨c10,h⟩:=C7 h;obtain⟨y6,e6,h⟩:=B1 h;refine F8 (And.intro c10 (by decide:(7:Nat)<=10)) (Aj5 hS hL e6) ?_;refine D9 T3 ?_;exact d _ [] _ (wrap .i64 ((wrap .i64 (x1+y5))+y6)) (wrap .i64 (x2+1)) T3 h
 refine D7 hS T3 h (fun x3 x4=>⟨[(6,pN x4),(4,pN x3),(3,pN x1),(1,.p (.ptr (A4 b)))],[]⟩) (ids:=[]) (fun _ _ _ _ _ f x3 x4 i h=>?_);refine kB hS (A2 hS) T3 T3 3 (.n (.a (decide (x4<(b.On.n:Int)))) (.a (decide (x4<=200)))) ?_;apply kI hS h<;>intro h
 .obtain⟨c14,h⟩:=C7 h;exact i _ [] _ (wrap .i64 (x3+((b.On.g x4.toNat).n:Int))) (wrap .i64 (x4+1)) c14 h
 refine kB hS (A2 hS) T3 T3 19 (.n (.n (.n (.n (.a (decide ((b.Laws.n:Int)<=6))) (.a (decide (x1<=60)))) (.a (decide ((b.On.n:Int)<=200)))) (.a (decide (x3<=12)))) (.a (decide ((b.Tree.n:Int)<=8)))) ?_;cases h;exact kR hS
def S9 (N:Nat)(a:Sl E6)(b:Sl Entry):Option Bool:= if ((((decide (6<(b.n:Int)))&&(decide ((b.n:Int)<=256)))||(decide (400<(b.n:Int))))||(decide (400<(a.n:Int)))) then some false else T9 N (fun c (x1:Int)=>if (decide (x1<(a.n:Int))) then if ((0:Int)<=x1/\x1<(a.n:Int))then if (decide (100<((a.g x1.toNat).W.n:Int))) then some false else c (wrap .i64 (x1+1)) else none else T9 N (fun d (x3:Int)=>if (decide (x3<(b.n:Int))) then if ((0:Int)<=x3/\x3<(b.n:Int))then if (decide (20<((b.g x3.toNat).Forms.n:Int))) then some false else T9 N (fun f (x5:Int)=>if ((0:Int)<=x3/\x3<(b.n:Int))then if (decide (x5<((b.g x3.toNat).Forms.n:Int))) then if (((0:Int)<=x3/\x3<(b.n:Int))/\((0:Int)<=x5/\x5<((b.g x3.toNat).Forms.n:Int)))then if (decide (100<(((b.g x3.toNat).Forms.g x5.toNat).W.n:Int))) then some false else f (wrap .i64 (x5+1)) else none else d (wrap .i64 (x3+1)) else none) 0 else none else some true) 0) 0
theorem El {c:Sl E6}{d:Sl Entry}{y:Bool}(h:S9 N c d=some y) :FunO S VN [.p (vSl 2 C6 c),.p (vSl 2 B7 d)] [] (pB y) ([]) []:=by
 unfold S9 at h;refine A1 hS Tryz.func15 ?_;refine kB hS (A2 hS) T3 T3 14 (.o (.o (.n (.a (decide (6<(d.n:Int)))) (.a (decide ((d.n:Int)<=256)))) (.a (decide (400<(d.n:Int))))) (.a (decide (400<(c.n:Int))))) ?_;apply kI hS h<;>intro h
 .cases h;exact kR hS
 refine E2 hS T3 h (fun x1=>⟨[(5,pN x1),(1,.p (vSl 2 B7 d)),(0,.p (vSl 2 C6 c))],[]⟩) (ids:=[]) (fun _ _ _ _ _ f x1 i h=>?_);apply kI hS h<;>intro h
 .obtain⟨c9,h⟩:=C7 h;refine D1 hS c9 (b:=decide (100<((c.g x1.toNat).W.n:Int))) (fun c10=>?_) (fun c10=>?_)
  .replace h:=itT c10 h;cases h;exact kR hS
  replace h:=itF c10 h;exact i _ [] _ (wrap .i64 (x1+1)) T3 h
 refine E2 hS T3 h (fun x3=>⟨[(6,pN x3),(1,.p (vSl 2 B7 d))],[]⟩) (ids:=[]) (fun _ _ _ _ _ j x3 l h=>?_);apply kI hS h<;>intro h
 .obtain⟨c42,h⟩:=C7 h;refine D1 hS c42 (b:=decide (20<((d.g x3.toNat).Forms.n:Int))) (fun c43=>?_) (fun c43=>?_)
  .replace h:=itT c43 h;cases h;exact kR hS
  replace h:=itF c43 h;refine E2 hS T3 h (fun x5=>⟨[(7,pN x5),(6,pN x3),(1,.p (vSl 2 B7 d))],[]⟩) (ids:=[]) (fun _ _ _ _ _ m x5 q h=>?_);obtain⟨c52,h⟩:=C7 h;refine D1 hS c52 (b:=decide (x5<((d.g x3.toNat).Forms.n:Int))) (fun c53=>?_) (fun c53=>?_)
  .replace h:=itT c53 h;obtain⟨c54,h⟩:=C7 h;refine D1 hS c54 (b:=decide (100<(((d.g x3.toNat).Forms.g x5.toNat).W.n:Int))) (fun c55=>?_) (fun c55=>?_)
   .replace h:=itT c55 h;cases h;exact kR hS
   replace h:=itF c55 h;exact q _ [] _ (wrap .i64 (x5+1)) T3 h
  replace h:=itF c53 h;exact l _ [] _ (wrap .i64 (x3+1)) T3 h
 cases h;exact kR hS
def Wt (N:Nat)  : Option To:= some (⟨2,5⟩:To)
theorem AQ4    {y:To}(h:Wt N  = some y) :FunO S Bq6 [] [] (.p (.agg (A0 y))) ([]) []:=by unfold Wt at h;refine A1 hS Tryz.func41 ?_;cases h;exact kR hS
def As3 (N:Nat)  : Option To:= some (⟨3,4⟩:To)
theorem Br9    {y:To}(h:As3 N  = some y) :FunO S Bq7 [] [] (.p (.agg (A0 y))) ([]) []:=by unfold As3 at h;refine A1 hS Tryz.func42 ?_;cases h;exact kR hS
def Jg (N:Nat)  : Option To:= some (⟨5,2⟩:To)
theorem OH    {y:To}(h:Jg N  = some y) :FunO S Bq5 [] [] (.p (.agg (A0 y))) ([]) []:=by unfold Jg at h;refine A1 hS Tryz.func40 ?_;cases h;exact kR hS
def AQ5 (N:Nat)  : Option Law:= some (⟨[86],Pat.mk 1 (⟨4,0⟩:To) false 0 0 (Sl.nil:Sl Pat).n (Sl.nil:Sl Pat).g,Pat.mk 1 (⟨4,0⟩:To) false 0 0 (Sl.nil:Sl Pat).n (Sl.nil:Sl Pat).g,(Sl.of [(⟨2,0⟩:To)]:Sl To),(Sl.of [(⟨0,0,(⟨1,0⟩:To),0,0⟩:Hk)]:Sl Hk),1⟩:Law)
theorem BW5    {y:Law}(h:AQ5 N  = some y) :FunO S Bq8 [] [] (.p (.agg (B2 y))) ([]) []:=by unfold AQ5 at h;refine A1 hS Tryz.func67 ?_;obtain rfl:=C0 h;exact A8 hS (And.intro (rfl:true=true) (rfl:true=true)) ⟨[(0,.reg 1000 0)],[(1000,.cells [.p (.str [86]),pN 1,pU 4,pU 0,pB false,pN 0,pN 0,.p (.sl false 7 (Sl.nil:Sl Pat).n (T1 (Pat.mk 1 (⟨4,0⟩:To) false 0 0 (Sl.nil:Sl Pat).n (Sl.nil:Sl Pat).g))),pN 1,pU 4,pU 0,pB false,pN 0,pN 0,.p (.sl false 7 (Sl.nil:Sl Pat).n (T1 (Pat.mk 1 (⟨4,0⟩:To) false 0 0 (Sl.nil:Sl Pat).n (Sl.nil:Sl Pat).g))),.p (vSl 2 A0 (Sl.of [(⟨2,0⟩:To)]:Sl To)),.p (vSl 6 P1 (Sl.of [(⟨0,0,(⟨1,0⟩:To),0,0⟩:Hk)]:Sl Hk)),pN 1])]⟩ [] (ids:=[(1000,1000)]) ⟨rfl,rfl,rfl⟩ (hle:=klR [(15,.fn 1 (Sl.of [(⟨2,0⟩:To)]:Sl To).n (D0 [pI .u32 0,pI .u32 0] [(0,A0 (⟨2,0⟩:To))]) (fun i=>A0 ((Sl.of [(⟨2,0⟩:To)]:Sl To).g i))),(16,.fn 1 (Sl.of [(⟨0,0,(⟨1,0⟩:To),0,0⟩:Hk)]:Sl Hk).n (D0 [pI .i64 0,pI .u32 0,pI .u32 0,pI .u32 0,pI .u32 0,pI .i64 0] [(0,P1 (⟨0,0,(⟨1,0⟩:To),0,0⟩:Hk))]) (fun i=>P1 ((Sl.of [(⟨0,0,(⟨1,0⟩:To),0,0⟩:Hk)]:Sl Hk).g i)))] (al1 ⟨rfl,(fun i a=>match i,a with|0,_=>rfl|_+1,a=>Kh a (by omega))⟩ (al1 ⟨rfl,(fun i a=>match i,a with|0,_=>rfl|_+1,a=>Kh a (by omega))⟩ al0)))
def AQ6 (N:Nat)  : Option Law:= some (⟨[70],Pat.mk 0 (⟨0,0⟩:To) false 0 0 (Sl.nil:Sl Pat).n (Sl.nil:Sl Pat).g,Pat.mk 6 (⟨0,0⟩:To) false 0 0 (Sl.nil:Sl Pat).n (Sl.nil:Sl Pat).g,(Sl.of [(⟨4,0⟩:To)]:Sl To),(Sl.nil:Sl Hk),1⟩:Law)
theorem BW6    {y:Law}(h:AQ6 N  = some y) :FunO S Bq9 [] [] (.p (.agg (B2 y))) ([]) []:=by unfold AQ6 at h;refine A1 hS Tryz.func68 ?_;obtain rfl:=C0 h;exact A8 hS (rfl:true=true) ⟨[(0,.reg 1000 0)],[(1000,.cells [.p (.str [70]),pN 0,pU 0,pU 0,pB false,pN 0,pN 0,.p (.sl false 7 (Sl.nil:Sl Pat).n (T1 (Pat.mk 0 (⟨0,0⟩:To) false 0 0 (Sl.nil:Sl Pat).n (Sl.nil:Sl Pat).g))),pN 6,pU 0,pU 0,pB false,pN 0,pN 0,.p (.sl false 7 (Sl.nil:Sl Pat).n (T1 (Pat.mk 6 (⟨0,0⟩:To) false 0 0 (Sl.nil:Sl Pat).n (Sl.nil:Sl Pat).g))),.p (vSl 2 A0 (Sl.of [(⟨4,0⟩:To)]:Sl To)),.p (vSl 6 P1 (Sl.nil:Sl Hk)),pN 1])]⟩ [] (ids:=[(1000,1000)]) ⟨rfl,rfl,rfl⟩ (hle:=klR [(15,.fn 1 (Sl.of [(⟨4,0⟩:To)]:Sl To).n (D0 [pI .u32 0,pI .u32 0] [(0,A0 (⟨4,0⟩:To))]) (fun i=>A0 ((Sl.of [(⟨4,0⟩:To)]:Sl To).g i)))] (al1 ⟨rfl,(fun i a=>match i,a with|0,_=>rfl|_+1,a=>Kh a (by omega))⟩ al0))
def Jh (N:Nat)  : Option A5:= (AQ5 N ).bind fun y1=>(AQ6 N ).bind fun y2=>some (⟨(Sl.of [(⟨-1,[114]⟩:J6),(⟨0,[109]⟩:J6),(⟨1,[107]⟩:J6),(⟨0,[110]⟩:J6)]:Sl J6),(Sl.of [y1,y2]:Sl Law),(Sl.of [(Sl.nil:Sl Int),(Sl.of [0]:Sl Int),(Sl.of [1]:Sl Int),(Sl.nil:Sl Int)]:Sl (Sl Int))⟩:A5)
theorem As4    {y:A5}(h:Jh N  = some y) :FunO S PF [] [] (.p (.agg (A4 y))) ([]) []:=by unfold Jh at h;refine A1 hS Tryz.func38 ?_;obtain⟨y1,e1,h⟩:=B1 h;refine B6 hS [] (rfl:true=true) (BW5 hS hL e1) ?_;refine kC hS h (BW6 hS hL) (fun y2 h=>?_);refine G9 hS (And.intro (And.intro (rfl:true=true) (rfl:true=true)) (rfl:true=true)) 13 ⟨[(12,.vec 13000),(11,.vec 12000),(10,.vec 11000),(7,.vec 7000),(0,.reg 1000 0)],[(13000,.vec B8 1 (Sl.of [1]:Sl Int).n (fun i=>cI .i64 ((Sl.of [1]:Sl Int).g i)) true),(12000,.vec B8 1 (Sl.of [0]:Sl Int).n (fun i=>cI .i64 ((Sl.of [0]:Sl Int).g i)) true),(11000,.vec H7 18 (Sl.of [y1,y2]:Sl Law).n (fun i=>B2 ((Sl.of [y1,y2]:Sl Law).g i)) false),(7000,.vec Rp 2 (Sl.of [(⟨-1,[114]⟩:J6),(⟨0,[109]⟩:J6),(⟨1,[107]⟩:J6),(⟨0,[110]⟩:J6)]:Sl J6).n (fun i=>E4 ((Sl.of [(⟨-1,[114]⟩:J6),(⟨0,[109]⟩:J6),(⟨1,[107]⟩:J6),(⟨0,[110]⟩:J6)]:Sl J6).g i)) false),(1000,.cells [.p G6,.p G6,.p G6])]⟩ (ids:=[(1000,1000),(7000,7000),(11000,11000),(12000,12000),(13000,13000)]) ?_ (hle:=klR [(0,.fn 1 (Sl.of [1]:Sl Int).n (D0 [pI .i64 0] [(0,cI .i64 1)]) (fun i=>cI .i64 ((Sl.of [1]:Sl Int).g i))),(1,.fn 1 (Sl.of [0]:Sl Int).n (D0 [pI .i64 0] [(0,cI .i64 0)]) (fun i=>cI .i64 ((Sl.of [0]:Sl Int).g i))),(2,.fn 2 (Sl.of [y1,y2]:Sl Law).n (D0 [.str [],pI .i64 0,pI .u32 0,pI .u32 0,.v (.bool false),pI .i64 0,pI .i64 0,G6,pI .i64 0,pI .u32 0,pI .u32 0,.v (.bool false),pI .i64 0,pI .i64 0,G6,G6,G6,pI .i64 0] [(0,B2 y1),(1,B2 y2)]) (fun i=>B2 ((Sl.of [y1,y2]:Sl Law).g i))),(3,.fn 4 (Sl.of [(⟨-1,[114]⟩:J6),(⟨0,[109]⟩:J6),(⟨1,[107]⟩:J6),(⟨0,[110]⟩:J6)]:Sl J6).n (D0 [pI .i64 0,.str []] [(0,E4 (⟨-1,[114]⟩:J6)),(1,E4 (⟨0,[109]⟩:J6)),(2,E4 (⟨1,[107]⟩:J6)),(3,E4 (⟨0,[110]⟩:J6))]) (fun i=>E4 ((Sl.of [(⟨-1,[114]⟩:J6),(⟨0,[109]⟩:J6),(⟨1,[107]⟩:J6),(⟨0,[110]⟩:J6)]:Sl J6).g i)))] (al1 ⟨rfl,(fun i a=>match i,a with|0,_=>rfl|_+1,a=>Kh a (by omega))⟩ (al1 ⟨rfl,(fun i a=>match i,a with|0,_=>rfl|_+1,a=>Kh a (by omega))⟩ (al1 ⟨rfl,(fun i a=>match i,a with|0,_=>rfl|1,_=>rfl|_+2,a=>Kh a (by omega))⟩ (al1 ⟨rfl,(fun i a=>match i,a with|0,_=>rfl|1,_=>rfl|2,_=>rfl|3,_=>rfl|_+4,a=>Kh a (by omega))⟩ al0)))));refine BV0 hS (rfl:true=true) 14 14000 (k:=1) (n:=4) (e:=PS) (vw:=false) (D0 [G6] [(0,[G6]),(1,cL 1 (cI .i64) (Sl.of [0]:Sl Int)),(2,cL 1 (cI .i64) (Sl.of [1]:Sl Int)),(3,[G6])]) (fun i=>cL 1 (cI .i64) ((Sl.of [(Sl.nil:Sl Int),(Sl.of [0]:Sl Int),(Sl.of [1]:Sl Int),(Sl.nil:Sl Int)]:Sl (Sl Int)).g i)) (fun i a=>match i,a with|0,_=>leCn|1,_=>leCr _|2,_=>leCr _|3,_=>leCn|_+4,a=>Kh a (by omega)) ?_;obtain rfl:=C0 h;exact A8 hS T3 ⟨[(0,.reg 1000 0)],[(1000,.cells [.p (vSl 2 E4 (Sl.of [(⟨-1,[114]⟩:J6),(⟨0,[109]⟩:J6),(⟨1,[107]⟩:J6),(⟨0,[110]⟩:J6)]:Sl J6)),.p (vSl 18 B2 (Sl.of [y1,y2]:Sl Law)),.p (vSl 1 (cL 1 (cI .i64)) (Sl.of [(Sl.nil:Sl Int),(Sl.of [0]:Sl Int),(Sl.of [1]:Sl Int),(Sl.nil:Sl Int)]:Sl (Sl Int)))])]⟩ [] (ids:=[(1000,1000)]) ⟨rfl,rfl,rfl⟩
def HR (N:Nat)(a:Sl To):Option E6:= some (⟨true,a⟩:E6)
theorem Rt {a:Sl To}{y:E6}(h:HR N a=some y) :FunO S Aj0 [.p (vSl 2 A0 a)] [] (.p (.agg (C6 y))) ([]) []:=by unfold HR at h;refine A1 hS Tryz.func39 ?_;cases h;exact kR hS
def Ji (N:Nat)(a:Sl E6):Option Entry:= some (⟨[103],a⟩:Entry)
theorem Wu {a:Sl E6}{y:Entry}(h:Ji N a=some y) :FunO S VP [.p (vSl 2 C6 a)] [] (.p (.agg (B7 y))) ([]) []:=by unfold Ji at h;refine A1 hS Tryz.func43 ?_;cases h;exact kR hS
end Go.AM
namespace Go.AM
open IntKind (wrap)
open Go.Proofs
set_option maxRecDepth 10000
set_option maxHeartbeats 2000000
variable {S:W1}(hS:H9 S Tryz.prog) (hL:GD S)
abbrev Kt (es:List (Str×E6)):Obj:=.map (UM PV.str (fun x=>.agg (C6 x)) es)
abbrev BW7 (M:Sl (List (Str×E6))):List Obj:=[.cells [.vec 1],.fam C8 M.n 2 none,.rows M.n fun i=>Kt (M.g i)]
theorem Ci2 {i n:Nat}{g:Nat->Obj}:∀q,q<n->(fun q=>if q=i then g i else if q=i then Obj.dead else g q) q=(fun q=>g q) q:=fun q _=>by
 show (if q=i then g i else if q=i then Obj.dead else g q)=g q;by_cases h:q=i
 .subst h;rw[Il rfl]
 rw[Ix h,Ix h]
theorem Ci3 {i n:Nat}{M:Sl (List (Str×E6))}{x:List (Str×E6)}:∀q,q<n->(fun q=>if q=i then Kt x else if q=i then Obj.dead else Kt (M.g q)) q=(fun q=>Kt ((M.upd i x).g q)) q:=fun q _=>by
 show (if q=i then Kt x else if q=i then Obj.dead else Kt (M.g q))=Kt (if q=i then x else M.g q);by_cases h:q=i
 .rw[Il h,Il h]
 rw[Ix h,Ix h,Ix h]
abbrev knO (K i:Nat):Obj:=if i<K then Kt []else .ghost [.p (.v (.map none))]
theorem obKn {K x n:Nat}(hx:x=K):∀q,q<n->(fun q=>if q=x then Obj.map []else if q=x then Obj.dead else knO K q) q=(fun i=>knO (K+1) i) q:=fun q _=>by
 show (if q=x then Kt []else if q=x then Obj.dead else if q<K then Kt []else .ghost [.p (.v (.map none))])=if q<K+1 then Kt []else .ghost [.p (.v (.map none))]
 by_cases e:q=x
 .rw[Il e,Il (by omega)]
 rw[Ix e,Ix e];by_cases e2:q<K
 .rw[Il e2,Il (by omega)]
 rw[Ix e2,Ix (by omega)]
include hS hL
def E7 (N:Nat)(p:E6)(leaf:Int)(M:Sl (List (Str×E6)))(X:Sl (Sl Law)):Option (Sl To×Bool×Sl (List (Str×E6))):= if (!p.Has) then some ((Sl.nil:Sl To),false,M) else if leaf.toNat<M.n then if ((0:Int)<=leaf/\leaf<(M.n:Int))then (EV N p.W).bind fun k=>BS8 (DW eqS k (M.g leaf.toNat)) (if ((0:Int)<=leaf/\leaf<(X.n:Int))then (J4 N (X.g leaf.toNat) p.W).bind fun w=>some (w.1,w.2==0,M.upd leaf.toNat (Rk eqS k (⟨w.2==0,w.1⟩:E6) (M.g leaf.toNat))) else none) fun v=>some (v.W,v.Has,M) else none else none
theorem Bb {N:Nat}{p:E6}{leaf:Int}{X:Sl (Sl Law)}{M:Sl (List (Str×E6))}{y:Sl To×Bool×Sl (List (Str×E6))}(h:E7 N p leaf M X=some y) :FunO S E5 [.p (.agg (C6 p)),pN leaf,.reg 0 0,.p (.ptr [vSl 1 (cL 18 B2) X])] (BW7 M) (.tup [.p (vSl 2 A0 y.1),pB y.2.1]) (BW7 y.2.2) [true,true,false]:=by
 unfold E7 at h;refine A1 hS Tryz.func80 ?_;refine D8 hS T3 12 5000 (C6 p) ?_;apply kI hS h<;>intro h
 .obtain rfl:=C0 h;exact A8 hS T3 ⟨[(7,pB false),(6,.p (vSl 2 A0 (Sl.nil:Sl To)))],[(9902,.rows M.n fun i=>Kt (M.g i)),(1,.fam C8 M.n 9902 none),(0,.cells [.vec 1])]⟩ [0,1,9902] (ids:=[(0,0),(1,1),(9902,2)]) ⟨rfl,rfl,rfl⟩
 obtain⟨c1,h⟩:=C7 h;obtain⟨c2,h⟩:=C7 h;refine AY0 hS T3 (.take 1 leaf.toNat 9801) (⟨⟨by decide,rfl⟩,c1⟩:(1000<=9801/\M.n=M.n)/\leaf.toNat<M.n) ?_;obtain⟨k,e1,h⟩:=B1 h;refine Y6 hS T3 [(0,.l [0]),(2,.l [1]),(3,.l [1]),(5,.n),(6,.n),(7,.l [9801]),(11,.a [9000]),(12,.a [9000])] ?_;refine F8 (And.intro c2 (And.intro c1 (rfl:leaf.toNat=leaf.toNat))) (SX hS hL e1) ?_;rcases o1:DW eqS k (M.g leaf.toNat)with _|v1
 .replace h:=optN o1 h;refine AX5 T3 (kt:=EB) (e:=Ee) (key:=PV.str k) (es:=UM PV.str (fun x=>.agg (C6 x)) (M.g leaf.toNat)) (x:=.agg [.v (.bool false),G6]) (b:=false) (fd:=none) ((FT (kP:=PV.str) (vP:=fun x=>.agg (C6 x)) (eq:=eqS) (fun _ _=>by kernel_rfl) k (M.g leaf.toNat)).trans (by rw[o1];rfl)) T3 ?_;refine D9 T3 ?_;refine D1 hS T3 (b:=true) (fun c=>?_) (fun c=>Bool.noConfusion ((rfl:true=true).symm.trans c));obtain⟨c3,h⟩:=C7 h;obtain⟨w,e2,h⟩:=B1 h;refine C5 hS T3 [0,2,3,5,6] ?_;refine F8 c3 (KS hS hL e2) ?_;refine D9 T3 ?_;refine Y6 hS T3 [(0,.l [0]),(2,.l [1]),(3,.l [1]),(5,.n),(6,.n),(7,.l [9000])] ?_;refine F8 (And.intro c2 (And.intro c1 (rfl:leaf.toNat=leaf.toNat))) (SX hS hL e1) ?_;refine BF0 T3 (kt:=EB) (key:=PV.str k) (y:=(fun x=>.agg (C6 x)) (⟨w.2==0,w.1⟩:E6)) (es:=UM PV.str (fun x=>.agg (C6 x)) (M.g leaf.toNat)) (Pv (kP:=PV.str) (vP:=fun x=>.agg (C6 x)) (eq:=eqS) (fun _ _=>by kernel_rfl) k (⟨w.2==0,w.1⟩:E6) (M.g leaf.toNat)) T3 ?_;refine D9 T3 ?_;obtain rfl:=C0 h;refine AY0 hS T3 (.put 1 9902) (⟨⟨by decide,rfl⟩,c1⟩:(1000<=9902/\M.n=M.n)/\leaf.toNat<M.n) ?_;refine Ec hS T3 ?_;refine D9 T3 ?_;exact A8 hS T3 ⟨[(7,pB (w.2==0)),(6,.p (vSl 2 A0 w.1))],[(9902,.rows M.n fun i=>Kt ((M.upd leaf.toNat (Rk eqS k (⟨w.2==0,w.1⟩:E6) (M.g leaf.toNat))).g i)),(1,.fam C8 M.n 9902 none),(0,.cells [.vec 1])]⟩ [0,1,9902] (ids:=[(0,0),(1,1),(9902,9902)]) ⟨rfl,rfl,rfl⟩ (hle:=klR [(3,.ob M.n (fun q=>if q=leaf.toNat then Kt (Rk eqS k (⟨w.2==0,w.1⟩:E6) (M.g leaf.toNat))else if q=leaf.toNat then .dead else Kt (M.g q)) fun i=>Kt ((M.upd leaf.toNat (Rk eqS k (⟨w.2==0,w.1⟩:E6) (M.g leaf.toNat))).g i))] (al1 Ci3 al0))
 replace h:=optS o1 h;refine AX5 T3 (kt:=EB) (e:=Ee) (key:=PV.str k) (es:=UM PV.str (fun x=>.agg (C6 x)) (M.g leaf.toNat)) (x:=.agg (C6 v1)) (b:=true) (fd:=some (.agg (C6 v1))) ((FT (kP:=PV.str) (vP:=fun x=>.agg (C6 x)) (eq:=eqS) (fun _ _=>by kernel_rfl) k (M.g leaf.toNat)).trans (by rw[o1];rfl)) T3 ?_;refine D9 T3 ?_;obtain rfl:=C0 h;refine D1 hS T3 (b:=false) (fun c=>Bool.noConfusion ((rfl:false=false).symm.trans c)) (fun c=>?_);refine AY0 hS T3 (.put 1 9902) (⟨⟨by decide,rfl⟩,c1⟩:(1000<=9902/\M.n=M.n)/\leaf.toNat<M.n) ?_;refine Ec hS T3 ?_;refine D9 T3 ?_;exact A8 hS T3 ⟨[(7,pB v1.Has),(6,.p (vSl 2 A0 v1.W))],[(9902,.rows M.n fun i=>Kt (M.g i)),(1,.fam C8 M.n 9902 none),(0,.cells [.vec 1])]⟩ [0,1,9902] (ids:=[(0,0),(1,1),(9902,9902)]) ⟨rfl,rfl,rfl⟩ (hle:=klR [(3,.ob M.n (fun q=>if q=leaf.toNat then Kt (M.g leaf.toNat)else if q=leaf.toNat then .dead else Kt (M.g q)) fun i=>Kt (M.g i))] (al1 (Ci2 (g:=fun i=>Kt (M.g i))) al0))
def M8 (N:Nat)(a:A5)(b:Int):Option (Sl (Sl Law)):= (U1 N a.Tree).bind fun l=>if ((0:Int)<=(l.1.n:Int)/\(l.1.n:Int)<=(l.1.n:Int)/\(l.1.n:Int)*24<=140737488355328/\(l.1.n:Int)<=140737488355328)then if ((0:Int)<=(l.1.n:Int)/\(l.1.n:Int)<=(l.1.n:Int)/\(l.1.n:Int)*8<=140737488355328/\(l.1.n:Int)<=140737488355328)then Zb N (fun f (K:Nat) (X:Sl (Sl Law)) (x:Int)=>if (decide (x<(l.1.n:Int))) then if (((0:Int)<=x/\x<(l.1.n:Int))/\x.toNat<l.1.n)then (Gi N a.Tree (l.1.g x.toNat)).bind fun w=>P9 N (fun d (X:Sl (Sl Law)) (y:Int)=>if (decide (y<(w.1.n:Int))) then if ((((0:Int)<=y/\y<(w.1.n:Int))/\y.toNat<w.1.n)/\((0:Int)<=(w.1.g y.toNat)/\(w.1.g y.toNat)<(a.On.n:Int)))then P9 N (fun c (X:Sl (Sl Law)) (z:Int)=>if (decide (z<((a.On.g (w.1.g y.toNat).toNat).n:Int))) then if ((0:Int)<=z/\z<((a.On.g (w.1.g y.toNat).toNat).n:Int))then if (((a.On.g (w.1.g y.toNat).toNat).g z.toNat) != b) then if x.toNat<X.n then if (((0:Int)<=x/\x<(X.n:Int))/\((0:Int)<=((a.On.g (w.1.g y.toNat).toNat).g z.toNat)/\((a.On.g (w.1.g y.toNat).toNat).g z.toNat)<(a.Laws.n:Int)))then if (((X.g x.toNat).n+1)*200<=140737488355328/\(X.g x.toNat).n+1<=140737488355328)then c (X.upd x.toNat ((X.g x.toNat).push (a.Laws.g ((a.On.g (w.1.g y.toNat).toNat).g z.toNat).toNat))) (wrap .i64 (z+1)) else none else none else none else c X (wrap .i64 (z+1)) else none else d X (wrap .i64 (y+1))) X 0 else none else if x.toNat=K/\K<l.1.n then f (K+1) X (wrap .i64 (x+1))else none) X 0 else none else if K=l.1.n/\X.n=l.1.n then some X else none) 0 ⟨l.1.n,fun _=>Sl.nil⟩ 0 else none else none
theorem CM {N:Nat}{f:A5}{d:Int}{y:Sl (Sl Law)}(h:M8 N f d=some y) :FunO S Jx [.p (.agg (A4 f)),pN d] [] (.clo E5 [] [.reg 0 0,.p (.ptr [vSl 1 (cL 18 B2) y])]) (BW7 ⟨y.n,fun _=>[]⟩) []:=by
 unfold M8 at h;refine A1 hS Tryz.func49 ?_;refine D8 hS T3 18 3000 (A4 f) ?_;obtain⟨l,e1,h⟩:=B1 h;refine B6 hS [] T3 (Fw hS hL e1) ?_;obtain⟨c1,h⟩:=C7 h;refine Nd hS c1 26 (.fam 26000 9901 fun i=>Tw H7 18 B2 ((⟨l.1.n,fun _=>Sl.nil⟩:Sl (Sl Law)).g i)) (⟨by decide,fun i _=>rfl⟩:1000<=9901/\∀i,i<l.1.n->Aw8 [G6] (Tw H7 18 B2 ((⟨l.1.n,fun _=>Sl.nil⟩:Sl (Sl Law)).g i))) ?_;obtain⟨c2,h⟩:=C7 h;refine Nd hS c2 29 (.fam 29000 9951 fun i=>knO 0 i) (⟨by decide,fun i _=>⟨rfl,rfl⟩⟩:1000<=9951/\∀i,i<l.1.n->Aw8 [.v (.map none)] (knO 0 i)) ?_;refine Cv hS T3 h (fun K X x=>⟨[(31,pN x),(30,pN (l.1.n:Int)),(29,.vec 21000),(8,.reg 9000 0),(7,.reg 8000 0),(2,.p (.ptr (A4 f))),(1,pN d)],
  [(29000,.fam C8 l.1.n 9951 none),(26000,.fam GO X.n 9901 none),(21000,.vec B8 1 l.1.n (fun i=>cI .i64 (l.1.g i)) true),(9951,.rows l.1.n fun i=>knO K i),(9901,.rows X.n fun i=>Tw H7 18 B2 (X.g i)),(9000,.cells [.vec 29000]),(8000,.cells [.vec 26000])]⟩) (ids:=[(29000,29000),(26000,26000),(21000,21000),(9951,9951),(9901,9901),(9000,9000),(8000,8000)]) (fun _ _ _ _ _ t K X x m h=>?_)
 apply kI hS h<;>intro h
 .obtain⟨c3,h⟩:=C7 h;obtain⟨w,e2,h⟩:=B1 h;refine B6 hS [] c3 (AQ3 hS hL e2) ?_;refine D7 hS T3 h (fun X u=>⟨[(45,pN u),(44,pN (w.1.n:Int)),(43,.vec 41000),(31,pN x),(30,pN (l.1.n:Int)),(29,.vec 21000),(9,pN x),(8,.reg 9000 0),(7,.reg 8000 0),(2,.p (.ptr (A4 f))),(1,pN d)],[(41000,.vec B8 1 w.1.n (fun i=>cI .i64 (w.1.g i)) true),(29000,.fam C8 l.1.n 9951 none),(26000,.fam GO X.n 9901 none),(21000,.vec B8 1 l.1.n (fun i=>cI .i64 (l.1.g i)) true),(9951,.rows l.1.n fun i=>knO K i),(9901,.rows X.n fun i=>Tw H7 18 B2 (X.g i)),(9000,.cells [.vec 29000]),(8000,.cells [.vec 26000])]⟩) (ids:=[(41000,41000),(29000,29000),(26000,26000),(21000,21000),(9951,9951),(9901,9901),(9000,9000),(8000,8000)]) (fun _ _ _ _ _ o X u r h=>?_);apply kI hS h<;>intro h
  .obtain⟨c4,h⟩:=C7 h;refine D7 hS c4 h (fun X z=>⟨[(55,pN z),(54,pN ((f.On.g (w.1.g u.toNat).toNat).n:Int)),(53,.p (vSl 1 (cI .i64) (f.On.g (w.1.g u.toNat).toNat))),(45,pN u),(44,pN (w.1.n:Int)),(43,.vec 41000),(31,pN x),(30,pN (l.1.n:Int)),(29,.vec 21000),(9,pN x),(8,.reg 9000 0),(7,.reg 8000 0),(2,.p (.ptr (A4 f))),(1,pN d)],[(41000,.vec B8 1 w.1.n (fun i=>cI .i64 (w.1.g i)) true),(29000,.fam C8 l.1.n 9951 none),(26000,.fam GO X.n 9901 none),(21000,.vec B8 1 l.1.n (fun i=>cI .i64 (l.1.g i)) true),(9951,.rows l.1.n fun i=>knO K i),(9901,.rows X.n fun i=>Tw H7 18 B2 (X.g i)),(9000,.cells [.vec 29000]),(8000,.cells [.vec 26000])]⟩) (ids:=[(41000,41000),(29000,29000),(26000,26000),(21000,21000),(9951,9951),(9901,9901),(9000,9000),(8000,8000)]) (fun _ _ _ _ _ s X z j h=>?_);apply kI hS h<;>intro h
   .obtain⟨c5,h⟩:=C7 h;refine D1 hS c5 (b:=((f.On.g (w.1.g u.toNat).toNat).g z.toNat) != d) (fun c6=>?_) (fun c6=>?_)
    .replace h:=itT c6 h;obtain⟨c7,h⟩:=C7 h;obtain⟨c8,h⟩:=C7 h;obtain⟨c9,h⟩:=C7 h;refine AY0 hS T3 (.take 26000 x.toNat 9801) (⟨⟨by decide,rfl⟩,c7⟩:(1000<=9801/\X.n=X.n)/\x.toNat<X.n) ?_;refine Y6 hS T3 [(0,.l [8000]),(2,.l [8000]),(4,.l [26000]),(5,.l [26000]),(6,.n),(7,.n),(9,.n),(10,.n),(12,.a [75000,9801]),(13,.l [26000]),(14,.a [26000])] ?_;refine Aj (And.intro (And.intro (And.intro c8.1 (And.intro c7 (rfl:x.toNat=x.toNat))) c8.2) (by decide:(18:Nat)<=18)) (x:=.sl true 18 1 (D0 [.str [],pI .i64 0,pI .u32 0,pI .u32 0,.v (.bool false),pI .i64 0,pI .i64 0,G6,pI .i64 0,pI .u32 0,pI .u32 0,.v (.bool false),pI .i64 0,pI .i64 0,G6,G6,G6,pI .i64 0] [(0,B2 (f.Laws.g ((f.On.g (w.1.g u.toNat).toNat).g z.toNat).toNat))])) ?_;refine D9 (And.intro (And.intro c9 c8.1) (And.intro c7 (rfl:x.toNat=x.toNat))) ?_;refine G9 hS T3 76 ⟨[(55,pN z),(54,pN ((f.On.g (w.1.g u.toNat).toNat).n:Int)),(53,.p (vSl 1 (cI .i64) (f.On.g (w.1.g u.toNat).toNat))),(45,pN u),(44,pN (w.1.n:Int)),(43,.vec 41000),(31,pN x),(30,pN (l.1.n:Int)),(29,.vec 21000),(9,pN x),(8,.reg 9000 0),(7,.reg 8000 0),(2,.p (.ptr (A4 f))),(1,pN d)],[(75000,Tw H7 18 B2 ((X.g x.toNat).push (f.Laws.g ((f.On.g (w.1.g u.toNat).toNat).g z.toNat).toNat))),(41000,.vec B8 1 w.1.n (fun i=>cI .i64 (w.1.g i)) true),(29000,.fam C8 l.1.n 9951 none),(26000,.fam GO X.n 9901 (some (x.toNat,.vec 75000))),(21000,.vec B8 1 l.1.n (fun i=>cI .i64 (l.1.g i)) true),(9951,.rows l.1.n fun i=>knO K i),(9901,(.rows X.n fun q=>if q=x.toNat then .dead else Tw H7 18 B2 (X.g q))),(9000,.cells [.vec 29000]),(8000,.cells [.vec 26000])]⟩ (ids:=[(75000,75000),(41000,41000),(29000,29000),(26000,26000),(21000,21000),(9951,9951),(9901,9901),(9000,9000),(8000,8000)]) ?_ (hle:=klR [(10,.fn ((X.g x.toNat).n+1) ((X.g x.toNat).push (f.Laws.g ((f.On.g (w.1.g u.toNat).toNat).g z.toNat).toNat)).n (I4 (X.g x.toNat).n (fun i=>B2 ((X.g x.toNat).g i)) (D0 [.str [],pI .i64 0,pI .u32 0,pI .u32 0,.v (.bool false),pI .i64 0,pI .i64 0,G6,pI .i64 0,pI .u32 0,pI .u32 0,.v (.bool false),pI .i64 0,pI .i64 0,G6,G6,G6,pI .i64 0] [(0,B2 (f.Laws.g ((f.On.g (w.1.g u.toNat).toNat).g z.toNat).toNat))])) (fun i=>B2 (((X.g x.toNat).push (f.Laws.g ((f.On.g (w.1.g u.toNat).toNat).g z.toNat).toNat)).g i)))] (al1 ⟨rfl,W3 (c:=B2) (v:=X.g x.toNat) (x:=f.Laws.g ((f.On.g (w.1.g u.toNat).toNat).g z.toNat).toNat) (z:=[(.str []),pI .i64 0,pI .u32 0,pI .u32 0,.v (.bool false),pI .i64 0,pI .i64 0,G6,pI .i64 0,pI .u32 0,pI .u32 0,.v (.bool false),pI .i64 0,pI .i64 0,G6,G6,G6,pI .i64 0]) same rfl rfl⟩ al0));refine Nd hS T3 76 (.put 26000 9902) (⟨⟨by decide,rfl⟩,c7⟩:(1000<=9902/\X.n=X.n)/\x.toNat<X.n) ?_;exact j _ [(41000,41000),(29000,29000),(26000,26000),(21000,21000),(9951,9951),(9901,9902),(9000,9000),(8000,8000)] _ (X.upd x.toNat ((X.g x.toNat).push (f.Laws.g ((f.On.g (w.1.g u.toNat).toNat).g z.toNat).toNat))) (wrap .i64 (z+1)) T3 h (hle:=klR [(17,.ob X.n (fun q=>if q=x.toNat then Tw H7 18 B2 ((X.g x.toNat).push (f.Laws.g ((f.On.g (w.1.g u.toNat).toNat).g z.toNat).toNat))else if q=x.toNat then .dead else Tw H7 18 B2 (X.g q)) fun i=>Tw H7 18 B2 ((X.upd x.toNat ((X.g x.toNat).push (f.Laws.g ((f.On.g (w.1.g u.toNat).toNat).g z.toNat).toNat))).g i))] (al1 Ci1 al0))
    replace h:=itF c6 h;exact j _ [(41000,41000),(29000,29000),(26000,26000),(21000,21000),(9951,9951),(9901,9901),(9000,9000),(8000,8000)] _ X (wrap .i64 (z+1)) T3 h
   exact r _ [(41000,41000),(29000,29000),(26000,26000),(21000,21000),(9951,9951),(9901,9901),(9000,9000),(8000,8000)] _ X (wrap .i64 (u+1)) T3 h
  obtain⟨c4,h⟩:=C7 h;refine Nd hS T3 78 (.over 29000 x.toNat) (⟨rfl,by omega⟩:l.1.n=l.1.n/\x.toNat<l.1.n) ?_;refine Nd hS (And.intro c3.1 (And.intro c3.2 (rfl:x.toNat=x.toNat))) 82 (.put 29000 9952) (⟨⟨by decide,rfl⟩,c3.2⟩:(1000<=9952/\l.1.n=l.1.n)/\x.toNat<l.1.n) ?_;exact m _ [(29000,29000),(26000,26000),(21000,21000),(9951,9952),(9901,9901),(9000,9000),(8000,8000)] _ (K+1) X (wrap .i64 (x+1)) T3 h (hle:=klR [(8,.ob l.1.n (fun q=>if q=x.toNat then .map []else if q=x.toNat then .dead else knO K q) fun i=>knO (K+1) i)] (al1 (obKn c4.1) al0))
 obtain⟨c3,h⟩:=C7 h;obtain rfl:=C0 h;refine Nd hS T3 83 (.pub 26000) (⟨rfl,fun i _=>rfl⟩:X.n=X.n/\∀i,i<X.n->(Bc7 (Tw H7 18 B2 (X.g i))).isSome=true) ?_;refine G9 hS T3 83 ⟨[(8,.reg 9000 0),(7,.reg 8000 0)],[(29000,.fam C8 X.n 9951 none),(9951,.rows X.n fun i=>Kt []),(9000,.cells [.vec 29000]),(8000,.cells [.p (vSl 1 (cL 18 B2) X)])]⟩ (ids:=[(29000,29000),(9951,9951),(9000,9000),(8000,8000)]) ?_ (hle:=klR [(0,.nt l.1.n X.n),(1,.nt l.1.n X.n),(2,.ob X.n (fun i=>knO K i) (fun i=>Kt [])),(3,.fn X.n X.n (fun i=>[(Bc7 (Tw H7 18 B2 (X.g i))).getD default]) (fun i=>cL 18 B2 (X.g i)))] (al1 c3.2.symm (al1 c3.2.symm (al1 (fun i hi=>Il (by omega)) (al1 ⟨rfl,fun _ _=>rfl⟩ al0)))));refine D8 hS T3 83 8000 [vSl 1 (cL 18 B2) X] ?_;exact A8 hS T3 ⟨[(4,.clo E5 [] [.reg 9000 0,.p (.ptr [vSl 1 (cL 18 B2) X])])],[(29000,.fam C8 X.n 9951 none),(9951,.rows X.n fun i=>Kt []),(9000,.cells [.vec 29000])]⟩ [9000,29000,9951] (ids:=[(29000,29000),(9951,9951),(9000,9000)]) ⟨rfl,rfl,rfl⟩
end Go.AM
namespace Go.AM
variable {N:Nat}
open IntKind (wrap)
open Go.Proofs
set_option maxRecDepth 10000
set_option maxHeartbeats 2000000
variable {S:W1}(hS:H9 S Tryz.prog) (hL:GD S)
include hS hL
def G2 (N:Nat)(d:A5)(b:Sl E6)(f:Sl Entry)(a:Int):Option ((Sl A3)×Int):= (N8 N d b f).bind fun y1=>if (y1 != 0) then some ((Sl.nil:Sl A3),y1) else if ((decide (a<0))||(decide (1073741824<a))) then some ((Sl.nil:Sl A3),2) else (M8 N d (-1)).bind fun y2=>(P7 N f).bind fun y3=>(F2 N y3).bind fun L1=>Q5 L1 (fun c (x1:Bd×(Sl To)) (z1:(Sl (List (Str×E6)))×(Sl A3))=>if ((0:Int)<=x1.1.entry/\x1.1.entry<(b.n:Int))then (E7 N (b.g x1.1.entry.toNat) x1.1.leaf z1.1 y2).bind fun y8=>if (!y8.2.1) then if ((z1.2.n+(Sl.of [(⟨x1.1.entry,x1.1.leaf,2,a⟩:A3)]:Sl A3).n)*32<=140737488355328/\z1.2.n+(Sl.of [(⟨x1.1.entry,x1.1.leaf,2,a⟩:A3)]:Sl A3).n<=140737488355328)then c (y8.2.2,z1.2.push (⟨x1.1.entry,x1.1.leaf,2,a⟩:A3)) else none else (N2 N y8.1 x1.2).bind fun y9=>if (!y9) then if ((z1.2.n+(Sl.of [(⟨x1.1.entry,x1.1.leaf,1,a⟩:A3)]:Sl A3).n)*32<=140737488355328/\z1.2.n+(Sl.of [(⟨x1.1.entry,x1.1.leaf,1,a⟩:A3)]:Sl A3).n<=140737488355328)then c (y8.2.2,z1.2.push (⟨x1.1.entry,x1.1.leaf,1,a⟩:A3)) else none else c (y8.2.2,z1.2) else none) (fun (z1:(Sl (List (Str×E6)))×(Sl A3))=>some (z1.2,0)) ((⟨y2.n,fun _=>[]⟩:Sl (List (Str×E6))),(Sl.nil:Sl A3))
theorem U6 {f:A5}{d:Sl E6}{l:Sl Entry}{b:Int}{y:(Sl A3)×Int}(h:G2 N f d l b=some y) :FunO S SK [.p (.agg (A4 f)),.p (vSl 2 C6 d),.p (vSl 2 B7 l),pN b] [] (.tup [.vec 0,pN y.2]) ([.vec B5 4 y.1.n (fun i=>A9 (y.1.g i)) false]) []:=by
 unfold G2 at h;refine A1 hS Tryz.func17 ?_;refine D8 hS T3 5 5000 (A4 f) ?_;refine D8 hS T3 7 6000 [vSl 2 C6 d] ?_;refine D8 hS T3 8 8000 [pI .i64 b] ?_;obtain⟨y1,e1,h⟩:=B1 h;refine B6 hS [] (by decide:(3:Nat)<=3) (AS hS hL e1) ?_;apply kI hS h<;>intro h
 .obtain rfl:=C0 h;exact A8 hS T3 ⟨[(9,pN y1),(8,.vec 9700)],[(9700,.vec B5 4 (Sl.nil:Sl A3).n (fun i=>A9 ((Sl.nil:Sl A3).g i)) false)]⟩ [9700] (ids:=[]) ⟨rfl,rfl,rfl⟩
 refine kB hS (A2 hS) T3 T3 3 (.o (.a (decide (b<0))) (.a (decide (1073741824<b)))) ?_;apply kI hS h<;>intro h
 .obtain rfl:=C0 h;exact A8 hS T3 ⟨[(9,pN 2),(8,.vec 9700)],[(9700,.vec B5 4 (Sl.nil:Sl A3).n (fun i=>A9 ((Sl.nil:Sl A3).g i)) false)]⟩ [9700] (ids:=[]) ⟨rfl,rfl,rfl⟩
 obtain⟨y2,e2,h⟩:=B1 h;refine B6 hS [] (by decide:(3:Nat)<=3) (CM hS hL e2) ?_;refine kC hS h (BW hS hL) (fun y3 h=>?_);obtain⟨L1,e4,h⟩:=B1 h;refine Hj hS T3 [34000] [12,11,7,5] 901 (fun z1=>⟨[(12,.reg 13000 0),(11,.reg 12000 0),(7,.p (.ptr [pI .i64 b])),(5,.p (.ptr [vSl 2 C6 d]))],[(32001,.fam C8 z1.1.n 12500 none),(32000,.cells [.vec 32001]),(13500,.vec B5 4 z1.2.n (fun i=>A9 (z1.2.g i)) false),(13000,.cells [.vec 13500]),(12500,.rows z1.1.n fun i=>Kt (z1.1.g i)),(12000,.cells [.clo E5 [] [.reg 32000 0,.p (.ptr [vSl 1 (cL 18 B2) y2])]])]⟩) (idl:=[(12000,12000),(12500,32002),(13000,13000),(32000,32000),(32001,32001)]) h (Ao hS hL e4) (fun _=>by kernel_rfl) (fun _=>by kernel_rfl) (fun _=>by kernel_rfl) (fun _=>by kernel_rfl) (fun x1 _ m z1 j h=>?_) (fun z1 h=>?_)
 .refine D8 hS T3 14 14000 [pI .i64 x1.1.entry,pI .i64 x1.1.leaf] ?_;refine OC hS T3 ?_;refine C5 hS T3 [1,3,4,5,7] ?_;obtain⟨c9,h⟩:=C7 h;obtain⟨y8,e9,h⟩:=B1 h;refine Ac [32000,32001,12500] (And.intro c9 (by decide:(2:Nat)<=2)) (Bb hS hL e9) ?_;refine D9 T3 ?_;apply kI hS h<;>intro h
  .obtain⟨c11,h⟩:=C7 h;exact j _ [(901,901),(12000,12000),(12500,46002),(13000,13000),(13500,60000),(32000,32000),(32001,32001)] _ (y8.2.2,z1.2.push (⟨x1.1.entry,x1.1.leaf,2,b⟩:A3)) (And.intro (rfl:true=true) c11) h (hle:=klR [(1,.fn (z1.2.n+1) (z1.2.push (⟨x1.1.entry,x1.1.leaf,2,b⟩:A3)).n (I4 z1.2.n (fun i=>A9 (z1.2.g i)) (D0 [pI .i64 0,pI .i64 0,pI .i64 0,pI .i64 0] [(0,A9 (⟨x1.1.entry,x1.1.leaf,2,b⟩:A3))])) (fun i=>A9 ((z1.2.push (⟨x1.1.entry,x1.1.leaf,2,b⟩:A3)).g i)))] (al1 ⟨rfl,W3 (c:=A9) (v:=z1.2) (x:=(⟨x1.1.entry,x1.1.leaf,2,b⟩:A3)) (z:=[(pI .i64 0),pI .i64 0,pI .i64 0,pI .i64 0]) same rfl rfl⟩ al0))
  refine kC hS h (EN hS hL) (fun y9 h=>?_);apply kI hS h<;>intro h
  .obtain⟨c13,h⟩:=C7 h;exact j _ [(901,901),(12000,12000),(12500,46002),(13000,13000),(13500,74000),(32000,32000),(32001,32001)] _ (y8.2.2,z1.2.push (⟨x1.1.entry,x1.1.leaf,1,b⟩:A3)) (And.intro (rfl:true=true) c13) h (hle:=klR [(1,.fn (z1.2.n+1) (z1.2.push (⟨x1.1.entry,x1.1.leaf,1,b⟩:A3)).n (I4 z1.2.n (fun i=>A9 (z1.2.g i)) (D0 [pI .i64 0,pI .i64 0,pI .i64 0,pI .i64 0] [(0,A9 (⟨x1.1.entry,x1.1.leaf,1,b⟩:A3))])) (fun i=>A9 ((z1.2.push (⟨x1.1.entry,x1.1.leaf,1,b⟩:A3)).g i)))] (al1 ⟨rfl,W3 (c:=A9) (v:=z1.2) (x:=(⟨x1.1.entry,x1.1.leaf,1,b⟩:A3)) (z:=[(pI .i64 0),pI .i64 0,pI .i64 0,pI .i64 0]) same rfl rfl⟩ al0))
  exact j _ [(901,901),(12000,12000),(12500,46002),(13000,13000),(13500,13500),(32000,32000),(32001,32001)] _ (y8.2.2,z1.2) T3 h
 obtain rfl:=C0 h;exact A8 hS T3 ⟨[(9,pN 0),(8,.vec 13500)],[(13500,.vec B5 4 z1.2.n (fun i=>A9 (z1.2.g i)) false)]⟩ [13500] (ids:=[(13500,13500)]) ⟨rfl,rfl,rfl⟩
def O3 (N:Nat)(f:A5)(a:Sl E6)(d:Sl Entry):Option (VK×Int):= (G2 N f a d 0).bind fun y1=>if (y1.2 != 0) then some ((⟨0,0⟩:VK),y1.2) else (P7 N d).bind fun y2=>(F2 N y2).bind fun L1=>Q5 L1 (fun b (x1:Bd×(Sl To)) (z1:Int)=>b (wrap .i64 (z1+1))) (fun (z1:Int)=>if (z1==0) then some ((⟨0,1⟩:VK),0) else P9 N (fun c (x3:Int) (x4:Int)=>if (x4 != 0) then if x4≠0 then c x4 (x3.tmod x4) else none else if (x3≠0/\x3≠0)then some ((⟨wrap .i64 ((wrap .i64 (z1-(y1.1.n:Int))).tdiv x3),wrap .i64 (z1.tdiv x3)⟩:VK),0) else none) z1 (wrap .i64 (z1-(y1.1.n:Int)))) 0
theorem Jj {b:A5}{a:Sl E6}{c:Sl Entry}{y:VK×Int}(h:O3 N b a c=some y) :FunO S PA [.p (.agg (A4 b)),.p (vSl 2 C6 a),.p (vSl 2 B7 c)] [] (.tup [.p (.agg (BN6 y.1)),pN y.2]) ([]) []:=by
 unfold O3 at h;refine A1 hS Tryz.func19 ?_;refine D8 hS T3 6 4000 (A4 b) ?_;obtain⟨y1,e1,h⟩:=B1 h;refine B6 hS [] (by decide:(3:Nat)<=3) (U6 hS hL e1) ?_;apply kI hS h<;>intro h
 .cases h;exact kR hS
 refine kC hS h (BW hS hL) (fun y2 h=>?_);obtain⟨L1,e3,h⟩:=B1 h;refine Hj hS T3 [27000] [10,8,6] 901 (fun z1=>⟨[(10,.reg 11000 0),(8,.vec 19000),(6,.reg 7000 0)],[(19000,.vec B5 4 y1.1.n (fun i=>A9 (y1.1.g i)) false),(11000,.cells [pN z1]),(7000,.cells [pN 0,pN 0])]⟩) (idl:=[(7000,7000),(11000,11000),(19000,19000)]) h (Ao hS hL e3) (fun _=>by kernel_rfl) (fun _=>by kernel_rfl) (fun _=>by kernel_rfl) (fun _=>by kernel_rfl) (fun x1 _ d z1 f h=>?_) (fun z1 h=>?_)
 .refine OC hS T3 ?_;exact f _ [(901,901),(7000,7000),(11000,11000),(19000,19000)] _ (wrap .i64 (z1+1)) T3 h
 apply kI hS h<;>intro h
 .cases h;exact kR hS
 refine D7 hS T3 h (fun x3 x4=>⟨[(13,pN x4),(12,pN x3),(11,pN (wrap .i64 (z1-(y1.1.n:Int)))),(10,.reg 11000 0),(6,.reg 7000 0)],[(11000,.cells [pN z1]),(7000,.cells [pN 0,pN 0])]⟩) (ids:=[(7000,7000),(11000,11000)]) (fun _ _ _ _ _ j x3 x4 l h=>?_);apply kI hS h<;>intro h
 .refine Ec hS T3 ?_;obtain⟨c8,h⟩:=C7 h;refine D9 c8 ?_;exact l _ [(7000,7000),(11000,11000)] _ x4 (x3.tmod x4) T3 h
 refine Ec hS T3 ?_;obtain⟨c9,h⟩:=C7 h;refine D9 c9 ?_;cases h;exact kR hS
def L0 (N:Nat)(d:A5)(a:Sl E6)(o:Sl Entry):Option ((Sl Int)×Int):= (N8 N d a o).bind fun y1=>if (y1 != 0) then some ((Sl.nil:Sl Int),y1) else (M8 N d (-1)).bind fun y2=>if ((0:Int)<=(d.Laws.n:Int)/\(d.Laws.n:Int)<=(d.Laws.n:Int)/\(d.Laws.n:Int)*8<=140737488355328/\(d.Laws.n:Int)<=140737488355328)then Zb N (fun m (s:Sl (List (Str×E6))) (q:Sl Int) (c:Int)=>if (decide (c<(d.Laws.n:Int))) then (M8 N d c).bind fun r=>(P7 N o).bind fun t=>(F2 N t).bind fun L3=>Q5 L3 (fun i (f:Bd×(Sl To)) (b:(Sl (List (Str×E6)))×(Sl Int)×(Sl (List (Str×E6))))=>if ((0:Int)<=f.1.entry/\f.1.entry<(a.n:Int))then (E7 N (a.g f.1.entry.toNat) f.1.leaf b.1 y2).bind fun j=>lt (fun (u:Bool)=>if u then i (j.2.2,b.2.1,b.2.2) else if ((0:Int)<=f.1.entry/\f.1.entry<(a.n:Int))then (E7 N (a.g f.1.entry.toNat) f.1.leaf b.2.2 r).bind fun l=>lt (fun (v:Bool)=>if v then if (((((0:Int)<=c/\c<(b.2.1.n:Int))/\c.toNat<b.2.1.n)/\((0:Int)<=c/\c<(b.2.1.n:Int)))/\c.toNat<b.2.1.n)then i (j.2.2,b.2.1.upd c.toNat (wrap .i64 ((b.2.1.g c.toNat)+1)),l.2.2) else none else i (j.2.2,b.2.1,l.2.2)) fun k18=>if (!l.2.1) then k18 true else (N2 N l.1 f.2).bind fun w=>k18 (!w) else none) fun k17=>if (!j.2.1) then k17 true else (N2 N j.1 f.2).bind fun x=>k17 (!x) else none) (fun (b:(Sl (List (Str×E6)))×(Sl Int)×(Sl (List (Str×E6))))=>m b.1 b.2.1 (wrap .i64 (c+1))) (s,q,(⟨r.n,fun _=>[]⟩:Sl (List (Str×E6)))) else some (q,0)) (⟨y2.n,fun _=>[]⟩:Sl (List (Str×E6))) (Sl.rep (d.Laws.n:Int).toNat 0:Sl Int) 0 else none
theorem Hr {f:A5}{b:Sl E6}{m:Sl Entry}{y:(Sl Int)×Int}(h:L0 N f b m=some y) :FunO S Ng [.p (.agg (A4 f)),.p (vSl 2 C6 b),.p (vSl 2 B7 m)] [] (.tup [.vec 0,pN y.2]) ([.vec B8 1 y.1.n (fun i=>cI .i64 (y.1.g i)) true]) []:=by
 unfold L0 at h;refine A1 hS Tryz.func24 ?_;refine D8 hS T3 4 4000 (A4 f) ?_;refine D8 hS T3 6 5000 [vSl 2 C6 b] ?_;obtain⟨y1,e1,h⟩:=B1 h;refine B6 hS [] (by decide:(3:Nat)<=3) (AS hS hL e1) ?_;apply kI hS h<;>intro h
 .obtain rfl:=C0 h;exact A8 hS T3 ⟨[(7,pN y1),(6,.vec 7700)],[(7700,.vec B8 1 (Sl.nil:Sl Int).n (fun i=>cI .i64 ((Sl.nil:Sl Int).g i)) true)]⟩ [7700] (ids:=[]) ⟨rfl,rfl,rfl⟩
 obtain⟨y2,e2,h⟩:=B1 h;refine B6 hS [] (by decide:(3:Nat)<=3) (CM hS hL e2) ?_;obtain⟨c2,h⟩:=C7 h;refine Cv hS c2 h (fun t o d=>⟨[(35,pN d),(34,pN (f.Laws.n:Int)),(10,.reg 11000 0),(9,.reg 10000 0),(4,.p (.ptr [vSl 2 C6 b])),(3,.p (.ptr (A4 f))),(2,.p (vSl 2 B7 m))],[(32000,.vec B8 1 o.n (fun i=>cI .i64 (o.g i)) false),(28001,.fam C8 t.n 10501 none),(28000,.cells [.vec 28001]),(11000,.cells [.vec 32000]),(10501,.rows t.n fun i=>Kt (t.g i)),(10000,.cells [.clo E5 [] [.reg 28000 0,.p (.ptr [vSl 1 (cL 18 B2) y2])]])]⟩) (ids:=[(10000,10000),(10501,28002),(11000,11000),(28000,28000),(28001,28001),(32000,32000)]) (fun _ _ _ _ _ a3 t o d a0 h=>?_);apply kI hS h<;>intro h
 .refine D8 hS T3 38 12000 [pI .i64 d] ?_;obtain⟨z,e45,h⟩:=B1 h;refine B6 hS [] (by decide:(3:Nat)<=3) (CM hS hL e45) ?_;refine kC hS h (BW hS hL) (fun a7 h=>?_);obtain⟨L3,e47,h⟩:=B1 h;refine Hj hS T3 [43000] [35,34,12,11,10,9,4,3,2] 905 (fun a=>⟨[(35,pN d),(34,pN (f.Laws.n:Int)),(12,.reg 13000 0),(11,.p (.ptr [pI .i64 d])),(10,.reg 11000 0),(9,.reg 10000 0),(4,.p (.ptr [vSl 2 C6 b])),(3,.p (.ptr (A4 f))),(2,.p (vSl 2 B7 m))],[(41001,.fam C8 a.2.2.n 13500 none),(41000,.cells [.vec 41001]),(32000,.vec B8 1 a.2.1.n (fun i=>cI .i64 (a.2.1.g i)) false),(28001,.fam C8 a.1.n 10500 none),(28000,.cells [.vec 28001]),(13500,.rows a.2.2.n fun i=>Kt (a.2.2.g i)),(13000,.cells [.clo E5 [] [.reg 41000 0,.p (.ptr [vSl 1 (cL 18 B2) z])]]),(11000,.cells [.vec 32000]),(10500,.rows a.1.n fun i=>Kt (a.1.g i)),(10000,.cells [.clo E5 [] [.reg 28000 0,.p (.ptr [vSl 1 (cL 18 B2) y2])]])]⟩) (idl:=[(10000,10000),(10500,10501),(11000,11000),(13000,13000),(13500,41002),(28000,28000),(28001,28001),(32000,32000),(41000,41000),(41001,41001)]) h (Ao hS hL e47) (fun _=>by kernel_rfl) (fun _=>by kernel_rfl) (fun _=>by kernel_rfl) (fun _=>by kernel_rfl) (fun q _ a4 a r h=>?_) (fun a h=>?_)
  .refine D8 hS T3 14 14000 [pI .i64 q.1.entry,pI .i64 q.1.leaf] ?_;refine OC hS T3 ?_;refine C5 hS T3 [1,3,4,5,7] ?_;obtain⟨c88,h⟩:=C7 h;obtain⟨j,e60,h⟩:=B1 h;refine Ac [28000,28001,10500] (And.intro c88 (by decide:(2:Nat)<=2)) (Bb hS hL e60) ?_;refine D9 T3 ?_;refine Ai hS T3 (Ap4 hS) h 0 (fun a1=>⟨[(64,pB a1),(14,.p (vSl 2 A0 q.2)),(13,.p (.ptr [pI .i64 q.1.entry,pI .i64 q.1.leaf])),(12,.reg 13000 0),(11,.p (.ptr [pI .i64 d])),(10,.reg 11000 0),(4,.p (.ptr [vSl 2 C6 b]))],[(55002,.rows j.2.2.n fun i=>Kt (j.2.2.g i)),(41001,.fam C8 a.2.2.n 13500 none),(41000,.cells [.vec 41001]),(32000,.vec B8 1 a.2.1.n (fun i=>cI .i64 (a.2.1.g i)) false),(28001,.fam C8 j.2.2.n 55002 none),(28000,.cells [.vec 28001]),(13500,.rows a.2.2.n fun i=>Kt (a.2.2.g i)),(13000,.cells [.clo E5 [] [.reg 41000 0,.p (.ptr [vSl 1 (cL 18 B2) z])]]),(11000,.cells [.vec 32000]),(10000,.cells [.clo E5 [] [.reg 28000 0,.p (.ptr [vSl 1 (cL 18 B2) y2])]]),(905,.ghost [pN d,pN (f.Laws.n:Int),.reg 13000 0,.p (.ptr [pI .i64 d]),.reg 11000 0,.reg 10000 0,.p (.ptr [vSl 2 C6 b]),.p (.ptr (A4 f)),.p (vSl 2 B7 m)])]⟩) (fun M17 k17 u h=>?_) (fun a1 h=>?_)
   .refine kG hS h (fun h=>?_) (fun h=>?_)
    .exact u _ [(905,905),(10000,10000),(11000,11000),(13000,13000),(13500,13500),(28000,28000),(28001,28001),(32000,32000),(41000,41000),(41001,41001),(55002,55002)] _ true T3 h
    refine kC hS h (EN hS hL) (fun a5 h=>?_);exact u _ [(905,905),(10000,10000),(11000,11000),(13000,13000),(13500,13500),(28000,28000),(28001,28001),(32000,32000),(41000,41000),(41001,41001),(55002,55002)] _ (!a5) T3 h
   apply kI hS h<;>intro h
   .exact r _ [(905,905),(10000,10000),(10500,55002),(11000,11000),(13000,13000),(13500,13500),(28000,28000),(28001,28001),(32000,32000),(41000,41000),(41001,41001)] _ (j.2.2,a.2.1,a.2.2) T3 h
   refine C5 hS T3 [1,3,4,5,7] ?_;obtain⟨c93,h⟩:=C7 h;obtain⟨s,e63,h⟩:=B1 h;refine Ac [41000,41001,13500] (And.intro c93 (by decide:(2:Nat)<=2)) (Bb hS hL e63) ?_;refine D9 T3 ?_;refine Ai hS T3 (Ap4 hS) h 0 (fun a2=>⟨[(84,pB a2),(11,.p (.ptr [pI .i64 d])),(10,.reg 11000 0)],[(75002,.rows s.2.2.n fun i=>Kt (s.2.2.g i)),(55002,.rows j.2.2.n fun i=>Kt (j.2.2.g i)),(41001,.fam C8 s.2.2.n 75002 none),(41000,.cells [.vec 41001]),(32000,.vec B8 1 a.2.1.n (fun i=>cI .i64 (a.2.1.g i)) false),(28001,.fam C8 j.2.2.n 55002 none),(28000,.cells [.vec 28001]),(13000,.cells [.clo E5 [] [.reg 41000 0,.p (.ptr [vSl 1 (cL 18 B2) z])]]),(11000,.cells [.vec 32000]),(10000,.cells [.clo E5 [] [.reg 28000 0,.p (.ptr [vSl 1 (cL 18 B2) y2])]]),(905,.ghost [pN d,pN (f.Laws.n:Int),.reg 13000 0,.p (.ptr [pI .i64 d]),.reg 11000 0,.reg 10000 0,.p (.ptr [vSl 2 C6 b]),.p (.ptr (A4 f)),.p (vSl 2 B7 m)])]⟩) (fun M18 k18 w h=>?_) (fun a2 h=>?_)
   .refine kG hS h (fun h=>?_) (fun h=>?_)
    .exact w _ [(905,905),(10000,10000),(11000,11000),(13000,13000),(28000,28000),(28001,28001),(32000,32000),(41000,41000),(41001,41001),(55002,55002),(75002,75002)] _ true T3 h
    refine kC hS h (EN hS hL) (fun a6 h=>?_);exact w _ [(905,905),(10000,10000),(11000,11000),(13000,13000),(28000,28000),(28001,28001),(32000,32000),(41000,41000),(41001,41001),(55002,55002),(75002,75002)] _ (!a6) T3 h
   apply kI hS h<;>intro h
   .obtain⟨c98,h⟩:=C7 h;exact r _ [(905,905),(10000,10000),(10500,55002),(11000,11000),(13000,13000),(13500,75002),(28000,28000),(28001,28001),(32000,32000),(41000,41000),(41001,41001)] _ (j.2.2,a.2.1.upd d.toNat (wrap .i64 ((a.2.1.g d.toNat)+1)),s.2.2) (And.intro (And.intro (And.intro c98.1.1.1 c98.1.1.2) c98.1.2) (And.intro (rfl:(1:Nat)=1) (And.intro c98.2 (by decide:(1:Nat)<=1)))) h (hle:=klR [(1,.fn a.2.1.n (a.2.1.upd d.toNat (wrap .i64 ((a.2.1.g d.toNat)+1))).n (fun l=>if l=d.toNat then splice ((fun i=>cI .i64 (a.2.1.g i)) l) 0 [pI .i64 (wrap .i64 ((a.2.1.g d.toNat)+1))]else (fun i=>cI .i64 (a.2.1.g i)) l) (fun i=>cI .i64 ((a.2.1.upd d.toNat (wrap .i64 ((a.2.1.g d.toNat)+1))).g i)))] (al1 ⟨rfl,QW (c:=cI .i64) (v:=a.2.1) (x:=wrap .i64 ((a.2.1.g d.toNat)+1)) same (fun _=>by first|rfl|(dsimp only;split<;>rfl))⟩ al0))
   exact r _ [(905,905),(10000,10000),(10500,55002),(11000,11000),(13000,13000),(13500,75002),(28000,28000),(28001,28001),(32000,32000),(41000,41000),(41001,41001)] _ (j.2.2,a.2.1,s.2.2) T3 h
  exact a0 _ [(10000,10000),(10501,10500),(11000,11000),(28000,28000),(28001,28001),(32000,32000)] _ a.1 a.2.1 (wrap .i64 (d+1)) T3 h
 obtain rfl:=C0 h;exact A8 hS T3 ⟨[(7,pN 0),(6,.vec 32000)],[(32000,.vec B8 1 o.n (fun i=>cI .i64 (o.g i)) true)]⟩ [32000] (ids:=[(32000,32000)]) ⟨rfl,rfl,rfl⟩
def Ap (N:Nat)(j:A5)(l:Entry)(a:Sl (Sl To)):Option (Int×Int×Int):= (R6 N j).bind fun y1=>if (y1 != 0) then some (0,0,y1) else if (decide (256<(a.n:Int))) then some (0,0,12) else (U1 N j.Tree).bind fun y2=>(O7 N (Sl.of [l]:Sl Entry) (y2.1.n:Int)).bind fun y3=>if (y3 != 0) then some (0,0,y3) else (Q3 N l.Forms).bind fun y4=>if (y4 != 0) then some (0,0,y4) else T9 N (fun m (x1:Int)=>if (decide (x1<(a.n:Int))) then if ((0:Int)<=x1/\x1<(a.n:Int))then (Q7 N (a.g x1.toNat)).bind fun y7=>if (y7 != 0) then some (0,0,y7) else m (wrap .i64 (x1+1)) else none else if ((a.n:Int)==0) then some (0,0,5) else (M8 N j (-1)).bind fun y8=>Bf5 N (fun d (s:Sl (List (Str×E6))) (q:Int) (o:Int) (c:Int)=>if (decide (c<(a.n:Int))) then if ((0:Int)<=c/\c<(a.n:Int))then (P7 N (Sl.of [l]:Sl Entry)).bind fun t=>(F2 N t).bind fun L4=>Q5 L4 (fun f (r:Bd×(Sl To)) (b:(Sl (List (Str×E6)))×Int)=>(E7 N (⟨true,a.g c.toNat⟩:E6) r.1.leaf b.1 y8).bind fun i=>lt (fun (u:Bool)=>if u then f (i.2.2,wrap .i64 (b.2+1)) else f (i.2.2,b.2)) fun k12=>if i.2.1 then (N2 N i.1 r.2).bind fun v=>k12 v else k12 false) (fun (b:(Sl (List (Str×E6)))×Int)=>if (decide (o<b.2)) then d b.1 c b.2 (wrap .i64 (c+1)) else d b.1 q o (wrap .i64 (c+1))) (s,0) else none else some (q,o,0)) (⟨y8.n,fun _=>[]⟩:Sl (List (Str×E6))) 0 (-1) 0) 0
theorem Qc {m:A5}{b:Entry}{a:Sl (Sl To)}{y:Int×Int×Int}(h:Ap N m b a=some y) :FunO S PC [.p (.agg (A4 m)),.p (.agg (B7 b)),.p (vSl 1 (cL 2 A0) a)] [] (.tup [pN y.1,pN y.2.1,pN y.2.2]) ([]) []:=by
 unfold Ap at h;refine A1 hS Tryz.func27 ?_;refine D8 hS T3 4 4000 (A4 m) ?_;refine D8 hS T3 6 5000 [.str b.Gloss,vSl 2 C6 b.Forms] ?_;obtain⟨y1,e1,h⟩:=B1 h;refine B6 hS [] (by decide:(3:Nat)<=3) (Gg hS hL e1) ?_;apply kI hS h<;>intro h
 .cases h;exact kR hS
 apply kI hS h<;>intro h
 .cases h;exact kR hS
 refine kC hS h (Fw hS hL) (fun y2 h=>?_);refine Da hS (And.intro (by decide:(2:Nat)<=2) (rfl:true=true)) ⟨[(44,pN (y2.1.n:Int)),(42,.vec 43000),(4,.p (.ptr [.str b.Gloss,vSl 2 C6 b.Forms])),(3,.p (.ptr (A4 m))),(2,.p (vSl 1 (cL 2 A0) a))],[(43000,.vec Jc 2 (Sl.of [b]:Sl Entry).n (fun i=>B7 ((Sl.of [b]:Sl Entry).g i)) false)]⟩ (ids:=[(43000,43000)]) ?_ (hle:=klR [(4,.fn 1 (Sl.of [b]:Sl Entry).n (D0 [.str [],G6] [(0,B7 b)]) (fun i=>B7 ((Sl.of [b]:Sl Entry).g i)))] (al1 ⟨rfl,(fun i t=>match i,t with|0,_=>rfl|_+1,t=>Kh t (by omega))⟩ al0));refine kC hS h (JF hS hL) (fun y3 h=>?_);apply kI hS h<;>intro h
 .cases h;exact kR hS
 refine kC hS h (Hq hS hL) (fun y4 h=>?_);apply kI hS h<;>intro h
 .cases h;exact kR hS
 refine E2 hS T3 h (fun x1=>⟨[(57,pN x1),(56,pN (a.n:Int)),(55,.p (vSl 1 (cL 2 A0) a)),(4,.p (.ptr [.str b.Gloss,vSl 2 C6 b.Forms])),(3,.p (.ptr (A4 m))),(2,.p (vSl 1 (cL 2 A0) a))],[]⟩) (ids:=[]) (fun _ _ _ _ _ w x1 x h=>?_);apply kI hS h<;>intro h
 .obtain⟨c12,h⟩:=C7 h;obtain⟨y7,e7,h⟩:=B1 h;refine B6 hS [] c12 (EM hS hL e7) ?_;apply kI hS h<;>intro h
  .cases h;exact kR hS
  exact x _ [] _ (wrap .i64 (x1+1)) T3 h
 apply kI hS h<;>intro h
 .cases h;exact kR hS
 obtain⟨y8,e8,h⟩:=B1 h;refine B6 hS [] (by decide:(3:Nat)<=3) (CM hS hL e8) ?_;refine Nb hS T3 h (fun f j l c=>⟨[(74,pN c),(73,pN (a.n:Int)),(72,.p (vSl 1 (cL 2 A0) a)),(19,pN l),(18,pN j),(17,.reg 18000 0),(4,.p (.ptr [.str b.Gloss,vSl 2 C6 b.Forms]))],[(72001,.fam C8 f.n 18502 none),(72000,.cells [.vec 72001]),(18502,.rows f.n fun i=>Kt (f.g i)),(18000,.cells [.clo E5 [] [.reg 72000 0,.p (.ptr [vSl 1 (cL 18 B2) y8])]])]⟩) (ids:=[(18000,18000),(18502,72002),(72000,72000),(72001,72001)]) (fun _ _ _ _ _ z f j l c q h=>?_);apply kI hS h<;>intro h
 .obtain⟨c61,h⟩:=C7 h;refine D8 hS c61 22 22000 [vSl 2 A0 (a.g c.toNat)] ?_;refine Da hS (And.intro (by decide:(2:Nat)<=2) (rfl:true=true)) ⟨[(80,.vec 81000),(74,pN c),(73,pN (a.n:Int)),(72,.p (vSl 1 (cL 2 A0) a)),(22,.reg 23000 0),(21,.p (.ptr [vSl 2 A0 (a.g c.toNat)])),(20,pN c),(19,pN l),(18,pN j),(17,.reg 18000 0),(4,.p (.ptr [.str b.Gloss,vSl 2 C6 b.Forms]))],[(81000,.vec Jc 2 (Sl.of [b]:Sl Entry).n (fun i=>B7 ((Sl.of [b]:Sl Entry).g i)) false),(72001,.fam C8 f.n 18502 none),(72000,.cells [.vec 72001]),(23000,.cells [pN 0]),(18502,.rows f.n fun i=>Kt (f.g i)),(18000,.cells [.clo E5 [] [.reg 72000 0,.p (.ptr [vSl 1 (cL 18 B2) y8])]])]⟩ (ids:=[(18000,18000),(18502,18502),(23000,23000),(72000,72000),(72001,72001),(81000,81000)]) ?_ (hle:=klR [(8,.fn 1 (Sl.of [b]:Sl Entry).n (D0 [.str [],G6] [(0,B7 b)]) (fun i=>B7 ((Sl.of [b]:Sl Entry).g i)))] (al1 ⟨rfl,(fun i t=>match i,t with|0,_=>rfl|_+1,t=>Kh t (by omega))⟩ al0));refine kC hS h (BW hS hL) (fun a2 h=>?_);obtain⟨L4,e43,h⟩:=B1 h;refine Hj hS T3 [82000] [74,73,72,22,21,20,19,18,17,4] 907 (fun d=>⟨[(74,pN c),(73,pN (a.n:Int)),(72,.p (vSl 1 (cL 2 A0) a)),(22,.reg 23000 0),(21,.p (.ptr [vSl 2 A0 (a.g c.toNat)])),(20,pN c),(19,pN l),(18,pN j),(17,.reg 18000 0),(4,.p (.ptr [.str b.Gloss,vSl 2 C6 b.Forms]))],[(72001,.fam C8 d.1.n 18500 none),(72000,.cells [.vec 72001]),(23000,.cells [pN d.2]),(18500,.rows d.1.n fun i=>Kt (d.1.g i)),(18000,.cells [.clo E5 [] [.reg 72000 0,.p (.ptr [vSl 1 (cL 18 B2) y8])]])]⟩) (idl:=[(18000,18000),(18500,18502),(23000,23000),(72000,72000),(72001,72001)]) h (Ao hS hL e43) (fun _=>by kernel_rfl) (fun _=>by kernel_rfl) (fun _=>by kernel_rfl) (fun _=>by kernel_rfl) (fun u _ a0 d r h=>?_) (fun d h=>?_)
  .refine D8 hS T3 24 24000 [pI .i64 u.1.entry,pI .i64 u.1.leaf] ?_;refine OC hS T3 ?_;obtain⟨o,e50,h⟩:=B1 h;refine B6 hS [72000,72001,18500] T3 (Bb hS hL e50) ?_;refine Ai hS T3 (Ap4 hS) h 0 (fun v=>⟨[(98,pB v),(22,.reg 23000 0)],[(91002,.rows o.2.2.n fun i=>Kt (o.2.2.g i)),(72001,.fam C8 o.2.2.n 91002 none),(72000,.cells [.vec 72001]),(23000,.cells [pN d.2]),(18000,.cells [.clo E5 [] [.reg 72000 0,.p (.ptr [vSl 1 (cL 18 B2) y8])]]),(907,.ghost [pN c,pN (a.n:Int),.p (vSl 1 (cL 2 A0) a),.reg 23000 0,.p (.ptr [vSl 2 A0 (a.g c.toNat)]),pN c,pN l,pN j,.reg 18000 0,.p (.ptr [.str b.Gloss,vSl 2 C6 b.Forms])])]⟩) (fun M12 k12 s h=>?_) (fun v h=>?_)
   .refine kG hS h (fun h=>?_) (fun h=>?_)
    .refine kC hS h (EN hS hL) (fun a1 h=>?_);exact s _ [(907,907),(18000,18000),(23000,23000),(72000,72000),(72001,72001),(91002,91002)] _ a1 T3 h
    exact s _ [(907,907),(18000,18000),(23000,23000),(72000,72000),(72001,72001),(91002,91002)] _ false T3 h
   apply kI hS h<;>intro h
   .exact r _ [(907,907),(18000,18000),(18500,91002),(23000,23000),(72000,72000),(72001,72001)] _ (o.2.2,wrap .i64 (d.2+1)) T3 h
   exact r _ [(907,907),(18000,18000),(18500,91002),(23000,23000),(72000,72000),(72001,72001)] _ (o.2.2,d.2) T3 h
  apply kI hS h<;>intro h
  .refine Ec hS T3 ?_;refine D9 T3 ?_;exact q _ [(18000,18000),(18502,18500),(72000,72000),(72001,72001)] _ d.1 c d.2 (wrap .i64 (c+1)) T3 h
  exact q _ [(18000,18000),(18502,18500),(72000,72000),(72001,72001)] _ d.1 j l (wrap .i64 (c+1)) T3 h
 cases h;exact kR hS
end Go.AM
