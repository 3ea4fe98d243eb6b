/- Part 6. -/
import Derived.Test.YtlbooedblpdmaaaGreatDoorME
import Derived.Test.YtlbooedblpdmaaaGreatDoorMD
set_option linter.defProp false
set_option linter.unusedSimpArgs false
set_option linter.unusedVariables false
set_option linter.unusedSectionVars false
namespace Go.AM
open Go.Proofs.Tryz
abbrev Og:Sl (Sl Oh):=Sl.nil
abbrev Od:Sl Oh:=Sl.nil
def Oa:(18:Nat)<=18:=by decide
def Nh:(4:Nat)<=4:=by decide
def Ng:(3:Nat)<=3:=by decide
def Lx:(1:Nat)<=1:=by decide
abbrev Lw(z:Int):Sl Int:=(Sl.of [IntKind.wrap .u8 z,IntKind.wrap .u8 (shI .shr .u32 z 8),IntKind.wrap .u8 (shI .shr .u32 z 16)]:Sl Int)
variable {N:Nat}
open IntKind (wrap)
open Go.Proofs
set_option maxRecDepth 10000
set_option maxHeartbeats 2000000
variable {S:Aj}(Z:H1 S Tryz.prog) (Y:Nk S)
include Z Y
def BN (N:Nat)(a:Str):Option Bool:= lt (fun (z1:Bool)=>some z1) fun k1=>if ((a==[]) != true) then if (decide ((a.length:Int)<=24)) then (DZ N a [97,98,99,100,101,102,103,104,105,106,107,108,109,110,111,112,113,114,115,116,117,118,119,120,121,122,65,66,67,68,69,70,71,72,73,74,75,76,77,78,79,80,81,82,83,84,85,86,87,88,89,90,48,49,50,51,52,53,54,55,56,57,45]).bind fun y2=>k1 ((y2==[]) != false) else k1 false else k1 false
theorem Vy {b:Str}{y:Bool}(h:BN N b=some y) :FunO S MW [.p (.str b)] [] (pB y) ([]) []:=by
 unfold BN at h;refine A5 Z func106 ?_;refine NR Z Lu (B3 Z) h 0 (fun z1=>⟨[(2,pB z1)],[]⟩) (fun M1 k1 a h=>?_) (fun z1 h=>?_)
 .refine kG Z h (fun h=>?_) (fun h=>?_)
  .refine kG Z h (fun h=>?_) (fun h=>?_)
   .refine kC Z h (Ou Z Y) (fun y2 h=>?_);exact a _ [] _ ((y2==[]) != false) Lu h
   exact a _ [] _ false Lu h
  exact a _ [] _ false Lu h
 cases h;exact kR Z
def W0 (N:Nat)(p_x:EV)(a:Int):Option Bool:= lt (fun (z1:Bool)=>if z1 then some false else if ((((H0 .andNot .u32 (H0 .or .u32 p_x.Clear p_x.Take) 16777215) != 0)||((H0 .and .u32 p_x.Clear (H0 .or .u32 p_x.Set.Plus p_x.Set.Minus)) != 0))||((H0 .and .u32 p_x.Take (H0 .or .u32 (H0 .or .u32 p_x.Set.Plus p_x.Set.Minus) p_x.Clear)) != 0)) then some false else if (p_x.Take==0) then some (p_x.Of==0) else some ((decide (0<=p_x.Of))&&(decide (p_x.Of<a)))) fun k1=>if (decide (p_x.From<(-1))) then k1 true else if (decide (a<=p_x.From)) then k1 true else (H3 N p_x.Set).bind fun y2=>k1 (!y2)
theorem YQ {p_x:EV}{b:Int}{y:Bool}(h:W0 N p_x b=some y) :FunO S Pw [.p (.agg (U6 p_x)),pN b] [] (pB y) ([]) []:=by
 unfold W0 at h;refine A5 Z func103 ?_;refine NR Z Lu (B3 Z) h 0 (fun z1=>⟨[(13,pB z1),(5,pU (H0 .or .u32 p_x.Set.Plus p_x.Set.Minus)),(2,.reg 3000 0),(1,pN b)],[(3000,.cells ((U6 p_x).map .p))]⟩) (fun M1 k1 c h=>?_) (fun z1 h=>?_)
 .refine kG Z h (fun h=>?_) (fun h=>?_)
  .exact c _ [(3000,3000)] _ true Lu h
  refine kG Z h (fun h=>?_) (fun h=>?_)
  .exact c _ [(3000,3000)] _ true Lu h
  refine kC Z h (R6 Z Y) (fun y2 h=>?_);exact c _ [(3000,3000)] _ (!y2) Lu h
 apply kI Z h<;>intro h
 .cases h;exact kR Z
 refine kB Z (B3 Z) Lu Lu 16 (.o (.o (.a ((H0 .andNot .u32 (H0 .or .u32 p_x.Clear p_x.Take) 16777215) != 0)) (.a ((H0 .and .u32 p_x.Clear (H0 .or .u32 p_x.Set.Plus p_x.Set.Minus)) != 0))) (.a ((H0 .and .u32 p_x.Take (H0 .or .u32 (H0 .or .u32 p_x.Set.Plus p_x.Set.Minus) p_x.Clear)) != 0))) ?_;apply kI Z h<;>intro h
 .cases h;exact kR Z
 apply kI Z h<;>intro h
 .cases h;exact kR Z
 refine kB Z (B3 Z) Lu Lu 5 (.n (.a (decide (0<=p_x.Of))) (.a (decide (p_x.Of<b)))) ?_;cases h;exact kR Z
def Af (N:Nat)(p_x:EV)(q0:Int):Option Bool:= (W0 N p_x q0).bind fun y1=>some (!y1)
theorem Rf {p_x:EV}{q0:Int}{y:Bool}(h:Af N p_x q0=some y) :FunO S Jg [.p (.agg (U6 p_x)),.reg 0 0] [.cells [pN q0]] (pB y) ([.cells [pN q0]]) [true]:=by unfold Af at h;refine A5 Z func102 ?_;refine kC Z h (YQ Z Y) (fun y1 h=>?_);obtain rfl:=D4 h;exact B1 Z Lu ⟨[(3,pB (!y1))],[(0,.cells [pN q0])]⟩ [0] (ids:=[(0,0)]) ⟨rfl,rfl,rfl⟩
def Ag (N:Nat)(a:Oh):Option Bool:= (H3 N a).bind fun y1=>some (!y1)
theorem Rg {a:Oh}{y:Bool}(h:Ag N a=some y) :FunO S Jh [.p (.agg (A0 a))] [] (pB y) ([]) []:=by unfold Ag at h;refine A5 Z func104 ?_;refine kC Z h (R6 Z Y) (fun y1 h=>?_);cases h;exact kR Z
def F6 (N:Nat)(a:Sl EV)(c:EV->Option Bool):Option Int:= Q5 N (fun b (x1:Int)=>if (decide (x1<(a.n:Int))) then if ((0:Int)<=x1/\x1<(a.n:Int))then (c (a.g x1.toNat)).bind fun y3=>if y3 then some x1 else b (wrap .i64 (x1+1)) else none else some (-1)) 0
theorem At {c:Sl EV}{d:EV->Option Bool}{a:Int}{kp_f:Nat}(f:∀{a0:EV}{b:Bool},d a0=some b->FunO S kp_f [.p (.agg (U6 a0)),.reg 0 0] [.cells [pN a]] (pB b) [.cells [pN a]] [true]){y:Int}(h:F6 N c d=some y) :FunO S O3 [.p (vSl 6 U6 c),.clo kp_f [] [.reg 0 0]] [.cells [pN a]] (pN y) ([.cells [pN a]]) [true]:=by
 unfold F6 at h;refine A5 Z func133 ?_;refine Ak Z Lu h (fun x1=>⟨[(8,pN x1),(7,pN (c.n:Int)),(1,.clo kp_f [] [.reg 0 0]),(0,.p (vSl 6 U6 c))],[(0,.cells [pN a])]⟩) (ids:=[(0,0)]) (fun _ _ _ _ _ g x1 i h=>?_);apply kI Z h<;>intro h
 .obtain⟨c8,h⟩:=H4 h;obtain⟨y3,e3,h⟩:=C4 h;refine D2 Z [0] (And.intro c8 (by decide:(6:Nat)<=6)) (f e3) ?_;apply kI Z h<;>intro h
  .obtain rfl:=D4 h;exact B1 Z Lu ⟨[(4,pN x1)],[(0,.cells [pN a])]⟩ [0] (ids:=[(0,0)]) ⟨rfl,rfl,rfl⟩
  exact i _ [(0,0)] _ (wrap .i64 (x1+1)) Lu h
 obtain rfl:=D4 h;exact B1 Z Lu ⟨[(4,pN (-1))],[(0,.cells [pN a])]⟩ [0] (ids:=[(0,0)]) ⟨rfl,rfl,rfl⟩
def C7 (N:Nat)(a:Sl EV)(b:EV->Option Bool):Option Bool:= (F6 N a b).bind fun y1=>some (decide (0<=y1))
theorem X4 {c:Sl EV}{d:EV->Option Bool}{a:Int}{kp_f:Nat}(f:∀{a0:EV}{b:Bool},d a0=some b->FunO S kp_f [.p (.agg (U6 a0)),.reg 0 0] [.cells [pN a]] (pB b) [.cells [pN a]] [true]){y:Bool}(h:C7 N c d=some y) :FunO S K9 [.p (vSl 6 U6 c),.clo kp_f [] [.reg 0 0]] [.cells [pN a]] (pB y) ([.cells [pN a]]) [true]:=by unfold C7 at h;refine A5 Z func109 ?_;obtain⟨y1,e1,h⟩:=C4 h;refine D2 Z [0] Lu (At Z Y (fun e=>f e) e1) ?_;obtain rfl:=D4 h;exact B1 Z Lu ⟨[(4,pB (decide (0<=y1)))],[(0,.cells [pN a])]⟩ [0] (ids:=[(0,0)]) ⟨rfl,rfl,rfl⟩
def Y8 (N:Nat)(a:Law):Option Int:= (BN N a.Name).bind fun y1=>if (!y1) then some 17 else (Y7 N a.Left).bind fun y2=>if (y2 != 0) then some 17 else (Y7 N a.Right).bind fun y3=>if (y3 != 0) then some 17 else if (decide (4<(a.If.n:Int))) then some 17 else if (decide (6<(a.Out.n:Int))) then some 17 else if ((wrap .i64 ((a.If.n:Int)+(a.Out.n:Int)))==0) then some 17 else if ((decide (a.Mode<1))||(decide (3<a.Mode))) then some 17 else (B4 N a.If (fun (u1:Oh)=>Ag N u1)).bind fun y4=>if y4 then some 17 else (C7 N a.Out (fun (u2:EV)=>Af N u2 (a.If.n:Int))).bind fun y5=>if y5 then some 17 else some 0
theorem Il {c:Law}{y:Int}(h:Y8 N c=some y) :FunO S MQ [.p (.agg (B5 c))] [] (pN y) ([]) []:=by
 unfold Y8 at h;refine A5 Z func75 ?_;refine kC Z h (Vy Z Y) (fun y1 h=>?_);refine F4 Z Lu (b:=!y1) (fun c1=>?_) (fun c1=>?_)
 .replace h:=itT c1 h;refine F4 Z Lu (b:=!y1) (fun c2=>?_) (fun c2=>?_)
  .cases h;exact kR Z
  exact Bool.noConfusion (c1.symm.trans c2)
 replace h:=itF c1 h;refine kC Z h (GB Z Y) (fun y2 h=>?_);refine F4 Z Lu (b:=y2 != 0) (fun c3=>?_) (fun c3=>?_)
 .replace h:=itT c3 h;refine F4 Z Lu (b:=y2 != 0) (fun c4=>?_) (fun c4=>?_)
  .cases h;exact kR Z
  exact Bool.noConfusion (c3.symm.trans c4)
 replace h:=itF c3 h;refine kC Z h (GB Z Y) (fun y3 h=>?_);refine F4 Z Lu (b:=y3 != 0) (fun c5=>?_) (fun c5=>?_)
 .replace h:=itT c5 h;refine F4 Z Lu (b:=y3 != 0) (fun c6=>?_) (fun c6=>?_)
  .cases h;exact kR Z
  exact Bool.noConfusion (c5.symm.trans c6)
 replace h:=itF c5 h;refine F4 Z Lu (b:=decide (4<(c.If.n:Int))) (fun c7=>?_) (fun c7=>?_)
 .replace h:=itT c7 h;refine F4 Z Lu (b:=decide (4<(c.If.n:Int))) (fun c8=>?_) (fun c8=>?_)
  .cases h;exact kR Z
  exact Bool.noConfusion (c7.symm.trans c8)
 replace h:=itF c7 h;refine F4 Z Lu (b:=decide (6<(c.Out.n:Int))) (fun c9=>?_) (fun c9=>?_)
 .replace h:=itT c9 h;refine F4 Z Lu (b:=decide (6<(c.Out.n:Int))) (fun c10=>?_) (fun c10=>?_)
  .cases h;exact kR Z
  exact Bool.noConfusion (c9.symm.trans c10)
 replace h:=itF c9 h;refine F4 Z Lu (b:=(wrap .i64 ((c.If.n:Int)+(c.Out.n:Int)))==0) (fun c11=>?_) (fun c11=>?_)
 .replace h:=itT c11 h;refine F4 Z Lu (b:=(wrap .i64 ((c.If.n:Int)+(c.Out.n:Int)))==0) (fun c12=>?_) (fun c12=>?_)
  .cases h;exact kR Z
  exact Bool.noConfusion (c11.symm.trans c12)
 replace h:=itF c11 h;refine kB Z (B3 Z) Lu Lu 4 (.o (.a (decide (c.Mode<1))) (.a (decide (3<c.Mode)))) ?_;refine F4 Z Lu (b:=(decide (c.Mode<1))||(decide (3<c.Mode))) (fun c13=>?_) (fun c13=>?_)
 .replace h:=itT c13 h;refine F4 Z Lu (b:=(decide (c.Mode<1))||(decide (3<c.Mode))) (fun c14=>?_) (fun c14=>?_)
  .cases h;exact kR Z
  exact Bool.noConfusion (c13.symm.trans c14)
 replace h:=itF c13 h;refine kC Z h (J2 Z Y (fun e=>Rg Z Y e)) (fun y4 h=>?_);refine F4 Z Lu (b:=y4) (fun c15=>?_) (fun c15=>?_)
 .replace h:=itT c15 h;refine F4 Z Lu (b:=y4) (fun c16=>?_) (fun c16=>?_)
  .cases h;exact kR Z
  exact Bool.noConfusion (c15.symm.trans c16)
 replace h:=itF c15 h;obtain⟨y5,e5,h⟩:=C4 h;refine D2 Z [4000] Lu (X4 Z Y (fun e=>Rf Z Y e) e5) ?_;apply kI Z h<;>intro h
 .cases h;exact kR Z
 cases h;exact kR Z
def Fu (N:Nat)(a:Law)(b:Sl Oh):Option Int:= (Y8 N a).bind fun y1=>if (y1 != 0) then some y1 else (J6 N b).bind fun y2=>some y2
theorem Vz {a:Law}{b:Sl Oh}{y:Int}(h:Fu N a b=some y) :FunO S Na [.p (.agg (B5 a)),.p (vSl 2 A0 b)] [] (pN y) ([]) []:=by
 unfold Fu at h;refine A5 Z func174 ?_;refine kC Z h (Il Z Y) (fun y1 h=>?_);apply kI Z h<;>intro h
 .cases h;exact kR Z
 refine kC Z h (Ba Z Y) (fun y2 h=>?_);cases h;exact kR Z
def W1 (N:Nat)(a:Int)(q0:Law)(q1:Sl Oh):Option Bool:= (Bt N q0.Left q1 a).bind fun y1=>if ((y1.1.n:Int)==0) then some false else (Dp N q0.Right q1 (wrap .i64 (a+(q0.If.n:Int)))).bind fun y2=>some (decide (0<(y2.1.n:Int)))
theorem Oz {a:Int}{q0:Law}{q1:Sl Oh}{y:Bool}(h:W1 N a q0 q1=some y) :FunO S V8 [pN a,.reg 0 0,.reg 1 0] [.cells ((B5 q0).map .p),.cells [.p (vSl 2 A0 q1)]] (pB y) ([.cells ((B5 q0).map .p),.cells [.p (vSl 2 A0 q1)]]) [true,true]:=by
 unfold W1 at h;refine A5 Z func209 ?_;refine kC Z h (Re Z Y) (fun y1 h=>?_);apply kI Z h<;>intro h
 .obtain rfl:=D4 h;exact B1 Z Lu ⟨[(4,pB false)],[(1,.cells [.p (vSl 2 A0 q1)]),(0,.cells ((B5 q0).map .p))]⟩ [0,1] (ids:=[(0,0),(1,1)]) ⟨rfl,rfl,rfl⟩
 refine kC Z h (Vx Z Y) (fun y2 h=>?_);obtain rfl:=D4 h;exact B1 Z Lu ⟨[(4,pB (decide (0<(y2.1.n:Int))))],[(1,.cells [.p (vSl 2 A0 q1)]),(0,.cells ((B5 q0).map .p))]⟩ [0,1] (ids:=[(0,0),(1,1)]) ⟨rfl,rfl,rfl⟩
def GD (N:Nat)(a:Law)(b:Sl Oh):Option (Law×(Sl Oh)):= some (a,b)
theorem Tu {a:Law}{b:Sl Oh}{y:Law×(Sl Oh)}(h:GD N a b=some y) :FunO S Lf [.p (.agg (B5 a)),.p (vSl 2 A0 b)] [] (.clo V8 [] [.reg 0 0,.reg 1 0]) ([.cells ((B5 y.1).map .p),.cells [.p (vSl 2 A0 y.2)]]) []:=by unfold GD at h;refine A5 Z func197 ?_;obtain rfl:=D4 h;exact B1 Z Lu ⟨[(4,.clo V8 [] [.reg 3000 0,.reg 4000 0])],[(4000,.cells [.p (vSl 2 A0 b)]),(3000,.cells ((B5 a).map .p))]⟩ [3000,4000] (ids:=[(3000,3000),(4000,4000)]) ⟨rfl,rfl,rfl⟩
def O6 (N:Nat)(a:Law)(b:Sl Oh):Option (Sl Oh):= Q3 N (fun c (x1:Sl Oh) (x2:Int)=>if (decide (x2<(a.Out.n:Int))) then if ((0:Int)<=x2/\x2<(a.Out.n:Int))then if ((decide (0<=(a.Out.g x2.toNat).From))=true->((0:Int)<=(a.Out.g x2.toNat).From/\(a.Out.g x2.toNat).From<(b.n:Int)))then (P0 N (⟨(if (decide (0<=(a.Out.g x2.toNat).From)) then (b.g (a.Out.g x2.toNat).From.toNat).Plus else 0),(if (decide (0<=(a.Out.g x2.toNat).From)) then (b.g (a.Out.g x2.toNat).From.toNat).Minus else 0)⟩:Oh) (a.Out.g x2.toNat).Clear (a.Out.g x2.toNat).Set).bind fun y5=>if ((a.Out.g x2.toNat).Take != 0) then if ((0:Int)<=(a.Out.g x2.toNat).Of/\(a.Out.g x2.toNat).Of<(b.n:Int))then (T4 N y5.1 (b.g (a.Out.g x2.toNat).Of.toNat) (a.Out.g x2.toNat).Take).bind fun y6=>if ((x1.n+(Sl.of [y6.1]:Sl Oh).n)*8<=140737488355328/\x1.n+(Sl.of [y6.1]:Sl Oh).n<=140737488355328)then c (x1.push y6.1) (wrap .i64 (x2+1)) else none else none else if ((x1.n+(Sl.of [y5.1]:Sl Oh).n)*8<=140737488355328/\x1.n+(Sl.of [y5.1]:Sl Oh).n<=140737488355328)then c (x1.push y5.1) (wrap .i64 (x2+1)) else none else none else none else some x1) Od 0
theorem Tv {d:Law}{a:Sl Oh}{y:Sl Oh}(h:O6 N d a=some y) :FunO S Ti [.p (.agg (B5 d)),.p (vSl 2 A0 a)] [] (.p (vSl 2 A0 y)) ([]) []:=by
 unfold O6 at h;refine A5 Z func188 ?_;refine N0 Z Lu 4 3000 (B5 d) ?_;refine R4 Z Lu h (fun x1 x2=>⟨[(12,pN x2),(11,pN (d.Out.n:Int)),(10,.p (vSl 6 U6 d.Out)),(5,.vec 6500),(1,.p (vSl 2 A0 a))],[(6500,.vec E3 2 x1.n (fun i=>A0 (x1.g i)) false)]⟩) (ids:=[]) (fun _ _ _ _ _ o x1 x2 l h=>?_);apply kI Z h<;>intro h
 .obtain⟨c16,h⟩:=H4 h;refine N0 Z (And.intro c16 (by decide:(6:Nat)<=6)) 8 8000 (U6 (d.Out.g x2.toNat)) ?_;obtain⟨c18,h⟩:=H4 h;obtain⟨t5,f⟩:∃x:Int,x=(if (decide (0<=(d.Out.g x2.toNat).From)) then (a.g (d.Out.g x2.toNat).From.toNat).Plus else 0):=⟨_,rfl⟩;obtain⟨t6,j⟩:∃x:Int,x=(if (decide (0<=(d.Out.g x2.toNat).From)) then (a.g (d.Out.g x2.toNat).From.toNat).Minus else 0):=⟨_,rfl⟩;refine YD Z Lu (B3 Z) 0 ⟨[(12,pN x2),(11,pN (d.Out.n:Int)),(10,.p (vSl 6 U6 d.Out)),(8,.reg 9000 0),(7,.p (.ptr (U6 (d.Out.g x2.toNat)))),(5,.vec 6500),(1,.p (vSl 2 A0 a))],[(9000,.cells [pU t5,pU t6]),(6500,.vec E3 2 x1.n (fun i=>A0 (x1.g i)) false)]⟩ (fun M3 m=>?_) ?_
  .refine F4 Z Lu (b:=decide (0<=(d.Out.g x2.toNat).From)) (fun c19=>?_) (fun c19=>?_)
   .exact m _ [(6500,6500),(9000,9000)] _ (And.intro (c18 c19) Nf) (hle:=klR [(5,.eq (pI .u32 (a.g (d.Out.g x2.toNat).From.toNat).Plus) (pI .u32 t5)),(6,.eq (pI .u32 (a.g (d.Out.g x2.toNat).From.toNat).Minus) (pI .u32 t6))] (al1 (by simp only[f,j,c19,Leaf.ok,pm,Lr,Ls]) (al1 (by simp only[f,j,c19,Leaf.ok,pm,Lr,Ls]) al0)))
   exact m _ [(6500,6500),(9000,9000)] _ Lu (hle:=klR [(5,.eq (pI .u32 0) (pI .u32 t5)),(6,.eq (pI .u32 0) (pI .u32 t6))] (al1 (by simp only[f,j,c19,Leaf.ok,pm,Lr,Ls]) (al1 (by simp only[f,j,c19,Leaf.ok,pm,Lr,Ls]) al0)))
  subst j;subst f;obtain⟨y5,e5,h⟩:=C4 h;refine D2 Z [] (by decide:(2:Nat)<=4) (Ov Z Y e5) ?_;apply kI Z h<;>intro h
  .refine L7 Z Lu [3,4,5,7,8] ?_;obtain⟨c21,h⟩:=H4 h;obtain⟨y6,e6,h⟩:=C4 h;refine O0 (And.intro c21 Nf) (Tr Z Y e6) ?_;refine P3 Lu ?_;obtain⟨c22,h⟩:=H4 h;exact l _ [(6500,52000)] _ (x1.push y6.1) (wrap .i64 (x2+1)) (And.intro Ob c22) h (hle:=klR [(4,.fn (x1.n+1) (x1.push y6.1).n (BA x1.n (fun i=>A0 (x1.g i)) (E5 [pI .u32 0,pI .u32 0] [(0,A0 y6.1)])) (fun i=>A0 ((x1.push y6.1).g i)))] (al1 ⟨rfl,Pm (c:=A0) (v:=x1) (x:=y6.1) (z:=[(pI .u32 0),pI .u32 0]) same rfl rfl⟩ al0))
  obtain⟨c23,h⟩:=H4 h;exact l _ [(6500,52000)] _ (x1.push y5.1) (wrap .i64 (x2+1)) (And.intro Ob c23) h (hle:=klR [(4,.fn (x1.n+1) (x1.push y5.1).n (BA x1.n (fun i=>A0 (x1.g i)) (E5 [pI .u32 0,pI .u32 0] [(0,A0 y5.1)])) (fun i=>A0 ((x1.push y5.1).g i)))] (al1 ⟨rfl,Pm (c:=A0) (v:=x1) (x:=y5.1) (z:=[(pI .u32 0),pI .u32 0]) same rfl rfl⟩ al0))
 obtain rfl:=D4 h;exact B1 Z Lu ⟨[(4,.p (vSl 2 A0 x1))],[]⟩ [] (ids:=[]) ⟨rfl,rfl,rfl⟩
def A9 (N:Nat)(a:Sl (Sl Oh)):Option (Sl Oh):= Q3 N (fun b (x1:Int) (x2:Int)=>if (decide (x2<(a.n:Int))) then if ((0:Int)<=x2/\x2<(a.n:Int))then if (decide ((wrap .i64 (x1+((a.g x2.toNat).n:Int)))<0)) then none else b (wrap .i64 (x1+((a.g x2.toNat).n:Int))) (wrap .i64 (x2+1)) else none else (I1 N x1).bind fun y1=>Q3 N (fun c (x3:Sl Oh) (x4:Int)=>if (decide (x4<(a.n:Int))) then if (((0:Int)<=x4/\x4<(a.n:Int))/\((x3.n+(a.g x4.toNat).n)*8<=140737488355328/\x3.n+(a.g x4.toNat).n<=140737488355328))then c (x3.app (a.g x4.toNat)) (wrap .i64 (x4+1)) else none else some x3) y1 0) 0 0
theorem N7 {a:Sl (Sl Oh)}{y:Sl Oh}(h:A9 N a=some y) :FunO S N5 [.p (vSl 1 (cL 2 A0) a)] [] (.vec 0) ([.vec E3 2 y.n (fun i=>A0 (y.g i)) true]) []:=by
 unfold A9 at h;refine A5 Z func187 ?_;refine R4 Z Lu h (fun x1 x2=>⟨[(11,pN x2),(10,pN (a.n:Int)),(9,.p (vSl 1 (cL 2 A0) a)),(3,pN x1),(0,.p (vSl 1 (cL 2 A0) a))],[]⟩) (ids:=[]) (fun _ _ _ _ _ d x1 x2 f h=>?_);apply kI Z h<;>intro h
 .obtain⟨c8,h⟩:=H4 h;refine F4 Z c8 (b:=decide ((wrap .i64 (x1+((a.g x2.toNat).n:Int)))<0)) (fun c9=>?_) (fun c9=>?_)
  .replace h:=itT c9 h;cases h
  replace h:=itF c9 h;exact f _ [] _ (wrap .i64 (x1+((a.g x2.toNat).n:Int))) (wrap .i64 (x2+1)) Lu h
 refine kC Z h (AB Z Y) (fun y1 h=>?_);refine R4 Z Lu h (fun x3 x4=>⟨[(27,pN x4),(26,pN (a.n:Int)),(25,.p (vSl 1 (cL 2 A0) a)),(6,.vec 7500)],[(7500,.vec E3 2 x3.n (fun i=>A0 (x3.g i)) false)]⟩) (ids:=[(7500,25000)]) (fun _ _ _ _ _ j x3 x4 l h=>?_);apply kI Z h<;>intro h
 .obtain⟨c13,h⟩:=H4 h;exact l _ [(7500,34000)] _ (x3.app (a.g x4.toNat)) (wrap .i64 (x4+1)) c13 h (hle:=klR [(3,.fn (x3.n+(a.g x4.toNat).n) (x3.app (a.g x4.toNat)).n (BA x3.n (fun i=>A0 (x3.g i)) (fun i=>A0 ((a.g x4.toNat).g i))) (fun i=>A0 ((x3.app (a.g x4.toNat)).g i)))] (al1 ⟨rfl,AY5 (c:=A0) (v:=x3) (w:=a.g x4.toNat) same rfl same rfl⟩ al0))
 obtain rfl:=D4 h;exact B1 Z Lu ⟨[(2,.vec 7500)],[(7500,.vec E3 2 x3.n (fun i=>A0 (x3.g i)) true)]⟩ [7500] (ids:=[(7500,7500)]) ⟨rfl,rfl,rfl⟩
def R7 (N:Nat)(b:Law)(c:Sl Oh)(a:Int):Option (Sl Oh):= if (((0:Int)<=a/\a<=(c.n:Int))/\((0:Int)<=a/\a<=(wrap .i64 (a+(b.If.n:Int)))/\(wrap .i64 (a+(b.If.n:Int)))<=(c.n:Int)))then (O6 N b (c.sub a.toNat (wrap .i64 (a+(b.If.n:Int))).toNat)).bind fun y1=>if ((0:Int)<=(wrap .i64 (a+(b.If.n:Int)))/\(wrap .i64 (a+(b.If.n:Int)))<=(c.n:Int))then (A9 N (Sl.of [c.take a.toNat,y1,c.drop (wrap .i64 (a+(b.If.n:Int))).toNat]:Sl (Sl Oh))).bind fun y2=>some y2 else none else none
theorem Ju {c:Law}{b:Sl Oh}{a:Int}{y:Sl Oh}(h:R7 N c b a=some y) :FunO S Jk [.p (.agg (B5 c)),.p (vSl 2 A0 b),pN a] [] (.vec 0) ([.vec E3 2 y.n (fun i=>A0 (y.g i)) true]) []:=by unfold R7 at h;refine A5 Z func190 ?_;refine N0 Z Lu 6 4000 (B5 c) ?_;refine L7 Z Lu [3,8] ?_;obtain⟨c1,h⟩:=H4 h;obtain⟨y1,e1,h⟩:=C4 h;refine O0 (And.intro (And.intro c1.1 Oa) c1.2) (Tv Z Y e1) ?_;obtain⟨c2,h⟩:=H4 h;refine X9 c2 (x:=.sl true 1 3 (E5 [M9] [(0,cL 2 A0 (b.take a.toNat)),(1,cL 2 A0 y1),(2,cL 2 A0 (b.drop (wrap .i64 (a+(c.If.n:Int))).toNat))])) ?_;obtain⟨y2,e2,h⟩:=C4 h;refine SK [] Lu (FunO.le Z (args:=[.p (.sl true 1 3 (E5 [M9] [(0,cL 2 A0 (b.take a.toNat)),(1,cL 2 A0 y1),(2,cL 2 A0 (b.drop (wrap .i64 (a+(c.If.n:Int))).toNat))]))]) (by exact⟨Mf rfl (fun i d=>match i,d with|0,_=>rfl|1,_=>rfl|2,_=>rfl|_+3,d=>Lq d (by omega)),trivial⟩) (N7 Z Y e2)) ?_;refine P3 Lu ?_;obtain rfl:=D4 h;exact B1 Z Lu ⟨[(6,.vec 27000)],[(27000,.vec E3 2 y2.n (fun i=>A0 (y2.g i)) true)]⟩ [27000] (ids:=[(27000,27000)]) ⟨rfl,rfl,rfl⟩
def Y9 (N:Nat)(q0:Law)(q1:Sl Oh)(q2:Int):Option (List (Int)):= (GD N q0 q1).bind fun y1=>Q5 N (fun a (x2:Int)=>if (decide ((wrap .i64 (x2+(q0.If.n:Int)))<=(q1.n:Int))) then Q5 N (fun b (x4:Int)=>if (decide (x4<(q0.If.n:Int))) then if ((0:Int)<=x4/\x4<(q0.If.n:Int))then if ((0:Int)<=(wrap .i64 (x2+x4))/\(wrap .i64 (x2+x4))<(q1.n:Int))then (K5 N (q1.g (wrap .i64 (x2+x4)).toNat) (q0.If.g x4.toNat)).bind fun c=>if (!c) then a (wrap .i64 (x2+1)) else b (wrap .i64 (x4+1)) else none else none else (W1 N x2 y1.1 y1.2).bind fun d=>if d then X1 x2 (a (wrap .i64 (x2+1))) else a (wrap .i64 (x2+1))) 0 else some []) q2
theorem Lh {q0:Law}{q1:Sl Oh}{q2:Int}{L:List (Int)}(h:Y9 N q0 q1 q2=some L) :Fc S DE [] [.reg 0 0,.reg 1 0,.reg 2 0] [.cells ((B5 q0).map .p),.cells [.p (vSl 2 A0 q1)],.cells [pN q2]] (L.map (fun (x:Int)=>[pI .i64 x])):=by
 unfold Y9 at h;refine Fh Z func196 ?_;refine kC Z h (Tu Z Y) (fun y1 h=>?_);refine Fg Z Lu h (fun x2 L1=>⟨[(6,pN x2),(5,.clo V8 [] [.reg 12000 0,.reg 12001 0]),(2,.reg 1 0),(1,.reg 0 0),(0,.yf 3)],[(12001,.cells [.p (vSl 2 A0 y1.2)]),(12000,.cells ((B5 y1.1).map .p)),(3,.yld (L1.map (fun (x:Int)=>[pI .i64 x])) true),(2,.cells [pN q2]),(1,.cells [.p (vSl 2 A0 q1)]),(0,.cells ((B5 q0).map .p))]⟩) (ids:=[(0,0),(1,1),(2,2),(3,3),(12000,12000),(12001,12001)]) (fun _ _ _ _ _ f x2 L1 c h=>?_);apply kI Z h<;>intro h
 .refine Fg Z Lu h (fun x4 L8=>⟨[(26,pN x4),(25,pN (q0.If.n:Int)),(24,.p (vSl 2 A0 q0.If)),(6,pN x2),(5,.clo V8 [] [.reg 12000 0,.reg 12001 0]),(2,.reg 1 0),(1,.reg 0 0),(0,.yf 3)],[(12001,.cells [.p (vSl 2 A0 y1.2)]),(12000,.cells ((B5 y1.1).map .p)),(3,.yld (L8.map (fun (x:Int)=>[pI .i64 x])) true),(2,.cells [pN q2]),(1,.cells [.p (vSl 2 A0 q1)]),(0,.cells ((B5 q0).map .p))]⟩) (ids:=[(0,0),(1,1),(2,2),(3,3),(12000,12000),(12001,12001)]) (fun _ _ _ _ _ i x4 L8 j h=>?_);apply kI Z h<;>intro h
  .obtain⟨c47,h⟩:=H4 h;refine AH5 Z (And.intro c47 Nf) 9000 [pI .u32 (q0.If.g x4.toNat).Plus,pI .u32 (q0.If.g x4.toNat).Minus] ?_;refine L7 Z Lu [4,5,6,7] ?_;obtain⟨c48,h⟩:=H4 h;obtain⟨l,e12,h⟩:=C4 h;refine O0 (And.intro (And.intro c48 Nf) Nf) (Kg Z Y e12) ?_;refine P3 Lu ?_;apply kI Z h<;>intro h
   .exact c _ [(0,0),(1,1),(2,2),(3,3),(12000,12000),(12001,12001)] _ (wrap .i64 (x2+1)) L8 Lu h
   exact j _ [(0,0),(1,1),(2,2),(3,3),(12000,12000),(12001,12001)] _ (wrap .i64 (x4+1)) L8 Lu h
  obtain⟨m,e13,h⟩:=C4 h;refine D2 Z [12000,12001] Lu (Oz Z Y e13) ?_;refine kG Z h (fun h=>?_) (fun h=>?_)
  .obtain⟨L10,rfl,d⟩:=MF h;replace h:=d;refine Dd Z Lu (ys:=(fun (x:Int)=>[pI .i64 x]) x2) (rest:=L10.map (fun (x:Int)=>[pI .i64 x])) ?_ ?_
   .refine F4 Z Lu (b:=false) (fun c53=>?_) (fun c53=>?_)
    .exact Bool.noConfusion ((rfl:false=false).symm.trans c53)
    exact c _ [(0,0),(1,1),(2,2),(3,3),(12000,12000),(12001,12001)] _ (wrap .i64 (x2+1)) L10 Lu h
   refine F4 Z Lu (b:=true) (fun c54=>?_) (fun c54=>?_)
   .exact B1 Z Lu (a:=.tup []) (objs:=[(.cells ((B5 q0).map .p)),.cells [.p (vSl 2 A0 q1)],.cells [pN q2],.yld [] false]) ⟨[],[(3,.yld [] false),(2,.cells [pN q2]),(1,.cells [.p (vSl 2 A0 q1)]),(0,.cells ((B5 q0).map .p))]⟩ [0,1,2,3] (ids:=[(0,0),(1,1),(2,2),(3,3)]) ⟨false,rfl,rfl,_,rfl⟩
   exact Bool.noConfusion (Ob.symm.trans c54)
  exact c _ [(0,0),(1,1),(2,2),(3,3),(12000,12000),(12001,12001)] _ (wrap .i64 (x2+1)) L8 Lu h
 obtain rfl:=D4 h;exact B1 Z Lu (a:=.tup []) (objs:=[(.cells ((B5 q0).map .p)),.cells [.p (vSl 2 A0 q1)],.cells [pN q2],.yld [] true]) ⟨[],[(3,.yld [] true),(2,.cells [pN q2]),(1,.cells [.p (vSl 2 A0 q1)]),(0,.cells ((B5 q0).map .p))]⟩ [0,1,2,3] (ids:=[(0,0),(1,1),(2,2),(3,3)]) ⟨true,rfl,rfl,_,rfl⟩
def Hf (N:Nat)(b:Law)(c:Sl Oh)(a:Int):Option (Law×(Sl Oh)×Int):= some (b,c,a)
theorem PB {b:Law}{c:Sl Oh}{a:Int}{y:Law×(Sl Oh)×Int}(h:Hf N b c a=some y) :FunO S Px [.p (.agg (B5 b)),.p (vSl 2 A0 c),pN a] [] (.clo DE [] [.reg 0 0,.reg 1 0,.reg 2 0]) ([.cells ((B5 y.1).map .p),.cells [.p (vSl 2 A0 y.2.1)],.cells [pN y.2.2]]) []:=by unfold Hf at h;refine A5 Z func186 ?_;obtain rfl:=D4 h;exact B1 Z Lu ⟨[(6,.clo DE [] [.reg 4000 0,.reg 5000 0,.reg 6000 0])],[(6000,.cells [pN a]),(5000,.cells [.p (vSl 2 A0 c)]),(4000,.cells ((B5 b).map .p))]⟩ [4000,5000,6000] (ids:=[(4000,4000),(5000,5000),(6000,6000)]) ⟨rfl,rfl,rfl⟩
def Cl (N:Nat)(b:Law)(c:Sl Oh)(a:Int):Option Bool:= (Hf N b c a).bind fun y1=>(Y9 N y1.1 y1.2.1 y1.2.2).bind fun L1=>N8 L1 (fun d (x1:Int) (_:Unit)=>some (x1==a)) (fun (_:Unit)=>some false) ()
theorem Tw {b:Law}{c:Sl Oh}{a:Int}{y:Bool}(h:Cl N b c a=some y) :FunO S Tj [.p (.agg (B5 b)),.p (vSl 2 A0 c),pN a] [] (pB y) ([]) []:=by
 unfold Cl at h;refine A5 Z func189 ?_;refine kC Z h (PB Z Y) (fun y1 h=>?_);obtain⟨L1,e2,h⟩:=C4 h;refine DU Z Lu [12000,12001,12002] [6,5] 901 (fun _=>⟨[(6,.reg 7000 0),(5,.reg 6000 0)],[(7000,.cells [.p (.v (.bool false))]),(6000,.cells [pN a])]⟩) (idl:=[(6000,6000),(7000,7000)]) h (Lh Z Y e2) (fun _=>by kernel_rfl) (fun _=>by kernel_rfl) (fun _=>by kernel_rfl) (fun _=>by kernel_rfl) (fun x1 _ d _ f h=>?_) (fun _ h=>?_)
 .refine Ie Z Lu ?_;refine LO Z Lu ⟨[(6,.reg 7000 0),(5,.reg 6000 0)],[(7000,.cells [pB (x1==a)]),(6000,.cells [pN a])]⟩ (ids:=[(901,901),(6000,6000),(7000,7000)]) ?_;cases h;exact kR Z
 cases h;exact kR Z
def BO (N:Nat)(q0:Sl Oh)(q1:Law)(q2:Int)(q3:Int):Option (List (Int×(Sl Oh))):= if (q1.Mode==1) then (Hf N q1 q0 0).bind fun y1=>(Y9 N y1.1 y1.2.1 y1.2.2).bind fun L1=>N8 L1 (fun b (x1:Int) (z1:(Sl Oh)×Int×Int)=>if (decide (x1<z1.2.1)) then b (z1.1,z1.2.1,z1.2.2) else if (((0:Int)<=(wrap .i64 (x1+z1.2.2))/\(wrap .i64 (x1+z1.2.2))<=(z1.1.n:Int))/\((0:Int)<=x1/\x1<=(wrap .i64 (x1+q2))/\(wrap .i64 (x1+q2))<=(q0.n:Int)))then (O6 N q1 (q0.sub x1.toNat (wrap .i64 (x1+q2)).toNat)).bind fun y6=>if ((0:Int)<=(wrap .i64 (x1+q2))/\(wrap .i64 (x1+q2))<=(q0.n:Int))then (A9 N (Sl.of [z1.1.take (wrap .i64 (x1+z1.2.2)).toNat,y6,q0.drop (wrap .i64 (x1+q2)).toNat]:Sl (Sl Oh))).bind fun y7=>X1 (x1,y7) (b (y7,wrap .i64 (x1+(if q2<1 then 1 else q2)),wrap .i64 ((wrap .i64 (z1.2.2+q3))-q2))) else none else none) (fun (z1:(Sl Oh)×Int×Int)=>some []) (q0,0,0) else if (q1.Mode==2) then Q3 N (fun a (x5:Sl Oh) (x6:Int)=>if (decide ((wrap .i64 (x6+q2))<=(x5.n:Int))) then (Cl N q1 x5 x6).bind fun g=>if (!g) then a x5 (wrap .i64 (x6+1)) else (R7 N q1 x5 x6).bind fun d=>X1 (x6,d) (if (q2==0) then a d (wrap .i64 ((wrap .i64 (x6+q3))+1)) else a d (wrap .i64 (x6+q3))) else some []) q0 0 else if (q1.Mode==3) then Q3 N (fun c (x7:Sl Oh) (x8:Int)=>if (decide (0<=x8)) then (Cl N q1 x7 x8).bind fun i=>if (!i) then c x7 (wrap .i64 (x8-1)) else (R7 N q1 x7 x8).bind fun f=>X1 (x8,f) (c f (wrap .i64 (x8-(if q2<1 then 1 else q2)))) else some []) q0 (wrap .i64 ((q0.n:Int)-q2)) else some []
theorem VA {q0:Sl Oh}{q1:Law}{q2:Int}{q3:Int}{L:List (Int×(Sl Oh))}(h:BO N q0 q1 q2 q3=some L) :Fc S Fm [] [.reg 0 0,.reg 1 0,.reg 2 0,.reg 3 0] [.cells [.p (vSl 2 A0 q0)],.cells ((B5 q1).map .p),.cells [pN q2],.cells [pN q3]] (L.map (fun (x:Int×(Sl Oh))=>[pI .i64 x.1,vSl 2 A0 x.2])):=by
 unfold BO at h;refine Fh Z func185 ?_;apply kI Z h<;>intro h
 .refine kC Z h (PB Z Y) (fun y1 h=>?_);obtain⟨L1,e2,h⟩:=C4 h;refine Ar4 Z Lu [20000,20001,20002] [8,7,6,5,4,3,2,1] 900 (fun z1 L2=>⟨[(8,.reg 9000 0),(7,.reg 8000 0),(6,.reg 7000 0),(5,.reg 6000 0),(4,.reg 3 0),(3,.reg 2 0),(2,.reg 1 0),(1,.reg 0 0)],[(9000,.cells [pN z1.2.2]),(8000,.cells [pN z1.2.1]),(7000,.cells [.p (vSl 2 A0 z1.1)]),(6000,.cells [.yf 4]),(4,.yld (L2.map (fun (x:Int×(Sl Oh))=>[pI .i64 x.1,vSl 2 A0 x.2])) true),(3,.cells [pN q3]),(2,.cells [pN q2]),(1,.cells ((B5 q1).map .p)),(0,.cells [.p (vSl 2 A0 q0)])]⟩) (idl:=[(0,0),(1,1),(2,2),(3,3),(4,4),(6000,6000),(7000,7000),(8000,8000),(9000,9000)]) h (Lh Z Y e2) (fun _=>by kernel_rfl) (fun _ _=>by kernel_rfl) (fun _ _=>by kernel_rfl) (fun _ _=>by kernel_rfl) (fun x1 _ s z1 L2 j h=>?_) (fun z1 L2 h=>?_)
  .refine Ie Z Lu ?_;apply kI Z h<;>intro h
   .exact j _ [(0,0),(1,1),(2,2),(3,3),(4,4),(900,900),(6000,6000),(7000,7000),(8000,8000),(9000,9000)] _ (z1.1,z1.2.1,z1.2.2) L2 Lu h
   refine S4 Z Lu [(0,.l [7000]),(2,.l [9000]),(5,.l [1]),(6,.l [0]),(9,.l [2]),(12,.n),(13,.l [0]),(15,.l [2]),(20,.a [7000])] ?_;obtain⟨c13,h⟩:=H4 h;obtain⟨y6,e7,h⟩:=C4 h;refine O0 c13 (Tv Z Y e7) ?_;obtain⟨c14,h⟩:=H4 h;refine X9 c14 (x:=.sl true 1 3 (E5 [M9] [(0,cL 2 A0 (z1.1.take (wrap .i64 (x1+z1.2.2)).toNat)),(1,cL 2 A0 y6),(2,cL 2 A0 (q0.drop (wrap .i64 (x1+q2)).toNat))])) ?_;obtain⟨y7,e8,h⟩:=C4 h;refine SK [] Lu (FunO.le Z (args:=[.p (.sl true 1 3 (E5 [M9] [(0,cL 2 A0 (z1.1.take (wrap .i64 (x1+z1.2.2)).toNat)),(1,cL 2 A0 y6),(2,cL 2 A0 (q0.drop (wrap .i64 (x1+q2)).toNat))]))]) (by exact⟨Mf rfl (fun i t=>match i,t with|0,_=>rfl|1,_=>rfl|2,_=>rfl|_+3,t=>Lq t (by omega)),trivial⟩) (N7 Z Y e8)) ?_;refine P3 Lu ?_;obtain⟨L5,rfl,m⟩:=MF h;replace h:=m;refine Dd Z Lu (ys:=(fun (x:Int×(Sl Oh))=>[pI .i64 x.1,vSl 2 A0 x.2]) (x1,y7)) (rest:=L5.map (fun (x:Int×(Sl Oh))=>[pI .i64 x.1,vSl 2 A0 x.2])) ?_ ?_
   .refine F4 Z Lu (b:=false) (fun c15=>?_) (fun c15=>?_)
    .exact Bool.noConfusion ((rfl:false=false).symm.trans c15)
    refine S4 Z Lu [(1,.l [2]),(4,.l [9000]),(5,.l [3]),(7,.l [2]),(9,.a [8000]),(10,.a [9000])] ?_;refine P3 Lu ?_;exact j _ [(0,0),(1,1),(2,2),(3,3),(4,4),(900,900),(6000,6000),(7000,7000),(8000,8000),(9000,9000)] _ (y7,wrap .i64 (x1+(if q2<1 then 1 else q2)),wrap .i64 ((wrap .i64 (z1.2.2+q3))-q2)) L5 Lu h
   refine F4 Z Lu (b:=true) (fun c16=>?_) (fun c16=>?_)
   .refine LO Z Lu ⟨[(8,.reg 9000 0),(7,.reg 8000 0),(6,.reg 7000 0),(5,.reg 6000 0),(4,.reg 3 0),(3,.reg 2 0),(2,.reg 1 0),(1,.reg 0 0)],[(44000,.vec E3 2 y7.n (fun i=>A0 (y7.g i)) true),(9000,.cells [pN z1.2.2]),(8000,.cells [pN z1.2.1]),(7000,.cells [.vec 44000]),(6000,.cells [.yf 4]),(4,.yld [] false),(3,.cells [pN q3]),(2,.cells [pN q2]),(1,.cells ((B5 q1).map .p)),(0,.cells [.p (vSl 2 A0 q0)])]⟩ (ids:=[(0,0),(1,1),(2,2),(3,3),(4,4),(900,900),(6000,6000),(7000,7000),(8000,8000),(9000,9000),(44000,44000)]) ?_;exact B1 Z Lu (a:=.tup []) (objs:=[(.cells [.p (vSl 2 A0 q0)]),.cells ((B5 q1).map .p),.cells [pN q2],.cells [pN q3],.yld [] false]) ⟨[],[(4,.yld [] false),(3,.cells [pN q3]),(2,.cells [pN q2]),(1,.cells ((B5 q1).map .p)),(0,.cells [.p (vSl 2 A0 q0)])]⟩ [0,1,2,3,4] (ids:=[(0,0),(1,1),(2,2),(3,3),(4,4)]) ⟨false,rfl,rfl,_,rfl⟩
   exact Bool.noConfusion (Ob.symm.trans c16)
  obtain rfl:=D4 h;exact B1 Z Lu (a:=.tup []) (objs:=[(.cells [.p (vSl 2 A0 q0)]),.cells ((B5 q1).map .p),.cells [pN q2],.cells [pN q3],.yld [] true]) ⟨[],[(4,.yld [] true),(3,.cells [pN q3]),(2,.cells [pN q2]),(1,.cells ((B5 q1).map .p)),(0,.cells [.p (vSl 2 A0 q0)])]⟩ [0,1,2,3,4] (ids:=[(0,0),(1,1),(2,2),(3,3),(4,4)]) ⟨true,rfl,rfl,_,rfl⟩
 apply kI Z h<;>intro h
 .refine Qy Z Lu h (fun x5 x6 L6=>⟨[(10,pN x6),(6,.reg 7000 0),(5,.reg 6000 0),(4,.reg 3 0),(3,.reg 2 0),(2,.reg 1 0)],[(7000,.cells [.p (vSl 2 A0 x5)]),(6000,.cells [.yf 4]),(4,.yld (L6.map (fun (x:Int×(Sl Oh))=>[pI .i64 x.1,vSl 2 A0 x.2])) true),(3,.cells [pN q3]),(2,.cells [pN q2]),(1,.cells ((B5 q1).map .p)),(0,.cells [.p (vSl 2 A0 q0)])]⟩) (ids:=[(0,0),(1,1),(2,2),(3,3),(4,4),(6000,6000),(7000,7000)]) (fun _ _ _ _ _ u x5 x6 L6 c h=>?_);apply kI Z h<;>intro h
  .refine kC Z h (Tw Z Y) (fun w h=>?_);apply kI Z h<;>intro h
   .exact c _ [(0,0),(1,1),(2,2),(3,3),(4,4),(6000,6000),(7000,7000)] _ x5 (wrap .i64 (x6+1)) L6 Lu h
   refine kC Z h (Ju Z Y) (fun d h=>?_);obtain⟨L9,rfl,o⟩:=MF h;replace h:=o;refine Dd Z Lu (ys:=(fun (x:Int×(Sl Oh))=>[pI .i64 x.1,vSl 2 A0 x.2]) (x6,d)) (rest:=L9.map (fun (x:Int×(Sl Oh))=>[pI .i64 x.1,vSl 2 A0 x.2])) ?_ ?_
   .refine F4 Z Lu (b:=false) (fun c30=>?_) (fun c30=>?_)
    .exact Bool.noConfusion ((rfl:false=false).symm.trans c30)
    apply kI Z h<;>intro h
    .exact c _ [(0,0),(1,1),(2,2),(3,3),(4,4),(6000,6000),(7000,7000)] _ d (wrap .i64 ((wrap .i64 (x6+q3))+1)) L9 Lu h
    exact c _ [(0,0),(1,1),(2,2),(3,3),(4,4),(6000,6000),(7000,7000)] _ d (wrap .i64 (x6+q3)) L9 Lu h
   refine F4 Z Lu (b:=true) (fun c32=>?_) (fun c32=>?_)
   .exact B1 Z Lu (a:=.tup []) (objs:=[(.cells [.p (vSl 2 A0 q0)]),.cells ((B5 q1).map .p),.cells [pN q2],.cells [pN q3],.yld [] false]) ⟨[],[(4,.yld [] false),(3,.cells [pN q3]),(2,.cells [pN q2]),(1,.cells ((B5 q1).map .p)),(0,.cells [.p (vSl 2 A0 q0)])]⟩ [0,1,2,3,4] (ids:=[(0,0),(1,1),(2,2),(3,3),(4,4)]) ⟨false,rfl,rfl,_,rfl⟩
   exact Bool.noConfusion (Ob.symm.trans c32)
  obtain rfl:=D4 h;exact B1 Z Lu (a:=.tup []) (objs:=[(.cells [.p (vSl 2 A0 q0)]),.cells ((B5 q1).map .p),.cells [pN q2],.cells [pN q3],.yld [] true]) ⟨[],[(4,.yld [] true),(3,.cells [pN q3]),(2,.cells [pN q2]),(1,.cells ((B5 q1).map .p)),(0,.cells [.p (vSl 2 A0 q0)])]⟩ [0,1,2,3,4] (ids:=[(0,0),(1,1),(2,2),(3,3),(4,4)]) ⟨true,rfl,rfl,_,rfl⟩
 apply kI Z h<;>intro h
 .refine Qy Z Lu h (fun x7 x8 L10=>⟨[(11,pN x8),(6,.reg 7000 0),(5,.reg 6000 0),(3,.reg 2 0),(2,.reg 1 0)],[(7000,.cells [.p (vSl 2 A0 x7)]),(6000,.cells [.yf 4]),(4,.yld (L10.map (fun (x:Int×(Sl Oh))=>[pI .i64 x.1,vSl 2 A0 x.2])) true),(3,.cells [pN q3]),(2,.cells [pN q2]),(1,.cells ((B5 q1).map .p)),(0,.cells [.p (vSl 2 A0 q0)])]⟩) (ids:=[(0,0),(1,1),(2,2),(3,3),(4,4),(6000,6000),(7000,7000)]) (fun _ _ _ _ _ v x7 x8 L10 q h=>?_);apply kI Z h<;>intro h
  .refine kC Z h (Tw Z Y) (fun y h=>?_);apply kI Z h<;>intro h
   .exact q _ [(0,0),(1,1),(2,2),(3,3),(4,4),(6000,6000),(7000,7000)] _ x7 (wrap .i64 (x8-1)) L10 Lu h
   refine kC Z h (Ju Z Y) (fun r h=>?_);obtain⟨L13,rfl,f⟩:=MF h;replace h:=f;refine Dd Z Lu (ys:=(fun (x:Int×(Sl Oh))=>[pI .i64 x.1,vSl 2 A0 x.2]) (x8,r)) (rest:=L13.map (fun (x:Int×(Sl Oh))=>[pI .i64 x.1,vSl 2 A0 x.2])) ?_ ?_
   .refine F4 Z Lu (b:=false) (fun c44=>?_) (fun c44=>?_)
    .exact Bool.noConfusion ((rfl:false=false).symm.trans c44)
    exact q _ [(0,0),(1,1),(2,2),(3,3),(4,4),(6000,6000),(7000,7000)] _ r (wrap .i64 (x8-(if q2<1 then 1 else q2))) L13 Lu h
   refine F4 Z Lu (b:=true) (fun c45=>?_) (fun c45=>?_)
   .exact B1 Z Lu (a:=.tup []) (objs:=[(.cells [.p (vSl 2 A0 q0)]),.cells ((B5 q1).map .p),.cells [pN q2],.cells [pN q3],.yld [] false]) ⟨[],[(4,.yld [] false),(3,.cells [pN q3]),(2,.cells [pN q2]),(1,.cells ((B5 q1).map .p)),(0,.cells [.p (vSl 2 A0 q0)])]⟩ [0,1,2,3,4] (ids:=[(0,0),(1,1),(2,2),(3,3),(4,4)]) ⟨false,rfl,rfl,_,rfl⟩
   exact Bool.noConfusion (Ob.symm.trans c45)
  obtain rfl:=D4 h;exact B1 Z Lu (a:=.tup []) (objs:=[(.cells [.p (vSl 2 A0 q0)]),.cells ((B5 q1).map .p),.cells [pN q2],.cells [pN q3],.yld [] true]) ⟨[],[(4,.yld [] true),(3,.cells [pN q3]),(2,.cells [pN q2]),(1,.cells ((B5 q1).map .p)),(0,.cells [.p (vSl 2 A0 q0)])]⟩ [0,1,2,3,4] (ids:=[(0,0),(1,1),(2,2),(3,3),(4,4)]) ⟨true,rfl,rfl,_,rfl⟩
 obtain rfl:=D4 h;exact B1 Z Lu (a:=.tup []) (objs:=[(.cells [.p (vSl 2 A0 q0)]),.cells ((B5 q1).map .p),.cells [pN q2],.cells [pN q3],.yld [] true]) ⟨[],[(4,.yld [] true),(3,.cells [pN q3]),(2,.cells [pN q2]),(1,.cells ((B5 q1).map .p)),(0,.cells [.p (vSl 2 A0 q0)])]⟩ [0,1,2,3,4] (ids:=[(0,0),(1,1),(2,2),(3,3),(4,4)]) ⟨true,rfl,rfl,_,rfl⟩
def Jv (N:Nat)(a:Law)(b:Sl Oh):Option ((Sl Oh)×Law×Int×Int):= some (b,a,(a.If.n:Int),(a.Out.n:Int))
theorem Ad8 {b:Law}{c:Sl Oh}{y:(Sl Oh)×Law×Int×Int}(h:Jv N b c=some y) :FunO S Th [.p (.agg (B5 b)),.p (vSl 2 A0 c)] [] (.clo Fm [] [.reg 0 0,.reg 1 0,.reg 2 0,.reg 3 0]) ([.cells [.p (vSl 2 A0 y.1)],.cells ((B5 y.2.1).map .p),.cells [pN y.2.2.1],.cells [pN y.2.2.2]]) []:=by unfold Jv at h;refine A5 Z func175 ?_;refine S4 Z Lu [(1,.l [3000]),(2,.n),(4,.l [3000]),(5,.n),(6,.a [6000]),(7,.a [7000]),(8,.a [6000]),(9,.a [7000])] ?_;refine P3 Lu ?_;obtain rfl:=D4 h;exact B1 Z Lu ⟨[(4,.clo Fm [] [.reg 4000 0,.reg 3000 0,.reg 6000 0,.reg 7000 0])],[(7000,.cells [pN (b.Out.n:Int)]),(6000,.cells [pN (b.If.n:Int)]),(4000,.cells [.p (vSl 2 A0 c)]),(3000,.cells ((B5 b).map .p))]⟩ [4000,3000,6000,7000] (ids:=[(3000,3000),(4000,4000),(6000,6000),(7000,7000)]) ⟨rfl,rfl,rfl⟩
def Dq (N:Nat)(b:Law)(c:Sl Oh):Option ((Sl Int)×(Sl (Sl Oh))×Int):= (Fu N b c).bind fun y1=>if (y1 != 0) then some (Oc,Og,y1) else (Jv N b c).bind fun y2=>(BO N y2.1 y2.2.1 y2.2.2.1 y2.2.2.2).bind fun L1=>N8 L1 (fun a (x1:Int×(Sl Oh)) (z1:(Sl Int)×(Sl (Sl Oh)))=>if (decide (32<(x1.2.n:Int))) then some (Oc,Og,11) else if ((z1.1.n+(Sl.of [x1.1]:Sl Int).n)*8<=140737488355328/\z1.1.n+(Sl.of [x1.1]:Sl Int).n<=140737488355328)then if ((z1.2.n+(Sl.of [x1.2]:Sl (Sl Oh)).n)*24<=140737488355328/\z1.2.n+(Sl.of [x1.2]:Sl (Sl Oh)).n<=140737488355328)then a (z1.1.push x1.1,z1.2.push x1.2) else none else none) (fun (z1:(Sl Int)×(Sl (Sl Oh)))=>some (z1.1,z1.2,0)) (Oc,Og)
theorem VB {b:Law}{d:Sl Oh}{y:(Sl Int)×(Sl (Sl Oh))×Int}(h:Dq N b d=some y) :FunO S MZ [.p (.agg (B5 b)),.p (vSl 2 A0 d)] [] (.tup [.vec 0,.vec 1,pN y.2.2]) ([.vec F2 1 y.1.n (fun i=>cI .i64 (y.1.g i)) true,.vec S1 1 y.2.1.n (fun i=>cL 2 A0 (y.2.1.g i)) true]) []:=by
 unfold Dq at h;refine A5 Z func167 ?_;refine N0 Z Lu 4 3000 (B5 b) ?_;obtain⟨y1,e1,h⟩:=C4 h;refine D2 Z [] Oa (Vz Z Y e1) ?_;apply kI Z h<;>intro h
 .obtain rfl:=D4 h;exact B1 Z Lu ⟨[(6,.reg 7000 0),(5,.reg 6000 0),(4,.reg 5000 0)],[(7000,.cells [pN y1]),(6701,.vec S1 1 Og.n (fun i=>cL 2 A0 (Og.g i)) true),(6000,.cells [.vec 6701]),(5700,.vec F2 1 Oc.n (fun i=>cI .i64 (Oc.g i)) true),(5000,.cells [.vec 5700])]⟩ [5700,6701] (ids:=[(5000,5000),(6000,6000),(7000,7000)]) ⟨rfl,rfl,rfl⟩
 obtain⟨y2,e2,h⟩:=C4 h;refine D2 Z [] Oa (Ad8 Z Y e2) ?_;obtain⟨L1,e3,h⟩:=C4 h;refine DU Z Lu [21000,21001,21002,21003] [9,8,6,5,4] 901 (fun z1=>⟨[(9,.reg 10000 0),(8,.reg 9000 0),(6,.reg 7000 0),(5,.reg 6000 0),(4,.reg 5000 0)],[(10500,.vec S1 1 z1.2.n (fun i=>cL 2 A0 (z1.2.g i)) false),(10000,.cells [.vec 10500]),(9500,.vec F2 1 z1.1.n (fun i=>cI .i64 (z1.1.g i)) false),(9000,.cells [.vec 9500]),(7000,.cells [pN 0]),(6000,.cells [.p M9]),(5000,.cells [.p M9])]⟩) (idl:=[(5000,5000),(6000,6000),(7000,7000),(9000,9000),(10000,10000)]) h (VA Z Y e3) (fun _=>by kernel_rfl) (fun _=>by kernel_rfl) (fun _=>by kernel_rfl) (fun _=>by kernel_rfl) (fun x1 _ f z1 j h=>?_) (fun z1 h=>?_)
 .refine Ie Z Lu ?_;apply kI Z h<;>intro h
  .refine LO Z Lu ⟨[(9,.reg 10000 0),(8,.reg 9000 0),(6,.reg 7000 0),(5,.reg 6000 0),(4,.reg 5000 0)],[(10500,.vec S1 1 z1.2.n (fun i=>cL 2 A0 (z1.2.g i)) false),(10000,.cells [.vec 10500]),(9500,.vec F2 1 z1.1.n (fun i=>cI .i64 (z1.1.g i)) false),(9000,.cells [.vec 9500]),(7000,.cells [pN 11]),(6000,.cells [.p M9]),(5000,.cells [.p M9])]⟩ (ids:=[(901,901),(5000,5000),(6000,6000),(7000,7000),(9000,9000),(9500,9500),(10000,10000),(10500,10500)]) ?_;obtain rfl:=D4 h;exact B1 Z Lu ⟨[(6,.reg 7000 0),(5,.reg 6000 0),(4,.reg 5000 0)],[(7000,.cells [pN 11]),(6701,.vec S1 1 Og.n (fun i=>cL 2 A0 (Og.g i)) true),(6000,.cells [.vec 6701]),(5700,.vec F2 1 Oc.n (fun i=>cI .i64 (Oc.g i)) true),(5000,.cells [.vec 5700])]⟩ [5700,6701] (ids:=[(5000,5000),(6000,6000),(7000,7000)]) ⟨rfl,rfl,rfl⟩
  refine S4 Z Lu [(0,.l [9000]),(3,.a [30000,9500]),(4,.l [10000]),(7,.a [34000,10500]),(8,.a [9000]),(9,.a [10000])] ?_;refine X9 Lu (x:=.sl true 1 1 (E5 [pI .i64 0] [(0,cI .i64 x1.1)])) ?_;obtain⟨c9,h⟩:=H4 h;refine X9 c9 (x:=.sl true 1 1 (E5 [M9] [(0,cL 2 A0 x1.2)])) ?_;obtain⟨c10,h⟩:=H4 h;refine P3 c10 ?_;exact j _ [(901,901),(5000,5000),(6000,6000),(7000,7000),(9000,9000),(9500,30000),(10000,10000),(10500,34000)] _ (z1.1.push x1.1,z1.2.push x1.2) Lu h (hle:=klR [(0,.fn (z1.2.n+1) (z1.2.push x1.2).n (BA z1.2.n (fun i=>cL 2 A0 (z1.2.g i)) (E5 [M9] [(0,cL 2 A0 x1.2)])) (fun i=>cL 2 A0 ((z1.2.push x1.2).g i))),(1,.fn (z1.1.n+1) (z1.1.push x1.1).n (BA z1.1.n (fun i=>cI .i64 (z1.1.g i)) (E5 [pI .i64 0] [(0,cI .i64 x1.1)])) (fun i=>cI .i64 ((z1.1.push x1.1).g i)))] (al1 ⟨rfl,Pm (c:=cL 2 A0) (v:=z1.2) (x:=x1.2) (z:=[M9]) same rfl rfl⟩ (al1 ⟨rfl,Pm (c:=cI .i64) (v:=z1.1) (x:=x1.1) (z:=[(pI .i64 0)]) same rfl rfl⟩ al0)))
 refine S4 Z Lu [(0,.l [9000]),(1,.l [10000]),(2,.a [5000]),(3,.a [6000]),(4,.a [7000])] ?_;refine P3 Lu ?_;obtain rfl:=D4 h;exact B1 Z Lu ⟨[(6,.reg 7000 0),(5,.reg 6000 0),(4,.reg 5000 0)],[(10500,.vec S1 1 z1.2.n (fun i=>cL 2 A0 (z1.2.g i)) true),(9500,.vec F2 1 z1.1.n (fun i=>cI .i64 (z1.1.g i)) true),(7000,.cells [pN 0]),(6000,.cells [.vec 10500]),(5000,.cells [.vec 9500])]⟩ [9500,10500] (ids:=[(5000,5000),(6000,6000),(7000,7000),(9500,9500),(10500,10500)]) ⟨rfl,rfl,rfl⟩
def S2 (N:Nat)(b:Law)(a:Sl Oh):Option ((Sl Oh)×Int):= (Dq N b a).bind fun y1=>if (y1.2.2 != 0) then some (Od,y1.2.2) else if (decide (0<(y1.2.1.n:Int))) then if (((0:Int)<=(wrap .i64 ((y1.2.1.n:Int)-1))/\(wrap .i64 ((y1.2.1.n:Int)-1))<(y1.2.1.n:Int))/\(wrap .i64 ((y1.2.1.n:Int)-1)).toNat<y1.2.1.n)then some (y1.2.1.g (wrap .i64 ((y1.2.1.n:Int)-1)).toNat,0) else none else (A6 N a).bind fun y2=>some (y2,0)
theorem VC {a:Law}{b:Sl Oh}{y:(Sl Oh)×Int}(h:S2 N a b=some y) :FunO S MY [.p (.agg (B5 a)),.p (vSl 2 A0 b)] [] (.tup [.p (vSl 2 A0 y.1),pN y.2]) ([]) []:=by
 unfold S2 at h;refine A5 Z func158 ?_;refine kC Z h (VB Z Y) (fun y1 h=>?_);apply kI Z h<;>intro h
 .obtain rfl:=D4 h;exact B1 Z Lu ⟨[(5,pN y1.2.2),(4,.p (vSl 2 A0 Od))],[]⟩ [] (ids:=[]) ⟨rfl,rfl,rfl⟩
 apply kI Z h<;>intro h
 .obtain⟨c3,h⟩:=H4 h;obtain rfl:=D4 h;exact Ar2 Z c3 [] ⟨rfl,rfl,rfl⟩
 refine kC Z h (O5 Z Y) (fun y2 h=>?_);obtain rfl:=D4 h;exact B1 Z Lu ⟨[(5,pN 0),(4,.p (vSl 2 A0 y2))],[]⟩ [] (ids:=[]) ⟨rfl,rfl,rfl⟩
end Go.AM
namespace Go.AM
open Go.Proofs.Tryz
variable {N:Nat}
open IntKind (wrap)
open Go.Proofs
set_option maxRecDepth 10000
set_option maxHeartbeats 2000000
variable {S:Aj}(Z:H1 S Tryz.prog) (Y:Nk S)
include Z Y
def Q9 (N:Nat)(a:Law):Option Bool:= (Y8 N a).bind fun y1=>some (y1 != 0)
theorem Lz {a:Law}{y:Bool}(h:Q9 N a=some y) :FunO S FV [.p (.agg (B5 a))] [] (pB y) ([]) []:=by unfold Q9 at h;refine A5 Z func143 ?_;refine kC Z h (Il Z Y) (fun y1 h=>?_);cases h;exact kR Z
def F7 (N:Nat)(a:Sl Law)(c:Law->Option Bool):Option Int:= Q5 N (fun b (x1:Int)=>if (decide (x1<(a.n:Int))) then if ((0:Int)<=x1/\x1<(a.n:Int))then (c (a.g x1.toNat)).bind fun y3=>if y3 then some x1 else b (wrap .i64 (x1+1)) else none else some (-1)) 0
theorem Au {a:Sl Law}{c:Law->Option Bool}{kp_f:Nat}(d:∀{a0:Law}{b:Bool},c a0=some b->FunO S kp_f [.p (.agg (B5 a0))] [] (pB b) [] []){y:Int}(h:F7 N a c=some y) :FunO S O4 [.p (vSl 18 B5 a),.clo kp_f [] []] [] (pN y) ([]) []:=by
 unfold F7 at h;refine A5 Z func156 ?_;refine Ak Z Lu h (fun x1=>⟨[(8,pN x1),(7,pN (a.n:Int)),(1,.clo kp_f [] []),(0,.p (vSl 18 B5 a))],[]⟩) (ids:=[]) (fun _ _ _ _ _ f x1 g h=>?_);apply kI Z h<;>intro h
 .obtain⟨c8,h⟩:=H4 h;obtain⟨y3,e3,h⟩:=C4 h;refine D2 Z [] (And.intro c8 Oa) (d e3) ?_;apply kI Z h<;>intro h
  .cases h;exact kR Z
  exact g _ [] _ (wrap .i64 (x1+1)) Lu h
 cases h;exact kR Z
def C8 (N:Nat)(a:Sl Law)(b:Law->Option Bool):Option Bool:= (F7 N a b).bind fun y1=>some (decide (0<=y1))
theorem X5 {a:Sl Law}{c:Law->Option Bool}{kp_f:Nat}(d:∀{a0:Law}{b:Bool},c a0=some b->FunO S kp_f [.p (.agg (B5 a0))] [] (pB b) [] []){y:Bool}(h:C8 N a c=some y) :FunO S L0 [.p (vSl 18 B5 a),.clo kp_f [] []] [] (pB y) ([]) []:=by unfold C8 at h;refine A5 Z func142 ?_;refine kC Z h (Au Z Y (fun e=>d e)) (fun y1 h=>?_);cases h;exact kR Z
def W2 (N:Nat)(a:Sl Law):Option Int:= if (decide (64<(a.n:Int))) then some 12 else (C8 N a (fun (u1:Law)=>Q9 N u1)).bind fun y1=>if y1 then some 17 else some 0
theorem OA {a:Sl Law}{y:Int}(h:W2 N a=some y) :FunO S HK [.p (vSl 18 B5 a)] [] (pN y) ([]) []:=by
 unfold W2 at h;refine A5 Z func122 ?_;apply kI Z h<;>intro h
 .cases h;exact kR Z
 refine kC Z h (X5 Z Y (fun e=>Lz Z Y e)) (fun y1 h=>?_);apply kI Z h<;>intro h
 .cases h;exact kR Z
 cases h;exact kR Z
def AI (N:Nat)(b:Sl Law)(a:Sl (Sl Oh)):Option Int:= (W2 N b).bind fun y1=>if (y1 != 0) then some y1 else if (decide (256<(a.n:Int))) then some 12 else Q5 N (fun c (x1:Int)=>if (decide (x1<(a.n:Int))) then if ((0:Int)<=x1/\x1<(a.n:Int))then (J6 N (a.g x1.toNat)).bind fun y4=>if (y4 != 0) then some y4 else c (wrap .i64 (x1+1)) else none else some 0) 0
theorem OB {b:Sl Law}{a:Sl (Sl Oh)}{y:Int}(h:AI N b a=some y) :FunO S HJ [.p (vSl 18 B5 b),.p (vSl 1 (cL 2 A0) a)] [] (pN y) ([]) []:=by
 unfold AI at h;refine A5 Z func99 ?_;refine kC Z h (OA Z Y) (fun y1 h=>?_);apply kI Z h<;>intro h
 .cases h;exact kR Z
 apply kI Z h<;>intro h
 .cases h;exact kR Z
 refine Ak Z Lu h (fun x1=>⟨[(19,pN x1),(18,pN (a.n:Int)),(17,.p (vSl 1 (cL 2 A0) a))],[]⟩) (ids:=[]) (fun _ _ _ _ _ c x1 d h=>?_);apply kI Z h<;>intro h
 .obtain⟨c10,h⟩:=H4 h;obtain⟨y4,e4,h⟩:=C4 h;refine D2 Z [] c10 (Ba Z Y e4) ?_;apply kI Z h<;>intro h
  .cases h;exact kR Z
  exact d _ [] _ (wrap .i64 (x1+1)) Lu h
 cases h;exact kR Z
end Go.AM
namespace Go.AM
open Go.Proofs.Tryz
variable {N:Nat}
open IntKind (wrap)
open Go.Proofs
set_option maxRecDepth 10000
set_option maxHeartbeats 2000000
variable {S:Aj}(Z:H1 S Tryz.prog) (Y:Nk S)
include Z Y
def As9 (c:Int):Option PV:=if c=0 then none else some (.iface 181 (pI .i64 c))
def V2 (N:Nat)(c:Int)(q0:Sl Oh)(q1:Sl Law):Option (List (Int×(Sl Oh))):= (A6 N q0).bind fun y1=>X1 (0,y1) (Q3 N (fun a (x1:Sl Oh) (x2:Int)=>if (decide (x2<(q1.n:Int))) then if ((0:Int)<=x2/\x2<(q1.n:Int))then (S2 N (q1.g x2.toNat) x1).bind fun y4=>if (y4.2 != 0) then if y4.2=c then some []else none else X1 (wrap .i64 (x2+1),y4.1) (a y4.1 (wrap .i64 (x2+1))) else none else if c=0 then some []else none) y1 0)
theorem FY {q0:Sl Oh}{q1:Sl Law}{c:Int}{L:List (Int×(Sl Oh))}(h:V2 N c q0 q1=some L) :MI S Q6 [] [.reg 0 0,.reg 1 0] [.cells [.p (vSl 2 A0 q0)],.cells [.p (vSl 18 B5 q1)]] (L.map (fun (x:Int×(Sl Oh))=>[pI .i64 x.1,vSl 2 A0 x.2])) (As9 c):=by
 unfold V2 at h;refine Ac3 Z func157 ?_;refine kC Z h (O5 Z Y) (fun y1 h=>?_);obtain⟨L1,rfl,d⟩:=MF h;replace h:=d;refine Dd Z Lu (ys:=(fun (x:Int×(Sl Oh))=>[pI .i64 x.1,vSl 2 A0 x.2]) (0,y1)) (rest:=L1.map (fun (x:Int×(Sl Oh))=>[pI .i64 x.1,vSl 2 A0 x.2])) ?_ ?_
 .refine F4 Z Lu (b:=false) (fun c1=>?_) (fun c1=>?_)
  .exact Bool.noConfusion ((rfl:false=false).symm.trans c1)
  refine Qy Z Lu h (fun x1 x2 L2=>⟨[(17,pN x2),(16,pN (q1.n:Int)),(15,.p (vSl 18 B5 q1)),(4,.p (vSl 2 A0 x1)),(0,.yf 2)],[(2,.yld (L2.map (fun (x:Int×(Sl Oh))=>[pI .i64 x.1,vSl 2 A0 x.2])) true),(1,.cells [.p (vSl 18 B5 q1)]),(0,.cells [.p (vSl 2 A0 q0)])]⟩) (ids:=[(0,0),(1,1),(2,2)]) (fun _ _ _ _ _ g x1 x2 L2 i h=>?_);apply kI Z h<;>intro h
  .obtain⟨c13,h⟩:=H4 h;obtain⟨y4,e4,h⟩:=C4 h;refine D2 Z [] (And.intro c13 Oa) (VC Z Y e4) ?_;refine F4 Z Lu (b:=y4.2 != 0) (fun c14=>?_) (fun c14=>?_)
   .replace h:=itT c14 h;obtain⟨c0,h⟩:=H4 h;obtain rfl:=D4 h;have j:As9 c=some (.iface 181 (pI .i64 y4.2)):=by
     have:¬y4.2=0:=by simpa using c14
     rw[<- c0];simp[As9,this]
    refine AI1 Z Lu (x:=.iface 181 (pI .i64 y4.2)) ?_;exact AA1 Z Lu (x:=.iface 181 (pI .i64 y4.2)) (objs:=[(.cells [.p (vSl 2 A0 q0)]),.cells [.p (vSl 18 B5 q1)],.yld [] true]) [0,1,2] ⟨true,rfl,rfl,fun _=>by rw[j];rfl,fun e=>nomatch e⟩
   replace h:=itF c14 h;obtain⟨L5,rfl,f⟩:=MF h;replace h:=f;refine Dd Z Lu (ys:=(fun (x:Int×(Sl Oh))=>[pI .i64 x.1,vSl 2 A0 x.2]) (wrap .i64 (x2+1),y4.1)) (rest:=L5.map (fun (x:Int×(Sl Oh))=>[pI .i64 x.1,vSl 2 A0 x.2])) ?_ ?_
   .refine F4 Z Lu (b:=false) (fun c15=>?_) (fun c15=>?_)
    .exact Bool.noConfusion ((rfl:false=false).symm.trans c15)
    exact i _ [(0,0),(1,1),(2,2)] _ y4.1 (wrap .i64 (x2+1)) L5 Lu h
   refine F4 Z Lu (b:=true) (fun c16=>?_) (fun c16=>?_)
   .exact B1 Z Lu (a:=.tup []) (objs:=[(.cells [.p (vSl 2 A0 q0)]),.cells [.p (vSl 18 B5 q1)],.yld [] false]) ⟨[],[(2,.yld [] false),(1,.cells [.p (vSl 18 B5 q1)]),(0,.cells [.p (vSl 2 A0 q0)])]⟩ [0,1,2] (ids:=[(0,0),(1,1),(2,2)]) ⟨false,rfl,rfl,fun e=>(nomatch e),fun _=>⟨_,rfl⟩⟩
   exact Bool.noConfusion (Ob.symm.trans c16)
  obtain⟨c0,h⟩:=H4 h;obtain rfl:=D4 h;exact B1 Z Lu (a:=.tup []) (objs:=[(.cells [.p (vSl 2 A0 q0)]),.cells [.p (vSl 18 B5 q1)],.yld [] true]) ⟨[],[(2,.yld [] true),(1,.cells [.p (vSl 18 B5 q1)]),(0,.cells [.p (vSl 2 A0 q0)])]⟩ [0,1,2] (ids:=[(0,0),(1,1),(2,2)]) ⟨true,rfl,rfl,fun _=>by subst c0;exact⟨_,rfl⟩,fun e=>(nomatch e)⟩
 refine F4 Z Lu (b:=true) (fun c17=>?_) (fun c17=>?_)
 .exact B1 Z Lu (a:=.tup []) (objs:=[(.cells [.p (vSl 2 A0 q0)]),.cells [.p (vSl 18 B5 q1)],.yld [] false]) ⟨[],[(2,.yld [] false),(1,.cells [.p (vSl 18 B5 q1)]),(0,.cells [.p (vSl 2 A0 q0)])]⟩ [0,1,2] (ids:=[(0,0),(1,1),(2,2)]) ⟨false,rfl,rfl,fun e=>(nomatch e),fun _=>⟨_,rfl⟩⟩
 exact Bool.noConfusion (Ob.symm.trans c17)
def AJ (N:Nat)(a:Sl Law)(b:Sl Oh):Option ((Sl Oh)×(Sl Law)):= some (b,a)
theorem HQ {a:Sl Law}{b:Sl Oh}{y:(Sl Oh)×(Sl Law)}(h:AJ N a b=some y) :FunO S HM [.p (vSl 18 B5 a),.p (vSl 2 A0 b)] [] (.clo Q6 [] [.reg 0 0,.reg 1 0]) ([.cells [.p (vSl 2 A0 y.1)],.cells [.p (vSl 18 B5 y.2)]]) []:=by unfold AJ at h;refine A5 Z func144 ?_;obtain rfl:=D4 h;exact B1 Z Lu ⟨[(4,.clo Q6 [] [.reg 4000 0,.reg 3000 0])],[(4000,.cells [.p (vSl 2 A0 b)]),(3000,.cells [.p (vSl 18 B5 a)])]⟩ [4000,3000] (ids:=[(3000,3000),(4000,4000)]) ⟨rfl,rfl,rfl⟩
def C5 (N:Nat)(c:Int)(a:Sl Law)(d:Sl Oh):Option (Sl Oh):= (AJ N a d).bind fun y1=>(V2 N c y1.1 y1.2).bind fun L1=>N8 L1 (fun b (x1:Int×(Sl Oh)) (z1:Sl Oh)=>b x1.2) (fun (z1:Sl Oh)=>some z1) Od
theorem Kk {a:Sl Law}{b:Sl Oh}{y:Sl Oh}(h:C5 N 0 a b=some y) :FunO S I4 [.p (vSl 18 B5 a),.p (vSl 2 A0 b)] [] (.p (vSl 2 A0 y)) ([]) []:=by
 unfold C5 at h;refine A5 Z func125 ?_;refine kC Z h (HQ Z Y) (fun y1 h=>?_);obtain⟨L1,e2,h⟩:=C4 h;have f:MI S Q6 [] [.reg 0 0,.reg 1 0] [.cells [.p (vSl 2 A0 y1.1)],.cells [.p (vSl 18 B5 y1.2)]] (L1.map (fun (x:Int×(Sl Oh))=>[pI .i64 x.1,vSl 2 A0 x.2])) none:=FY Z Y e2;refine Xe Z Lu [8000,8001] [4] 901 (fun z1=>⟨[(4,.reg 5000 0)],[(5000,.cells [.p (vSl 2 A0 z1)])]⟩) (idl:=[(5000,5000)]) h f (fun _=>by kernel_rfl) (fun _=>by kernel_rfl) (fun _=>by kernel_rfl) (fun _=>by kernel_rfl) (fun x1 _ c z1 d h=>?_) (fun z1 h=>?_)
 .refine Ie Z Lu ?_;exact d _ [(901,901),(5000,5000)] _ x1.2 Lu h
 cases h;exact kR Z
theorem Kl {c:Int}{a:Sl Law}{b:Sl Oh}{y:Sl Oh}(hc:c≠0)(h:C5 N c a b=some y) :S.F I4 [.p (vSl 18 B5 a),.p (vSl 2 A0 b)] [] fun res o k=>res=.panic (.iface 181 (pI .i64 c))/\o=[]/\k=[]:=by
 unfold C5 at h;refine As3 Z func125 ?_;refine kC Z h (HQ Z Y) (fun y1 h=>?_);obtain⟨L1,e2,h⟩:=C4 h;have g:MI S Q6 [] [.reg 0 0,.reg 1 0] [.cells [.p (vSl 2 A0 y1.1)],.cells [.p (vSl 18 B5 y1.2)]] (L1.map (fun (x:Int×(Sl Oh))=>[pI .i64 x.1,vSl 2 A0 x.2])) (some (.iface 181 (pI .i64 c))):=by
  have:=FY Z Y e2
  simpa[As9,hc]using this
 refine Xe Z Lu [8000,8001] [4] 901 (fun z1=>⟨[(4,.reg 5000 0)],[(5000,.cells [.p (vSl 2 A0 z1)])]⟩) (idl:=[(5000,5000)]) h g (fun _=>by kernel_rfl) (fun _=>by kernel_rfl) (fun _=>by kernel_rfl) (fun _=>by kernel_rfl) (fun x1 _ d z1 f h=>?_) (fun z1 h=>?_)
 .refine Ie Z Lu ?_;exact f _ [(901,901),(5000,5000)] _ x1.2 Lu h
 exact AA1 Z Lu (x:=.iface 181 (pI .i64 c)) (objs:=[]) [] ⟨rfl,rfl,rfl⟩
def G1 (N:Nat)(a:Sl Law)(b:Sl Oh):Option ((Sl Oh)×Bool):=
 match C5 N 0 a b with
 |some y=>some (y,true)
 |none=>(C5 N 11 a b).bind fun _=>some (Od,false)
theorem LA {b:Sl Law}{c:Sl Oh}{y:(Sl Oh)×Bool}(h:G1 N b c=some y) :FunO S FS [.p (vSl 18 B5 b),.p (vSl 2 A0 c)] [] (.tup [.p (vSl 2 A0 y.1),pB y.2]) ([]) []:=by
 unfold G1 at h;refine A5 Z func100 ?_;rcases e:C5 N 0 b c with _|z
 .rw[e]at h;obtain⟨z,e1,h⟩:=C4 h;obtain rfl:=D4 h;refine D2 Z [7000,3000,4000,5000] Lu (Y.attP (Kl Z Y (by decide) e1)) ?_;refine S4 Z Lu [(0,.l [5000]),(1,.l [7000]),(3,.a [5000])] ?_;refine P3 Lu ?_;exact B1 Z Lu ⟨[(5,pB false),(4,.reg 5000 0)],[(5000,.cells [.p (vSl 2 A0 Sl.nil)])]⟩ [] (ids:=[(5000,5000)]) ⟨rfl,rfl,rfl⟩
 rw[e]at h;obtain rfl:=D4 h;refine D2 Z [7000,3000,4000,5000] Lu (Y.attR (Kk Z Y e)) ?_;refine S4 Z Lu [(0,.l [5000]),(1,.l [7000]),(3,.a [5000])] ?_;refine P3 Lu ?_;exact B1 Z Lu ⟨[(5,pB true),(4,.reg 5000 0)],[(5000,.cells [.p (vSl 2 A0 z)])]⟩ [] (ids:=[(5000,5000)]) ⟨rfl,rfl,rfl⟩
end Go.AM
namespace Go.AM
open Go.Proofs
set_option maxRecDepth 10000
set_option maxHeartbeats 2000000
variable {S:Aj}(Z:H1 S Tryz.prog) (Y:Nk S)
include Z Y
def G8 (N:Nat)(a:Sl Law)(b:Sl Oh):Option ((Sl Oh)×Int):= (AI N a (Sl.of [b]:Sl (Sl Oh))).bind fun y1=>if (y1 != 0) then some (Od,y1) else (G1 N a b).bind fun y2=>if (!y2.2) then some (Od,11) else some (y2.1,0)
theorem GE {N:Nat}{a:Sl Law}{b:Sl Oh}{y:(Sl Oh)×Int}(h:G8 N a b=some y) :FunO S Gs [.p (vSl 18 B5 a),.p (vSl 2 A0 b)] [] (.tup [.p (vSl 2 A0 y.1),pN y.2]) ([]) []:=by
 unfold G8 at h;refine A5 Z Tryz.func72 ?_;refine BF Z Ob ⟨[(11,.vec 12000),(9,.p (vSl 18 B5 a)),(1,.p (vSl 2 A0 b)),(0,.p (vSl 18 B5 a))],[(12000,.vec S1 1 (Sl.of [b]:Sl (Sl Oh)).n (fun i=>cL 2 A0 ((Sl.of [b]:Sl (Sl Oh)).g i)) false)]⟩ (ids:=[(12000,12000)]) ?_ (hle:=klR [(3,.fn 1 (Sl.of [b]:Sl (Sl Oh)).n (E5 [M9] [(0,cL 2 A0 b)]) (fun i=>cL 2 A0 ((Sl.of [b]:Sl (Sl Oh)).g i)))] (al1 ⟨rfl,(fun i c=>match i,c with|0,_=>rfl|_+1,c=>Lq c (by omega))⟩ al0));refine kC Z h (OB Z Y) (fun y1 h=>?_);apply kI Z h<;>intro h
 .obtain rfl:=D4 h;exact B1 Z Lu ⟨[(5,pN y1),(4,.p (vSl 2 A0 Od))],[]⟩ [] (ids:=[]) ⟨rfl,rfl,rfl⟩
 refine kC Z h (LA Z Y) (fun y2 h=>?_);apply kI Z h<;>intro h
 .obtain rfl:=D4 h;exact B1 Z Lu ⟨[(5,pN 11),(4,.p (vSl 2 A0 Od))],[]⟩ [] (ids:=[]) ⟨rfl,rfl,rfl⟩
 cases h;exact kR Z
end Go.AM
namespace Go.AM
open Go.Proofs.Tryz
variable {N:Nat}
open IntKind (wrap)
open Go.Proofs
set_option maxRecDepth 10000
set_option maxHeartbeats 2000000
variable {S:Aj}(Z:H1 S Tryz.prog) (Y:Nk S)
include Z Y
def Tx (N:Nat)(a:Int):Option Bool:= some (((((decide (97<=a))&&(decide (a<=122)))||((decide (65<=a))&&(decide (a<=90))))||((decide (48<=a))&&(decide (a<=57))))||(a==45))
def EG (N:Nat)(a:Str):Option Bool:= Q5 N (fun b (x1:Int)=>if (decide (x1<(a.length:Int))) then if ((0:Int)<=x1/\x1<(a.length:Int))then (Tx N (Db a x1)).bind fun y3=>if (!y3) then some false else b (wrap .i64 (x1+1)) else none else some ((decide (1<=(a.length:Int)))&&(decide ((a.length:Int)<=24)))) 0
def BP (N:Nat)(a:Sl I9):Option Int:= if ((decide ((a.n:Int)<1))=false->((decide (63<(a.n:Int)))=false->((0:Int)<=0/\0<(a.n:Int))))then if (((decide ((a.n:Int)<1))||(decide (63<(a.n:Int))))||((a.g 0).Parent != (-1))) then some 16 else Q5 N (fun b (x3:Int)=>if (decide (x3<(a.n:Int))) then lt (fun (z3:Bool)=>if z3 then some 16 else Q5 N (fun c (x7:Int)=>if (decide (x7<x3)) then if (((0:Int)<=x7/\x7<(a.n:Int))/\((0:Int)<=x3/\x3<(a.n:Int)))then if (((a.g x7.toNat).Name==(a.g x3.toNat).Name) != false) then some 16 else c (wrap .i64 (x7+1)) else none else b (wrap .i64 (x3+1))) 0) fun k3=>if (decide (0<x3)) then if ((0:Int)<=x3/\x3<(a.n:Int))then if (decide ((a.g x3.toNat).Parent<0)) then k3 true else if ((0:Int)<=x3/\x3<(a.n:Int))then if (decide (x3<=(a.g x3.toNat).Parent)) then k3 true else if ((0:Int)<=x3/\x3<(a.n:Int))then (EG N (a.g x3.toNat).Name).bind fun d=>k3 (!d) else none else none else none else if ((0:Int)<=x3/\x3<(a.n:Int))then (EG N (a.g x3.toNat).Name).bind fun f=>k3 (!f) else none else some 0) 0 else none
def Cm (rec:A3->Int->Option (Sl Int))(N:Nat)(b:A3)(a:Int):Option (Sl Int):= if (decide (a<0)) then some Oc else if ((0:Int)<=a/\a<(b.Tree.n:Int))then (rec b (b.Tree.g a.toNat).Parent).bind fun y1=>if (((0:Int)<=a/\a<(b.On.n:Int))/\((y1.n+(b.On.g a.toNat).n)*8<=140737488355328/\y1.n+(b.On.g a.toNat).n<=140737488355328))then some (y1.app (b.On.g a.toNat)) else none else none
def CQ:Nat->A3->Int->Option (Sl Int)
 |0=>fun _ _=>none
 |N+1=>Cm (CQ N) N
def Fv (N:Nat)(a:A3):Option Int:= (BP N a.Tree).bind fun y1=>if (y1 != 0) then some 16 else if (decide (64<(a.Laws.n:Int))) then some 12 else Q5 N (fun d (x1:Int)=>if (decide (x1<(a.Laws.n:Int))) then if ((0:Int)<=x1/\x1<(a.Laws.n:Int))then (BM N (a.Laws.g x1.toNat)).bind fun y4=>if (y4 != 0) then some 17 else d (wrap .i64 (x1+1)) else none else Q5 N (fun f (x3:Int)=>if (decide (x3<(a.Laws.n:Int))) then Q5 N (fun i (x5:Int)=>if (decide (x5<x3)) then if (((0:Int)<=x3/\x3<(a.Laws.n:Int))/\((0:Int)<=x5/\x5<(a.Laws.n:Int)))then if (((a.Laws.g x3.toNat).Name==(a.Laws.g x5.toNat).Name) != false) then some 6 else i (wrap .i64 (x5+1)) else none else f (wrap .i64 (x3+1))) 0 else if ((a.On.n:Int) != (a.Tree.n:Int)) then some 2 else Q5 N (fun j (x6:Int)=>if (decide (x6<(a.On.n:Int))) then (CQ N a x6).bind fun y7=>if (decide (64<(y7.n:Int))) then some 2 else j (wrap .i64 (x6+1)) else Q5 N (fun l (x8:Int)=>if (decide (x8<(a.On.n:Int))) then Q5 N (fun c (b:Int)=>if ((0:Int)<=x8/\x8<(a.On.n:Int))then if (decide (b<((a.On.g x8.toNat).n:Int))) then if (((0:Int)<=x8/\x8<(a.On.n:Int))/\((0:Int)<=b/\b<((a.On.g x8.toNat).n:Int)))then if (decide (((a.On.g x8.toNat).g b.toNat)<0)) then some 3 else if (((0:Int)<=x8/\x8<(a.On.n:Int))/\((0:Int)<=b/\b<((a.On.g x8.toNat).n:Int)))then if (decide ((a.Laws.n:Int)<=((a.On.g x8.toNat).g b.toNat))) then some 3 else c (wrap .i64 (b+1)) else none else none else l (wrap .i64 (x8+1)) else none) 0 else some 0) 0) 0) 0) 0
def Fw (N:Nat)(a:Int):Option Bool:= some (((((decide (97<=a))&&(decide (a<=122)))||((decide (65<=a))&&(decide (a<=90))))||((decide (48<=a))&&(decide (a<=57))))||(a==45))
theorem Rh {b:Int}{y:Bool}(h:Fw N b=some y) :FunO S Jj [.p (pI .u8 b)] [] (pB y) ([]) []:=by unfold Fw at h;refine A5 Z func121 ?_;refine kB Z (B3 Z) Lu Lu 23 (.o (.o (.o (.n (.a (decide (97<=b))) (.a (decide (b<=122)))) (.n (.a (decide (65<=b))) (.a (decide (b<=90))))) (.n (.a (decide (48<=b))) (.a (decide (b<=57))))) (.a (b==45))) ?_;cases h;exact kR Z
def Cn (N:Nat)(a:Str):Option Bool:= Q5 N (fun b (x1:Int)=>if (decide (x1<(a.length:Int))) then if ((0:Int)<=x1/\x1<(a.length:Int))then (Fw N (Db a x1)).bind fun y3=>if (!y3) then some false else b (wrap .i64 (x1+1)) else none else some ((decide (0<(a.length:Int)))&&(decide ((a.length:Int)<=24)))) 0
theorem Ty {b:Str}{y:Bool}(h:Cn N b=some y) :FunO S La [.p (.str b)] [] (pB y) ([]) []:=by
 unfold Cn at h;refine A5 Z func96 ?_;refine Ak Z Lu h (fun x1=>⟨[(6,pN x1),(5,pN (b.length:Int)),(0,.p (.str b))],[]⟩) (ids:=[]) (fun _ _ _ _ _ c x1 d h=>?_);apply kI Z h<;>intro h
 .obtain⟨c8,h⟩:=H4 h;obtain⟨y3,e3,h⟩:=C4 h;refine D2 Z [] c8 (Rh Z Y e3) ?_;apply kI Z h<;>intro h
  .cases h;exact kR Z
  exact d _ [] _ (wrap .i64 (x1+1)) Lu h
 refine kB Z (B3 Z) Lu Lu 4 (.n (.a (decide (0<(b.length:Int)))) (.a (decide ((b.length:Int)<=24)))) ?_;cases h;exact kR Z
def R8 (N:Nat)(a:Sl I9):Option Int:= if (((a.n:Int)==0)||(decide (63<(a.n:Int)))) then some 16 else Q3 N (fun b (x2:List (Str×Bool)) (x3:Int)=>if (decide (x3<(a.n:Int))) then if ((0:Int)<=x3/\x3<(a.n:Int))then lt (fun (z3:Bool)=>if z3 then some 16 else b (Hq eqS (a.g x3.toNat).Name true x2) (wrap .i64 (x3+1))) fun k3=>if (decide (x3<=(a.g x3.toNat).Parent)) then k3 true else if (decide ((a.g x3.toNat).Parent<(if 0<(wrap .i64 (x3-1))then 0 else (wrap .i64 (x3-1))))) then k3 true else (Cn N (a.g x3.toNat).Name).bind fun y6=>if (!y6) then k3 true else Az3 (W7 eqS (a.g x3.toNat).Name x2) (k3 false) fun v6=>k3 v6 else none else some 0) [] 0
theorem DO {c:Sl I9}{y:Int}(h:R8 N c=some y) :FunO S KX [.p (vSl 2 G2 c)] [] (pN y) ([]) []:=by
 unfold R8 at h;refine A5 Z func65 ?_;refine kB Z (B3 Z) Lu Lu 4 (.o (.a ((c.n:Int)==0)) (.a (decide (63<(c.n:Int))))) ?_;apply kI Z h<;>intro h
 .cases h;exact kR Z
 refine R4 Z Lu h (fun x2 x3=>⟨[(17,pN x3),(16,pN (c.n:Int)),(15,.p (vSl 2 G2 c)),(3,.mref 15000)],[(15000,.map (IU PV.str PV.bb x2))]⟩) (ids:=[(15000,15000)]) (fun _ _ _ _ _ f x2 x3 i h=>?_);apply kI Z h<;>intro h
 .obtain⟨c25,h⟩:=H4 h;refine NR Z (And.intro c25 Nf) (B3 Z) h 0 (fun z3=>⟨[(45,pB z3),(17,pN x3),(16,pN (c.n:Int)),(15,.p (vSl 2 G2 c)),(5,.reg 6000 0),(3,.mref 15000)],[(15000,.map (IU PV.str PV.bb x2)),(6000,.cells [pN (c.g x3.toNat).Parent,.p (.str (c.g x3.toNat).Name)])]⟩) (fun M3 k3 d h=>?_) (fun z3 h=>?_)
  .refine kG Z h (fun h=>?_) (fun h=>?_)
   .exact d _ [(6000,6000),(15000,15000)] _ true Lu h
   refine kG Z h (fun h=>?_) (fun h=>?_)
   .exact d _ [(6000,6000),(15000,15000)] _ true Lu h
   refine kC Z h (Ty Z Y) (fun y6 h=>?_);refine kG Z h (fun h=>?_) (fun h=>?_)
   .exact d _ [(6000,6000),(15000,15000)] _ true Lu h
   rcases o6:W7 eqS (c.g x3.toNat).Name x2 with _|v6
   .replace h:=AY6 o6 h;refine GY Z Lu (kt:=BZ) (e:=Xh) (key:=PV.str (c.g x3.toNat).Name) (es:=IU PV.str PV.bb x2) (x:=.v (.bool false)) (b:=false) (fd:=none) ((Bl (kP:=PV.str) (vP:=PV.bb) (eq:=eqS) (fun _ _=>by kernel_rfl) (c.g x3.toNat).Name x2).trans (by rw[o6];rfl)) Lu ?_;exact d _ [(6000,6000),(15000,15000)] _ false Lu h
   replace h:=AY7 o6 h;refine GY Z Lu (kt:=BZ) (e:=Xh) (key:=PV.str (c.g x3.toNat).Name) (es:=IU PV.str PV.bb x2) (x:=PV.bb v6) (b:=true) (fd:=some (PV.bb v6)) ((Bl (kP:=PV.str) (vP:=PV.bb) (eq:=eqS) (fun _ _=>by kernel_rfl) (c.g x3.toNat).Name x2).trans (by rw[o6];rfl)) Lu ?_;exact d _ [(6000,6000),(15000,15000)] _ v6 Lu h
  apply kI Z h<;>intro h
  .cases h;exact kR Z
  refine LN Z Lu (kt:=BZ) (key:=PV.str (c.g x3.toNat).Name) (y:=PV.bb true) (es:=IU PV.str PV.bb x2) (GX (kP:=PV.str) (vP:=PV.bb) (eq:=eqS) (fun _ _=>by kernel_rfl) (c.g x3.toNat).Name true x2) Lu ?_;exact i _ [(15000,15000)] _ (Hq eqS (c.g x3.toNat).Name true x2) (wrap .i64 (x3+1)) Lu h
 cases h;exact kR Z
def Z0 (N:Nat)(a:A3):Option Int:= if ((0:Int)<=(a.On.n:Int)/\(a.On.n:Int)<=(a.On.n:Int)/\(a.On.n:Int)*8<=140737488355328/\(a.On.n:Int)<=140737488355328)then YA N (fun c (x4:Sl Int) (x5:Bool) (x6:Int)=>if (decide (x6<(a.On.n:Int))) then if ((((0:Int)<=x6/\x6<(a.On.n:Int))/\((0:Int)<=x6/\x6<(x4.n:Int)))/\x6.toNat<x4.n)then if ((0:Int)<=x6/\x6<(a.Tree.n:Int))then lt (fun (z3:Sl Int)=>if (((0:Int)<=x6/\x6<(z3.n:Int))/\x6.toNat<z3.n)then if (decide (64<(z3.g x6.toNat))) then some 2 else Q3 N (fun d (f:Bool) (b:Int)=>if (decide (b<((a.On.g x6.toNat).n:Int))) then if ((0:Int)<=b/\b<((a.On.g x6.toNat).n:Int))then d ((f||(decide (((a.On.g x6.toNat).g b.toNat)<0)))||(decide ((a.Laws.n:Int)<=((a.On.g x6.toNat).g b.toNat)))) (wrap .i64 (b+1)) else none else c z3 f (wrap .i64 (x6+1))) x5 0 else none) fun k3=>if (decide (0<=(a.Tree.g x6.toNat).Parent)) then if (((((((0:Int)<=x6/\x6<((x4.upd x6.toNat ((a.On.g x6.toNat).n:Int)).n:Int))/\x6.toNat<(x4.upd x6.toNat ((a.On.g x6.toNat).n:Int)).n)/\((0:Int)<=(a.Tree.g x6.toNat).Parent/\(a.Tree.g x6.toNat).Parent<((x4.upd x6.toNat ((a.On.g x6.toNat).n:Int)).n:Int)))/\(a.Tree.g x6.toNat).Parent.toNat<(x4.upd x6.toNat ((a.On.g x6.toNat).n:Int)).n)/\((0:Int)<=x6/\x6<((x4.upd x6.toNat ((a.On.g x6.toNat).n:Int)).n:Int)))/\x6.toNat<(x4.upd x6.toNat ((a.On.g x6.toNat).n:Int)).n)then k3 ((x4.upd x6.toNat ((a.On.g x6.toNat).n:Int)).upd x6.toNat (wrap .i64 (((x4.upd x6.toNat ((a.On.g x6.toNat).n:Int)).g x6.toNat)+((x4.upd x6.toNat ((a.On.g x6.toNat).n:Int)).g (a.Tree.g x6.toNat).Parent.toNat)))) else none else k3 (x4.upd x6.toNat ((a.On.g x6.toNat).n:Int)) else none else none else if x5 then some 3 else some 0) (Sl.rep (a.On.n:Int).toNat 0:Sl Int) false 0 else none
theorem Nv {d:A3}{y:Int}(h:Z0 N d=some y) :FunO S Gt [.p (.agg (A7 d))] [] (pN y) ([]) []:=by
 unfold Z0 at h;refine A5 Z func76 ?_;refine N0 Z Lu 2 2000 (A7 d) ?_;obtain⟨c1,h⟩:=H4 h;refine Po Z c1 h (fun x4 x5 x6=>⟨[(17,pN x6),(16,pN (d.On.n:Int)),(15,.p (vSl 1 (cL 1 (cI .i64)) d.On)),(4,pB x5),(3,.vec 14000),(1,.p (.ptr (A7 d)))],[(14000,.vec F2 1 x4.n (fun i=>cI .i64 (x4.g i)) false)]⟩) (ids:=[(14000,14000)]) (fun _ _ _ _ _ q x4 x5 x6 r h=>?_);apply kI Z h<;>intro h
 .obtain⟨c35,h⟩:=H4 h;refine AS Z (And.intro (And.intro c35.1.1 c35.1.2) (And.intro (rfl:(1:Nat)=1) (And.intro c35.2 Lx))) 27 ⟨[(17,pN x6),(16,pN (d.On.n:Int)),(15,.p (vSl 1 (cL 1 (cI .i64)) d.On)),(6,.p (vSl 1 (cI .i64) (d.On.g x6.toNat))),(5,pN x6),(4,pB x5),(3,.vec 14000),(1,.p (.ptr (A7 d)))],[(14000,.vec F2 1 (x4.upd x6.toNat ((d.On.g x6.toNat).n:Int)).n (fun i=>cI .i64 ((x4.upd x6.toNat ((d.On.g x6.toNat).n:Int)).g i)) false)]⟩ (ids:=[(14000,14000)]) ?_ (hle:=klR [(7,.fn x4.n (x4.upd x6.toNat ((d.On.g x6.toNat).n:Int)).n (fun l=>if l=x6.toNat then splice ((fun i=>cI .i64 (x4.g i)) l) 0 [pI .i64 ((d.On.g x6.toNat).n:Int)]else (fun i=>cI .i64 (x4.g i)) l) (fun i=>cI .i64 ((x4.upd x6.toNat ((d.On.g x6.toNat).n:Int)).g i)))] (al1 ⟨rfl,AS4 (c:=cI .i64) (v:=x4) (x:=((d.On.g x6.toNat).n:Int)) same (fun _=>by first|rfl|(dsimp only;split<;>rfl))⟩ al0));obtain⟨c36,h⟩:=H4 h;refine NR Z c36 (B3 Z) h 0 (fun z3=>⟨[(17,pN x6),(16,pN (d.On.n:Int)),(15,.p (vSl 1 (cL 1 (cI .i64)) d.On)),(6,.p (vSl 1 (cI .i64) (d.On.g x6.toNat))),(5,pN x6),(4,pB x5),(3,.vec 14000),(1,.p (.ptr (A7 d)))],[(14000,.vec F2 1 z3.n (fun i=>cI .i64 (z3.g i)) false)]⟩) (fun M3 k3 m h=>?_) (fun z3 h=>?_)
  .apply kI Z h<;>intro h
   .refine DT Z Lu ?_;obtain⟨c41,h⟩:=H4 h;refine P3 (And.intro (And.intro (And.intro (And.intro (And.intro c41.1.1.1.1.1 c41.1.1.1.1.2) c41.1.1.1.2) c41.1.1.2) c41.1.2) (And.intro (rfl:(1:Nat)=1) (And.intro c41.2 Lx))) ?_;exact m _ [(14000,14000)] _ ((x4.upd x6.toNat ((d.On.g x6.toNat).n:Int)).upd x6.toNat (wrap .i64 (((x4.upd x6.toNat ((d.On.g x6.toNat).n:Int)).g x6.toNat)+((x4.upd x6.toNat ((d.On.g x6.toNat).n:Int)).g (d.Tree.g x6.toNat).Parent.toNat)))) Lu h (hle:=klR [(7,.fn (x4.upd x6.toNat ((d.On.g x6.toNat).n:Int)).n ((x4.upd x6.toNat ((d.On.g x6.toNat).n:Int)).upd x6.toNat (wrap .i64 (((x4.upd x6.toNat ((d.On.g x6.toNat).n:Int)).g x6.toNat)+((x4.upd x6.toNat ((d.On.g x6.toNat).n:Int)).g (d.Tree.g x6.toNat).Parent.toNat)))).n (fun l=>if l=x6.toNat then splice ((fun i=>cI .i64 ((x4.upd x6.toNat ((d.On.g x6.toNat).n:Int)).g i)) l) 0 [pI .i64 (wrap .i64 (((x4.upd x6.toNat ((d.On.g x6.toNat).n:Int)).g x6.toNat)+((x4.upd x6.toNat ((d.On.g x6.toNat).n:Int)).g (d.Tree.g x6.toNat).Parent.toNat)))]else (fun i=>cI .i64 ((x4.upd x6.toNat ((d.On.g x6.toNat).n:Int)).g i)) l) (fun i=>cI .i64 (((x4.upd x6.toNat ((d.On.g x6.toNat).n:Int)).upd x6.toNat (wrap .i64 (((x4.upd x6.toNat ((d.On.g x6.toNat).n:Int)).g x6.toNat)+((x4.upd x6.toNat ((d.On.g x6.toNat).n:Int)).g (d.Tree.g x6.toNat).Parent.toNat)))).g i)))] (al1 ⟨rfl,AS4 (c:=cI .i64) (v:=x4.upd x6.toNat ((d.On.g x6.toNat).n:Int)) (x:=wrap .i64 (((x4.upd x6.toNat ((d.On.g x6.toNat).n:Int)).g x6.toNat)+((x4.upd x6.toNat ((d.On.g x6.toNat).n:Int)).g (d.Tree.g x6.toNat).Parent.toNat))) same (fun _=>by first|rfl|(dsimp only;split<;>rfl))⟩ al0))
   exact m _ [(14000,14000)] _ (x4.upd x6.toNat ((d.On.g x6.toNat).n:Int)) Lu h
  obtain⟨c42,h⟩:=H4 h;refine F4 Z c42 (b:=decide (64<(z3.g x6.toNat))) (fun c43=>?_) (fun c43=>?_)
  .replace h:=itT c43 h;cases h;exact kR Z
  replace h:=itF c43 h;refine R4 Z Lu h (fun j f=>⟨[(52,pN f),(51,pN ((d.On.g x6.toNat).n:Int)),(50,.p (vSl 1 (cI .i64) (d.On.g x6.toNat))),(17,pN x6),(16,pN (d.On.n:Int)),(15,.p (vSl 1 (cL 1 (cI .i64)) d.On)),(4,pB j),(3,.vec 14000),(1,.p (.ptr (A7 d)))],[(14000,.vec F2 1 z3.n (fun i=>cI .i64 (z3.g i)) false)]⟩) (ids:=[(14000,14000)]) (fun _ _ _ _ _ s j f t h=>?_);apply kI Z h<;>intro h
  .obtain⟨c49,h⟩:=H4 h;refine kB Z (B3 Z) c49 Lu 10 (.o (.o (.a j) (.a (decide (((d.On.g x6.toNat).g f.toNat)<0)))) (.a (decide ((d.Laws.n:Int)<=((d.On.g x6.toNat).g f.toNat))))) ?_;exact t _ [(14000,14000)] _ ((j||(decide (((d.On.g x6.toNat).g f.toNat)<0)))||(decide ((d.Laws.n:Int)<=((d.On.g x6.toNat).g f.toNat)))) (wrap .i64 (f+1)) Lu h
  exact r _ [(14000,14000)] _ z3 j (wrap .i64 (x6+1)) Lu h
 apply kI Z h<;>intro h
 .cases h;exact kR Z
 cases h;exact kR Z
def J4 (N:Nat)(a:A3):Option Int:= (R8 N a.Tree).bind fun y1=>if (y1 != 0) then some 16 else if (decide (64<(a.Laws.n:Int))) then some 12 else Q3 N (fun b (x1:List (Str×Int)) (x2:Int)=>if (decide (x2<(a.Laws.n:Int))) then if ((0:Int)<=x2/\x2<(a.Laws.n:Int))then (Y8 N (a.Laws.g x2.toNat)).bind fun y4=>if (y4 != 0) then some 17 else Az3 (W7 eqS (a.Laws.g x2.toNat).Name x1) (b (Hq eqS (a.Laws.g x2.toNat).Name (wrap .i64 (0+1)) x1) (wrap .i64 (x2+1))) fun v3=>b (Hq eqS (a.Laws.g x2.toNat).Name (wrap .i64 (v3+1)) x1) (wrap .i64 (x2+1)) else none else if (decide (((IU PV.str (pI .i64) x1).length:Int)<(a.Laws.n:Int))) then some 6 else if ((a.On.n:Int) != (a.Tree.n:Int)) then some 2 else (Z0 N a).bind fun y5=>some y5) [] 0
theorem Bu {a:A3}{y:Int}(h:J4 N a=some y) :FunO S Gq [.p (.agg (A7 a))] [] (pN y) ([]) []:=by
 unfold J4 at h;refine A5 Z func46 ?_;refine kC Z h (DO Z Y) (fun y1 h=>?_);apply kI Z h<;>intro h
 .cases h;exact kR Z
 apply kI Z h<;>intro h
 .cases h;exact kR Z
 refine R4 Z Lu h (fun x1 x2=>⟨[(18,pN x2),(17,pN (a.Laws.n:Int)),(16,.p (vSl 18 B5 a.Laws)),(3,.mref 15000),(1,.reg 2000 0)],[(15000,.map (IU PV.str (pI .i64) x1)),(2000,.cells ((A7 a).map .p))]⟩) (ids:=[(2000,2000),(15000,15000)]) (fun _ _ _ _ _ d x1 x2 c h=>?_);apply kI Z h<;>intro h
 .obtain⟨c10,h⟩:=H4 h;obtain⟨y4,e4,h⟩:=C4 h;refine D2 Z [] (And.intro c10 Oa) (Il Z Y e4) ?_;apply kI Z h<;>intro h
  .cases h;exact kR Z
  rcases o3:W7 eqS (a.Laws.g x2.toNat).Name x1 with _|v3
  .replace h:=AY6 o3 h;refine GY Z Lu (kt:=BZ) (e:=F2) (key:=PV.str (a.Laws.g x2.toNat).Name) (es:=IU PV.str (pI .i64) x1) (x:=pI .i64 0) (b:=false) (fd:=none) ((Bl (kP:=PV.str) (vP:=pI .i64) (eq:=eqS) (fun _ _=>by kernel_rfl) (a.Laws.g x2.toNat).Name x1).trans (by rw[o3];rfl)) Lu ?_;refine LN Z Lu (kt:=BZ) (key:=PV.str (a.Laws.g x2.toNat).Name) (y:=pI .i64 (wrap .i64 (0+1))) (es:=IU PV.str (pI .i64) x1) (GX (kP:=PV.str) (vP:=pI .i64) (eq:=eqS) (fun _ _=>by kernel_rfl) (a.Laws.g x2.toNat).Name (wrap .i64 (0+1)) x1) Lu ?_;exact c _ [(2000,2000),(15000,15000)] _ (Hq eqS (a.Laws.g x2.toNat).Name (wrap .i64 (0+1)) x1) (wrap .i64 (x2+1)) Lu h
  replace h:=AY7 o3 h;refine GY Z Lu (kt:=BZ) (e:=F2) (key:=PV.str (a.Laws.g x2.toNat).Name) (es:=IU PV.str (pI .i64) x1) (x:=pI .i64 v3) (b:=true) (fd:=some (pI .i64 v3)) ((Bl (kP:=PV.str) (vP:=pI .i64) (eq:=eqS) (fun _ _=>by kernel_rfl) (a.Laws.g x2.toNat).Name x1).trans (by rw[o3];rfl)) Lu ?_;refine LN Z Lu (kt:=BZ) (key:=PV.str (a.Laws.g x2.toNat).Name) (y:=pI .i64 (wrap .i64 (v3+1))) (es:=IU PV.str (pI .i64) x1) (GX (kP:=PV.str) (vP:=pI .i64) (eq:=eqS) (fun _ _=>by kernel_rfl) (a.Laws.g x2.toNat).Name (wrap .i64 (v3+1)) x1) Lu ?_;exact c _ [(2000,2000),(15000,15000)] _ (Hq eqS (a.Laws.g x2.toNat).Name (wrap .i64 (v3+1)) x1) (wrap .i64 (x2+1)) Lu h
 apply kI Z h<;>intro h
 .cases h;exact kR Z
 apply kI Z h<;>intro h
 .cases h;exact kR Z
 refine kC Z h (Nv Z Y) (fun y5 h=>?_);cases h;exact kR Z
def Ca (N:Nat)(b:A3)(a:Int):Option Bool:= some ((decide (0<=a))&&(decide (a<(b.Tree.n:Int))))
theorem OC {c:A3}{b:Int}{y:Bool}(h:Ca N c b=some y) :FunO S HG [.p (.agg (A7 c)),pN b] [] (pB y) ([]) []:=by unfold Ca at h;refine A5 Z func70 ?_;refine kB Z (B3 Z) Lu Lu 6 (.n (.a (decide (0<=b))) (.a (decide (b<(c.Tree.n:Int))))) ?_;cases h;exact kR Z
def T1 (N:Nat)(q0:Int)(q1:Sl I9):Option (List (Int)):= Q3 N (fun a (x1:Int) (x2:Sl Int)=>if (decide (0<=x1)) then if (((x2.n+(Sl.of [x1]:Sl Int).n)*8<=140737488355328/\x2.n+(Sl.of [x1]:Sl Int).n<=140737488355328)/\((0:Int)<=x1/\x1<(q1.n:Int)))then a (q1.g x1.toNat).Parent (x2.push x1) else none else Q5 N (fun b (x3:Int)=>if (decide (0<=x3)) then if (((0:Int)<=x3/\x3<(x2.n:Int))/\x3.toNat<x2.n)then X1 (x2.g x3.toNat) (b (wrap .i64 (x3-1))) else none else some []) (wrap .i64 ((x2.n:Int)-1))) q0 Oc
theorem Nw {q0:Int}{q1:Sl I9}{L:List (Int)}(h:T1 N q0 q1=some L) :Fc S Bm [] [.reg 0 0,.reg 1 0] [.cells [pN q0],.cells [.p (vSl 2 G2 q1)]] (L.map (fun (x:Int)=>[pI .i64 x])):=by
 unfold T1 at h;refine Fh Z func98 ?_;refine Qy Z Lu h (fun x1 x2 L1=>⟨[(4,.vec 5500),(2,.reg 1 0),(1,.reg 0 0),(0,.yf 2)],[(5500,.vec F2 1 x2.n (fun i=>cI .i64 (x2.g i)) false),(2,.yld (L1.map (fun (x:Int)=>[pI .i64 x])) true),(1,.cells [.p (vSl 2 G2 q1)]),(0,.cells [pN x1])]⟩) (ids:=[(0,0),(1,1),(2,2)]) (fun _ _ _ _ _ f x1 x2 L1 j h=>?_);apply kI Z h<;>intro h
 .obtain⟨c4,h⟩:=H4 h;exact j _ [(0,0),(1,1),(2,2),(5500,17000)] _ (q1.g x1.toNat).Parent (x2.push x1) L1 (And.intro (And.intro Ob c4.1) c4.2) h (hle:=klR [(0,.fn (x2.n+1) (x2.push x1).n (BA x2.n (fun i=>cI .i64 (x2.g i)) (E5 [pI .i64 0] [(0,cI .i64 x1)])) (fun i=>cI .i64 ((x2.push x1).g i)))] (al1 ⟨rfl,Pm (c:=cI .i64) (v:=x2) (x:=x1) (z:=[(pI .i64 0)]) same rfl rfl⟩ al0))
 refine Fg Z Lu h (fun x3 L2=>⟨[(5,pN x3),(4,.vec 5500),(0,.yf 2)],[(5500,.vec F2 1 x2.n (fun i=>cI .i64 (x2.g i)) false),(2,.yld (L2.map (fun (x:Int)=>[pI .i64 x])) true),(1,.cells [.p (vSl 2 G2 q1)]),(0,.cells [pN x1])]⟩) (ids:=[(0,0),(1,1),(2,2),(5500,5500)]) (fun _ _ _ _ _ l x3 L2 m h=>?_);apply kI Z h<;>intro h
 .obtain⟨c14,h⟩:=H4 h;obtain⟨L5,rfl,d⟩:=MF h;replace h:=d;refine Dd Z c14 (ys:=(fun (x:Int)=>[pI .i64 x]) (x2.g x3.toNat)) (rest:=L5.map (fun (x:Int)=>[pI .i64 x])) ?_ ?_
  .refine F4 Z Lu (b:=false) (fun c15=>?_) (fun c15=>?_)
   .exact Bool.noConfusion ((rfl:false=false).symm.trans c15)
   exact m _ [(0,0),(1,1),(2,2),(5500,5500)] _ (wrap .i64 (x3-1)) L5 Lu h
  refine F4 Z Lu (b:=true) (fun c16=>?_) (fun c16=>?_)
  .exact B1 Z Lu (a:=.tup []) (objs:=[(.cells [pN x1]),.cells [.p (vSl 2 G2 q1)],.yld [] false]) ⟨[],[(2,.yld [] false),(1,.cells [.p (vSl 2 G2 q1)]),(0,.cells [pN x1])]⟩ [0,1,2] (ids:=[(0,0),(1,1),(2,2)]) ⟨false,rfl,rfl,_,rfl⟩
  exact Bool.noConfusion (Ob.symm.trans c16)
 obtain rfl:=D4 h;exact B1 Z Lu (a:=.tup []) (objs:=[(.cells [pN x1]),.cells [.p (vSl 2 G2 q1)],.yld [] true]) ⟨[],[(2,.yld [] true),(1,.cells [.p (vSl 2 G2 q1)]),(0,.cells [pN x1])]⟩ [0,1,2] (ids:=[(0,0),(1,1),(2,2)]) ⟨true,rfl,rfl,_,rfl⟩
def CL (N:Nat)(a:Sl I9)(b:Int):Option (Int×(Sl I9)):= some (b,a)
theorem Ri {a:Sl I9}{b:Int}{y:Int×(Sl I9)}(h:CL N a b=some y) :FunO S Je [.p (vSl 2 G2 a),pN b] [] (.clo Bm [] [.reg 0 0,.reg 1 0]) ([.cells [pN y.1],.cells [.p (vSl 2 G2 y.2)]]) []:=by unfold CL at h;refine A5 Z func71 ?_;obtain rfl:=D4 h;exact B1 Z Lu ⟨[(4,.clo Bm [] [.reg 4000 0,.reg 3000 0])],[(4000,.cells [pN b]),(3000,.cells [.p (vSl 2 G2 a)])]⟩ [4000,3000] (ids:=[(3000,3000),(4000,4000)]) ⟨rfl,rfl,rfl⟩
def Q1 (rec:Pat->Option Pat)(N:Nat)(a:Pat):Option Pat:= Q3 N (fun b (x1:Sl Pat) (x2:Int)=>if (decide (x2<(a.L.n:Int))) then if ((0:Int)<=x2/\x2<(a.L.n:Int))then (rec (a.L.g x2.toNat)).bind fun y3=>if ((x1.n+(Sl.of [y3]:Sl Pat).n)*64<=140737488355328/\x1.n+(Sl.of [y3]:Sl Pat).n<=140737488355328)then b (x1.push y3) (wrap .i64 (x2+1)) else none else none else some (Pat.mk a.Kind a.Is a.Not a.Min a.Max x1.n x1.g)) (Sl.nil:Sl Pat) 0
def P5:Nat->Pat->Option Pat
 |0=>fun _=>none
 |N+1=>Q1 (P5 N) N
theorem Jw {rec:Pat->Option Pat}(b:∀{a:Pat}{y:Pat},rec a=some y->FunO S Z7 [.p (.agg (E8 a))] [] (.p (.agg (E8 y))) ([]) []){a:Pat}{y:Pat}(h:Q1 rec N a=some y) :FunO S Z7 [.p (.agg (E8 a))] [] (.p (.agg (E8 y))) ([]) []:=by
 unfold Q1 at h;refine A5 Z func126 ?_;refine AS Z Lu 8 ⟨[(7,.p (vSl 7 E8 a.L)),(3,.p M9),(2,.reg 3000 0),(1,.reg 2000 0)],[(3000,.cells [pN 0,pU 0,pU 0,.p (.v (.bool false)),pN 0,pN 0,.p M9]),(2000,.cells ((E8 a).map .p))]⟩ (ids:=[(2000,2000),(3000,3000)]) ?_ (hle:=klR [(0,.fn a.L.n a.L.n (De a) (fun i=>E8 (a.L.g i)))] (al1 ⟨rfl,CK a⟩ al0));refine R4 Z Lu h (fun x1 x2=>⟨[(9,pN x2),(8,pN (a.L.n:Int)),(7,.p (vSl 7 E8 a.L)),(3,.vec 4500),(2,.reg 3000 0),(1,.reg 2000 0)],[(4500,.vec EC 7 x1.n (fun i=>E8 (x1.g i)) false),(3000,.cells [pN 0,pU 0,pU 0,.p (.v (.bool false)),pN 0,pN 0,.p M9]),(2000,.cells ((E8 a).map .p))]⟩) (ids:=[(2000,2000),(3000,3000)]) (fun _ _ _ _ _ d x1 x2 f h=>?_);apply kI Z h<;>intro h
 .obtain⟨c6,h⟩:=H4 h;obtain⟨y3,e3,h⟩:=C4 h;refine D2 Z [] (And.intro c6 O2) (b e3) ?_;obtain⟨c7,h⟩:=H4 h;exact f _ [(2000,2000),(3000,3000),(4500,18000)] _ (x1.push y3) (wrap .i64 (x2+1)) (And.intro Ob c7) h (hle:=klR [(3,.fn (x1.n+1) (x1.push y3).n (BA x1.n (fun i=>E8 (x1.g i)) (E5 [pI .i64 0,pI .u32 0,pI .u32 0,.v (.bool false),pI .i64 0,pI .i64 0,M9] [(0,E8 y3)])) (fun i=>E8 ((x1.push y3).g i)))] (al1 ⟨rfl,Pm (c:=E8) (v:=x1) (x:=y3) (z:=[(pI .i64 0),pI .u32 0,pI .u32 0,.v (.bool false),pI .i64 0,pI .i64 0,M9]) same rfl rfl⟩ al0))
 obtain rfl:=D4 h;exact B1 Z Lu ⟨[(2,.reg 3000 0)],[(3000,.cells [pN a.Kind,pU a.Is.Plus,pU a.Is.Minus,pB a.Not,pN a.Min,pN a.Max,.p (.sl false 7 x1.n (De (Pat.mk a.Kind a.Is a.Not a.Min a.Max x1.n x1.g)))])]⟩ [] (ids:=[(3000,3000)]) ⟨rfl,rfl,rfl⟩
theorem EH {a:Pat}{y:Pat}(h:P5 N a=some y) :FunO S Z7 [.p (.agg (E8 a))] [] (.p (.agg (E8 y))) ([]) []:=by
 induction N generalizing a y with
 |zero=>cases (show (none:Option Pat)=some y from h)
 |succ N ih=>exact Jw Z Y (fun e=>ih e) h
def V4 (N:Nat)(a:Law):Option Law:= (P5 N a.Left).bind fun y1=>(P5 N a.Right).bind fun y2=>(A6 N a.If).bind fun y3=>(G3 N a.Out).bind fun y4=>some (⟨a.Name,y1,y2,y3,y4,a.Mode⟩:Law)
theorem LB {a:Law}{y:Law}(h:V4 N a=some y) :FunO S FT [.p (.agg (B5 a))] [] (.p (.agg (B5 y))) ([]) []:=by unfold V4 at h;refine A5 Z func101 ?_;refine L7 Z Lu [2,5] ?_;obtain⟨y1,e1,h⟩:=C4 h;refine O0 Lu (EH Z Y e1) ?_;obtain⟨y2,e2,h⟩:=C4 h;refine O0 Lu (EH Z Y e2) ?_;refine P3 Lu ?_;refine L7 Z Lu [2,5] ?_;obtain⟨y3,e3,h⟩:=C4 h;refine O0 Lu (Aa Z Y e3) ?_;obtain⟨y4,e4,h⟩:=C4 h;refine O0 Lu (Bd Z Y e4) ?_;refine P3 Lu ?_;cases h;exact kR Z
def W3 (N:Nat)(c:A3)(a:Sl Int):Option (Sl Law):= Q3 N (fun b (x1:Sl Law) (x2:Int)=>if (decide (x2<(a.n:Int))) then if (((0:Int)<=x2/\x2<(a.n:Int))/\((0:Int)<=(a.g x2.toNat)/\(a.g x2.toNat)<(c.Laws.n:Int)))then (V4 N (c.Laws.g (a.g x2.toNat).toNat)).bind fun y3=>if ((x1.n+(Sl.of [y3]:Sl Law).n)*200<=140737488355328/\x1.n+(Sl.of [y3]:Sl Law).n<=140737488355328)then b (x1.push y3) (wrap .i64 (x2+1)) else none else none else some x1) (Sl.nil:Sl Law) 0
theorem OD {b:A3}{a:Sl Int}{y:Sl Law}(h:W3 N b a=some y) :FunO S HH [.p (.agg (A7 b)),.p (vSl 1 (cI .i64) a)] [] (.p (vSl 18 B5 y)) ([]) []:=by
 unfold W3 at h;refine A5 Z func73 ?_;refine R4 Z Lu h (fun x1 x2=>⟨[(10,pN x2),(9,pN (a.n:Int)),(8,.p (vSl 1 (cI .i64) a)),(5,.vec 6500),(2,.reg 3000 0)],[(6500,.vec P9 18 x1.n (fun i=>B5 (x1.g i)) false),(3000,.cells ((A7 b).map .p))]⟩) (ids:=[(3000,3000)]) (fun _ _ _ _ _ d x1 x2 f h=>?_);apply kI Z h<;>intro h
 .obtain⟨c6,h⟩:=H4 h;obtain⟨y3,e3,h⟩:=C4 h;refine D2 Z [] (And.intro (And.intro c6.1 c6.2) Oa) (LB Z Y e3) ?_;obtain⟨c7,h⟩:=H4 h;exact f _ [(3000,3000),(6500,23000)] _ (x1.push y3) (wrap .i64 (x2+1)) (And.intro Ob c7) h (hle:=klR [(3,.fn (x1.n+1) (x1.push y3).n (BA x1.n (fun i=>B5 (x1.g i)) (E5 [.str [],pI .i64 0,pI .u32 0,pI .u32 0,.v (.bool false),pI .i64 0,pI .i64 0,M9,pI .i64 0,pI .u32 0,pI .u32 0,.v (.bool false),pI .i64 0,pI .i64 0,M9,M9,M9,pI .i64 0] [(0,B5 y3)])) (fun i=>B5 ((x1.push y3).g i)))] (al1 ⟨rfl,Pm (c:=B5) (v:=x1) (x:=y3) (z:=[(.str []),pI .i64 0,pI .u32 0,pI .u32 0,.v (.bool false),pI .i64 0,pI .i64 0,M9,pI .i64 0,pI .u32 0,pI .u32 0,.v (.bool false),pI .i64 0,pI .i64 0,M9,M9,M9,pI .i64 0]) same rfl rfl⟩ al0))
 obtain rfl:=D4 h;exact B1 Z Lu ⟨[(4,.p (vSl 18 B5 x1))],[]⟩ [] (ids:=[]) ⟨rfl,rfl,rfl⟩
def Bv (N:Nat)(a:A3)(b:Sl Oh):Option Int:= (J4 N a).bind fun y1=>if (y1 != 0) then some y1 else (J6 N b).bind fun y2=>some y2
theorem Nx {a:A3}{b:Sl Oh}{y:Int}(h:Bv N a b=some y) :FunO S Gr [.p (.agg (A7 a)),.p (vSl 2 A0 b)] [] (pN y) ([]) []:=by
 unfold Bv at h;refine A5 Z func69 ?_;refine kC Z h (Bu Z Y) (fun y1 h=>?_);apply kI Z h<;>intro h
 .cases h;exact kR Z
 refine kC Z h (Ba Z Y) (fun y2 h=>?_);cases h;exact kR Z
def Co (N:Nat)(a:A3)(c:Sl Oh)(d:Int):Option ((Sl Oh)×Int):= (Bv N a c).bind fun y1=>if (y1 != 0) then some (Od,y1) else (Ca N a d).bind fun y2=>if (!y2) then some (Od,3) else (CL N a.Tree d).bind fun y3=>(T1 N y3.1 y3.2).bind fun L1=>N8 L1 (fun b (x1:Int) (z1:Sl Oh)=>if ((0:Int)<=x1/\x1<(a.On.n:Int))then (W3 N a (a.On.g x1.toNat)).bind fun y8=>(G8 N y8 z1).bind fun y9=>if (y9.2 != 0) then some (Od,y9.2) else b y9.1 else none) (fun (z1:Sl Oh)=>some (z1,0)) c
theorem Tz {a:A3}{b:Sl Oh}{c:Int}{y:(Sl Oh)×Int}(h:Co N a b c=some y) :FunO S KU [.p (.agg (A7 a)),.p (vSl 2 A0 b),pN c] [] (.tup [.p (vSl 2 A0 y.1),pN y.2]) ([]) []:=by
 unfold Co at h;refine A5 Z func44 ?_;refine N0 Z Lu 4 4000 (A7 a) ?_;obtain⟨y1,e1,h⟩:=C4 h;refine D2 Z [] Ng (Nx Z Y e1) ?_;apply kI Z h<;>intro h
 .obtain rfl:=D4 h;exact B1 Z Lu ⟨[(7,.reg 8000 0),(6,.reg 7000 0)],[(8000,.cells [pN y1]),(7000,.cells [.p (vSl 2 A0 Od)])]⟩ [] (ids:=[(7000,7000),(8000,8000)]) ⟨rfl,rfl,rfl⟩
 obtain⟨y2,e2,h⟩:=C4 h;refine D2 Z [] Ng (OC Z Y e2) ?_;apply kI Z h<;>intro h
 .obtain rfl:=D4 h;exact B1 Z Lu ⟨[(7,.reg 8000 0),(6,.reg 7000 0)],[(8000,.cells [pN 3]),(7000,.cells [.p (vSl 2 A0 Od)])]⟩ [] (ids:=[(7000,7000),(8000,8000)]) ⟨rfl,rfl,rfl⟩
 refine kC Z h (Ri Z Y) (fun y3 h=>?_);obtain⟨L1,e4,h⟩:=C4 h;refine DU Z Lu [25000,25001] [7,6,4,3] 901 (fun z1=>⟨[(7,.reg 8000 0),(6,.reg 7000 0),(4,.reg 5000 0),(3,.p (.ptr (A7 a)))],[(8000,.cells [pN 0]),(7000,.cells [.p M9]),(5000,.cells [.p (vSl 2 A0 z1)])]⟩) (idl:=[(5000,5000),(7000,7000),(8000,8000)]) h (Nw Z Y e4) (fun _=>by kernel_rfl) (fun _=>by kernel_rfl) (fun _=>by kernel_rfl) (fun _=>by kernel_rfl) (fun x1 _ d z1 f h=>?_) (fun z1 h=>?_)
 .refine Ie Z Lu ?_;refine L7 Z Lu [0,2,4,5,6,8] ?_;obtain⟨c7,h⟩:=H4 h;obtain⟨y8,e9,h⟩:=C4 h;refine O0 (And.intro Ng c7) (OD Z Y e9) ?_;obtain⟨y9,e10,h⟩:=C4 h;refine O0 Lu (GE Z Y e10) ?_;refine P3 Lu ?_;apply kI Z h<;>intro h
  .refine LO Z Lu ⟨[(7,.reg 8000 0),(6,.reg 7000 0),(4,.reg 5000 0),(3,.p (.ptr (A7 a)))],[(8000,.cells [pN y9.2]),(7000,.cells [.p M9]),(5000,.cells [.p (vSl 2 A0 y9.1)])]⟩ (ids:=[(901,901),(5000,5000),(7000,7000),(8000,8000)]) ?_;obtain rfl:=D4 h;exact B1 Z Lu ⟨[(7,.reg 8000 0),(6,.reg 7000 0)],[(8000,.cells [pN y9.2]),(7000,.cells [.p (vSl 2 A0 Od)])]⟩ [] (ids:=[(7000,7000),(8000,8000)]) ⟨rfl,rfl,rfl⟩
  exact f _ [(901,901),(5000,5000),(7000,7000),(8000,8000)] _ y9.1 Lu h
 cases h;exact kR Z
end Go.AM
namespace Go.AM
open IntKind (wrap)
open Go.Proofs
set_option maxRecDepth 10000
set_option maxHeartbeats 2000000
variable {S:Aj}(Z:H1 S Tryz.prog) (Y:Nk S)
abbrev LC {T:Type}(e:TypeId)(k:Nat)(c:T->List PV)(x:Sl T):Obj:=.vec e k x.n (fun q=>c (x.g q)) false
theorem AV6 {T:Type}{e:TypeId}{k n i:Nat}{c:T->List PV}{X:Sl (Sl T)}{z:Sl T}:∀q,q<n->(fun q=>if q=i then LC e k c z else if q=i then Obj.dead else LC e k c (X.g q)) q=(fun q=>LC e k c ((X.upd i z).g q)) q:=fun q _=>by by_cases h:q=i<;>simp[h]
include Z Y
def Z1 (N:Nat)(a:Sl I9):Option (Sl (Sl Int)):= if ((0:Int)<=(a.n:Int)/\(a.n:Int)<=(a.n:Int)/\(a.n:Int)*24<=140737488355328/\(a.n:Int)<=140737488355328)then Q3 N (fun b (x:Int) (X:Sl (Sl Int))=>if (decide (x<(a.n:Int))) then if ((0:Int)<=x/\x<(a.n:Int))then if (a.g x.toNat).Parent.toNat<X.n then lt (fun (z:Sl Int)=>b (wrap .i64 (x+1)) (X.upd (a.g x.toNat).Parent.toNat z)) fun k=>if (decide (0<x)) then if (((0:Int)<=(a.g x.toNat).Parent/\(a.g x.toNat).Parent<(X.n:Int))/\(((X.g (a.g x.toNat).Parent.toNat).n+1)*8<=140737488355328/\(X.g (a.g x.toNat).Parent.toNat).n+1<=140737488355328))then k ((X.g (a.g x.toNat).Parent.toNat).push x) else none else k (X.g (a.g x.toNat).Parent.toNat) else none else none else some X) 0 ⟨a.n,fun _=>Sl.nil⟩ else none
theorem Ny {N:Nat}{b:Sl I9}{y:Sl (Sl Int)}(h:Z1 N b=some y) :FunO S Gu [.p (vSl 2 G2 b)] [] (.p (vSl 1 (cL 1 (cI .i64)) y)) [] []:=by
 unfold Z1 at h;refine A5 Z Tryz.func97 ?_;obtain⟨c1,h⟩:=H4 h;refine HB Z c1 9 (.fam 9000 9901 fun i=>LC F2 1 (cI .i64) ((⟨b.n,fun _=>Sl.nil⟩:Sl (Sl Int)).g i)) (⟨by decide,fun i _=>rfl⟩:1000<=9901/\∀i,i<b.n->RX [M9] (LC F2 1 (cI .i64) ((⟨b.n,fun _=>Sl.nil⟩:Sl (Sl Int)).g i))) ?_;refine R4 Z Lu h (fun x X=>⟨[(11,pN x),(10,pN (b.n:Int)),(9,.p (vSl 2 G2 b)),(3,.vec 9000)],[(9901,.rows X.n fun i=>LC F2 1 (cI .i64) (X.g i)),(9000,.fam QZ X.n 9901 none)]⟩) (ids:=[(9901,9901),(9000,9000)]) (fun _ _ _ _ _ j x X f h=>?_);apply kI Z h<;>intro h
 .obtain⟨c2,h⟩:=H4 h;obtain⟨c3,h⟩:=H4 h;refine HB Z (And.intro c2 Nf) 17 (.take 9000 (b.g x.toNat).Parent.toNat 9801) (⟨⟨by decide,rfl⟩,c3⟩:(1000<=9801/\X.n=X.n)/\(b.g x.toNat).Parent.toNat<X.n) ?_;refine NR Z Lu (B3 Z) h 0 (fun z=>⟨[(11,pN x),(10,pN (b.n:Int)),(9,.p (vSl 2 G2 b)),(3,.vec 9000)],
   [(9901,(.rows X.n fun l=>if l=(b.g x.toNat).Parent.toNat then .dead else LC F2 1 (cI .i64) (X.g l))),(9801,LC F2 1 (cI .i64) z),(9000,.fam QZ X.n 9901 (some ((b.g x.toNat).Parent.toNat,.vec 9801)))]⟩) (fun M k d h=>?_) (fun z h=>?_)
  .apply kI Z h<;>intro h
   .obtain⟨c4,h⟩:=H4 h;refine S4 Z Lu [(0,.n),(1,.n),(2,.l [6000]),(3,.n),(4,.n),(5,.l [6000]),(6,.l [9000]),(7,.l [9000]),(8,.n),(10,.a [29000,9801]),(11,.l [9000]),(12,.a [9000])] ?_;refine X9 (And.intro c4.1 (And.intro c3 (rfl:(b.g x.toNat).Parent.toNat=(b.g x.toNat).Parent.toNat))) (x:=.sl true 1 1 (E5 [pI .i64 0] [(0,cI .i64 x)])) ?_;refine P3 (And.intro (And.intro c4.2 c4.1) (And.intro c3 (rfl:(b.g x.toNat).Parent.toNat=(b.g x.toNat).Parent.toNat))) ?_;exact d _ [(9901,9901),(9801,29000),(9000,9000)] _ ((X.g (b.g x.toNat).Parent.toNat).push x) Lu h (hle:=klR [(5,.fn ((X.g (b.g x.toNat).Parent.toNat).n+1) ((X.g (b.g x.toNat).Parent.toNat).push x).n (BA (X.g (b.g x.toNat).Parent.toNat).n (fun i=>cI .i64 ((X.g (b.g x.toNat).Parent.toNat).g i)) (E5 [pI .i64 0] [(0,cI .i64 x)])) (fun i=>cI .i64 (((X.g (b.g x.toNat).Parent.toNat).push x).g i)))] (al1 ⟨rfl,Pm (c:=cI .i64) (v:=X.g (b.g x.toNat).Parent.toNat) (x:=x) (z:=[(pI .i64 0)]) same rfl rfl⟩ al0))
   exact d _ [(9901,9901),(9801,9801),(9000,9000)] _ (X.g (b.g x.toNat).Parent.toNat) Lu h
  refine HB Z Lu 30 (.put 9000 9902) (⟨⟨by decide,rfl⟩,c3⟩:(1000<=9902/\X.n=X.n)/\(b.g x.toNat).Parent.toNat<X.n) ?_;exact f _ [(9901,9902),(9000,9000)] _ (wrap .i64 (x+1)) (X.upd (b.g x.toNat).Parent.toNat z) Lu h (hle:=klR [(4,.ob X.n (fun q=>if q=(b.g x.toNat).Parent.toNat then LC F2 1 (cI .i64) z else if q=(b.g x.toNat).Parent.toNat then .dead else LC F2 1 (cI .i64) (X.g q)) fun i=>LC F2 1 (cI .i64) ((X.upd (b.g x.toNat).Parent.toNat z).g i))] (al1 AV6 al0))
 refine HB Z Lu 31 (.pub 9000) (⟨rfl,fun i _=>rfl⟩:X.n=X.n/\∀i,i<X.n->(XY (LC F2 1 (cI .i64) (X.g i))).isSome=true) ?_;obtain rfl:=D4 h;exact B1 Z Lu ⟨[(2,.p (vSl 1 (cL 1 (cI .i64)) X))],[]⟩ [] (ids:=[]) ⟨rfl,rfl,rfl⟩ (hle:=klR [(0,.fn X.n X.n (fun i=>[(XY (LC F2 1 (cI .i64) (X.g i))).getD default]) (fun i=>cL 1 (cI .i64) (X.g i)))] (al1 ⟨rfl,fun _ _=>rfl⟩ al0))
end Go.AM
namespace Go.AM
open IntKind (wrap)
open Go.Proofs
set_option maxRecDepth 10000
set_option maxHeartbeats 2000000
variable {S:Aj}(Z:H1 S Tryz.prog) (Y:Nk S)
include Z Y
def Bw (N:Nat)(b:Sl I9):Option (Sl Int):= (Z1 N b).bind fun y1=>Q3 N (fun a (x1:Sl Int) (x2:Int)=>if (decide (x2<(y1.n:Int))) then if ((0:Int)<=x2/\x2<(y1.n:Int))then if (((y1.g x2.toNat).n:Int)==0) then if ((x1.n+(Sl.of [x2]:Sl Int).n)*8<=140737488355328/\x1.n+(Sl.of [x2]:Sl Int).n<=140737488355328)then a (x1.push x2) (wrap .i64 (x2+1)) else none else a x1 (wrap .i64 (x2+1)) else none else some x1) Oc 0
theorem Rj {N:Nat}{a:Sl I9}{y:Sl Int}(h:Bw N a=some y) :FunO S Jd [.p (vSl 2 G2 a)] [] (.vec 0) ([.vec F2 1 y.n (fun i=>cI .i64 (y.g i)) true]) []:=by
 unfold Bw at h;refine A5 Z Tryz.func66 ?_;refine kC Z h (Ny Z Y) (fun y1 h=>?_);refine R4 Z Lu h (fun x1 x2=>⟨[(9,pN x2),(8,pN (y1.n:Int)),(7,.p (vSl 1 (cL 1 (cI .i64)) y1)),(3,.vec 4500)],[(4500,.vec F2 1 x1.n (fun i=>cI .i64 (x1.g i)) false)]⟩) (ids:=[]) (fun _ _ _ _ _ f x1 x2 d h=>?_);apply kI Z h<;>intro h
 .obtain⟨c8,h⟩:=H4 h;refine F4 Z c8 (b:=((y1.g x2.toNat).n:Int)==0) (fun c9=>?_) (fun c9=>?_)
  .replace h:=itT c9 h;obtain⟨c10,h⟩:=H4 h;exact d _ [(4500,21000)] _ (x1.push x2) (wrap .i64 (x2+1)) (And.intro Ob c10) h (hle:=klR [(3,.fn (x1.n+1) (x1.push x2).n (BA x1.n (fun i=>cI .i64 (x1.g i)) (E5 [pI .i64 0] [(0,cI .i64 x2)])) (fun i=>cI .i64 ((x1.push x2).g i)))] (al1 ⟨rfl,Pm (c:=cI .i64) (v:=x1) (x:=x2) (z:=[(pI .i64 0)]) same rfl rfl⟩ al0))
  replace h:=itF c9 h;exact d _ [(4500,4500)] _ x1 (wrap .i64 (x2+1)) Lu h
 obtain rfl:=D4 h;exact B1 Z Lu ⟨[(2,.vec 4500)],[(4500,.vec F2 1 x1.n (fun i=>cI .i64 (x1.g i)) true)]⟩ [4500] (ids:=[(4500,4500)]) ⟨rfl,rfl,rfl⟩
def M0 (N:Nat)(a:Sl I9):Option ((Sl Int)×Int):= (R8 N a).bind fun y1=>if (y1 != 0) then some (Oc,y1) else (Bw N a).bind fun y2=>some (y2,0)
theorem Bx {N:Nat}{a:Sl I9}{y:(Sl Int)×Int}(h:M0 N a=some y) :FunO S Jb [.p (vSl 2 G2 a)] [] (.tup [.vec 0,pN y.2]) ([.vec F2 1 y.1.n (fun i=>cI .i64 (y.1.g i)) true]) []:=by
 unfold M0 at h;refine A5 Z Tryz.func37 ?_;refine kC Z h (DO Z Y) (fun y1 h=>?_);apply kI Z h<;>intro h
 .obtain rfl:=D4 h;exact B1 Z Lu ⟨[(3,pN y1),(2,.vec 3700)],[(3700,.vec F2 1 Oc.n (fun i=>cI .i64 (Oc.g i)) true)]⟩ [3700] (ids:=[]) ⟨rfl,rfl,rfl⟩
 refine kC Z h (Rj Z Y) (fun y2 h=>?_);obtain rfl:=D4 h;exact B1 Z Lu ⟨[(3,pN 0),(2,.vec 12000)],[(12000,.vec F2 1 y2.n (fun i=>cI .i64 (y2.g i)) true)]⟩ [12000] (ids:=[(12000,12000)]) ⟨rfl,rfl,rfl⟩
def Eb (N:Nat)(b:Sl I9)(c:Int):Option (Sl Int):= Q3 N (fun a (x1:Sl Int) (x2:Int)=>if (decide (x2<(b.n:Int))) then if ((0:Int)<=x2/\x2<(b.n:Int))then if ((b.g x2.toNat).Parent==c) then if ((x1.n+(Sl.of [x2]:Sl Int).n)*8<=140737488355328/\x1.n+(Sl.of [x2]:Sl Int).n<=140737488355328)then a (x1.push x2) (wrap .i64 (x2+1)) else none else a x1 (wrap .i64 (x2+1)) else none else some x1) Oc 0
def Bb (N:Nat)(b:Sl I9):Option ((Sl Int)×Int):= (BP N b).bind fun y1=>if (y1 != 0) then some (Oc,y1) else Q3 N (fun a (x1:Sl Int) (x2:Int)=>if (decide (x2<(b.n:Int))) then (Eb N b x2).bind fun y4=>if ((y4.n:Int)==0) then if ((x1.n+(Sl.of [x2]:Sl Int).n)*8<=140737488355328/\x1.n+(Sl.of [x2]:Sl Int).n<=140737488355328)then a (x1.push x2) (wrap .i64 (x2+1)) else none else a x1 (wrap .i64 (x2+1)) else some (x1,0)) Oc 0
end Go.AM
namespace Go.AM
open Go.Proofs.Tryz
variable {N:Nat}
open IntKind (wrap)
open Go.Proofs
set_option maxRecDepth 10000
set_option maxHeartbeats 2000000
variable {S:Aj}(Z:H1 S Tryz.prog) (Y:Nk S)
include Z Y
def PC (N:Nat)(a:Sl I9)(b:Int):Option Int:= (BP N a).bind fun y1=>if ((y1==0)&&((decide (b<0))||(decide ((a.n:Int)<=b)))) then some 3 else some y1
def Cp (rec:(Sl I9)->Int->Option (Sl Int))(N:Nat)(b:Sl I9)(a:Int):Option (Sl Int):= if (a==0) then some (Sl.of [0]:Sl Int) else if ((0:Int)<=a/\a<(b.n:Int))then (rec b (b.g a.toNat).Parent).bind fun y1=>if ((y1.n+(Sl.of [a]:Sl Int).n)*8<=140737488355328/\y1.n+(Sl.of [a]:Sl Int).n<=140737488355328)then some (y1.push a) else none else none
def Hg:Nat->(Sl I9)->Int->Option (Sl Int)
 |0=>fun _ _=>none
 |N+1=>Cp (Hg N) N
theorem AJ5 {rec:(Sl I9)->Int->Option (Sl Int)}(d:∀{b:Sl I9}{a:Int}{y:Sl Int},rec b a=some y->FunO S Kd [.p (vSl 2 G2 b),pN a] [] (.vec 0) ([.vec F2 1 y.n (fun i=>cI .i64 (y.g i)) true]) []){b:Sl I9}{a:Int}{y:Sl Int}(h:Cp rec N b a=some y) :FunO S Kd [.p (vSl 2 G2 b),pN a] [] (.vec 0) ([.vec F2 1 y.n (fun i=>cI .i64 (y.g i)) true]) []:=by
 unfold Cp at h;refine A5 Z func140 ?_;apply kI Z h<;>intro h
 .obtain rfl:=D4 h;exact B1 Z Ob ⟨[(4,.vec 8000)],[(8000,.vec F2 1 (Sl.of [0]:Sl Int).n (fun i=>cI .i64 ((Sl.of [0]:Sl Int).g i)) true)]⟩ [8000] (ids:=[(8000,8000)]) ⟨rfl,rfl,rfl⟩ (hle:=klR [(0,.fn 1 (Sl.of [0]:Sl Int).n (E5 [pI .i64 0] [(0,cI .i64 0)]) (fun i=>cI .i64 ((Sl.of [0]:Sl Int).g i)))] (al1 ⟨rfl,(fun i f=>match i,f with|0,_=>rfl|_+1,f=>Lq f (by omega))⟩ al0))
 obtain⟨c2,h⟩:=H4 h;obtain⟨y1,e1,h⟩:=C4 h;refine D2 Z [] c2 (d e1) ?_;obtain⟨c3,h⟩:=H4 h;obtain rfl:=D4 h;exact B1 Z (And.intro Ob c3) ⟨[(4,.vec 18000)],[(18000,.vec F2 1 (y1.push a).n (fun i=>cI .i64 ((y1.push a).g i)) true)]⟩ [18000] (ids:=[(18000,18000)]) ⟨rfl,rfl,rfl⟩ (hle:=klR [(0,.fn (y1.n+1) (y1.push a).n (BA y1.n (fun i=>cI .i64 (y1.g i)) (E5 [pI .i64 0] [(0,cI .i64 a)])) (fun i=>cI .i64 ((y1.push a).g i)))] (al1 ⟨rfl,Pm (c:=cI .i64) (v:=y1) (x:=a) (z:=[(pI .i64 0)]) same rfl rfl⟩ al0))
def Km (N:Nat)(a:Sl I9)(b:Int):Option ((Sl Int)×Int):= (PC N a b).bind fun y1=>if (y1 != 0) then some (Oc,y1) else (Hg N a b).bind fun y2=>some (y2,0)
def Cq (N:Nat)(c:Sl I9)(a:Sl Int):Option Int:= (R8 N c).bind fun y1=>if (y1 != 0) then some y1 else Q5 N (fun b (x1:Int)=>if (decide (x1<(a.n:Int))) then if ((0:Int)<=x1/\x1<(a.n:Int))then if ((decide ((a.g x1.toNat)<0))||(decide ((c.n:Int)<=(a.g x1.toNat)))) then some 3 else b (wrap .i64 (x1+1)) else none else some 0) 0
theorem TA {c:Sl I9}{b:Sl Int}{y:Int}(h:Cq N c b=some y) :FunO S Lc [.p (vSl 2 G2 c),.p (vSl 1 (cI .i64) b)] [] (pN y) ([]) []:=by
 unfold Cq at h;refine A5 Z func110 ?_;refine kC Z h (DO Z Y) (fun y1 h=>?_);apply kI Z h<;>intro h
 .cases h;exact kR Z
 refine Ak Z Lu h (fun x1=>⟨[(15,pN x1),(14,pN (b.n:Int)),(13,.p (vSl 1 (cI .i64) b)),(0,.p (vSl 2 G2 c))],[]⟩) (ids:=[]) (fun _ _ _ _ _ d x1 f h=>?_);apply kI Z h<;>intro h
 .obtain⟨c9,h⟩:=H4 h;refine kB Z (B3 Z) c9 Lu 5 (.o (.a (decide ((b.g x1.toNat)<0))) (.a (decide ((c.n:Int)<=(b.g x1.toNat))))) ?_;apply kI Z h<;>intro h
  .cases h;exact kR Z
  exact f _ [] _ (wrap .i64 (x1+1)) Lu h
 cases h;exact kR Z
def BQ (N:Nat)(q0:Int)(q1:Sl I9):Option (List (Int)):= Q5 N (fun a (x1:Int)=>if (decide (0<=x1)) then X1 x1 (if ((0:Int)<=x1/\x1<(q1.n:Int))then a (q1.g x1.toNat).Parent else none) else some []) q0
theorem VD {q0:Int}{q1:Sl I9}{L:List (Int)}(h:BQ N q0 q1=some L) :Fc S Fl [] [.reg 0 0,.reg 1 0] [.cells [pN q0],.cells [.p (vSl 2 G2 q1)]] (L.map (fun (x:Int)=>[pI .i64 x])):=by
 unfold BQ at h;refine Fh Z func135 ?_;refine Fg Z Lu h (fun x1 L1=>⟨[(2,.reg 1 0),(1,.reg 0 0),(0,.yf 2)],[(2,.yld (L1.map (fun (x:Int)=>[pI .i64 x])) true),(1,.cells [.p (vSl 2 G2 q1)]),(0,.cells [pN x1])]⟩) (ids:=[(0,0),(1,1),(2,2)]) (fun _ _ _ _ _ d x1 L1 f h=>?_);apply kI Z h<;>intro h
 .obtain⟨L4,rfl,c⟩:=MF h;replace h:=c;refine Dd Z Lu (ys:=(fun (x:Int)=>[pI .i64 x]) x1) (rest:=L4.map (fun (x:Int)=>[pI .i64 x])) ?_ ?_
  .refine F4 Z Lu (b:=false) (fun c8=>?_) (fun c8=>?_)
   .exact Bool.noConfusion ((rfl:false=false).symm.trans c8)
   obtain⟨c9,h⟩:=H4 h;exact f _ [(0,0),(1,1),(2,2)] _ (q1.g x1.toNat).Parent L4 c9 h
  refine F4 Z Lu (b:=true) (fun c10=>?_) (fun c10=>?_)
  .exact B1 Z Lu (a:=.tup []) (objs:=[(.cells [pN x1]),.cells [.p (vSl 2 G2 q1)],.yld [] false]) ⟨[],[(2,.yld [] false),(1,.cells [.p (vSl 2 G2 q1)]),(0,.cells [pN x1])]⟩ [0,1,2] (ids:=[(0,0),(1,1),(2,2)]) ⟨false,rfl,rfl,_,rfl⟩
  exact Bool.noConfusion (Ob.symm.trans c10)
 obtain rfl:=D4 h;exact B1 Z Lu (a:=.tup []) (objs:=[(.cells [pN x1]),.cells [.p (vSl 2 G2 q1)],.yld [] true]) ⟨[],[(2,.yld [] true),(1,.cells [.p (vSl 2 G2 q1)]),(0,.cells [pN x1])]⟩ [0,1,2] (ids:=[(0,0),(1,1),(2,2)]) ⟨true,rfl,rfl,_,rfl⟩
def Jx (N:Nat)(a:Sl I9)(b:Int):Option (Int×(Sl I9)):= some (b,a)
theorem Ad9 {a:Sl I9}{b:Int}{y:Int×(Sl I9)}(h:Jx N a b=some y) :FunO S Tf [.p (vSl 2 G2 a),pN b] [] (.clo Fl [] [.reg 0 0,.reg 1 0]) ([.cells [pN y.1],.cells [.p (vSl 2 G2 y.2)]]) []:=by unfold Jx at h;refine A5 Z func112 ?_;obtain rfl:=D4 h;exact B1 Z Lu ⟨[(4,.clo Fl [] [.reg 4000 0,.reg 3000 0])],[(4000,.cells [pN b]),(3000,.cells [.p (vSl 2 G2 a)])]⟩ [4000,3000] (ids:=[(3000,3000),(4000,4000)]) ⟨rfl,rfl,rfl⟩
def H9 (N:Nat)(a:List (Int)):Option (Sl Int):= N8 a (fun b (x1:Int) (z1:Sl Int)=>if ((z1.n+(Sl.of [x1]:Sl Int).n)*8<=140737488355328/\z1.n+(Sl.of [x1]:Sl Int).n<=140737488355328)then b (z1.push x1) else none) (fun (z1:Sl Int)=>some z1) Oc
theorem Cr {d:List (Int)}{a:Int}{b:(Sl I9)}{kp_seq:Nat}(fp_seq:∃fn,AZ5[kp_seq]? = some fn/\fn.body.isSome=true/\(fn.name == "runtime.NumGoroutine")=false)(f:Fc S kp_seq [] [.reg 0 0,.reg 1 0] [(.cells [(pN a)]),(.cells [(.p (vSl 2 G2 b))])] (d.map (fun (x:Int)=>[(pI .i64) x]))){y:(Sl Int)}(h:H9 N d=some y) :FunO S N9 [(.p M9),(.clo kp_seq [] [(.reg 0 0),(.reg 1 0)])] [(.cells [(pN a)]),(.cells [(.p (vSl 2 G2 b))])] (.vec 0) ([(.vec F2 1 y.n (fun i=>(cI .i64) (y.g i)) false)]) [false,false]:=by
 unfold H9 at h;refine A5 Z func134 ?_;refine Qz Z Lu fp_seq [0,1] [2] 901 (fun z1=>⟨[(2,(.reg 3000 0))],[(3500,(.vec F2 1 z1.n (fun i=>(cI .i64) (z1.g i)) false)),(3000,(.cells [(.vec 3500)]))]⟩) (idl:=[(3000,3000)]) h f (fun _=>by kernel_rfl) (fun _=>by kernel_rfl) (fun _=>by kernel_rfl) (fun _=>by kernel_rfl) (fun x1 _ j z1 l h=>?_) (fun z1 h=>?_)
 .refine Ie Z Lu ?_;obtain⟨c1,h⟩:=H4 h;exact l _ [(901,901),(3000,3000),(3500,12000)] _ (z1.push x1) (And.intro Ob c1) h (hle:=klR [(0,.fn (z1.n+1) (z1.push x1).n (BA z1.n (fun i=>(cI .i64) (z1.g i)) (E5 [(pI .i64 0)] [(0,(cI .i64) x1)])) (fun i=>(cI .i64) ((z1.push x1).g i)))] (al1 ⟨rfl,(Pm (c:=(cI .i64)) (v:=z1) (x:=x1) (z:=[(pI .i64 0)]) same rfl rfl)⟩ al0))
 obtain rfl:=D4 h;exact B1 Z Lu ⟨[(4,(.vec 3500))],[(3500,(.vec F2 1 z1.n (fun i=>(cI .i64) (z1.g i)) false))]⟩ [3500] (ids:=[(3500,3500)]) ⟨rfl,rfl,rfl⟩
def R9 (N:Nat)(a:List (Int)):Option (Sl Int):= (H9 N a).bind fun y1=>some y1
theorem GF {c:List (Int)}{a:Int}{b:(Sl I9)}{kp_seq:Nat}(fp_seq:∃fn,AZ5[kp_seq]? = some fn/\fn.body.isSome=true/\(fn.name == "runtime.NumGoroutine")=false)(d:Fc S kp_seq [] [.reg 0 0,.reg 1 0] [(.cells [(pN a)]),(.cells [(.p (vSl 2 G2 b))])] (c.map (fun (x:Int)=>[(pI .i64) x]))){y:(Sl Int)}(h:R9 N c=some y) :FunO S An [(.clo kp_seq [] [(.reg 0 0),(.reg 1 0)])] [(.cells [(pN a)]),(.cells [(.p (vSl 2 G2 b))])] (.vec 0) ([(.vec F2 1 y.n (fun i=>(cI .i64) (y.g i)) false)]) [false,false]:=by unfold R9 at h;refine A5 Z func111 ?_;obtain⟨y1,e1,h⟩:=C4 h;refine D2 Z [0,1] Lu (Cr Z Y fp_seq d e1) ?_;obtain rfl:=D4 h;exact B1 Z Lu ⟨[(2,(.vec 5000))],[(5000,(.vec F2 1 y1.n (fun i=>(cI .i64) (y1.g i)) false))]⟩ [5000] (ids:=[(5000,5000)]) ⟨rfl,rfl,rfl⟩
def G9 (N:Nat)(b:Sl Int):Option (Sl Int):= YA N (fun a (x1:Sl Int) (x2:Int) (x3:Int)=>if (decide (x2<x3)) then if (((((((((0:Int)<=x3/\x3<(x1.n:Int))/\x3.toNat<x1.n)/\((0:Int)<=x2/\x2<(x1.n:Int)))/\x2.toNat<x1.n)/\((0:Int)<=x2/\x2<(x1.n:Int)))/\x2.toNat<x1.n)/\((0:Int)<=x3/\x3<((x1.upd x2.toNat (x1.g x3.toNat)).n:Int)))/\x3.toNat<(x1.upd x2.toNat (x1.g x3.toNat)).n)then a ((x1.upd x2.toNat (x1.g x3.toNat)).upd x3.toNat (x1.g x2.toNat)) (wrap .i64 (x2+1)) (wrap .i64 (x3-1)) else none else some x1) b 0 (wrap .i64 ((b.n:Int)-1))
theorem Dr {a:Sl Int}{y:Sl Int}(h:G9 N a=some y) :FunO S Y0 [.vec 0] [.vec F2 1 a.n (fun i=>cI .i64 (a.g i)) false] (.tup []) ([.vec F2 1 y.n (fun i=>cI .i64 (y.g i)) false]) [true]:=by
 unfold G9 at h;refine A5 Z func113 ?_;refine Po Z Lu h (fun x1 x2 x3=>⟨[(3,pN x3),(2,pN x2),(0,.vec 0)],[(0,.vec F2 1 x1.n (fun i=>cI .i64 (x1.g i)) false)]⟩) (ids:=[(0,0)]) (fun _ _ _ _ _ b x1 x2 x3 d h=>?_);apply kI Z h<;>intro h
 .refine DT Z Lu ?_;obtain⟨c6,h⟩:=H4 h;refine P3 (And.intro (And.intro (And.intro (And.intro (And.intro (And.intro (And.intro c6.1.1.1.1.1.1.1 c6.1.1.1.1.1.1.2) c6.1.1.1.1.1.2) c6.1.1.1.1.2) c6.1.1.1.2) (And.intro (rfl:(1:Nat)=1) (And.intro c6.1.1.2 Lx))) c6.1.2) (And.intro (rfl:(1:Nat)=1) (And.intro c6.2 Lx))) ?_;exact d _ [(0,0)] _ ((x1.upd x2.toNat (x1.g x3.toNat)).upd x3.toNat (x1.g x2.toNat)) (wrap .i64 (x2+1)) (wrap .i64 (x3-1)) Lu h (hle:=klR [(2,.fn x1.n ((x1.upd x2.toNat (x1.g x3.toNat)).upd x3.toNat (x1.g x2.toNat)).n (fun l=>if l=x3.toNat then splice ((fun l=>if l=x2.toNat then splice ((fun i=>cI .i64 (x1.g i)) l) 0 [pI .i64 (x1.g x3.toNat)]else (fun i=>cI .i64 (x1.g i)) l) l) 0 [pI .i64 (x1.g x2.toNat)]else (fun l=>if l=x2.toNat then splice ((fun i=>cI .i64 (x1.g i)) l) 0 [pI .i64 (x1.g x3.toNat)]else (fun i=>cI .i64 (x1.g i)) l) l) (fun i=>cI .i64 (((x1.upd x2.toNat (x1.g x3.toNat)).upd x3.toNat (x1.g x2.toNat)).g i)))] (al1 ⟨rfl,AS4 (c:=cI .i64) (v:=x1.upd x2.toNat (x1.g x3.toNat)) (x:=x1.g x2.toNat) (AS4 (c:=cI .i64) (v:=x1) (x:=x1.g x3.toNat) same (fun _=>by first|rfl|(dsimp only;split<;>rfl))) (fun _=>by first|rfl|(dsimp only;split<;>rfl))⟩ al0))
 obtain rfl:=D4 h;exact B1 Z Lu ⟨[],[(0,.vec F2 1 x1.n (fun i=>cI .i64 (x1.g i)) false)]⟩ [0] (ids:=[(0,0)]) ⟨rfl,rfl,rfl⟩
def Ds (N:Nat)(a:Sl I9)(b:Int):Option ((Sl Int)×Int):= (Cq N a (Sl.of [b]:Sl Int)).bind fun y1=>if (y1 != 0) then some (Oc,y1) else (Jx N a b).bind fun y2=>(BQ N y2.1 y2.2).bind fun L1=>(R9 N L1).bind fun y3=>(G9 N y3).bind fun y4=>some (y4,0)
theorem VE {b:Sl I9}{a:Int}{y:(Sl Int)×Int}(h:Ds N b a=some y) :FunO S MS [.p (vSl 2 G2 b),pN a] [] (.tup [.vec 0,pN y.2]) ([.vec F2 1 y.1.n (fun i=>cI .i64 (y.1.g i)) true]) []:=by
 unfold Ds at h;refine A5 Z func79 ?_;refine BF Z Ob ⟨[(10,.vec 11000),(8,.p (vSl 2 G2 b)),(1,pN a),(0,.p (vSl 2 G2 b))],[(11000,.vec F2 1 (Sl.of [a]:Sl Int).n (fun i=>cI .i64 ((Sl.of [a]:Sl Int).g i)) false)]⟩ (ids:=[(11000,11000)]) ?_ (hle:=klR [(3,.fn 1 (Sl.of [a]:Sl Int).n (E5 [pI .i64 0] [(0,cI .i64 a)]) (fun i=>cI .i64 ((Sl.of [a]:Sl Int).g i)))] (al1 ⟨rfl,(fun i c=>match i,c with|0,_=>rfl|_+1,c=>Lq c (by omega))⟩ al0));refine kC Z h (TA Z Y) (fun y1 h=>?_);apply kI Z h<;>intro h
 .obtain rfl:=D4 h;exact B1 Z Lu ⟨[(5,pN y1),(4,.vec 5700)],[(5700,.vec F2 1 Oc.n (fun i=>cI .i64 (Oc.g i)) true)]⟩ [5700] (ids:=[]) ⟨rfl,rfl,rfl⟩
 refine kC Z h (Ad9 Z Y) (fun y2 h=>?_);obtain⟨L1,e3,h⟩:=C4 h;obtain⟨y3,e4,h⟩:=C4 h;refine D2 Z [18000,18001] Lu (GF Z Y ⟨_,func135,by decide +kernel,by decide +kernel⟩ (VD Z Y e3) e4) ?_;obtain⟨y4,e5,h⟩:=C4 h;refine AH6 Z [19000] Lu (Dr Z Y e5) ?_;obtain rfl:=D4 h;exact B1 Z Lu ⟨[(5,pN 0),(4,.vec 19000)],[(19000,.vec F2 1 y4.n (fun i=>cI .i64 (y4.g i)) true)]⟩ [19000] (ids:=[(19000,19000)]) ⟨rfl,rfl,rfl⟩
def Cs (N:Nat)(a:Sl Oh):Option Str:= Q3 N (fun b (x1:Sl Int) (x2:Int)=>if (decide (x2<(a.n:Int))) then if ((0:Int)<=x2/\x2<(a.n:Int))then if ((x1.n+(Lw (a.g x2.toNat).Plus).n)*1<=140737488355328/\x1.n+(Lw (a.g x2.toNat).Plus).n<=140737488355328)then if (((x1.app (Lw (a.g x2.toNat).Plus)).n+(Lw (a.g x2.toNat).Minus).n)*1<=140737488355328/\(x1.app (Lw (a.g x2.toNat).Plus)).n+(Lw (a.g x2.toNat).Minus).n<=140737488355328)then b ((x1.app (Lw (a.g x2.toNat).Plus)).app (Lw (a.g x2.toNat).Minus)) (wrap .i64 (x2+1)) else none else none else none else some (US x1)) Oc 0
theorem Li {a:Sl Oh}{y:Str}(h:Cs N a=some y) :FunO S KZ [.p (vSl 2 A0 a)] [] (.p (.str y)) ([]) []:=by
 unfold Cs at h;refine A5 Z func81 ?_;refine R4 Z Lu h (fun x1 x2=>⟨[(10,pN x2),(9,pN (a.n:Int)),(8,.p (vSl 2 A0 a)),(3,.vec 4500)],[(4500,.vec Ni 1 x1.n (fun i=>cI .u8 (x1.g i)) false)]⟩) (ids:=[]) (fun _ _ _ _ _ d x1 x2 l h=>?_);apply kI Z h<;>intro h
 .obtain⟨c22,h⟩:=H4 h;refine Ar5 Z (And.intro c22 Nf) 2 (unrT [fun t=>t=⟨[(19,pN 0),(18,.p (.agg [pI .u32 (a.g x2.toNat).Plus,pI .u32 (a.g x2.toNat).Minus])),(10,pN x2),(9,pN (a.n:Int)),(8,.p (vSl 2 A0 a)),(3,.vec 4501)],[(4501,.vec Ni 1 x1.n (fun i=>cI .u8 (x1.g i)) false)]⟩/\(
   if ((x1.n+(Lw (a.g x2.toNat).Plus).n)*1<=140737488355328/\x1.n+(Lw (a.g x2.toNat).Plus).n<=140737488355328)then
    if (((x1.app (Lw (a.g x2.toNat).Plus)).n+(Lw (a.g x2.toNat).Minus).n)*1<=140737488355328/\(x1.app (Lw (a.g x2.toNat).Plus)).n+(Lw (a.g x2.toNat).Minus).n<=140737488355328)then
     d ((x1.app (Lw (a.g x2.toNat).Plus)).app (Lw (a.g x2.toNat).Minus)) (wrap .i64 (x2+1))
    else none
   else none
   )=some y,fun t=>t=⟨[(19,pN 1),(18,.p (.agg [pI .u32 (a.g x2.toNat).Plus,pI .u32 (a.g x2.toNat).Minus])),(10,pN x2),(9,pN (a.n:Int)),(8,.p (vSl 2 A0 a)),(3,.vec 4500)],[(4500,.vec Ni 1 (x1.app (Lw (a.g x2.toNat).Plus)).n (fun i=>cI .u8 ((x1.app (Lw (a.g x2.toNat).Plus)).g i)) false)]⟩/\(
    if (((x1.app (Lw (a.g x2.toNat).Plus)).n+(Lw (a.g x2.toNat).Minus).n)*1<=140737488355328/\(x1.app (Lw (a.g x2.toNat).Plus)).n+(Lw (a.g x2.toNat).Minus).n<=140737488355328)then
     d ((x1.app (Lw (a.g x2.toNat).Plus)).app (Lw (a.g x2.toNat).Minus)) (wrap .i64 (x2+1))
    else none
   )=some y,fun t=>t=⟨[(19,pN 2),(18,.p (.agg [pI .u32 (a.g x2.toNat).Plus,pI .u32 (a.g x2.toNat).Minus])),(10,pN x2),(9,pN (a.n:Int)),(8,.p (vSl 2 A0 a)),(3,.vec 4501)],[(4501,.vec Ni 1 ((x1.app (Lw (a.g x2.toNat).Plus)).app (Lw (a.g x2.toNat).Minus)).n (fun i=>cI .u8 (((x1.app (Lw (a.g x2.toNat).Plus)).app (Lw (a.g x2.toNat).Minus)).g i)) false)]⟩/\(
    d ((x1.app (Lw (a.g x2.toNat).Plus)).app (Lw (a.g x2.toNat).Minus)) (wrap .i64 (x2+1))
   )=some y]) ⟨[(19,pN 0),(18,.p (.agg [pI .u32 (a.g x2.toNat).Plus,pI .u32 (a.g x2.toNat).Minus])),(10,pN x2),(9,pN (a.n:Int)),(8,.p (vSl 2 A0 a)),(3,.vec 4501)],[(4501,.vec Ni 1 x1.n (fun i=>cI .u8 (x1.g i)) false)]⟩ (ids:=[(4501,4500)]) ⟨rfl,h⟩ (fun _ _ _ _ i _ t f ht j=>?_)
  rcases i with _|_|_|i
  .obtain⟨rfl,h⟩:=ht;refine F4 Z Lu (b:=decide ((0:Int)<2)) (fun c29=>?_) (fun c29=>?_)
   .obtain⟨c30,h⟩:=H4 h;exact j _ [(4500,33000)] _ _ (And.intro (And.intro (And.intro (And.intro (by decide:(0:Int)<=0/\(0:Int)<2) (by decide:(0:Int)<=8)) (by decide:(0:Int)<=16)) Ob) c30) rfl ⟨rfl,h⟩ (hle:=klR [(5,.fn (x1.n+3) (x1.app (Lw (a.g x2.toNat).Plus)).n (BA x1.n (fun i=>cI .u8 (x1.g i)) (E5 [pI .u8 0] [(0,cI .u8 (wrap .u8 (a.g x2.toNat).Plus)),(1,cI .u8 (wrap .u8 (shI .shr .u32 (a.g x2.toNat).Plus 8))),(2,cI .u8 (wrap .u8 (shI .shr .u32 (a.g x2.toNat).Plus 16)))])) (fun i=>cI .u8 ((x1.app (Lw (a.g x2.toNat).Plus)).g i)))] (al1 ⟨rfl,AY5 (c:=cI .u8) (v:=x1) (w:=(Lw (a.g x2.toNat).Plus)) same rfl (fun i f=>match i,f with|0,_=>rfl|1,_=>rfl|2,_=>rfl|_+3,f=>Lq f (by omega)) rfl⟩ al0))
   exact Bool.noConfusion ((by decide:decide ((0:Int)<2)=true).symm.trans c29)
  .obtain⟨rfl,h⟩:=ht;refine F4 Z Lu (b:=decide ((1:Int)<2)) (fun c27=>?_) (fun c27=>?_)
   .obtain⟨c28,h⟩:=H4 h;exact j _ [(4501,33000)] _ _ (And.intro (And.intro (And.intro (And.intro (by decide:(0:Int)<=1/\(1:Int)<2) (by decide:(0:Int)<=8)) (by decide:(0:Int)<=16)) Ob) c28) rfl ⟨rfl,h⟩ (hle:=klR [(5,.fn ((x1.app (Lw (a.g x2.toNat).Plus)).n+3) ((x1.app (Lw (a.g x2.toNat).Plus)).app (Lw (a.g x2.toNat).Minus)).n (BA (x1.app (Lw (a.g x2.toNat).Plus)).n (fun i=>cI .u8 ((x1.app (Lw (a.g x2.toNat).Plus)).g i)) (E5 [pI .u8 0] [(0,cI .u8 (wrap .u8 (a.g x2.toNat).Minus)),(1,cI .u8 (wrap .u8 (shI .shr .u32 (a.g x2.toNat).Minus 8))),(2,cI .u8 (wrap .u8 (shI .shr .u32 (a.g x2.toNat).Minus 16)))])) (fun i=>cI .u8 (((x1.app (Lw (a.g x2.toNat).Plus)).app (Lw (a.g x2.toNat).Minus)).g i)))] (al1 ⟨rfl,AY5 (c:=cI .u8) (v:=x1.app (Lw (a.g x2.toNat).Plus)) (w:=(Lw (a.g x2.toNat).Minus)) same rfl (fun i f=>match i,f with|0,_=>rfl|1,_=>rfl|2,_=>rfl|_+3,f=>Lq f (by omega)) rfl⟩ al0))
   exact Bool.noConfusion ((by decide:decide ((1:Int)<2)=true).symm.trans c27)
  .obtain⟨rfl,h⟩:=ht;refine F4 Z Lu (b:=decide ((2:Int)<2)) (fun c26=>?_) (fun c26=>?_)
   .exact Bool.noConfusion ((by decide:decide ((2:Int)<2)=false).symm.trans c26)
   exact l _ [(4500,4501)] _ ((x1.app (Lw (a.g x2.toNat).Plus)).app (Lw (a.g x2.toNat).Minus)) (wrap .i64 (x2+1)) Lu h
  exact Lq f (by omega)
 obtain rfl:=D4 h;exact Ar2 Z ((fun _ _=>rfl):∀i:Nat,i<x1.n->true=true) [] ⟨rfl,rfl,rfl⟩
def D1 (N:Nat)(a:Sl C9)(c:C9->Option Bool):Option Int:= Q5 N (fun b (x1:Int)=>if (decide (x1<(a.n:Int))) then if ((0:Int)<=x1/\x1<(a.n:Int))then (c (a.g x1.toNat)).bind fun y3=>if y3 then some x1 else b (wrap .i64 (x1+1)) else none else some (-1)) 0
theorem Z2 {a:Sl C9}{c:C9->Option Bool}{kp_f:Nat}(d:∀{a0:C9}{b:Bool},c a0=some b->FunO S kp_f [.p (.agg (B9 a0))] [] (pB b) [] []){y:Int}(h:D1 N a c=some y) :FunO S N1 [.p (vSl 2 B9 a),.clo kp_f [] []] [] (pN y) ([]) []:=by
 unfold D1 at h;refine A5 Z func116 ?_;refine Ak Z Lu h (fun x1=>⟨[(8,pN x1),(7,pN (a.n:Int)),(1,.clo kp_f [] []),(0,.p (vSl 2 B9 a))],[]⟩) (ids:=[]) (fun _ _ _ _ _ f x1 g h=>?_);apply kI Z h<;>intro h
 .obtain⟨c8,h⟩:=H4 h;obtain⟨y3,e3,h⟩:=C4 h;refine D2 Z [] (And.intro c8 Nf) (d e3) ?_;apply kI Z h<;>intro h
  .cases h;exact kR Z
  exact g _ [] _ (wrap .i64 (x1+1)) Lu h
 cases h;exact kR Z
def D8 (N:Nat)(a:Sl C9)(b:C9->Option Bool):Option Bool:= (D1 N a b).bind fun y1=>some (decide (0<=y1))
theorem V5 {a:Sl C9}{c:C9->Option Bool}{kp_f:Nat}(d:∀{a0:C9}{b:Bool},c a0=some b->FunO S kp_f [.p (.agg (B9 a0))] [] (pB b) [] []){y:Bool}(h:D8 N a c=some y) :FunO S J5 [.p (vSl 2 B9 a),.clo kp_f [] []] [] (pB y) ([]) []:=by unfold D8 at h;refine A5 Z func86 ?_;refine kC Z h (Z2 Z Y (fun e=>d e)) (fun y1 h=>?_);cases h;exact kR Z
def AO (N:Nat)(a:C9):Option Bool:= some ((!a.Has)&&(decide (0<(a.W.n:Int))))
theorem LD {b:C9}{y:Bool}(h:AO N b=some y) :FunO S FR [.p (.agg (B9 b))] [] (pB y) ([]) []:=by unfold AO at h;refine A5 Z func87 ?_;refine kB Z (B3 Z) Lu Lu 5 (.n (.a (!b.Has)) (.a (decide (0<(b.W.n:Int))))) ?_;cases h;exact kR Z
def W4 (N:Nat)(a:Sl C9):Option Bool:= (D8 N a (fun (u1:C9)=>AO N u1)).bind fun y1=>some (!y1)
theorem HR {a:Sl C9}{y:Bool}(h:W4 N a=some y) :FunO S HE [.p (vSl 2 B9 a)] [] (pB y) ([]) []:=by unfold W4 at h;refine A5 Z func54 ?_;refine kC Z h (V5 Z Y (fun e=>LD Z Y e)) (fun y1 h=>?_);cases h;exact kR Z
def M8 (N:Nat)(a:Sl C9):Option Int:= Q5 N (fun b (x1:Int)=>if (decide (x1<(a.n:Int))) then if ((0:Int)<=x1/\x1<(a.n:Int))then (J6 N (a.g x1.toNat).W).bind fun y3=>if (y3 != 0) then some y3 else b (wrap .i64 (x1+1)) else none else some 0) 0
theorem Ec {a:Sl C9}{y:Int}(h:M8 N a=some y) :FunO S HF [.p (vSl 2 B9 a)] [] (pN y) ([]) []:=by
 unfold M8 at h;refine A5 Z func56 ?_;refine Ak Z Lu h (fun x1=>⟨[(8,pN x1),(7,pN (a.n:Int)),(6,.p (vSl 2 B9 a))],[]⟩) (ids:=[]) (fun _ _ _ _ _ b x1 c h=>?_);apply kI Z h<;>intro h
 .obtain⟨c8,h⟩:=H4 h;obtain⟨y3,e3,h⟩:=C4 h;refine D2 Z [] (And.intro c8 Nf) (Ba Z Y e3) ?_;apply kI Z h<;>intro h
  .cases h;exact kR Z
  exact c _ [] _ (wrap .i64 (x1+1)) Lu h
 cases h;exact kR Z
def AK (N:Nat)(a:Str):Option Bool:= (R8 N (Sl.of [(⟨-1,a⟩:I9)]:Sl I9)).bind fun y1=>some (y1==0)
theorem OE {a:Str}{y:Bool}(h:AK N a=some y) :FunO S HI [.p (.str a)] [] (pB y) ([]) []:=by unfold AK at h;refine A5 Z func88 ?_;refine BF Z Ob ⟨[(5,.vec 6000)],[(6000,.vec Kf 2 (Sl.of [(⟨-1,a⟩:I9)]:Sl I9).n (fun i=>G2 ((Sl.of [(⟨-1,a⟩:I9)]:Sl I9).g i)) false)]⟩ (ids:=[(6000,6000)]) ?_ (hle:=klR [(0,.fn 1 (Sl.of [(⟨-1,a⟩:I9)]:Sl I9).n (E5 [pI .i64 0,.str []] [(0,G2 (⟨-1,a⟩:I9))]) (fun i=>G2 ((Sl.of [(⟨-1,a⟩:I9)]:Sl I9).g i)))] (al1 ⟨rfl,(fun i b=>match i,b with|0,_=>rfl|_+1,b=>Lq b (by omega))⟩ al0));refine kC Z h (DO Z Y) (fun y1 h=>?_);cases h;exact kR Z
def J7 (N:Nat)(a:Sl Entry)(b:Int):Option Int:= Q5 N (fun c (x2:Int)=>if (decide (x2<(a.n:Int))) then if ((0:Int)<=x2/\x2<(a.n:Int))then lt (fun (z3:Bool)=>if z3 then some 2 else c (wrap .i64 (x2+1))) fun k3=>if (((a.g x2.toNat).Forms.n:Int) != b) then k3 true else (W4 N (a.g x2.toNat).Forms).bind fun y6=>k3 (!y6) else none else Q5 N (fun d (x5:Int)=>if (decide (x5<(a.n:Int))) then if ((0:Int)<=x5/\x5<(a.n:Int))then (AK N (a.g x5.toNat).Gloss).bind fun y9=>if (!y9) then some 15 else d (wrap .i64 (x5+1)) else none else some 0) 0) 0
theorem FZ {b:Sl Entry}{a:Int}{y:Int}(h:J7 N b a=some y) :FunO S FQ [.p (vSl 2 B6 b),pN a] [] (pN y) ([]) []:=by
 unfold J7 at h;refine A5 Z func55 ?_;refine Ak Z Lu h (fun x2=>⟨[(11,pN x2),(10,pN (b.n:Int)),(9,.p (vSl 2 B6 b)),(1,pN a),(0,.p (vSl 2 B6 b))],[]⟩) (ids:=[]) (fun _ _ _ _ _ d x2 f h=>?_);apply kI Z h<;>intro h
 .obtain⟨c14,h⟩:=H4 h;refine NR Z (And.intro c14 Nf) (B3 Z) h 0 (fun z3=>⟨[(25,pB z3),(11,pN x2),(10,pN (b.n:Int)),(9,.p (vSl 2 B6 b)),(1,pN a),(0,.p (vSl 2 B6 b))],[]⟩) (fun M3 k3 c h=>?_) (fun z3 h=>?_)
  .refine kG Z h (fun h=>?_) (fun h=>?_)
   .exact c _ [] _ true Lu h
   refine kC Z h (HR Z Y) (fun y6 h=>?_);exact c _ [] _ (!y6) Lu h
  apply kI Z h<;>intro h
  .cases h;exact kR Z
  exact f _ [] _ (wrap .i64 (x2+1)) Lu h
 refine Ak Z Lu h (fun x5=>⟨[(29,pN x5),(28,pN (b.n:Int)),(27,.p (vSl 2 B6 b))],[]⟩) (ids:=[]) (fun _ _ _ _ _ g x5 i h=>?_);apply kI Z h<;>intro h
 .obtain⟨c26,h⟩:=H4 h;obtain⟨y9,e9,h⟩:=C4 h;refine D2 Z [] (And.intro c26 Nf) (OE Z Y e9) ?_;apply kI Z h<;>intro h
  .cases h;exact kR Z
  exact i _ [] _ (wrap .i64 (x5+1)) Lu h
 cases h;exact kR Z
def W5 (N:Nat)(d:A3)(a:Sl C9)(b:Sl Entry):Option Int:= (J4 N d).bind fun y1=>if (y1 != 0) then some y1 else (M0 N d.Tree).bind fun y2=>if (decide (256<(b.n:Int))) then some 12 else lt (fun (z1:Bool)=>if z1 then some 2 else (J7 N b (y2.1.n:Int)).bind fun y5=>if (y5 != 0) then some y5 else (M8 N a).bind fun y6=>if (y6 != 0) then some y6 else Q5 N (fun c (x2:Int)=>if (decide (x2<(b.n:Int))) then if ((0:Int)<=x2/\x2<(b.n:Int))then (M8 N (b.g x2.toNat).Forms).bind fun y9=>if (y9 != 0) then some y9 else c (wrap .i64 (x2+1)) else none else some 0) 0) fun k1=>if ((a.n:Int) != (b.n:Int)) then k1 true else (W4 N a).bind fun y4=>k1 (!y4)
theorem HS {c:A3}{a:Sl C9}{b:Sl Entry}{y:Int}(h:W5 N c a b=some y) :FunO S HC [.p (.agg (A7 c)),.p (vSl 2 B9 a),.p (vSl 2 B6 b)] [] (pN y) ([]) []:=by
 unfold W5 at h;refine A5 Z func21 ?_;refine kC Z h (Bu Z Y) (fun y1 h=>?_);apply kI Z h<;>intro h
 .cases h;exact kR Z
 refine kC Z h (Bx Z Y) (fun y2 h=>?_);apply kI Z h<;>intro h
 .cases h;exact kR Z
 refine NR Z Lu (B3 Z) h 0 (fun z1=>⟨[(30,pB z1),(8,.vec 24000),(2,.p (vSl 2 B6 b)),(1,.p (vSl 2 B9 a))],[(24000,.vec F2 1 y2.1.n (fun i=>cI .i64 (y2.1.g i)) true)]⟩) (fun M1 k1 d h=>?_) (fun z1 h=>?_)
 .refine kG Z h (fun h=>?_) (fun h=>?_)
  .exact d _ [(24000,24000)] _ true Lu h
  refine kC Z h (HR Z Y) (fun y4 h=>?_);exact d _ [(24000,24000)] _ (!y4) Lu h
 apply kI Z h<;>intro h
 .cases h;exact kR Z
 refine kC Z h (FZ Z Y) (fun y5 h=>?_);apply kI Z h<;>intro h
 .cases h;exact kR Z
 refine kC Z h (Ec Z Y) (fun y6 h=>?_);apply kI Z h<;>intro h
 .cases h;exact kR Z
 refine Ak Z Lu h (fun x2=>⟨[(55,pN x2),(54,pN (b.n:Int)),(53,.p (vSl 2 B6 b))],[]⟩) (ids:=[]) (fun _ _ _ _ _ f x2 j h=>?_);apply kI Z h<;>intro h
 .obtain⟨c16,h⟩:=H4 h;obtain⟨y9,e9,h⟩:=C4 h;refine D2 Z [] (And.intro c16 Nf) (Ec Z Y e9) ?_;apply kI Z h<;>intro h
  .cases h;exact kR Z
  exact j _ [] _ (wrap .i64 (x2+1)) Lu h
 cases h;exact kR Z
def D5 (N:Nat)(q0:Sl Entry):Option (List (I3×(Sl Oh))):= Q5 N (fun b (x2:Int)=>if (decide (x2<(q0.n:Int))) then if ((0:Int)<=x2/\x2<(q0.n:Int))then Q5 N (fun a (x4:Int)=>if (decide (x4<((q0.g x2.toNat).Forms.n:Int))) then if ((0:Int)<=x4/\x4<((q0.g x2.toNat).Forms.n:Int))then if ((q0.g x2.toNat).Forms.g x4.toNat).Has then X1 ((⟨x2,x4⟩:I3),((q0.g x2.toNat).Forms.g x4.toNat).W) (a (wrap .i64 (x4+1))) else a (wrap .i64 (x4+1)) else none else b (wrap .i64 (x2+1))) 0 else none else some []) 0
theorem U0 {q0:Sl Entry}{L:List (I3×(Sl Oh))}(h:D5 N q0=some L) :Fc S T8 [] [.reg 0 0] [.cells [.p (vSl 2 B6 q0)]] (L.map (fun (x:I3×(Sl Oh))=>[(fun x=>.agg (Al x)) x.1,vSl 2 A0 x.2])):=by
 unfold D5 at h;refine Fh Z func82 ?_;refine Fg Z Lu h (fun x2 L1=>⟨[(9,pN x2),(8,pN (q0.n:Int)),(7,.p (vSl 2 B6 q0)),(0,.yf 1)],[(1,.yld (L1.map (fun (x:I3×(Sl Oh))=>[(fun x=>.agg (Al x)) x.1,vSl 2 A0 x.2])) true),(0,.cells [.p (vSl 2 B6 q0)])]⟩) (ids:=[(0,0),(1,1)]) (fun _ _ _ _ _ f x2 L1 i h=>?_);apply kI Z h<;>intro h
 .obtain⟨c48,h⟩:=H4 h;refine Fg Z (And.intro c48 Nf) h (fun x4 L16=>⟨[(17,pN x4),(16,pN ((q0.g x2.toNat).Forms.n:Int)),(15,.p (vSl 2 B9 (q0.g x2.toNat).Forms)),(9,pN x2),(8,pN (q0.n:Int)),(7,.p (vSl 2 B6 q0)),(3,pN x2),(0,.yf 1)],[(1,.yld (L16.map (fun (x:I3×(Sl Oh))=>[(fun x=>.agg (Al x)) x.1,vSl 2 A0 x.2])) true),(0,.cells [.p (vSl 2 B6 q0)])]⟩) (ids:=[(0,0),(1,1)]) (fun _ _ _ _ _ j x4 L16 d h=>?_);apply kI Z h<;>intro h
  .obtain⟨c64,h⟩:=H4 h;refine Cz Z (And.intro c64 Nf) (b:=((q0.g x2.toNat).Forms.g x4.toNat).Has) (fun c67=>?_) (fun c67=>?_)
   .replace h:=itT c67 h;obtain⟨L22,rfl,c⟩:=MF h;replace h:=c;refine Dd Z Lu (ys:=(fun (x:I3×(Sl Oh))=>[(fun x=>.agg (Al x)) x.1,vSl 2 A0 x.2]) ((⟨x2,x4⟩:I3),((q0.g x2.toNat).Forms.g x4.toNat).W)) (rest:=L22.map (fun (x:I3×(Sl Oh))=>[(fun x=>.agg (Al x)) x.1,vSl 2 A0 x.2])) ?_ ?_
    .refine F4 Z Lu (b:=false) (fun c68=>?_) (fun c68=>?_)
     .exact Bool.noConfusion ((rfl:false=false).symm.trans c68)
     exact d _ [(0,0),(1,1)] _ (wrap .i64 (x4+1)) L22 Lu h
    refine F4 Z Lu (b:=true) (fun c69=>?_) (fun c69=>?_)
    .exact B1 Z Lu (a:=.tup []) (objs:=[(.cells [.p (vSl 2 B6 q0)]),.yld [] false]) ⟨[],[(1,.yld [] false),(0,.cells [.p (vSl 2 B6 q0)])]⟩ [0,1] (ids:=[(0,0),(1,1)]) ⟨false,rfl,rfl,_,rfl⟩
    exact Bool.noConfusion (Ob.symm.trans c69)
   replace h:=itF c67 h;exact d _ [(0,0),(1,1)] _ (wrap .i64 (x4+1)) L16 Lu h
  exact i _ [(0,0),(1,1)] _ (wrap .i64 (x2+1)) L16 Lu h
 obtain rfl:=D4 h;exact B1 Z Lu (a:=.tup []) (objs:=[(.cells [.p (vSl 2 B6 q0)]),.yld [] true]) ⟨[],[(1,.yld [] true),(0,.cells [.p (vSl 2 B6 q0)])]⟩ [0,1] (ids:=[(0,0),(1,1)]) ⟨true,rfl,rfl,_,rfl⟩
def K7 (N:Nat)(a:Sl Entry):Option (Sl Entry):= some a
theorem Ah {a:Sl Entry}{y:Sl Entry}(h:K7 N a=some y) :FunO S EA [.p (vSl 2 B6 a)] [] (.clo T8 [] [.reg 0 0]) ([.cells [.p (vSl 2 B6 y)]]) []:=by unfold K7 at h;refine A5 Z func50 ?_;obtain rfl:=D4 h;exact B1 Z Lu ⟨[(2,.clo T8 [] [.reg 2000 0])],[(2000,.cells [.p (vSl 2 B6 a)])]⟩ [2000] (ids:=[(2000,2000)]) ⟨rfl,rfl,rfl⟩
def Dt (N:Nat)(a:Sl C9):Option Bool:= Q5 N (fun b (x1:Int)=>if (decide (x1<(a.n:Int))) then if ((0:Int)<=x1/\x1<(a.n:Int))then if ((!(a.g x1.toNat).Has)=true->((0:Int)<=x1/\x1<(a.n:Int)))then if ((!(a.g x1.toNat).Has)&&(decide (0<((a.g x1.toNat).W.n:Int)))) then some false else b (wrap .i64 (x1+1)) else none else none else some true) 0
def BR (N:Nat)(a:Sl C9):Option Int:= Q5 N (fun b (x1:Int)=>if (decide (x1<(a.n:Int))) then if ((0:Int)<=x1/\x1<(a.n:Int))then (BL N (a.g x1.toNat).W).bind fun y3=>if (y3 != 0) then some y3 else b (wrap .i64 (x1+1)) else none else some 0) 0
def Im (N:Nat)(i:A3)(a:Sl C9)(b:Sl Entry):Option Int:= (Fv N i).bind fun y1=>if (y1 != 0) then some y1 else if (decide (256<(b.n:Int))) then some 12 else (Bb N i.Tree).bind fun y2=>lt (fun (z1:Bool)=>if z1 then some 2 else Q5 N (fun c (x3:Int)=>if (decide (x3<(b.n:Int))) then if ((0:Int)<=x3/\x3<(b.n:Int))then lt (fun (z4:Bool)=>if z4 then some 2 else c (wrap .i64 (x3+1))) fun k4=>if (((b.g x3.toNat).Forms.n:Int) != (y2.1.n:Int)) then k4 true else if ((0:Int)<=x3/\x3<(b.n:Int))then (Dt N (b.g x3.toNat).Forms).bind fun j=>k4 (!j) else none else none else Q5 N (fun d (x6:Int)=>if (decide (x6<(b.n:Int))) then if ((0:Int)<=x6/\x6<(b.n:Int))then (EG N (b.g x6.toNat).Gloss).bind fun l=>if (!l) then some 15 else d (wrap .i64 (x6+1)) else none else (BR N a).bind fun m=>Q3 N (fun f (x7:Int) (x8:Int)=>if ((decide (x8<(b.n:Int)))&&(x7==0)) then if ((0:Int)<=x8/\x8<(b.n:Int))then (BR N (b.g x8.toNat).Forms).bind fun o=>f o (wrap .i64 (x8+1)) else none else some x7) m 0) 0) 0) fun k1=>if ((a.n:Int) != (b.n:Int)) then k1 true else (Dt N a).bind fun y4=>k1 (!y4)
def Kn (N:Nat)(a:A3)(f:Int)(b:Int):Option (Sl Law):= (Km N a.Tree f).bind fun y1=>Q3 N (fun d (x3:Sl Law) (x4:Int)=>if (decide (x4<(y1.1.n:Int))) then if ((((0:Int)<=x4/\x4<(y1.1.n:Int))/\x4.toNat<y1.1.n)/\((0:Int)<=(y1.1.g x4.toNat)/\(y1.1.g x4.toNat)<(a.On.n:Int)))then Q3 N (fun c (x7:Sl Law) (x8:Int)=>if (decide (x8<((a.On.g (y1.1.g x4.toNat).toNat).n:Int))) then if ((0:Int)<=x8/\x8<((a.On.g (y1.1.g x4.toNat).toNat).n:Int))then if (((a.On.g (y1.1.g x4.toNat).toNat).g x8.toNat) != b) then if (((0:Int)<=x8/\x8<((a.On.g (y1.1.g x4.toNat).toNat).n:Int))/\((0:Int)<=((a.On.g (y1.1.g x4.toNat).toNat).g x8.toNat)/\((a.On.g (y1.1.g x4.toNat).toNat).g x8.toNat)<(a.Laws.n:Int)))then if ((x7.n+(Sl.of [a.Laws.g ((a.On.g (y1.1.g x4.toNat).toNat).g x8.toNat).toNat]:Sl Law).n)*200<=140737488355328/\x7.n+(Sl.of [a.Laws.g ((a.On.g (y1.1.g x4.toNat).toNat).g x8.toNat).toNat]:Sl Law).n<=140737488355328)then c (x7.push (a.Laws.g ((a.On.g (y1.1.g x4.toNat).toNat).g x8.toNat).toNat)) (wrap .i64 (x8+1)) else none else none else c x7 (wrap .i64 (x8+1)) else none else d x7 (wrap .i64 (x4+1))) x3 0 else none else some x3) (Sl.nil:Sl Law) 0
def CM (N:Nat)(d:A3)(b:C9)(a:Int)(c:Int):Option C9:= if (!b.Has) then some (⟨false,Od⟩:C9) else (Bb N d.Tree).bind fun y1=>if (((0:Int)<=a/\a<(y1.1.n:Int))/\a.toNat<y1.1.n)then (Kn N d (y1.1.g a.toNat) c).bind fun y2=>(DN N y2 b.W).bind fun y3=>if (y3.2 != 0) then some (⟨false,Od⟩:C9) else some (⟨true,y3.1⟩:C9) else none
def Fx (N:Nat)(d:A3)(b:C9)(c:Int)(f:C9)(a:Int):Option Bool:= (CM N d b c a).bind fun y1=>lt (fun (z1:Bool)=>some z1) fun k1=>if y1.Has then (Fq N y1.W f.W).bind fun y3=>k1 y3 else k1 false
def Ct (N:Nat)(f:A3)(b:Sl C9)(d:Sl Entry)(a:Int):Option ((Sl A2)×Int):= (Im N f b d).bind fun y1=>if (y1 != 0) then some ((Sl.nil:Sl A2),y1) else if ((decide (a<0))||(decide (1073741824<a))) then some ((Sl.nil:Sl A2),2) else Q3 N (fun i (x3:Sl A2) (x4:Int)=>if (decide (x4<(d.n:Int))) then Q3 N (fun c (x7:Sl A2) (x8:Int)=>if ((0:Int)<=x4/\x4<(d.n:Int))then if (decide (x8<((d.g x4.toNat).Forms.n:Int))) then if (((0:Int)<=x4/\x4<(d.n:Int))/\((0:Int)<=x8/\x8<((d.g x4.toNat).Forms.n:Int)))then if (!((d.g x4.toNat).Forms.g x8.toNat).Has) then c x7 (wrap .i64 (x8+1)) else if ((0:Int)<=x4/\x4<(b.n:Int))then (Fx N f (b.g x4.toNat) x8 ((d.g x4.toNat).Forms.g x8.toNat) (-1)).bind fun j=>if j then c x7 (wrap .i64 (x8+1)) else if ((0:Int)<=x4/\x4<(b.n:Int))then (CM N f (b.g x4.toNat) x8 (-1)).bind fun l=>if (!l.Has) then if ((x7.n+(Sl.of [(⟨x4,x8,2,a⟩:A2)]:Sl A2).n)*32<=140737488355328/\x7.n+(Sl.of [(⟨x4,x8,2,a⟩:A2)]:Sl A2).n<=140737488355328)then c (x7.push (⟨x4,x8,2,a⟩:A2)) (wrap .i64 (x8+1)) else none else if ((x7.n+(Sl.of [(⟨x4,x8,1,a⟩:A2)]:Sl A2).n)*32<=140737488355328/\x7.n+(Sl.of [(⟨x4,x8,1,a⟩:A2)]:Sl A2).n<=140737488355328)then c (x7.push (⟨x4,x8,1,a⟩:A2)) (wrap .i64 (x8+1)) else none else none else none else none else i x7 (wrap .i64 (x4+1)) else none) x3 0 else some (x3,0)) (Sl.nil:Sl A2) 0
def Ed (N:Nat)(a:Sl Entry):Option Int:= Q3 N (fun c (x3:Int) (x4:Int)=>if (decide (x4<(a.n:Int))) then Q3 N (fun b (x7:Int) (x8:Int)=>if ((0:Int)<=x4/\x4<(a.n:Int))then if (decide (x8<((a.g x4.toNat).Forms.n:Int))) then if (((0:Int)<=x4/\x4<(a.n:Int))/\((0:Int)<=x8/\x8<((a.g x4.toNat).Forms.n:Int)))then if ((a.g x4.toNat).Forms.g x8.toNat).Has then b (wrap .i64 (x7+1)) (wrap .i64 (x8+1)) else b x7 (wrap .i64 (x8+1)) else none else c x7 (wrap .i64 (x4+1)) else none) x3 0 else some x3) 0 0
def Ko (N:Nat)(d:A3)(a:Sl C9)(c:Sl Entry):Option (Xf×Int):= (Ct N d a c 0).bind fun y1=>if (y1.2 != 0) then some ((⟨0,0⟩:Xf),y1.2) else (Ed N c).bind fun y2=>if (y2==0) then some ((⟨0,1⟩:Xf),0) else YA N (fun b (x1:Int) (x2:Int) (x3:Int)=>if (decide (1<x3)) then if x3≠0 then if (((x2.tmod x3)==0)=true->x3≠0)then if (((x2.tmod x3)==0)&&((x1.tmod x3)==0)) then if (x3≠0/\x3≠0)then b (wrap .i64 (x1.tdiv x3)) (wrap .i64 (x2.tdiv x3)) (wrap .i64 (x3-1)) else none else b x1 x2 (wrap .i64 (x3-1)) else none else none else some ((⟨x2,x1⟩:Xf),0)) y2 (wrap .i64 (y2-(y1.1.n:Int))) y2
def Cb (N:Nat)(j:A3)(c:Sl C9)(d:Sl Entry)(a:Sl A2):Option (Bool×Int):= (Ct N j c d 0).bind fun y1=>if (y1.2 != 0) then some (false,y1.2) else (Bb N j.Tree).bind fun y2=>Q5 N (fun f (x1:Int)=>if (decide (x1<(a.n:Int))) then if ((0:Int)<=x1/\x1<(a.n:Int))then if ((((decide ((a.g x1.toNat).Entry<0))=false->((0:Int)<=x1/\x1<(a.n:Int)))/\((decide ((a.g x1.toNat).Entry<0))=false->((decide ((d.n:Int)<=(a.g x1.toNat).Entry))=false->((0:Int)<=x1/\x1<(a.n:Int)))))/\((decide ((a.g x1.toNat).Entry<0))=false->((decide ((d.n:Int)<=(a.g x1.toNat).Entry))=false->((decide ((a.g x1.toNat).Leaf<0))=false->((0:Int)<=x1/\x1<(a.n:Int))))))then if ((((decide ((a.g x1.toNat).Entry<0))||(decide ((d.n:Int)<=(a.g x1.toNat).Entry)))||(decide ((a.g x1.toNat).Leaf<0)))||(decide ((y2.1.n:Int)<=(a.g x1.toNat).Leaf))) then some (false,3) else f (wrap .i64 (x1+1)) else none else none else Q5 N (fun i (x4:Int)=>if (decide (x4<(y1.1.n:Int))) then Q3 N (fun b (x7:Bool) (x8:Int)=>if (decide (x8<(a.n:Int))) then if x7 then b true (wrap .i64 (x8+1)) else if ((((0:Int)<=x8/\x8<(a.n:Int))/\((0:Int)<=x4/\x4<(y1.1.n:Int)))/\x4.toNat<y1.1.n)then if ((a.g x8.toNat).Entry==(y1.1.g x4.toNat).Entry) then if ((((0:Int)<=x8/\x8<(a.n:Int))/\((0:Int)<=x4/\x4<(y1.1.n:Int)))/\x4.toNat<y1.1.n)then b ((a.g x8.toNat).Leaf==(y1.1.g x4.toNat).Leaf) (wrap .i64 (x8+1)) else none else b false (wrap .i64 (x8+1)) else none else if (!x7) then some (false,0) else i (wrap .i64 (x4+1))) false 0 else some (true,0)) 0) 0
def Kq (N:Nat)(a:Sl A2)(b:Sl A2):Option Bool:= if ((a.n:Int) != (b.n:Int)) then some false else Q5 N (fun c (x1:Int)=>if (decide (x1<(a.n:Int))) then if (((0:Int)<=x1/\x1<(a.n:Int))/\((0:Int)<=x1/\x1<(b.n:Int)))then if ((((a.g x1.toNat).Entry==(b.g x1.toNat).Entry)&&(((a.g x1.toNat).Leaf==(b.g x1.toNat).Leaf)&&(((a.g x1.toNat).Kind==(b.g x1.toNat).Kind)&&((a.g x1.toNat).Cost==(b.g x1.toNat).Cost)))) != true) then some false else c (wrap .i64 (x1+1)) else none else some true) 0
theorem YR {a:Sl A2}{b:Sl A2}{y:Bool}(h:Kq N a b=some y) :FunO S Pt [.p (vSl 4 B7 a),.p (vSl 4 B7 b)] [] (pB y) ([]) []:=by
 unfold Kq at h;refine A5 Z func23 ?_;apply kI Z h<;>intro h
 .cases h;exact kR Z
 refine Ak Z Lu h (fun x1=>⟨[(5,pN x1),(1,.p (vSl 4 B7 b)),(0,.p (vSl 4 B7 a))],[]⟩) (ids:=[]) (fun _ _ _ _ _ c x1 d h=>?_);apply kI Z h<;>intro h
 .refine L7 Z Lu [2,3,6,7] ?_;obtain⟨c9,h⟩:=H4 h;refine P3 (And.intro (And.intro (And.intro (And.intro c9.1 Nh) c9.2) Nh) (by decide +kernel:XW Tryz.prog E2=true)) ?_;apply kI Z h<;>intro h
  .cases h;exact kR Z
  exact d _ [] _ (wrap .i64 (x1+1)) Lu h
 cases h;exact kR Z
def Fy (N:Nat)(p_x:Sl Int)(a:Sl Int):Option Bool:= if ((p_x.n:Int) != (a.n:Int)) then some false else Q5 N (fun b (x1:Int)=>if (decide (x1<(p_x.n:Int))) then if (((0:Int)<=x1/\x1<(p_x.n:Int))/\((0:Int)<=x1/\x1<(a.n:Int)))then if ((p_x.g x1.toNat) != (a.g x1.toNat)) then some false else b (wrap .i64 (x1+1)) else none else some true) 0
theorem Rk {p_x:Sl Int}{a:Sl Int}{y:Bool}(h:Fy N p_x a=some y) :FunO S IZ [.p (vSl 1 (cI .i64) p_x),.p (vSl 1 (cI .i64) a)] [] (pB y) ([]) []:=by
 unfold Fy at h;refine A5 Z func26 ?_;apply kI Z h<;>intro h
 .cases h;exact kR Z
 refine Ak Z Lu h (fun x1=>⟨[(5,pN x1),(1,.p (vSl 1 (cI .i64) a)),(0,.p (vSl 1 (cI .i64) p_x))],[]⟩) (ids:=[]) (fun _ _ _ _ _ b x1 c h=>?_);apply kI Z h<;>intro h
 .refine L7 Z Lu [2,3,6,7] ?_;obtain⟨c9,h⟩:=H4 h;refine P3 c9 ?_;apply kI Z h<;>intro h
  .cases h;exact kR Z
  exact c _ [] _ (wrap .i64 (x1+1)) Lu h
 cases h;exact kR Z
def Du (N:Nat)(a:A3):Option Bool:= if ((decide (63<(a.Tree.n:Int)))||(decide (64<(a.Laws.n:Int)))) then some (((decide ((a.Tree.n:Int)<=200))&&(decide ((a.Laws.n:Int)<=200)))&&(decide ((a.On.n:Int)<=200))) else Q3 N (fun b (x1:Int) (x2:Int)=>if ((decide (x2<(a.Laws.n:Int)))&&(decide (x2<=6))) then if ((0:Int)<=x2/\x2<(a.Laws.n:Int))then (CP N (a.Laws.g x2.toNat).Left).bind fun y5=>if ((0:Int)<=x2/\x2<(a.Laws.n:Int))then (CP N (a.Laws.g x2.toNat).Right).bind fun y6=>b (wrap .i64 ((wrap .i64 (x1+y5))+y6)) (wrap .i64 (x2+1)) else none else none else Q3 N (fun c (x3:Int) (x4:Int)=>if ((decide (x4<(a.On.n:Int)))&&(decide (x4<=200))) then if ((0:Int)<=x4/\x4<(a.On.n:Int))then c (wrap .i64 (x3+((a.On.g x4.toNat).n:Int))) (wrap .i64 (x4+1)) else none else some (((((decide ((a.Laws.n:Int)<=6))&&(decide (x1<=60)))&&(decide ((a.On.n:Int)<=200)))&&(decide (x3<=12)))&&(decide ((a.Tree.n:Int)<=8)))) 0 0) 0 0
theorem VF {b:A3}{y:Bool}(h:Du N b=some y) :FunO S MK [.p (.agg (A7 b))] [] (pB y) ([]) []:=by
 unfold Du at h;refine A5 Z func14 ?_;refine N0 Z Lu 2 2000 (A7 b) ?_;refine kB Z (B3 Z) Lu Lu 5 (.o (.a (decide (63<(b.Tree.n:Int)))) (.a (decide (64<(b.Laws.n:Int))))) ?_;apply kI Z h<;>intro h
 .refine kB Z (B3 Z) Lu Lu 11 (.n (.n (.a (decide ((b.Tree.n:Int)<=200))) (.a (decide ((b.Laws.n:Int)<=200)))) (.a (decide ((b.On.n:Int)<=200)))) ?_;cases h;exact kR Z
 refine R4 Z Lu h (fun x1 x2=>⟨[(5,pN x2),(4,pN 0),(3,pN x1),(1,.p (.ptr (A7 b)))],[]⟩) (ids:=[]) (fun _ _ _ _ _ c x1 x2 d h=>?_);refine kB Z (B3 Z) Lu Lu 3 (.n (.a (decide (x2<(b.Laws.n:Int)))) (.a (decide (x2<=6)))) ?_;apply kI Z h<;>intro h
 .refine L7 Z Lu [2,4,6,7,10,12,14,15] ?_;obtain⟨c9,h⟩:=H4 h;obtain⟨y5,e5,h⟩:=C4 h;refine O0 (And.intro c9 (by decide:(7:Nat)<=17)) (PA Z Y e5) ?_;obtain⟨c10,h⟩:=H4 h;obtain⟨y6,e6,h⟩:=C4 h;refine O0 (And.intro c10 (by decide:(7:Nat)<=10)) (PA Z Y e6) ?_;refine P3 Lu ?_;exact d _ [] _ (wrap .i64 ((wrap .i64 (x1+y5))+y6)) (wrap .i64 (x2+1)) Lu h
 refine R4 Z Lu h (fun x3 x4=>⟨[(6,pN x4),(4,pN x3),(3,pN x1),(1,.p (.ptr (A7 b)))],[]⟩) (ids:=[]) (fun _ _ _ _ _ f x3 x4 i h=>?_);refine kB Z (B3 Z) Lu Lu 3 (.n (.a (decide (x4<(b.On.n:Int)))) (.a (decide (x4<=200)))) ?_;apply kI Z h<;>intro h
 .obtain⟨c14,h⟩:=H4 h;exact i _ [] _ (wrap .i64 (x3+((b.On.g x4.toNat).n:Int))) (wrap .i64 (x4+1)) c14 h
 refine kB Z (B3 Z) Lu Lu 19 (.n (.n (.n (.n (.a (decide ((b.Laws.n:Int)<=6))) (.a (decide (x1<=60)))) (.a (decide ((b.On.n:Int)<=200)))) (.a (decide (x3<=12)))) (.a (decide ((b.Tree.n:Int)<=8)))) ?_;cases h;exact kR Z
def Nz (N:Nat)  : Option Oh:= some (⟨2,5⟩:Oh)
theorem VG    {y:Oh}(h:Nz N  = some y) :FunO S Ac7 [] [] (.p (.agg (A0 y))) ([]) []:=by unfold Nz at h;refine A5 Z func41 ?_;cases h;exact kR Z
def Rl (N:Nat)  : Option Oh:= some (⟨3,4⟩:Oh)
theorem Ae0    {y:Oh}(h:Rl N  = some y) :FunO S Ac8 [] [] (.p (.agg (A0 y))) ([]) []:=by unfold Rl at h;refine A5 Z func42 ?_;cases h;exact kR Z
def Fz (N:Nat)  : Option Oh:= some (⟨5,2⟩:Oh)
theorem Io    {y:Oh}(h:Fz N  = some y) :FunO S Ac6 [] [] (.p (.agg (A0 y))) ([]) []:=by unfold Fz at h;refine A5 Z func40 ?_;cases h;exact kR Z
def VH (N:Nat)  : Option Law:= some (⟨[86],Pat.mk 1 (⟨4,0⟩:Oh) false 0 0 (Sl.nil:Sl Pat).n (Sl.nil:Sl Pat).g,Pat.mk 1 (⟨4,0⟩:Oh) false 0 0 (Sl.nil:Sl Pat).n (Sl.nil:Sl Pat).g,(Sl.of [(⟨2,0⟩:Oh)]:Sl Oh),(Sl.of [(⟨0,0,(⟨1,0⟩:Oh),0,0⟩:EV)]:Sl EV),1⟩:Law)
theorem AJ6    {y:Law}(h:VH N  = some y) :FunO S Ac9 [] [] (.p (.agg (B5 y))) ([]) []:=by unfold VH at h;refine A5 Z func67 ?_;obtain rfl:=D4 h;exact B1 Z (And.intro Ob Ob) ⟨[(0,.reg 1000 0)],[(1000,.cells [.p (.str [86]),pN 1,pU 4,pU 0,pB false,pN 0,pN 0,.p (.sl false 7 (Sl.nil:Sl Pat).n (De (Pat.mk 1 (⟨4,0⟩:Oh) false 0 0 (Sl.nil:Sl Pat).n (Sl.nil:Sl Pat).g))),pN 1,pU 4,pU 0,pB false,pN 0,pN 0,.p (.sl false 7 (Sl.nil:Sl Pat).n (De (Pat.mk 1 (⟨4,0⟩:Oh) false 0 0 (Sl.nil:Sl Pat).n (Sl.nil:Sl Pat).g))),.p (vSl 2 A0 (Sl.of [(⟨2,0⟩:Oh)]:Sl Oh)),.p (vSl 6 U6 (Sl.of [(⟨0,0,(⟨1,0⟩:Oh),0,0⟩:EV)]:Sl EV)),pN 1])]⟩ [] (ids:=[(1000,1000)]) ⟨rfl,rfl,rfl⟩ (hle:=klR [(15,.fn 1 (Sl.of [(⟨2,0⟩:Oh)]:Sl Oh).n (E5 [pI .u32 0,pI .u32 0] [(0,A0 (⟨2,0⟩:Oh))]) (fun i=>A0 ((Sl.of [(⟨2,0⟩:Oh)]:Sl Oh).g i))),(16,.fn 1 (Sl.of [(⟨0,0,(⟨1,0⟩:Oh),0,0⟩:EV)]:Sl EV).n (E5 [pI .i64 0,pI .u32 0,pI .u32 0,pI .u32 0,pI .u32 0,pI .i64 0] [(0,U6 (⟨0,0,(⟨1,0⟩:Oh),0,0⟩:EV))]) (fun i=>U6 ((Sl.of [(⟨0,0,(⟨1,0⟩:Oh),0,0⟩:EV)]:Sl EV).g i)))] (al1 ⟨rfl,(fun i a=>match i,a with|0,_=>rfl|_+1,a=>Lq a (by omega))⟩ (al1 ⟨rfl,(fun i a=>match i,a with|0,_=>rfl|_+1,a=>Lq a (by omega))⟩ al0)))
def VJ (N:Nat)  : Option Law:= some (⟨[70],Pat.mk 0 (⟨0,0⟩:Oh) false 0 0 (Sl.nil:Sl Pat).n (Sl.nil:Sl Pat).g,Pat.mk 6 (⟨0,0⟩:Oh) false 0 0 (Sl.nil:Sl Pat).n (Sl.nil:Sl Pat).g,(Sl.of [(⟨4,0⟩:Oh)]:Sl Oh),(Sl.nil:Sl EV),1⟩:Law)
theorem AJ7    {y:Law}(h:VJ N  = some y) :FunO S Ad0 [] [] (.p (.agg (B5 y))) ([]) []:=by unfold VJ at h;refine A5 Z func68 ?_;obtain rfl:=D4 h;exact B1 Z Ob ⟨[(0,.reg 1000 0)],[(1000,.cells [.p (.str [70]),pN 0,pU 0,pU 0,pB false,pN 0,pN 0,.p (.sl false 7 (Sl.nil:Sl Pat).n (De (Pat.mk 0 (⟨0,0⟩:Oh) false 0 0 (Sl.nil:Sl Pat).n (Sl.nil:Sl Pat).g))),pN 6,pU 0,pU 0,pB false,pN 0,pN 0,.p (.sl false 7 (Sl.nil:Sl Pat).n (De (Pat.mk 6 (⟨0,0⟩:Oh) false 0 0 (Sl.nil:Sl Pat).n (Sl.nil:Sl Pat).g))),.p (vSl 2 A0 (Sl.of [(⟨4,0⟩:Oh)]:Sl Oh)),.p (vSl 6 U6 (Sl.nil:Sl EV)),pN 1])]⟩ [] (ids:=[(1000,1000)]) ⟨rfl,rfl,rfl⟩ (hle:=klR [(15,.fn 1 (Sl.of [(⟨4,0⟩:Oh)]:Sl Oh).n (E5 [pI .u32 0,pI .u32 0] [(0,A0 (⟨4,0⟩:Oh))]) (fun i=>A0 ((Sl.of [(⟨4,0⟩:Oh)]:Sl Oh).g i)))] (al1 ⟨rfl,(fun i a=>match i,a with|0,_=>rfl|_+1,a=>Lq a (by omega))⟩ al0))
def FA (N:Nat)  : Option A3:= (VH N ).bind fun y1=>(VJ N ).bind fun y2=>some (⟨(Sl.of [(⟨-1,[114]⟩:I9),(⟨0,[109]⟩:I9),(⟨1,[107]⟩:I9),(⟨0,[110]⟩:I9)]:Sl I9),(Sl.of [y1,y2]:Sl Law),(Sl.of [Oc,(Sl.of [0]:Sl Int),(Sl.of [1]:Sl Int),Oc]:Sl (Sl Int))⟩:A3)
theorem Rm    {y:A3}(h:FA N  = some y) :FunO S Jc [] [] (.p (.agg (A7 y))) ([]) []:=by unfold FA at h;refine A5 Z func38 ?_;obtain⟨y1,e1,h⟩:=C4 h;refine D2 Z [] Ob (AJ6 Z Y e1) ?_;refine kC Z h (AJ7 Z Y) (fun y2 h=>?_);refine AS Z (And.intro (And.intro Ob Ob) Ob) 13 ⟨[(12,.vec 13000),(11,.vec 12000),(10,.vec 11000),(7,.vec 7000),(0,.reg 1000 0)],[(13000,.vec F2 1 (Sl.of [1]:Sl Int).n (fun i=>cI .i64 ((Sl.of [1]:Sl Int).g i)) true),(12000,.vec F2 1 (Sl.of [0]:Sl Int).n (fun i=>cI .i64 ((Sl.of [0]:Sl Int).g i)) true),(11000,.vec P9 18 (Sl.of [y1,y2]:Sl Law).n (fun i=>B5 ((Sl.of [y1,y2]:Sl Law).g i)) false),(7000,.vec Kf 2 (Sl.of [(⟨-1,[114]⟩:I9),(⟨0,[109]⟩:I9),(⟨1,[107]⟩:I9),(⟨0,[110]⟩:I9)]:Sl I9).n (fun i=>G2 ((Sl.of [(⟨-1,[114]⟩:I9),(⟨0,[109]⟩:I9),(⟨1,[107]⟩:I9),(⟨0,[110]⟩:I9)]:Sl I9).g i)) false),(1000,.cells [.p M9,.p M9,.p M9])]⟩ (ids:=[(1000,1000),(7000,7000),(11000,11000),(12000,12000),(13000,13000)]) ?_ (hle:=klR [(0,.fn 1 (Sl.of [1]:Sl Int).n (E5 [pI .i64 0] [(0,cI .i64 1)]) (fun i=>cI .i64 ((Sl.of [1]:Sl Int).g i))),(1,.fn 1 (Sl.of [0]:Sl Int).n (E5 [pI .i64 0] [(0,cI .i64 0)]) (fun i=>cI .i64 ((Sl.of [0]:Sl Int).g i))),(2,.fn 2 (Sl.of [y1,y2]:Sl Law).n (E5 [.str [],pI .i64 0,pI .u32 0,pI .u32 0,.v (.bool false),pI .i64 0,pI .i64 0,M9,pI .i64 0,pI .u32 0,pI .u32 0,.v (.bool false),pI .i64 0,pI .i64 0,M9,M9,M9,pI .i64 0] [(0,B5 y1),(1,B5 y2)]) (fun i=>B5 ((Sl.of [y1,y2]:Sl Law).g i))),(3,.fn 4 (Sl.of [(⟨-1,[114]⟩:I9),(⟨0,[109]⟩:I9),(⟨1,[107]⟩:I9),(⟨0,[110]⟩:I9)]:Sl I9).n (E5 [pI .i64 0,.str []] [(0,G2 (⟨-1,[114]⟩:I9)),(1,G2 (⟨0,[109]⟩:I9)),(2,G2 (⟨1,[107]⟩:I9)),(3,G2 (⟨0,[110]⟩:I9))]) (fun i=>G2 ((Sl.of [(⟨-1,[114]⟩:I9),(⟨0,[109]⟩:I9),(⟨1,[107]⟩:I9),(⟨0,[110]⟩:I9)]:Sl I9).g i)))] (al1 ⟨rfl,(fun i a=>match i,a with|0,_=>rfl|_+1,a=>Lq a (by omega))⟩ (al1 ⟨rfl,(fun i a=>match i,a with|0,_=>rfl|_+1,a=>Lq a (by omega))⟩ (al1 ⟨rfl,(fun i a=>match i,a with|0,_=>rfl|1,_=>rfl|_+2,a=>Lq a (by omega))⟩ (al1 ⟨rfl,(fun i a=>match i,a with|0,_=>rfl|1,_=>rfl|2,_=>rfl|3,_=>rfl|_+4,a=>Lq a (by omega))⟩ al0)))));refine Ac2 Z Ob 14 14000 (k:=1) (n:=4) (e:=QZ) (vw:=false) (E5 [M9] [(0,[M9]),(1,cL 1 (cI .i64) (Sl.of [0]:Sl Int)),(2,cL 1 (cI .i64) (Sl.of [1]:Sl Int)),(3,[M9])]) (fun i=>cL 1 (cI .i64) ((Sl.of [Oc,(Sl.of [0]:Sl Int),(Sl.of [1]:Sl Int),Oc]:Sl (Sl Int)).g i)) (fun i a=>match i,a with|0,_=>leCn|1,_=>leCr _|2,_=>leCr _|3,_=>leCn|_+4,a=>Lq a (by omega)) ?_;obtain rfl:=D4 h;exact B1 Z Lu ⟨[(0,.reg 1000 0)],[(1000,.cells [.p (vSl 2 G2 (Sl.of [(⟨-1,[114]⟩:I9),(⟨0,[109]⟩:I9),(⟨1,[107]⟩:I9),(⟨0,[110]⟩:I9)]:Sl I9)),.p (vSl 18 B5 (Sl.of [y1,y2]:Sl Law)),.p (vSl 1 (cL 1 (cI .i64)) (Sl.of [Oc,(Sl.of [0]:Sl Int),(Sl.of [1]:Sl Int),Oc]:Sl (Sl Int)))])]⟩ [] (ids:=[(1000,1000)]) ⟨rfl,rfl,rfl⟩
def EI (N:Nat)(a:Sl Oh):Option C9:= some (⟨true,a⟩:C9)
theorem Kr {a:Sl Oh}{y:C9}(h:EI N a=some y) :FunO S Pu [.p (vSl 2 A0 a)] [] (.p (.agg (B9 y))) ([]) []:=by unfold EI at h;refine A5 Z func39 ?_;cases h;exact kR Z
def FB (N:Nat)(a:Sl C9):Option Entry:= some (⟨[103],a⟩:Entry)
theorem NA {a:Sl C9}{y:Entry}(h:FB N a=some y) :FunO S MM [.p (vSl 2 B9 a)] [] (.p (.agg (B6 y))) ([]) []:=by unfold FB at h;refine A5 Z func43 ?_;cases h;exact kR Z
end Go.AM
namespace Go.AM
open IntKind (wrap)
open Go.Proofs
set_option maxRecDepth 10000
set_option maxHeartbeats 2000000
variable {S:Aj}(Z:H1 S Tryz.prog) (Y:Nk S)
abbrev Gf (es:List (Str×C9)):Obj:=.map (IU PV.str (fun x=>.agg (B9 x)) es)
abbrev AJ8 (M:Sl (List (Str×C9))):List Obj:=[.cells [.vec 1],.fam A8 M.n 2 none,.rows M.n fun i=>Gf (M.g i)]
theorem AV7 {i n:Nat}{g:Nat->Obj}:∀q,q<n->(fun q=>if q=i then g i else if q=i then Obj.dead else g q) q=(fun q=>g q) q:=fun q _=>by
 show (if q=i then g i else if q=i then Obj.dead else g q)=g q;by_cases h:q=i
 .subst h;rw[Kc rfl]
 rw[Ke h,Ke h]
theorem AV8 {i n:Nat}{M:Sl (List (Str×C9))}{x:List (Str×C9)}:∀q,q<n->(fun q=>if q=i then Gf x else if q=i then Obj.dead else Gf (M.g q)) q=(fun q=>Gf ((M.upd i x).g q)) q:=fun q _=>by
 show (if q=i then Gf x else if q=i then Obj.dead else Gf (M.g q))=Gf (if q=i then x else M.g q);by_cases h:q=i
 .rw[Kc h,Kc h]
 rw[Ke h,Ke h,Ke h]
abbrev knO (K i:Nat):Obj:=if i<K then Gf []else .ghost [.p (.v (.map none))]
theorem obKn {K x n:Nat}(hx:x=K):∀q,q<n->(fun q=>if q=x then Obj.map []else if q=x then Obj.dead else knO K q) q=(fun i=>knO (K+1) i) q:=fun q _=>by
 show (if q=x then Gf []else if q=x then Obj.dead else if q<K then Gf []else .ghost [.p (.v (.map none))])=if q<K+1 then Gf []else .ghost [.p (.v (.map none))]
 by_cases e:q=x
 .rw[Kc e,Kc (by omega)]
 rw[Ke e,Ke e];by_cases e2:q<K
 .rw[Kc e2,Kc (by omega)]
 rw[Ke e2,Ke (by omega)]
include Z Y
def F0 (N:Nat)(p:C9)(leaf:Int)(M:Sl (List (Str×C9)))(X:Sl (Sl Law)):Option (Sl Oh×Bool×Sl (List (Str×C9))):= if (!p.Has) then some (Od,false,M) else if leaf.toNat<M.n then if ((0:Int)<=leaf/\leaf<(M.n:Int))then (Cs N p.W).bind fun k=>Az3 (W7 eqS k (M.g leaf.toNat)) (if ((0:Int)<=leaf/\leaf<(X.n:Int))then (G8 N (X.g leaf.toNat) p.W).bind fun w=>some (w.1,w.2==0,M.upd leaf.toNat (Hq eqS k (⟨w.2==0,w.1⟩:C9) (M.g leaf.toNat))) else none) fun v=>some (v.W,v.Has,M) else none else none
theorem X0 {N:Nat}{p:C9}{leaf:Int}{X:Sl (Sl Law)}{M:Sl (List (Str×C9))}{y:Sl Oh×Bool×Sl (List (Str×C9))}(h:F0 N p leaf M X=some y) :FunO S C0 [.p (.agg (B9 p)),pN leaf,.reg 0 0,.p (.ptr [vSl 1 (cL 18 B5) X])] (AJ8 M) (.tup [.p (vSl 2 A0 y.1),pB y.2.1]) (AJ8 y.2.2) [true,true,false]:=by
 unfold F0 at h;refine A5 Z Tryz.func80 ?_;refine N0 Z Lu 12 5000 (B9 p) ?_;apply kI Z h<;>intro h
 .obtain rfl:=D4 h;exact B1 Z Lu ⟨[(7,pB false),(6,.p (vSl 2 A0 Od))],[(9902,.rows M.n fun i=>Gf (M.g i)),(1,.fam A8 M.n 9902 none),(0,.cells [.vec 1])]⟩ [0,1,9902] (ids:=[(0,0),(1,1),(9902,2)]) ⟨rfl,rfl,rfl⟩
 obtain⟨c1,h⟩:=H4 h;obtain⟨c2,h⟩:=H4 h;refine Xd Z Lu (.take 1 leaf.toNat 9801) (⟨⟨by decide,rfl⟩,c1⟩:(1000<=9801/\M.n=M.n)/\leaf.toNat<M.n) ?_;obtain⟨k,e1,h⟩:=C4 h;refine S4 Z Lu [(0,.l [0]),(2,.l [1]),(3,.l [1]),(5,.n),(6,.n),(7,.l [9801]),(11,.a [9000]),(12,.a [9000])] ?_;refine O0 (And.intro c2 (And.intro c1 (rfl:leaf.toNat=leaf.toNat))) (Li Z Y e1) ?_;rcases o1:W7 eqS k (M.g leaf.toNat)with _|v1
 .replace h:=AY6 o1 h;refine WY Lu (kt:=BZ) (e:=Q7) (key:=PV.str k) (es:=IU PV.str (fun x=>.agg (B9 x)) (M.g leaf.toNat)) (x:=.agg [.v (.bool false),M9]) (b:=false) (fd:=none) ((Bl (kP:=PV.str) (vP:=fun x=>.agg (B9 x)) (eq:=eqS) (fun _ _=>by kernel_rfl) k (M.g leaf.toNat)).trans (by rw[o1];rfl)) Lu ?_;refine P3 Lu ?_;refine F4 Z Lu (b:=true) (fun c=>?_) (fun c=>Bool.noConfusion (Ob.symm.trans c));obtain⟨c3,h⟩:=H4 h;obtain⟨w,e2,h⟩:=C4 h;refine L7 Z Lu [0,2,3,5,6] ?_;refine O0 c3 (GE Z Y e2) ?_;refine P3 Lu ?_;refine S4 Z Lu [(0,.l [0]),(2,.l [1]),(3,.l [1]),(5,.n),(6,.n),(7,.l [9000])] ?_;refine O0 (And.intro c2 (And.intro c1 (rfl:leaf.toNat=leaf.toNat))) (Li Z Y e1) ?_;refine Ar3 Lu (kt:=BZ) (key:=PV.str k) (y:=(fun x=>.agg (B9 x)) (⟨w.2==0,w.1⟩:C9)) (es:=IU PV.str (fun x=>.agg (B9 x)) (M.g leaf.toNat)) (GX (kP:=PV.str) (vP:=fun x=>.agg (B9 x)) (eq:=eqS) (fun _ _=>by kernel_rfl) k (⟨w.2==0,w.1⟩:C9) (M.g leaf.toNat)) Lu ?_;refine P3 Lu ?_;obtain rfl:=D4 h;refine Xd Z Lu (.put 1 9902) (⟨⟨by decide,rfl⟩,c1⟩:(1000<=9902/\M.n=M.n)/\leaf.toNat<M.n) ?_;refine DT Z Lu ?_;refine P3 Lu ?_;exact B1 Z Lu ⟨[(7,pB (w.2==0)),(6,.p (vSl 2 A0 w.1))],[(9902,.rows M.n fun i=>Gf ((M.upd leaf.toNat (Hq eqS k (⟨w.2==0,w.1⟩:C9) (M.g leaf.toNat))).g i)),(1,.fam A8 M.n 9902 none),(0,.cells [.vec 1])]⟩ [0,1,9902] (ids:=[(0,0),(1,1),(9902,9902)]) ⟨rfl,rfl,rfl⟩ (hle:=klR [(3,.ob M.n (fun q=>if q=leaf.toNat then Gf (Hq eqS k (⟨w.2==0,w.1⟩:C9) (M.g leaf.toNat))else if q=leaf.toNat then .dead else Gf (M.g q)) fun i=>Gf ((M.upd leaf.toNat (Hq eqS k (⟨w.2==0,w.1⟩:C9) (M.g leaf.toNat))).g i))] (al1 AV8 al0))
 replace h:=AY7 o1 h;refine WY Lu (kt:=BZ) (e:=Q7) (key:=PV.str k) (es:=IU PV.str (fun x=>.agg (B9 x)) (M.g leaf.toNat)) (x:=.agg (B9 v1)) (b:=true) (fd:=some (.agg (B9 v1))) ((Bl (kP:=PV.str) (vP:=fun x=>.agg (B9 x)) (eq:=eqS) (fun _ _=>by kernel_rfl) k (M.g leaf.toNat)).trans (by rw[o1];rfl)) Lu ?_;refine P3 Lu ?_;obtain rfl:=D4 h;refine F4 Z Lu (b:=false) (fun c=>Bool.noConfusion ((rfl:false=false).symm.trans c)) (fun c=>?_);refine Xd Z Lu (.put 1 9902) (⟨⟨by decide,rfl⟩,c1⟩:(1000<=9902/\M.n=M.n)/\leaf.toNat<M.n) ?_;refine DT Z Lu ?_;refine P3 Lu ?_;exact B1 Z Lu ⟨[(7,pB v1.Has),(6,.p (vSl 2 A0 v1.W))],[(9902,.rows M.n fun i=>Gf (M.g i)),(1,.fam A8 M.n 9902 none),(0,.cells [.vec 1])]⟩ [0,1,9902] (ids:=[(0,0),(1,1),(9902,9902)]) ⟨rfl,rfl,rfl⟩ (hle:=klR [(3,.ob M.n (fun q=>if q=leaf.toNat then Gf (M.g leaf.toNat)else if q=leaf.toNat then .dead else Gf (M.g q)) fun i=>Gf (M.g i))] (al1 (AV7 (g:=fun i=>Gf (M.g i))) al0))
def I5 (N:Nat)(a:A3)(b:Int):Option (Sl (Sl Law)):= (M0 N a.Tree).bind fun l=>if ((0:Int)<=(l.1.n:Int)/\(l.1.n:Int)<=(l.1.n:Int)/\(l.1.n:Int)*24<=140737488355328/\(l.1.n:Int)<=140737488355328)then if ((0:Int)<=(l.1.n:Int)/\(l.1.n:Int)<=(l.1.n:Int)/\(l.1.n:Int)*8<=140737488355328/\(l.1.n:Int)<=140737488355328)then YA N (fun f (K:Nat) (X:Sl (Sl Law)) (x:Int)=>if (decide (x<(l.1.n:Int))) then if (((0:Int)<=x/\x<(l.1.n:Int))/\x.toNat<l.1.n)then (Ds N a.Tree (l.1.g x.toNat)).bind fun w=>Q3 N (fun d (X:Sl (Sl Law)) (y:Int)=>if (decide (y<(w.1.n:Int))) then if ((((0:Int)<=y/\y<(w.1.n:Int))/\y.toNat<w.1.n)/\((0:Int)<=(w.1.g y.toNat)/\(w.1.g y.toNat)<(a.On.n:Int)))then Q3 N (fun c (X:Sl (Sl Law)) (z:Int)=>if (decide (z<((a.On.g (w.1.g y.toNat).toNat).n:Int))) then if ((0:Int)<=z/\z<((a.On.g (w.1.g y.toNat).toNat).n:Int))then if (((a.On.g (w.1.g y.toNat).toNat).g z.toNat) != b) then if x.toNat<X.n then if (((0:Int)<=x/\x<(X.n:Int))/\((0:Int)<=((a.On.g (w.1.g y.toNat).toNat).g z.toNat)/\((a.On.g (w.1.g y.toNat).toNat).g z.toNat)<(a.Laws.n:Int)))then if (((X.g x.toNat).n+1)*200<=140737488355328/\(X.g x.toNat).n+1<=140737488355328)then c (X.upd x.toNat ((X.g x.toNat).push (a.Laws.g ((a.On.g (w.1.g y.toNat).toNat).g z.toNat).toNat))) (wrap .i64 (z+1)) else none else none else none else c X (wrap .i64 (z+1)) else none else d X (wrap .i64 (y+1))) X 0 else none else if x.toNat=K/\K<l.1.n then f (K+1) X (wrap .i64 (x+1))else none) X 0 else none else if K=l.1.n/\X.n=l.1.n then some X else none) 0 ⟨l.1.n,fun _=>Sl.nil⟩ 0 else none else none
theorem AP {N:Nat}{f:A3}{d:Int}{y:Sl (Sl Law)}(h:I5 N f d=some y) :FunO S FP [.p (.agg (A7 f)),pN d] [] (.clo C0 [] [.reg 0 0,.p (.ptr [vSl 1 (cL 18 B5) y])]) (AJ8 ⟨y.n,fun _=>[]⟩) []:=by
 unfold I5 at h;refine A5 Z Tryz.func49 ?_;refine N0 Z Lu 18 3000 (A7 f) ?_;obtain⟨l,e1,h⟩:=C4 h;refine D2 Z [] Lu (Bx Z Y e1) ?_;obtain⟨c1,h⟩:=H4 h;refine HB Z c1 26 (.fam 26000 9901 fun i=>LC P9 18 B5 ((⟨l.1.n,fun _=>Sl.nil⟩:Sl (Sl Law)).g i)) (⟨by decide,fun i _=>rfl⟩:1000<=9901/\∀i,i<l.1.n->RX [M9] (LC P9 18 B5 ((⟨l.1.n,fun _=>Sl.nil⟩:Sl (Sl Law)).g i))) ?_;obtain⟨c2,h⟩:=H4 h;refine HB Z c2 29 (.fam 29000 9951 fun i=>knO 0 i) (⟨by decide,fun i _=>⟨rfl,rfl⟩⟩:1000<=9951/\∀i,i<l.1.n->RX [.v (.map none)] (knO 0 i)) ?_;refine Po Z Lu h (fun K X x=>⟨[(31,pN x),(30,pN (l.1.n:Int)),(29,.vec 21000),(8,.reg 9000 0),(7,.reg 8000 0),(2,.p (.ptr (A7 f))),(1,pN d)],
  [(29000,.fam A8 l.1.n 9951 none),(26000,.fam DI X.n 9901 none),(21000,.vec F2 1 l.1.n (fun i=>cI .i64 (l.1.g i)) true),(9951,.rows l.1.n fun i=>knO K i),(9901,.rows X.n fun i=>LC P9 18 B5 (X.g i)),(9000,.cells [.vec 29000]),(8000,.cells [.vec 26000])]⟩) (ids:=[(29000,29000),(26000,26000),(21000,21000),(9951,9951),(9901,9901),(9000,9000),(8000,8000)]) (fun _ _ _ _ _ t K X x m h=>?_)
 apply kI Z h<;>intro h
 .obtain⟨c3,h⟩:=H4 h;obtain⟨w,e2,h⟩:=C4 h;refine D2 Z [] c3 (VE Z Y e2) ?_;refine R4 Z Lu h (fun X u=>⟨[(45,pN u),(44,pN (w.1.n:Int)),(43,.vec 41000),(31,pN x),(30,pN (l.1.n:Int)),(29,.vec 21000),(9,pN x),(8,.reg 9000 0),(7,.reg 8000 0),(2,.p (.ptr (A7 f))),(1,pN d)],[(41000,.vec F2 1 w.1.n (fun i=>cI .i64 (w.1.g i)) true),(29000,.fam A8 l.1.n 9951 none),(26000,.fam DI X.n 9901 none),(21000,.vec F2 1 l.1.n (fun i=>cI .i64 (l.1.g i)) true),(9951,.rows l.1.n fun i=>knO K i),(9901,.rows X.n fun i=>LC P9 18 B5 (X.g i)),(9000,.cells [.vec 29000]),(8000,.cells [.vec 26000])]⟩) (ids:=[(41000,41000),(29000,29000),(26000,26000),(21000,21000),(9951,9951),(9901,9901),(9000,9000),(8000,8000)]) (fun _ _ _ _ _ o X u r h=>?_);apply kI Z h<;>intro h
  .obtain⟨c4,h⟩:=H4 h;refine R4 Z c4 h (fun X z=>⟨[(55,pN z),(54,pN ((f.On.g (w.1.g u.toNat).toNat).n:Int)),(53,.p (vSl 1 (cI .i64) (f.On.g (w.1.g u.toNat).toNat))),(45,pN u),(44,pN (w.1.n:Int)),(43,.vec 41000),(31,pN x),(30,pN (l.1.n:Int)),(29,.vec 21000),(9,pN x),(8,.reg 9000 0),(7,.reg 8000 0),(2,.p (.ptr (A7 f))),(1,pN d)],[(41000,.vec F2 1 w.1.n (fun i=>cI .i64 (w.1.g i)) true),(29000,.fam A8 l.1.n 9951 none),(26000,.fam DI X.n 9901 none),(21000,.vec F2 1 l.1.n (fun i=>cI .i64 (l.1.g i)) true),(9951,.rows l.1.n fun i=>knO K i),(9901,.rows X.n fun i=>LC P9 18 B5 (X.g i)),(9000,.cells [.vec 29000]),(8000,.cells [.vec 26000])]⟩) (ids:=[(41000,41000),(29000,29000),(26000,26000),(21000,21000),(9951,9951),(9901,9901),(9000,9000),(8000,8000)]) (fun _ _ _ _ _ s X z j h=>?_);apply kI Z h<;>intro h
   .obtain⟨c5,h⟩:=H4 h;refine F4 Z c5 (b:=((f.On.g (w.1.g u.toNat).toNat).g z.toNat) != d) (fun c6=>?_) (fun c6=>?_)
    .replace h:=itT c6 h;obtain⟨c7,h⟩:=H4 h;obtain⟨c8,h⟩:=H4 h;obtain⟨c9,h⟩:=H4 h;refine Xd Z Lu (.take 26000 x.toNat 9801) (⟨⟨by decide,rfl⟩,c7⟩:(1000<=9801/\X.n=X.n)/\x.toNat<X.n) ?_;refine S4 Z Lu [(0,.l [8000]),(2,.l [8000]),(4,.l [26000]),(5,.l [26000]),(6,.n),(7,.n),(9,.n),(10,.n),(12,.a [75000,9801]),(13,.l [26000]),(14,.a [26000])] ?_;refine X9 (And.intro (And.intro (And.intro c8.1 (And.intro c7 (rfl:x.toNat=x.toNat))) c8.2) Oa) (x:=.sl true 18 1 (E5 [.str [],pI .i64 0,pI .u32 0,pI .u32 0,.v (.bool false),pI .i64 0,pI .i64 0,M9,pI .i64 0,pI .u32 0,pI .u32 0,.v (.bool false),pI .i64 0,pI .i64 0,M9,M9,M9,pI .i64 0] [(0,B5 (f.Laws.g ((f.On.g (w.1.g u.toNat).toNat).g z.toNat).toNat))])) ?_;refine P3 (And.intro (And.intro c9 c8.1) (And.intro c7 (rfl:x.toNat=x.toNat))) ?_;refine AS Z Lu 76 ⟨[(55,pN z),(54,pN ((f.On.g (w.1.g u.toNat).toNat).n:Int)),(53,.p (vSl 1 (cI .i64) (f.On.g (w.1.g u.toNat).toNat))),(45,pN u),(44,pN (w.1.n:Int)),(43,.vec 41000),(31,pN x),(30,pN (l.1.n:Int)),(29,.vec 21000),(9,pN x),(8,.reg 9000 0),(7,.reg 8000 0),(2,.p (.ptr (A7 f))),(1,pN d)],[(75000,LC P9 18 B5 ((X.g x.toNat).push (f.Laws.g ((f.On.g (w.1.g u.toNat).toNat).g z.toNat).toNat))),(41000,.vec F2 1 w.1.n (fun i=>cI .i64 (w.1.g i)) true),(29000,.fam A8 l.1.n 9951 none),(26000,.fam DI X.n 9901 (some (x.toNat,.vec 75000))),(21000,.vec F2 1 l.1.n (fun i=>cI .i64 (l.1.g i)) true),(9951,.rows l.1.n fun i=>knO K i),(9901,(.rows X.n fun q=>if q=x.toNat then .dead else LC P9 18 B5 (X.g q))),(9000,.cells [.vec 29000]),(8000,.cells [.vec 26000])]⟩ (ids:=[(75000,75000),(41000,41000),(29000,29000),(26000,26000),(21000,21000),(9951,9951),(9901,9901),(9000,9000),(8000,8000)]) ?_ (hle:=klR [(10,.fn ((X.g x.toNat).n+1) ((X.g x.toNat).push (f.Laws.g ((f.On.g (w.1.g u.toNat).toNat).g z.toNat).toNat)).n (BA (X.g x.toNat).n (fun i=>B5 ((X.g x.toNat).g i)) (E5 [.str [],pI .i64 0,pI .u32 0,pI .u32 0,.v (.bool false),pI .i64 0,pI .i64 0,M9,pI .i64 0,pI .u32 0,pI .u32 0,.v (.bool false),pI .i64 0,pI .i64 0,M9,M9,M9,pI .i64 0] [(0,B5 (f.Laws.g ((f.On.g (w.1.g u.toNat).toNat).g z.toNat).toNat))])) (fun i=>B5 (((X.g x.toNat).push (f.Laws.g ((f.On.g (w.1.g u.toNat).toNat).g z.toNat).toNat)).g i)))] (al1 ⟨rfl,Pm (c:=B5) (v:=X.g x.toNat) (x:=f.Laws.g ((f.On.g (w.1.g u.toNat).toNat).g z.toNat).toNat) (z:=[(.str []),pI .i64 0,pI .u32 0,pI .u32 0,.v (.bool false),pI .i64 0,pI .i64 0,M9,pI .i64 0,pI .u32 0,pI .u32 0,.v (.bool false),pI .i64 0,pI .i64 0,M9,M9,M9,pI .i64 0]) same rfl rfl⟩ al0));refine HB Z Lu 76 (.put 26000 9902) (⟨⟨by decide,rfl⟩,c7⟩:(1000<=9902/\X.n=X.n)/\x.toNat<X.n) ?_;exact j _ [(41000,41000),(29000,29000),(26000,26000),(21000,21000),(9951,9951),(9901,9902),(9000,9000),(8000,8000)] _ (X.upd x.toNat ((X.g x.toNat).push (f.Laws.g ((f.On.g (w.1.g u.toNat).toNat).g z.toNat).toNat))) (wrap .i64 (z+1)) Lu h (hle:=klR [(17,.ob X.n (fun q=>if q=x.toNat then LC P9 18 B5 ((X.g x.toNat).push (f.Laws.g ((f.On.g (w.1.g u.toNat).toNat).g z.toNat).toNat))else if q=x.toNat then .dead else LC P9 18 B5 (X.g q)) fun i=>LC P9 18 B5 ((X.upd x.toNat ((X.g x.toNat).push (f.Laws.g ((f.On.g (w.1.g u.toNat).toNat).g z.toNat).toNat))).g i))] (al1 AV6 al0))
    replace h:=itF c6 h;exact j _ [(41000,41000),(29000,29000),(26000,26000),(21000,21000),(9951,9951),(9901,9901),(9000,9000),(8000,8000)] _ X (wrap .i64 (z+1)) Lu h
   exact r _ [(41000,41000),(29000,29000),(26000,26000),(21000,21000),(9951,9951),(9901,9901),(9000,9000),(8000,8000)] _ X (wrap .i64 (u+1)) Lu h
  obtain⟨c4,h⟩:=H4 h;refine HB Z Lu 78 (.over 29000 x.toNat) (⟨rfl,by omega⟩:l.1.n=l.1.n/\x.toNat<l.1.n) ?_;refine HB Z (And.intro c3.1 (And.intro c3.2 (rfl:x.toNat=x.toNat))) 82 (.put 29000 9952) (⟨⟨by decide,rfl⟩,c3.2⟩:(1000<=9952/\l.1.n=l.1.n)/\x.toNat<l.1.n) ?_;exact m _ [(29000,29000),(26000,26000),(21000,21000),(9951,9952),(9901,9901),(9000,9000),(8000,8000)] _ (K+1) X (wrap .i64 (x+1)) Lu h (hle:=klR [(8,.ob l.1.n (fun q=>if q=x.toNat then .map []else if q=x.toNat then .dead else knO K q) fun i=>knO (K+1) i)] (al1 (obKn c4.1) al0))
 obtain⟨c3,h⟩:=H4 h;obtain rfl:=D4 h;refine HB Z Lu 83 (.pub 26000) (⟨rfl,fun i _=>rfl⟩:X.n=X.n/\∀i,i<X.n->(XY (LC P9 18 B5 (X.g i))).isSome=true) ?_;refine AS Z Lu 83 ⟨[(8,.reg 9000 0),(7,.reg 8000 0)],[(29000,.fam A8 X.n 9951 none),(9951,.rows X.n fun i=>Gf []),(9000,.cells [.vec 29000]),(8000,.cells [.p (vSl 1 (cL 18 B5) X)])]⟩ (ids:=[(29000,29000),(9951,9951),(9000,9000),(8000,8000)]) ?_ (hle:=klR [(0,.nt l.1.n X.n),(1,.nt l.1.n X.n),(2,.ob X.n (fun i=>knO K i) (fun i=>Gf [])),(3,.fn X.n X.n (fun i=>[(XY (LC P9 18 B5 (X.g i))).getD default]) (fun i=>cL 18 B5 (X.g i)))] (al1 c3.2.symm (al1 c3.2.symm (al1 (fun i hi=>Kc (by omega)) (al1 ⟨rfl,fun _ _=>rfl⟩ al0)))));refine N0 Z Lu 83 8000 [vSl 1 (cL 18 B5) X] ?_;exact B1 Z Lu ⟨[(4,.clo C0 [] [.reg 9000 0,.p (.ptr [vSl 1 (cL 18 B5) X])])],[(29000,.fam A8 X.n 9951 none),(9951,.rows X.n fun i=>Gf []),(9000,.cells [.vec 29000])]⟩ [9000,29000,9951] (ids:=[(29000,29000),(9951,9951),(9000,9000)]) ⟨rfl,rfl,rfl⟩
end Go.AM
