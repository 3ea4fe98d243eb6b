/- Part 6. -/
import Derived.Test.YtlbooedblpdmaaaGreatDoorEE
import Derived.Test.YtlbooedblpdmaaaGreatDoorED
set_option linter.defProp false
set_option linter.unusedSimpArgs false
set_option linter.unusedVariables false
set_option linter.unusedSectionVars false
namespace Go.AM
open Go.Proofs.Tryz
abbrev Sk:Sl (Sl Sm):=Sl.nil
abbrev Si:Sl Sm:=Sl.nil
def Rj:(18:Nat)<=18:=by decide
def Rh:(4:Nat)<=4:=by decide
def Ps:(1:Nat)<=1:=by decide
abbrev Pr(z:Int):Sl Int:=(Sl.of [IntKind.wrap .u8 z,IntKind.wrap .u8 (shI .shr .u32 z 8),IntKind.wrap .u8 (shI .shr .u32 z 16)]:Sl Int)
variable {N:Nat}
open IntKind (wrap)
open Go.Proofs
set_option maxRecDepth 10000
set_option maxHeartbeats 2000000
variable {S:U3}(Z:H2 S Tryz.prog) (Y:Ij S)
include Z Y
def Cm (N:Nat)(a:Str):Option Bool:= lt (fun (z1:Bool)=>some z1) fun k1=>if ((a==[]) != true) then if (decide ((a.length:Int)<=24)) then (Eu N a [97,98,99,100,101,102,103,104,105,106,107,108,109,110,111,112,113,114,115,116,117,118,119,120,121,122,65,66,67,68,69,70,71,72,73,74,75,76,77,78,79,80,81,82,83,84,85,86,87,88,89,90,48,49,50,51,52,53,54,55,56,57,45]).bind fun y2=>k1 ((y2==[]) != false) else k1 false else k1 false
theorem XU {b:Str}{y:Bool}(h:Cm N b=some y) :FunO S NY [.p (.str b)] [] (pB y) ([]) []:=by
 unfold Cm at h;refine A3 Z func106 ?_;refine EC Z Pq (A5 Z) h 0 (fun z1=>⟨[(2,pB z1)],[]⟩) (fun M1 k1 a h=>?_) (fun z1 h=>?_)
 .refine kG Z h (fun h=>?_) (fun h=>?_)
  .refine kG Z h (fun h=>?_) (fun h=>?_)
   .refine kC Z h (Pt Z Y) (fun y2 h=>?_);exact a _ [] _ ((y2==[]) != false) Pq h
   exact a _ [] _ false Pq h
  exact a _ [] _ false Pq h
 cases h;exact kR Z
def W6 (N:Nat)(p_x:FS)(a:Int):Option Bool:= lt (fun (z1:Bool)=>if z1 then some false else if ((((F4 .andNot .u32 (F4 .or .u32 p_x.Clear p_x.Take) 16777215) != 0)||((F4 .and .u32 p_x.Clear (F4 .or .u32 p_x.Set.Plus p_x.Set.Minus)) != 0))||((F4 .and .u32 p_x.Take (F4 .or .u32 (F4 .or .u32 p_x.Set.Plus p_x.Set.Minus) p_x.Clear)) != 0)) then some false else if (p_x.Take==0) then some (p_x.Of==0) else some ((decide (0<=p_x.Of))&&(decide (p_x.Of<a)))) fun k1=>if (decide (p_x.From<(-1))) then k1 true else if (decide (a<=p_x.From)) then k1 true else (I0 N p_x.Set).bind fun y2=>k1 (!y2)
theorem Ai8 {p_x:FS}{b:Int}{y:Bool}(h:W6 N p_x b=some y) :FunO S QM [.p (.agg (Ax p_x)),pN b] [] (pB y) ([]) []:=by
 unfold W6 at h;refine A3 Z func103 ?_;refine EC Z Pq (A5 Z) h 0 (fun z1=>⟨[(13,pB z1),(5,pU (F4 .or .u32 p_x.Set.Plus p_x.Set.Minus)),(2,.reg 3000 0),(1,pN b)],[(3000,.cells ((Ax p_x).map .p))]⟩) (fun M1 k1 c h=>?_) (fun z1 h=>?_)
 .refine kG Z h (fun h=>?_) (fun h=>?_)
  .exact c _ [(3000,3000)] _ true Pq h
  refine kG Z h (fun h=>?_) (fun h=>?_)
  .exact c _ [(3000,3000)] _ true Pq h
  refine kC Z h (S1 Z Y) (fun y2 h=>?_);exact c _ [(3000,3000)] _ (!y2) Pq h
 apply kI Z h<;>intro h
 .cases h;exact kR Z
 refine kB Z (A5 Z) Pq Pq 16 (.o (.o (.a ((F4 .andNot .u32 (F4 .or .u32 p_x.Clear p_x.Take) 16777215) != 0)) (.a ((F4 .and .u32 p_x.Clear (F4 .or .u32 p_x.Set.Plus p_x.Set.Minus)) != 0))) (.a ((F4 .and .u32 p_x.Take (F4 .or .u32 (F4 .or .u32 p_x.Set.Plus p_x.Set.Minus) p_x.Clear)) != 0))) ?_;apply kI Z h<;>intro h
 .cases h;exact kR Z
 apply kI Z h<;>intro h
 .cases h;exact kR Z
 refine kB Z (A5 Z) Pq Pq 5 (.n (.a (decide (0<=p_x.Of))) (.a (decide (p_x.Of<b)))) ?_;cases h;exact kR Z
def Ar (N:Nat)(p_x:FS)(q0:Int):Option Bool:= (W6 N p_x q0).bind fun y1=>some (!y1)
theorem SL {p_x:FS}{q0:Int}{y:Bool}(h:Ar N p_x q0=some y) :FunO S JH [.p (.agg (Ax p_x)),.reg 0 0] [.cells [pN q0]] (pB y) ([.cells [pN q0]]) [true]:=by unfold Ar at h;refine A3 Z func102 ?_;refine kC Z h (Ai8 Z Y) (fun y1 h=>?_);obtain rfl:=C4 h;exact A9 Z Pq ⟨[(3,pB (!y1))],[(0,.cells [pN q0])]⟩ [0] (ids:=[(0,0)]) ⟨rfl,rfl,rfl⟩
def At (N:Nat)(a:Sm):Option Bool:= (I0 N a).bind fun y1=>some (!y1)
theorem SM {a:Sm}{y:Bool}(h:At N a=some y) :FunO S JI [.p (.agg (A0 a))] [] (pB y) ([]) []:=by unfold At at h;refine A3 Z func104 ?_;refine kC Z h (S1 Z Y) (fun y1 h=>?_);cases h;exact kR Z
def F7 (N:Nat)(a:Sl FS)(c:FS->Option Bool):Option Int:= Q7 N (fun b (x1:Int)=>if (decide (x1<(a.n:Int))) then if ((0:Int)<=x1/\x1<(a.n:Int))then (c (a.g x1.toNat)).bind fun y3=>if y3 then some x1 else b (wrap .i64 (x1+1)) else none else some (-1)) 0
theorem AI {c:Sl FS}{d:FS->Option Bool}{a:Int}{kp_f:Nat}(f:∀{a0:FS}{b:Bool},d a0=some b->FunO S kp_f [.p (.agg (Ax a0)),.reg 0 0] [.cells [pN a]] (pB b) [.cells [pN a]] [true]){y:Int}(h:F7 N c d=some y) :FunO S O6 [.p (vSl 6 Ax c),.clo kp_f [] [.reg 0 0]] [.cells [pN a]] (pN y) ([.cells [pN a]]) [true]:=by
 unfold F7 at h;refine A3 Z func133 ?_;refine H0 Z Pq h (fun x1=>⟨[(8,pN x1),(7,pN (c.n:Int)),(1,.clo kp_f [] [.reg 0 0]),(0,.p (vSl 6 Ax c))],[(0,.cells [pN a])]⟩) (ids:=[(0,0)]) (fun _ _ _ _ _ g x1 i h=>?_);apply kI Z h<;>intro h
 .obtain⟨c8,h⟩:=D6 h;obtain⟨y3,e3,h⟩:=B9 h;refine C6 Z [0] (And.intro c8 (by decide:(6:Nat)<=6)) (f e3) ?_;apply kI Z h<;>intro h
  .obtain rfl:=C4 h;exact A9 Z Pq ⟨[(4,pN x1)],[(0,.cells [pN a])]⟩ [0] (ids:=[(0,0)]) ⟨rfl,rfl,rfl⟩
  exact i _ [(0,0)] _ (wrap .i64 (x1+1)) Pq h
 obtain rfl:=C4 h;exact A9 Z Pq ⟨[(4,pN (-1))],[(0,.cells [pN a])]⟩ [0] (ids:=[(0,0)]) ⟨rfl,rfl,rfl⟩
def D9 (N:Nat)(a:Sl FS)(b:FS->Option Bool):Option Bool:= (F7 N a b).bind fun y1=>some (decide (0<=y1))
theorem X8 {c:Sl FS}{d:FS->Option Bool}{a:Int}{kp_f:Nat}(f:∀{a0:FS}{b:Bool},d a0=some b->FunO S kp_f [.p (.agg (Ax a0)),.reg 0 0] [.cells [pN a]] (pB b) [.cells [pN a]] [true]){y:Bool}(h:D9 N c d=some y) :FunO S N2 [.p (vSl 6 Ax c),.clo kp_f [] [.reg 0 0]] [.cells [pN a]] (pB y) ([.cells [pN a]]) [true]:=by unfold D9 at h;refine A3 Z func109 ?_;obtain⟨y1,e1,h⟩:=B9 h;refine C6 Z [0] Pq (AI Z Y (fun e=>f e) e1) ?_;obtain rfl:=C4 h;exact A9 Z Pq ⟨[(4,pB (decide (0<=y1)))],[(0,.cells [pN a])]⟩ [0] (ids:=[(0,0)]) ⟨rfl,rfl,rfl⟩
def Z6 (N:Nat)(a:Law):Option Int:= (Cm N a.Name).bind fun y1=>if (!y1) then some 17 else (Z5 N a.Left).bind fun y2=>if (y2 != 0) then some 17 else (Z5 N a.Right).bind fun y3=>if (y3 != 0) then some 17 else if (decide (4<(a.If.n:Int))) then some 17 else if (decide (6<(a.Out.n:Int))) then some 17 else if ((wrap .i64 ((a.If.n:Int)+(a.Out.n:Int)))==0) then some 17 else if ((decide (a.Mode<1))||(decide (3<a.Mode))) then some 17 else (C8 N a.If (fun (u1:Sm)=>At N u1)).bind fun y4=>if y4 then some 17 else (D9 N a.Out (fun (u2:FS)=>Ar N u2 (a.If.n:Int))).bind fun y5=>if y5 then some 17 else some 0
theorem IG {c:Law}{y:Int}(h:Z6 N c=some y) :FunO S NT [.p (.agg (B5 c))] [] (pN y) ([]) []:=by
 unfold Z6 at h;refine A3 Z func75 ?_;refine kC Z h (XU Z Y) (fun y1 h=>?_);refine D4 Z Pq (b:=!y1) (fun c1=>?_) (fun c1=>?_)
 .replace h:=itT c1 h;refine D4 Z Pq (b:=!y1) (fun c2=>?_) (fun c2=>?_)
  .cases h;exact kR Z
  exact Bool.noConfusion (c1.symm.trans c2)
 replace h:=itF c1 h;refine kC Z h (GQ Z Y) (fun y2 h=>?_);refine D4 Z Pq (b:=y2 != 0) (fun c3=>?_) (fun c3=>?_)
 .replace h:=itT c3 h;refine D4 Z Pq (b:=y2 != 0) (fun c4=>?_) (fun c4=>?_)
  .cases h;exact kR Z
  exact Bool.noConfusion (c3.symm.trans c4)
 replace h:=itF c3 h;refine kC Z h (GQ Z Y) (fun y3 h=>?_);refine D4 Z Pq (b:=y3 != 0) (fun c5=>?_) (fun c5=>?_)
 .replace h:=itT c5 h;refine D4 Z Pq (b:=y3 != 0) (fun c6=>?_) (fun c6=>?_)
  .cases h;exact kR Z
  exact Bool.noConfusion (c5.symm.trans c6)
 replace h:=itF c5 h;refine D4 Z Pq (b:=decide (4<(c.If.n:Int))) (fun c7=>?_) (fun c7=>?_)
 .replace h:=itT c7 h;refine D4 Z Pq (b:=decide (4<(c.If.n:Int))) (fun c8=>?_) (fun c8=>?_)
  .cases h;exact kR Z
  exact Bool.noConfusion (c7.symm.trans c8)
 replace h:=itF c7 h;refine D4 Z Pq (b:=decide (6<(c.Out.n:Int))) (fun c9=>?_) (fun c9=>?_)
 .replace h:=itT c9 h;refine D4 Z Pq (b:=decide (6<(c.Out.n:Int))) (fun c10=>?_) (fun c10=>?_)
  .cases h;exact kR Z
  exact Bool.noConfusion (c9.symm.trans c10)
 replace h:=itF c9 h;refine D4 Z Pq (b:=(wrap .i64 ((c.If.n:Int)+(c.Out.n:Int)))==0) (fun c11=>?_) (fun c11=>?_)
 .replace h:=itT c11 h;refine D4 Z Pq (b:=(wrap .i64 ((c.If.n:Int)+(c.Out.n:Int)))==0) (fun c12=>?_) (fun c12=>?_)
  .cases h;exact kR Z
  exact Bool.noConfusion (c11.symm.trans c12)
 replace h:=itF c11 h;refine kB Z (A5 Z) Pq Pq 4 (.o (.a (decide (c.Mode<1))) (.a (decide (3<c.Mode)))) ?_;refine D4 Z Pq (b:=(decide (c.Mode<1))||(decide (3<c.Mode))) (fun c13=>?_) (fun c13=>?_)
 .replace h:=itT c13 h;refine D4 Z Pq (b:=(decide (c.Mode<1))||(decide (3<c.Mode))) (fun c14=>?_) (fun c14=>?_)
  .cases h;exact kR Z
  exact Bool.noConfusion (c13.symm.trans c14)
 replace h:=itF c13 h;refine kC Z h (J8 Z Y (fun e=>SM Z Y e)) (fun y4 h=>?_);refine D4 Z Pq (b:=y4) (fun c15=>?_) (fun c15=>?_)
 .replace h:=itT c15 h;refine D4 Z Pq (b:=y4) (fun c16=>?_) (fun c16=>?_)
  .cases h;exact kR Z
  exact Bool.noConfusion (c15.symm.trans c16)
 replace h:=itF c15 h;obtain⟨y5,e5,h⟩:=B9 h;refine C6 Z [4000] Pq (X8 Z Y (fun e=>SL Z Y e) e5) ?_;apply kI Z h<;>intro h
 .cases h;exact kR Z
 cases h;exact kR Z
def FH (N:Nat)(a:Law)(b:Sl Sm):Option Int:= (Z6 N a).bind fun y1=>if (y1 != 0) then some y1 else (P4 N b).bind fun y2=>some y2
theorem XV {a:Law}{b:Sl Sm}{y:Int}(h:FH N a b=some y) :FunO S Oc [.p (.agg (B5 a)),.p (vSl 2 A0 b)] [] (pN y) ([]) []:=by
 unfold FH at h;refine A3 Z func174 ?_;refine kC Z h (IG Z Y) (fun y1 h=>?_);apply kI Z h<;>intro h
 .cases h;exact kR Z
 refine kC Z h (Ee Z Y) (fun y2 h=>?_);cases h;exact kR Z
def W7 (N:Nat)(a:Int)(q0:Law)(q1:Sl Sm):Option Bool:= (BN N q0.Left q1 a).bind fun y1=>if ((y1.1.n:Int)==0) then some false else (DK N q0.Right q1 (wrap .i64 (a+(q0.If.n:Int)))).bind fun y2=>some (decide (0<(y2.1.n:Int)))
theorem Py {a:Int}{q0:Law}{q1:Sl Sm}{y:Bool}(h:W7 N a q0 q1=some y) :FunO S W4 [pN a,.reg 0 0,.reg 1 0] [.cells ((B5 q0).map .p),.cells [.p (vSl 2 A0 q1)]] (pB y) ([.cells ((B5 q0).map .p),.cells [.p (vSl 2 A0 q1)]]) [true,true]:=by
 unfold W7 at h;refine A3 Z func209 ?_;refine kC Z h (SK Z Y) (fun y1 h=>?_);apply kI Z h<;>intro h
 .obtain rfl:=C4 h;exact A9 Z Pq ⟨[(4,pB false)],[(1,.cells [.p (vSl 2 A0 q1)]),(0,.cells ((B5 q0).map .p))]⟩ [0,1] (ids:=[(0,0),(1,1)]) ⟨rfl,rfl,rfl⟩
 refine kC Z h (XT Z Y) (fun y2 h=>?_);obtain rfl:=C4 h;exact A9 Z Pq ⟨[(4,pB (decide (0<(y2.1.n:Int))))],[(1,.cells [.p (vSl 2 A0 q1)]),(0,.cells ((B5 q0).map .p))]⟩ [0,1] (ids:=[(0,0),(1,1)]) ⟨rfl,rfl,rfl⟩
def GS (N:Nat)(a:Law)(b:Sl Sm):Option (Law×(Sl Sm)):= some (a,b)
theorem Vn {a:Law}{b:Sl Sm}{y:Law×(Sl Sm)}(h:GS N a b=some y) :FunO S LH [.p (.agg (B5 a)),.p (vSl 2 A0 b)] [] (.clo W4 [] [.reg 0 0,.reg 1 0]) ([.cells ((B5 y.1).map .p),.cells [.p (vSl 2 A0 y.2)]]) []:=by unfold GS at h;refine A3 Z func197 ?_;obtain rfl:=C4 h;exact A9 Z Pq ⟨[(4,.clo W4 [] [.reg 3000 0,.reg 4000 0])],[(4000,.cells [.p (vSl 2 A0 b)]),(3000,.cells ((B5 a).map .p))]⟩ [3000,4000] (ids:=[(3000,3000),(4000,4000)]) ⟨rfl,rfl,rfl⟩
def O9 (N:Nat)(a:Law)(b:Sl Sm):Option (Sl Sm):= S0 N (fun c (x1:Sl Sm) (x2:Int)=>if (decide (x2<(a.Out.n:Int))) then if ((0:Int)<=x2/\x2<(a.Out.n:Int))then if ((decide (0<=(a.Out.g x2.toNat).From))=true->((0:Int)<=(a.Out.g x2.toNat).From/\(a.Out.g x2.toNat).From<(b.n:Int)))then (P3 N (⟨(if (decide (0<=(a.Out.g x2.toNat).From)) then (b.g (a.Out.g x2.toNat).From.toNat).Plus else 0),(if (decide (0<=(a.Out.g x2.toNat).From)) then (b.g (a.Out.g x2.toNat).From.toNat).Minus else 0)⟩:Sm) (a.Out.g x2.toNat).Clear (a.Out.g x2.toNat).Set).bind fun y5=>if ((a.Out.g x2.toNat).Take != 0) then if ((0:Int)<=(a.Out.g x2.toNat).Of/\(a.Out.g x2.toNat).Of<(b.n:Int))then (U5 N y5.1 (b.g (a.Out.g x2.toNat).Of.toNat) (a.Out.g x2.toNat).Take).bind fun y6=>if ((x1.n+(Sl.of [y6.1]:Sl Sm).n)*8<=140737488355328/\x1.n+(Sl.of [y6.1]:Sl Sm).n<=140737488355328)then c (x1.push y6.1) (wrap .i64 (x2+1)) else none else none else if ((x1.n+(Sl.of [y5.1]:Sl Sm).n)*8<=140737488355328/\x1.n+(Sl.of [y5.1]:Sl Sm).n<=140737488355328)then c (x1.push y5.1) (wrap .i64 (x2+1)) else none else none else none else some x1) Si 0
theorem Vo {d:Law}{a:Sl Sm}{y:Sl Sm}(h:O9 N d a=some y) :FunO S Vb [.p (.agg (B5 d)),.p (vSl 2 A0 a)] [] (.p (vSl 2 A0 y)) ([]) []:=by
 unfold O9 at h;refine A3 Z func188 ?_;refine G4 Z Pq 4 3000 (B5 d) ?_;refine G9 Z Pq h (fun x1 x2=>⟨[(12,pN x2),(11,pN (d.Out.n:Int)),(10,.p (vSl 6 Ax d.Out)),(5,.vec 6500),(1,.p (vSl 2 A0 a))],[(6500,.vec B8 2 x1.n (fun i=>A0 (x1.g i)) false)]⟩) (ids:=[]) (fun _ _ _ _ _ o x1 x2 l h=>?_);apply kI Z h<;>intro h
 .obtain⟨c16,h⟩:=D6 h;refine G4 Z (And.intro c16 (by decide:(6:Nat)<=6)) 8 8000 (Ax (d.Out.g x2.toNat)) ?_;obtain⟨c18,h⟩:=D6 h;obtain⟨t5,f⟩:∃x:Int,x=(if (decide (0<=(d.Out.g x2.toNat).From)) then (a.g (d.Out.g x2.toNat).From.toNat).Plus else 0):=⟨_,rfl⟩;obtain⟨t6,j⟩:∃x:Int,x=(if (decide (0<=(d.Out.g x2.toNat).From)) then (a.g (d.Out.g x2.toNat).From.toNat).Minus else 0):=⟨_,rfl⟩;refine Wx Z Pq (A5 Z) 0 ⟨[(12,pN x2),(11,pN (d.Out.n:Int)),(10,.p (vSl 6 Ax d.Out)),(8,.reg 9000 0),(7,.p (.ptr (Ax (d.Out.g x2.toNat)))),(5,.vec 6500),(1,.p (vSl 2 A0 a))],[(9000,.cells [pU t5,pU t6]),(6500,.vec B8 2 x1.n (fun i=>A0 (x1.g i)) false)]⟩ (fun M3 m=>?_) ?_
  .refine D4 Z Pq (b:=decide (0<=(d.Out.g x2.toNat).From)) (fun c19=>?_) (fun c19=>?_)
   .exact m _ [(6500,6500),(9000,9000)] _ (And.intro (c18 c19) Q6) (hle:=klR [(5,.eq (pI .u32 (a.g (d.Out.g x2.toNat).From.toNat).Plus) (pI .u32 t5)),(6,.eq (pI .u32 (a.g (d.Out.g x2.toNat).From.toNat).Minus) (pI .u32 t6))] (al1 (by simp only[f,j,c19,Leaf.ok,pm,Pn,Po]) (al1 (by simp only[f,j,c19,Leaf.ok,pm,Pn,Po]) al0)))
   exact m _ [(6500,6500),(9000,9000)] _ Pq (hle:=klR [(5,.eq (pI .u32 0) (pI .u32 t5)),(6,.eq (pI .u32 0) (pI .u32 t6))] (al1 (by simp only[f,j,c19,Leaf.ok,pm,Pn,Po]) (al1 (by simp only[f,j,c19,Leaf.ok,pm,Pn,Po]) al0)))
  subst j;subst f;obtain⟨y5,e5,h⟩:=B9 h;refine C6 Z [] (by decide:(2:Nat)<=4) (Pu Z Y e5) ?_;apply kI Z h<;>intro h
  .refine E3 Z Pq [3,4,5,7,8] ?_;obtain⟨c21,h⟩:=D6 h;obtain⟨y6,e6,h⟩:=B9 h;refine K7 (And.intro c21 Q6) (Vk Z Y e6) ?_;refine H3 Pq ?_;obtain⟨c22,h⟩:=D6 h;exact l _ [(6500,52000)] _ (x1.push y6.1) (wrap .i64 (x2+1)) (And.intro Rp c22) h (hle:=klR [(4,.fn (x1.n+1) (x1.push y6.1).n (T2 x1.n (fun i=>A0 (x1.g i)) (D3 [pI .u32 0,pI .u32 0] [(0,A0 y6.1)])) (fun i=>A0 ((x1.push y6.1).g i)))] (al1 ⟨rfl,EA (c:=A0) (v:=x1) (x:=y6.1) (z:=[(pI .u32 0),pI .u32 0]) same rfl rfl⟩ al0))
  obtain⟨c23,h⟩:=D6 h;exact l _ [(6500,52000)] _ (x1.push y5.1) (wrap .i64 (x2+1)) (And.intro Rp c23) h (hle:=klR [(4,.fn (x1.n+1) (x1.push y5.1).n (T2 x1.n (fun i=>A0 (x1.g i)) (D3 [pI .u32 0,pI .u32 0] [(0,A0 y5.1)])) (fun i=>A0 ((x1.push y5.1).g i)))] (al1 ⟨rfl,EA (c:=A0) (v:=x1) (x:=y5.1) (z:=[(pI .u32 0),pI .u32 0]) same rfl rfl⟩ al0))
 obtain rfl:=C4 h;exact A9 Z Pq ⟨[(4,.p (vSl 2 A0 x1))],[]⟩ [] (ids:=[]) ⟨rfl,rfl,rfl⟩
def B6 (N:Nat)(a:Sl (Sl Sm)):Option (Sl Sm):= S0 N (fun b (x1:Int) (x2:Int)=>if (decide (x2<(a.n:Int))) then if ((0:Int)<=x2/\x2<(a.n:Int))then if (decide ((wrap .i64 (x1+((a.g x2.toNat).n:Int)))<0)) then none else b (wrap .i64 (x1+((a.g x2.toNat).n:Int))) (wrap .i64 (x2+1)) else none else (I7 N x1).bind fun y1=>S0 N (fun c (x3:Sl Sm) (x4:Int)=>if (decide (x4<(a.n:Int))) then if (((0:Int)<=x4/\x4<(a.n:Int))/\((x3.n+(a.g x4.toNat).n)*8<=140737488355328/\x3.n+(a.g x4.toNat).n<=140737488355328))then c (x3.app (a.g x4.toNat)) (wrap .i64 (x4+1)) else none else some x3) y1 0) 0 0
theorem O2 {a:Sl (Sl Sm)}{y:Sl Sm}(h:B6 N a=some y) :FunO S O0 [.p (vSl 1 (cL 2 A0) a)] [] (.vec 0) ([.vec B8 2 y.n (fun i=>A0 (y.g i)) true]) []:=by
 unfold B6 at h;refine A3 Z func187 ?_;refine G9 Z Pq h (fun x1 x2=>⟨[(11,pN x2),(10,pN (a.n:Int)),(9,.p (vSl 1 (cL 2 A0) a)),(3,pN x1),(0,.p (vSl 1 (cL 2 A0) a))],[]⟩) (ids:=[]) (fun _ _ _ _ _ d x1 x2 f h=>?_);apply kI Z h<;>intro h
 .obtain⟨c8,h⟩:=D6 h;refine D4 Z c8 (b:=decide ((wrap .i64 (x1+((a.g x2.toNat).n:Int)))<0)) (fun c9=>?_) (fun c9=>?_)
  .replace h:=itT c9 h;cases h
  replace h:=itF c9 h;exact f _ [] _ (wrap .i64 (x1+((a.g x2.toNat).n:Int))) (wrap .i64 (x2+1)) Pq h
 refine kC Z h (AT Z Y) (fun y1 h=>?_);refine G9 Z Pq h (fun x3 x4=>⟨[(27,pN x4),(26,pN (a.n:Int)),(25,.p (vSl 1 (cL 2 A0) a)),(6,.vec 7500)],[(7500,.vec B8 2 x3.n (fun i=>A0 (x3.g i)) false)]⟩) (ids:=[(7500,25000)]) (fun _ _ _ _ _ j x3 x4 l h=>?_);apply kI Z h<;>intro h
 .obtain⟨c13,h⟩:=D6 h;exact l _ [(7500,34000)] _ (x3.app (a.g x4.toNat)) (wrap .i64 (x4+1)) c13 h (hle:=klR [(3,.fn (x3.n+(a.g x4.toNat).n) (x3.app (a.g x4.toNat)).n (T2 x3.n (fun i=>A0 (x3.g i)) (fun i=>A0 ((a.g x4.toNat).g i))) (fun i=>A0 ((x3.app (a.g x4.toNat)).g i)))] (al1 ⟨rfl,WC (c:=A0) (v:=x3) (w:=a.g x4.toNat) same rfl same rfl⟩ al0))
 obtain rfl:=C4 h;exact A9 Z Pq ⟨[(2,.vec 7500)],[(7500,.vec B8 2 x3.n (fun i=>A0 (x3.g i)) true)]⟩ [7500] (ids:=[(7500,7500)]) ⟨rfl,rfl,rfl⟩
def S3 (N:Nat)(b:Law)(c:Sl Sm)(a:Int):Option (Sl Sm):= if (((0:Int)<=a/\a<=(c.n:Int))/\((0:Int)<=a/\a<=(wrap .i64 (a+(b.If.n:Int)))/\(wrap .i64 (a+(b.If.n:Int)))<=(c.n:Int)))then (O9 N b (c.sub a.toNat (wrap .i64 (a+(b.If.n:Int))).toNat)).bind fun y1=>if ((0:Int)<=(wrap .i64 (a+(b.If.n:Int)))/\(wrap .i64 (a+(b.If.n:Int)))<=(c.n:Int))then (B6 N (Sl.of [c.take a.toNat,y1,c.drop (wrap .i64 (a+(b.If.n:Int))).toNat]:Sl (Sl Sm))).bind fun y2=>some y2 else none else none
theorem JU {c:Law}{b:Sl Sm}{a:Int}{y:Sl Sm}(h:S3 N c b a=some y) :FunO S JL [.p (.agg (B5 c)),.p (vSl 2 A0 b),pN a] [] (.vec 0) ([.vec B8 2 y.n (fun i=>A0 (y.g i)) true]) []:=by unfold S3 at h;refine A3 Z func190 ?_;refine G4 Z Pq 6 4000 (B5 c) ?_;refine E3 Z Pq [3,8] ?_;obtain⟨c1,h⟩:=D6 h;obtain⟨y1,e1,h⟩:=B9 h;refine K7 (And.intro (And.intro c1.1 Rj) c1.2) (Vo Z Y e1) ?_;obtain⟨c2,h⟩:=D6 h;refine Y8 c2 (x:=.sl true 1 3 (D3 [M8] [(0,cL 2 A0 (b.take a.toNat)),(1,cL 2 A0 y1),(2,cL 2 A0 (b.drop (wrap .i64 (a+(c.If.n:Int))).toNat))])) ?_;obtain⟨y2,e2,h⟩:=B9 h;refine Gq [] Pq (FunO.le Z (args:=[.p (.sl true 1 3 (D3 [M8] [(0,cL 2 A0 (b.take a.toNat)),(1,cL 2 A0 y1),(2,cL 2 A0 (b.drop (wrap .i64 (a+(c.If.n:Int))).toNat))]))]) (by exact⟨Qg rfl (fun i d=>match i,d with|0,_=>rfl|1,_=>rfl|2,_=>rfl|_+3,d=>Pm d (by omega)),trivial⟩) (O2 Z Y e2)) ?_;refine H3 Pq ?_;obtain rfl:=C4 h;exact A9 Z Pq ⟨[(6,.vec 27000)],[(27000,.vec B8 2 y2.n (fun i=>A0 (y2.g i)) true)]⟩ [27000] (ids:=[(27000,27000)]) ⟨rfl,rfl,rfl⟩
def Z7 (N:Nat)(q0:Law)(q1:Sl Sm)(q2:Int):Option (List (Int)):= (GS N q0 q1).bind fun y1=>Q7 N (fun a (x2:Int)=>if (decide ((wrap .i64 (x2+(q0.If.n:Int)))<=(q1.n:Int))) then Q7 N (fun b (x4:Int)=>if (decide (x4<(q0.If.n:Int))) then if ((0:Int)<=x4/\x4<(q0.If.n:Int))then if ((0:Int)<=(wrap .i64 (x2+x4))/\(wrap .i64 (x2+x4))<(q1.n:Int))then (N1 N (q1.g (wrap .i64 (x2+x4)).toNat) (q0.If.g x4.toNat)).bind fun c=>if (!c) then a (wrap .i64 (x2+1)) else b (wrap .i64 (x4+1)) else none else none else (W7 N x2 y1.1 y1.2).bind fun d=>if d then Az x2 (a (wrap .i64 (x2+1))) else a (wrap .i64 (x2+1))) 0 else some []) q2
theorem LJ {q0:Law}{q1:Sl Sm}{q2:Int}{L:List (Int)}(h:Z7 N q0 q1 q2=some L) :Gk S Ea [] [.reg 0 0,.reg 1 0,.reg 2 0] [.cells ((B5 q0).map .p),.cells [.p (vSl 2 A0 q1)],.cells [pN q2]] (L.map (fun (x:Int)=>[pI .i64 x])):=by
 unfold Z7 at h;refine Hs Z func196 ?_;refine kC Z h (Vn Z Y) (fun y1 h=>?_);refine GD Z Pq h (fun x2 L1=>⟨[(6,pN x2),(5,.clo W4 [] [.reg 12000 0,.reg 12001 0]),(2,.reg 1 0),(1,.reg 0 0),(0,.yf 3)],[(12001,.cells [.p (vSl 2 A0 y1.2)]),(12000,.cells ((B5 y1.1).map .p)),(3,.yld (L1.map (fun (x:Int)=>[pI .i64 x])) true),(2,.cells [pN q2]),(1,.cells [.p (vSl 2 A0 q1)]),(0,.cells ((B5 q0).map .p))]⟩) (ids:=[(0,0),(1,1),(2,2),(3,3),(12000,12000),(12001,12001)]) (fun _ _ _ _ _ f x2 L1 c h=>?_);apply kI Z h<;>intro h
 .refine GD Z Pq h (fun x4 L8=>⟨[(26,pN x4),(25,pN (q0.If.n:Int)),(24,.p (vSl 2 A0 q0.If)),(6,pN x2),(5,.clo W4 [] [.reg 12000 0,.reg 12001 0]),(2,.reg 1 0),(1,.reg 0 0),(0,.yf 3)],[(12001,.cells [.p (vSl 2 A0 y1.2)]),(12000,.cells ((B5 y1.1).map .p)),(3,.yld (L8.map (fun (x:Int)=>[pI .i64 x])) true),(2,.cells [pN q2]),(1,.cells [.p (vSl 2 A0 q1)]),(0,.cells ((B5 q0).map .p))]⟩) (ids:=[(0,0),(1,1),(2,2),(3,3),(12000,12000),(12001,12001)]) (fun _ _ _ _ _ i x4 L8 j h=>?_);apply kI Z h<;>intro h
  .obtain⟨c47,h⟩:=D6 h;refine AB0 Z (And.intro c47 Q6) 9000 [pI .u32 (q0.If.g x4.toNat).Plus,pI .u32 (q0.If.g x4.toNat).Minus] ?_;refine E3 Z Pq [4,5,6,7] ?_;obtain⟨c48,h⟩:=D6 h;obtain⟨l,e12,h⟩:=B9 h;refine K7 (And.intro (And.intro c48 Q6) Q6) (KN Z Y e12) ?_;refine H3 Pq ?_;apply kI Z h<;>intro h
   .exact c _ [(0,0),(1,1),(2,2),(3,3),(12000,12000),(12001,12001)] _ (wrap .i64 (x2+1)) L8 Pq h
   exact j _ [(0,0),(1,1),(2,2),(3,3),(12000,12000),(12001,12001)] _ (wrap .i64 (x4+1)) L8 Pq h
  obtain⟨m,e13,h⟩:=B9 h;refine C6 Z [12000,12001] Pq (Py Z Y e13) ?_;refine kG Z h (fun h=>?_) (fun h=>?_)
  .obtain⟨L10,rfl,d⟩:=Pc h;replace h:=d;refine Er Z Pq (ys:=(fun (x:Int)=>[pI .i64 x]) x2) (rest:=L10.map (fun (x:Int)=>[pI .i64 x])) ?_ ?_
   .refine D4 Z Pq (b:=false) (fun c53=>?_) (fun c53=>?_)
    .exact Bool.noConfusion ((rfl:false=false).symm.trans c53)
    exact c _ [(0,0),(1,1),(2,2),(3,3),(12000,12000),(12001,12001)] _ (wrap .i64 (x2+1)) L10 Pq h
   refine D4 Z Pq (b:=true) (fun c54=>?_) (fun c54=>?_)
   .exact A9 Z Pq (a:=.tup []) (objs:=[(.cells ((B5 q0).map .p)),.cells [.p (vSl 2 A0 q1)],.cells [pN q2],.yld [] false]) ⟨[],[(3,.yld [] false),(2,.cells [pN q2]),(1,.cells [.p (vSl 2 A0 q1)]),(0,.cells ((B5 q0).map .p))]⟩ [0,1,2,3] (ids:=[(0,0),(1,1),(2,2),(3,3)]) ⟨false,rfl,rfl,_,rfl⟩
   exact Bool.noConfusion (Rp.symm.trans c54)
  exact c _ [(0,0),(1,1),(2,2),(3,3),(12000,12000),(12001,12001)] _ (wrap .i64 (x2+1)) L8 Pq h
 obtain rfl:=C4 h;exact A9 Z Pq (a:=.tup []) (objs:=[(.cells ((B5 q0).map .p)),.cells [.p (vSl 2 A0 q1)],.cells [pN q2],.yld [] true]) ⟨[],[(3,.yld [] true),(2,.cells [pN q2]),(1,.cells [.p (vSl 2 A0 q1)]),(0,.cells ((B5 q0).map .p))]⟩ [0,1,2,3] (ids:=[(0,0),(1,1),(2,2),(3,3)]) ⟨true,rfl,rfl,_,rfl⟩
def Hu (N:Nat)(b:Law)(c:Sl Sm)(a:Int):Option (Law×(Sl Sm)×Int):= some (b,c,a)
theorem QR {b:Law}{c:Sl Sm}{a:Int}{y:Law×(Sl Sm)×Int}(h:Hu N b c a=some y) :FunO S QN [.p (.agg (B5 b)),.p (vSl 2 A0 c),pN a] [] (.clo Ea [] [.reg 0 0,.reg 1 0,.reg 2 0]) ([.cells ((B5 y.1).map .p),.cells [.p (vSl 2 A0 y.2.1)],.cells [pN y.2.2]]) []:=by unfold Hu at h;refine A3 Z func186 ?_;obtain rfl:=C4 h;exact A9 Z Pq ⟨[(6,.clo Ea [] [.reg 4000 0,.reg 5000 0,.reg 6000 0])],[(6000,.cells [pN a]),(5000,.cells [.p (vSl 2 A0 c)]),(4000,.cells ((B5 b).map .p))]⟩ [4000,5000,6000] (ids:=[(4000,4000),(5000,5000),(6000,6000)]) ⟨rfl,rfl,rfl⟩
def CB (N:Nat)(b:Law)(c:Sl Sm)(a:Int):Option Bool:= (Hu N b c a).bind fun y1=>(Z7 N y1.1 y1.2.1 y1.2.2).bind fun L1=>Q5 L1 (fun d (x1:Int) (_:Unit)=>some (x1==a)) (fun (_:Unit)=>some false) ()
theorem Vp {b:Law}{c:Sl Sm}{a:Int}{y:Bool}(h:CB N b c a=some y) :FunO S Vc [.p (.agg (B5 b)),.p (vSl 2 A0 c),pN a] [] (pB y) ([]) []:=by
 unfold CB at h;refine A3 Z func189 ?_;refine kC Z h (QR Z Y) (fun y1 h=>?_);obtain⟨L1,e2,h⟩:=B9 h;refine Fx Z Pq [12000,12001,12002] [6,5] 901 (fun _=>⟨[(6,.reg 7000 0),(5,.reg 6000 0)],[(7000,.cells [.p (.v (.bool false))]),(6000,.cells [pN a])]⟩) (idl:=[(6000,6000),(7000,7000)]) h (LJ Z Y e2) (fun _=>by kernel_rfl) (fun _=>by kernel_rfl) (fun _=>by kernel_rfl) (fun _=>by kernel_rfl) (fun x1 _ d _ f h=>?_) (fun _ h=>?_)
 .refine Jx Z Pq ?_;refine Se Z Pq ⟨[(6,.reg 7000 0),(5,.reg 6000 0)],[(7000,.cells [pB (x1==a)]),(6000,.cells [pN a])]⟩ (ids:=[(901,901),(6000,6000),(7000,7000)]) ?_;cases h;exact kR Z
 cases h;exact kR Z
def Cn (N:Nat)(q0:Sl Sm)(q1:Law)(q2:Int)(q3:Int):Option (List (Int×(Sl Sm))):= if (q1.Mode==1) then (Hu N q1 q0 0).bind fun y1=>(Z7 N y1.1 y1.2.1 y1.2.2).bind fun L1=>Q5 L1 (fun b (x1:Int) (z1:(Sl Sm)×Int×Int)=>if (decide (x1<z1.2.1)) then b (z1.1,z1.2.1,z1.2.2) else if (((0:Int)<=(wrap .i64 (x1+z1.2.2))/\(wrap .i64 (x1+z1.2.2))<=(z1.1.n:Int))/\((0:Int)<=x1/\x1<=(wrap .i64 (x1+q2))/\(wrap .i64 (x1+q2))<=(q0.n:Int)))then (O9 N q1 (q0.sub x1.toNat (wrap .i64 (x1+q2)).toNat)).bind fun y6=>if ((0:Int)<=(wrap .i64 (x1+q2))/\(wrap .i64 (x1+q2))<=(q0.n:Int))then (B6 N (Sl.of [z1.1.take (wrap .i64 (x1+z1.2.2)).toNat,y6,q0.drop (wrap .i64 (x1+q2)).toNat]:Sl (Sl Sm))).bind fun y7=>Az (x1,y7) (b (y7,wrap .i64 (x1+(if q2<1 then 1 else q2)),wrap .i64 ((wrap .i64 (z1.2.2+q3))-q2))) else none else none) (fun (z1:(Sl Sm)×Int×Int)=>some []) (q0,0,0) else if (q1.Mode==2) then S0 N (fun a (x5:Sl Sm) (x6:Int)=>if (decide ((wrap .i64 (x6+q2))<=(x5.n:Int))) then (CB N q1 x5 x6).bind fun g=>if (!g) then a x5 (wrap .i64 (x6+1)) else (S3 N q1 x5 x6).bind fun d=>Az (x6,d) (if (q2==0) then a d (wrap .i64 ((wrap .i64 (x6+q3))+1)) else a d (wrap .i64 (x6+q3))) else some []) q0 0 else if (q1.Mode==3) then S0 N (fun c (x7:Sl Sm) (x8:Int)=>if (decide (0<=x8)) then (CB N q1 x7 x8).bind fun i=>if (!i) then c x7 (wrap .i64 (x8-1)) else (S3 N q1 x7 x8).bind fun f=>Az (x8,f) (c f (wrap .i64 (x8-(if q2<1 then 1 else q2)))) else some []) q0 (wrap .i64 ((q0.n:Int)-q2)) else some []
theorem XW {q0:Sl Sm}{q1:Law}{q2:Int}{q3:Int}{L:List (Int×(Sl Sm))}(h:Cn N q0 q1 q2 q3=some L) :Gk S FC [] [.reg 0 0,.reg 1 0,.reg 2 0,.reg 3 0] [.cells [.p (vSl 2 A0 q0)],.cells ((B5 q1).map .p),.cells [pN q2],.cells [pN q3]] (L.map (fun (x:Int×(Sl Sm))=>[pI .i64 x.1,vSl 2 A0 x.2])):=by
 unfold Cn at h;refine Hs Z func185 ?_;apply kI Z h<;>intro h
 .refine kC Z h (QR Z Y) (fun y1 h=>?_);obtain⟨L1,e2,h⟩:=B9 h;refine AG7 Z Pq [20000,20001,20002] [8,7,6,5,4,3,2,1] 900 (fun z1 L2=>⟨[(8,.reg 9000 0),(7,.reg 8000 0),(6,.reg 7000 0),(5,.reg 6000 0),(4,.reg 3 0),(3,.reg 2 0),(2,.reg 1 0),(1,.reg 0 0)],[(9000,.cells [pN z1.2.2]),(8000,.cells [pN z1.2.1]),(7000,.cells [.p (vSl 2 A0 z1.1)]),(6000,.cells [.yf 4]),(4,.yld (L2.map (fun (x:Int×(Sl Sm))=>[pI .i64 x.1,vSl 2 A0 x.2])) true),(3,.cells [pN q3]),(2,.cells [pN q2]),(1,.cells ((B5 q1).map .p)),(0,.cells [.p (vSl 2 A0 q0)])]⟩) (idl:=[(0,0),(1,1),(2,2),(3,3),(4,4),(6000,6000),(7000,7000),(8000,8000),(9000,9000)]) h (LJ Z Y e2) (fun _=>by kernel_rfl) (fun _ _=>by kernel_rfl) (fun _ _=>by kernel_rfl) (fun _ _=>by kernel_rfl) (fun x1 _ s z1 L2 j h=>?_) (fun z1 L2 h=>?_)
  .refine Jx Z Pq ?_;apply kI Z h<;>intro h
   .exact j _ [(0,0),(1,1),(2,2),(3,3),(4,4),(900,900),(6000,6000),(7000,7000),(8000,8000),(9000,9000)] _ (z1.1,z1.2.1,z1.2.2) L2 Pq h
   refine T4 Z Pq [(0,.l [7000]),(2,.l [9000]),(5,.l [1]),(6,.l [0]),(9,.l [2]),(12,.n),(13,.l [0]),(15,.l [2]),(20,.a [7000])] ?_;obtain⟨c13,h⟩:=D6 h;obtain⟨y6,e7,h⟩:=B9 h;refine K7 c13 (Vo Z Y e7) ?_;obtain⟨c14,h⟩:=D6 h;refine Y8 c14 (x:=.sl true 1 3 (D3 [M8] [(0,cL 2 A0 (z1.1.take (wrap .i64 (x1+z1.2.2)).toNat)),(1,cL 2 A0 y6),(2,cL 2 A0 (q0.drop (wrap .i64 (x1+q2)).toNat))])) ?_;obtain⟨y7,e8,h⟩:=B9 h;refine Gq [] Pq (FunO.le Z (args:=[.p (.sl true 1 3 (D3 [M8] [(0,cL 2 A0 (z1.1.take (wrap .i64 (x1+z1.2.2)).toNat)),(1,cL 2 A0 y6),(2,cL 2 A0 (q0.drop (wrap .i64 (x1+q2)).toNat))]))]) (by exact⟨Qg rfl (fun i t=>match i,t with|0,_=>rfl|1,_=>rfl|2,_=>rfl|_+3,t=>Pm t (by omega)),trivial⟩) (O2 Z Y e8)) ?_;refine H3 Pq ?_;obtain⟨L5,rfl,m⟩:=Pc h;replace h:=m;refine Er Z Pq (ys:=(fun (x:Int×(Sl Sm))=>[pI .i64 x.1,vSl 2 A0 x.2]) (x1,y7)) (rest:=L5.map (fun (x:Int×(Sl Sm))=>[pI .i64 x.1,vSl 2 A0 x.2])) ?_ ?_
   .refine D4 Z Pq (b:=false) (fun c15=>?_) (fun c15=>?_)
    .exact Bool.noConfusion ((rfl:false=false).symm.trans c15)
    refine T4 Z Pq [(1,.l [2]),(4,.l [9000]),(5,.l [3]),(7,.l [2]),(9,.a [8000]),(10,.a [9000])] ?_;refine H3 Pq ?_;exact j _ [(0,0),(1,1),(2,2),(3,3),(4,4),(900,900),(6000,6000),(7000,7000),(8000,8000),(9000,9000)] _ (y7,wrap .i64 (x1+(if q2<1 then 1 else q2)),wrap .i64 ((wrap .i64 (z1.2.2+q3))-q2)) L5 Pq h
   refine D4 Z Pq (b:=true) (fun c16=>?_) (fun c16=>?_)
   .refine Se Z Pq ⟨[(8,.reg 9000 0),(7,.reg 8000 0),(6,.reg 7000 0),(5,.reg 6000 0),(4,.reg 3 0),(3,.reg 2 0),(2,.reg 1 0),(1,.reg 0 0)],[(44000,.vec B8 2 y7.n (fun i=>A0 (y7.g i)) true),(9000,.cells [pN z1.2.2]),(8000,.cells [pN z1.2.1]),(7000,.cells [.vec 44000]),(6000,.cells [.yf 4]),(4,.yld [] false),(3,.cells [pN q3]),(2,.cells [pN q2]),(1,.cells ((B5 q1).map .p)),(0,.cells [.p (vSl 2 A0 q0)])]⟩ (ids:=[(0,0),(1,1),(2,2),(3,3),(4,4),(900,900),(6000,6000),(7000,7000),(8000,8000),(9000,9000),(44000,44000)]) ?_;exact A9 Z Pq (a:=.tup []) (objs:=[(.cells [.p (vSl 2 A0 q0)]),.cells ((B5 q1).map .p),.cells [pN q2],.cells [pN q3],.yld [] false]) ⟨[],[(4,.yld [] false),(3,.cells [pN q3]),(2,.cells [pN q2]),(1,.cells ((B5 q1).map .p)),(0,.cells [.p (vSl 2 A0 q0)])]⟩ [0,1,2,3,4] (ids:=[(0,0),(1,1),(2,2),(3,3),(4,4)]) ⟨false,rfl,rfl,_,rfl⟩
   exact Bool.noConfusion (Rp.symm.trans c16)
  obtain rfl:=C4 h;exact A9 Z Pq (a:=.tup []) (objs:=[(.cells [.p (vSl 2 A0 q0)]),.cells ((B5 q1).map .p),.cells [pN q2],.cells [pN q3],.yld [] true]) ⟨[],[(4,.yld [] true),(3,.cells [pN q3]),(2,.cells [pN q2]),(1,.cells ((B5 q1).map .p)),(0,.cells [.p (vSl 2 A0 q0)])]⟩ [0,1,2,3,4] (ids:=[(0,0),(1,1),(2,2),(3,3),(4,4)]) ⟨true,rfl,rfl,_,rfl⟩
 apply kI Z h<;>intro h
 .refine Xs Z Pq h (fun x5 x6 L6=>⟨[(10,pN x6),(6,.reg 7000 0),(5,.reg 6000 0),(4,.reg 3 0),(3,.reg 2 0),(2,.reg 1 0)],[(7000,.cells [.p (vSl 2 A0 x5)]),(6000,.cells [.yf 4]),(4,.yld (L6.map (fun (x:Int×(Sl Sm))=>[pI .i64 x.1,vSl 2 A0 x.2])) true),(3,.cells [pN q3]),(2,.cells [pN q2]),(1,.cells ((B5 q1).map .p)),(0,.cells [.p (vSl 2 A0 q0)])]⟩) (ids:=[(0,0),(1,1),(2,2),(3,3),(4,4),(6000,6000),(7000,7000)]) (fun _ _ _ _ _ u x5 x6 L6 c h=>?_);apply kI Z h<;>intro h
  .refine kC Z h (Vp Z Y) (fun w h=>?_);apply kI Z h<;>intro h
   .exact c _ [(0,0),(1,1),(2,2),(3,3),(4,4),(6000,6000),(7000,7000)] _ x5 (wrap .i64 (x6+1)) L6 Pq h
   refine kC Z h (JU Z Y) (fun d h=>?_);obtain⟨L9,rfl,o⟩:=Pc h;replace h:=o;refine Er Z Pq (ys:=(fun (x:Int×(Sl Sm))=>[pI .i64 x.1,vSl 2 A0 x.2]) (x6,d)) (rest:=L9.map (fun (x:Int×(Sl Sm))=>[pI .i64 x.1,vSl 2 A0 x.2])) ?_ ?_
   .refine D4 Z Pq (b:=false) (fun c30=>?_) (fun c30=>?_)
    .exact Bool.noConfusion ((rfl:false=false).symm.trans c30)
    apply kI Z h<;>intro h
    .exact c _ [(0,0),(1,1),(2,2),(3,3),(4,4),(6000,6000),(7000,7000)] _ d (wrap .i64 ((wrap .i64 (x6+q3))+1)) L9 Pq h
    exact c _ [(0,0),(1,1),(2,2),(3,3),(4,4),(6000,6000),(7000,7000)] _ d (wrap .i64 (x6+q3)) L9 Pq h
   refine D4 Z Pq (b:=true) (fun c32=>?_) (fun c32=>?_)
   .exact A9 Z Pq (a:=.tup []) (objs:=[(.cells [.p (vSl 2 A0 q0)]),.cells ((B5 q1).map .p),.cells [pN q2],.cells [pN q3],.yld [] false]) ⟨[],[(4,.yld [] false),(3,.cells [pN q3]),(2,.cells [pN q2]),(1,.cells ((B5 q1).map .p)),(0,.cells [.p (vSl 2 A0 q0)])]⟩ [0,1,2,3,4] (ids:=[(0,0),(1,1),(2,2),(3,3),(4,4)]) ⟨false,rfl,rfl,_,rfl⟩
   exact Bool.noConfusion (Rp.symm.trans c32)
  obtain rfl:=C4 h;exact A9 Z Pq (a:=.tup []) (objs:=[(.cells [.p (vSl 2 A0 q0)]),.cells ((B5 q1).map .p),.cells [pN q2],.cells [pN q3],.yld [] true]) ⟨[],[(4,.yld [] true),(3,.cells [pN q3]),(2,.cells [pN q2]),(1,.cells ((B5 q1).map .p)),(0,.cells [.p (vSl 2 A0 q0)])]⟩ [0,1,2,3,4] (ids:=[(0,0),(1,1),(2,2),(3,3),(4,4)]) ⟨true,rfl,rfl,_,rfl⟩
 apply kI Z h<;>intro h
 .refine Xs Z Pq h (fun x7 x8 L10=>⟨[(11,pN x8),(6,.reg 7000 0),(5,.reg 6000 0),(3,.reg 2 0),(2,.reg 1 0)],[(7000,.cells [.p (vSl 2 A0 x7)]),(6000,.cells [.yf 4]),(4,.yld (L10.map (fun (x:Int×(Sl Sm))=>[pI .i64 x.1,vSl 2 A0 x.2])) true),(3,.cells [pN q3]),(2,.cells [pN q2]),(1,.cells ((B5 q1).map .p)),(0,.cells [.p (vSl 2 A0 q0)])]⟩) (ids:=[(0,0),(1,1),(2,2),(3,3),(4,4),(6000,6000),(7000,7000)]) (fun _ _ _ _ _ v x7 x8 L10 q h=>?_);apply kI Z h<;>intro h
  .refine kC Z h (Vp Z Y) (fun y h=>?_);apply kI Z h<;>intro h
   .exact q _ [(0,0),(1,1),(2,2),(3,3),(4,4),(6000,6000),(7000,7000)] _ x7 (wrap .i64 (x8-1)) L10 Pq h
   refine kC Z h (JU Z Y) (fun r h=>?_);obtain⟨L13,rfl,f⟩:=Pc h;replace h:=f;refine Er Z Pq (ys:=(fun (x:Int×(Sl Sm))=>[pI .i64 x.1,vSl 2 A0 x.2]) (x8,r)) (rest:=L13.map (fun (x:Int×(Sl Sm))=>[pI .i64 x.1,vSl 2 A0 x.2])) ?_ ?_
   .refine D4 Z Pq (b:=false) (fun c44=>?_) (fun c44=>?_)
    .exact Bool.noConfusion ((rfl:false=false).symm.trans c44)
    exact q _ [(0,0),(1,1),(2,2),(3,3),(4,4),(6000,6000),(7000,7000)] _ r (wrap .i64 (x8-(if q2<1 then 1 else q2))) L13 Pq h
   refine D4 Z Pq (b:=true) (fun c45=>?_) (fun c45=>?_)
   .exact A9 Z Pq (a:=.tup []) (objs:=[(.cells [.p (vSl 2 A0 q0)]),.cells ((B5 q1).map .p),.cells [pN q2],.cells [pN q3],.yld [] false]) ⟨[],[(4,.yld [] false),(3,.cells [pN q3]),(2,.cells [pN q2]),(1,.cells ((B5 q1).map .p)),(0,.cells [.p (vSl 2 A0 q0)])]⟩ [0,1,2,3,4] (ids:=[(0,0),(1,1),(2,2),(3,3),(4,4)]) ⟨false,rfl,rfl,_,rfl⟩
   exact Bool.noConfusion (Rp.symm.trans c45)
  obtain rfl:=C4 h;exact A9 Z Pq (a:=.tup []) (objs:=[(.cells [.p (vSl 2 A0 q0)]),.cells ((B5 q1).map .p),.cells [pN q2],.cells [pN q3],.yld [] true]) ⟨[],[(4,.yld [] true),(3,.cells [pN q3]),(2,.cells [pN q2]),(1,.cells ((B5 q1).map .p)),(0,.cells [.p (vSl 2 A0 q0)])]⟩ [0,1,2,3,4] (ids:=[(0,0),(1,1),(2,2),(3,3),(4,4)]) ⟨true,rfl,rfl,_,rfl⟩
 obtain rfl:=C4 h;exact A9 Z Pq (a:=.tup []) (objs:=[(.cells [.p (vSl 2 A0 q0)]),.cells ((B5 q1).map .p),.cells [pN q2],.cells [pN q3],.yld [] true]) ⟨[],[(4,.yld [] true),(3,.cells [pN q3]),(2,.cells [pN q2]),(1,.cells ((B5 q1).map .p)),(0,.cells [.p (vSl 2 A0 q0)])]⟩ [0,1,2,3,4] (ids:=[(0,0),(1,1),(2,2),(3,3),(4,4)]) ⟨true,rfl,rfl,_,rfl⟩
def JV (N:Nat)(a:Law)(b:Sl Sm):Option ((Sl Sm)×Law×Int×Int):= some (b,a,(a.If.n:Int),(a.Out.n:Int))
theorem Au1 {b:Law}{c:Sl Sm}{y:(Sl Sm)×Law×Int×Int}(h:JV N b c=some y) :FunO S Va [.p (.agg (B5 b)),.p (vSl 2 A0 c)] [] (.clo FC [] [.reg 0 0,.reg 1 0,.reg 2 0,.reg 3 0]) ([.cells [.p (vSl 2 A0 y.1)],.cells ((B5 y.2.1).map .p),.cells [pN y.2.2.1],.cells [pN y.2.2.2]]) []:=by unfold JV at h;refine A3 Z func175 ?_;refine T4 Z Pq [(1,.l [3000]),(2,.n),(4,.l [3000]),(5,.n),(6,.a [6000]),(7,.a [7000]),(8,.a [6000]),(9,.a [7000])] ?_;refine H3 Pq ?_;obtain rfl:=C4 h;exact A9 Z Pq ⟨[(4,.clo FC [] [.reg 4000 0,.reg 3000 0,.reg 6000 0,.reg 7000 0])],[(7000,.cells [pN (b.Out.n:Int)]),(6000,.cells [pN (b.If.n:Int)]),(4000,.cells [.p (vSl 2 A0 c)]),(3000,.cells ((B5 b).map .p))]⟩ [4000,3000,6000,7000] (ids:=[(3000,3000),(4000,4000),(6000,6000),(7000,7000)]) ⟨rfl,rfl,rfl⟩
def DL (N:Nat)(b:Law)(c:Sl Sm):Option ((Sl Int)×(Sl (Sl Sm))×Int):= (FH N b c).bind fun y1=>if (y1 != 0) then some (Sh,Sk,y1) else (JV N b c).bind fun y2=>(Cn N y2.1 y2.2.1 y2.2.2.1 y2.2.2.2).bind fun L1=>Q5 L1 (fun a (x1:Int×(Sl Sm)) (z1:(Sl Int)×(Sl (Sl Sm)))=>if (decide (32<(x1.2.n:Int))) then some (Sh,Sk,11) else if ((z1.1.n+(Sl.of [x1.1]:Sl Int).n)*8<=140737488355328/\z1.1.n+(Sl.of [x1.1]:Sl Int).n<=140737488355328)then if ((z1.2.n+(Sl.of [x1.2]:Sl (Sl Sm)).n)*24<=140737488355328/\z1.2.n+(Sl.of [x1.2]:Sl (Sl Sm)).n<=140737488355328)then a (z1.1.push x1.1,z1.2.push x1.2) else none else none) (fun (z1:(Sl Int)×(Sl (Sl Sm)))=>some (z1.1,z1.2,0)) (Sh,Sk)
theorem XX {b:Law}{d:Sl Sm}{y:(Sl Int)×(Sl (Sl Sm))×Int}(h:DL N b d=some y) :FunO S Ob [.p (.agg (B5 b)),.p (vSl 2 A0 d)] [] (.tup [.vec 0,.vec 1,pN y.2.2]) ([.vec C7 1 y.1.n (fun i=>cI .i64 (y.1.g i)) true,.vec B4 1 y.2.1.n (fun i=>cL 2 A0 (y.2.1.g i)) true]) []:=by
 unfold DL at h;refine A3 Z func167 ?_;refine G4 Z Pq 4 3000 (B5 b) ?_;obtain⟨y1,e1,h⟩:=B9 h;refine C6 Z [] Rj (XV Z Y e1) ?_;apply kI Z h<;>intro h
 .obtain rfl:=C4 h;exact A9 Z Pq ⟨[(6,.reg 7000 0),(5,.reg 6000 0),(4,.reg 5000 0)],[(7000,.cells [pN y1]),(6701,.vec B4 1 Sk.n (fun i=>cL 2 A0 (Sk.g i)) true),(6000,.cells [.vec 6701]),(5700,.vec C7 1 Sh.n (fun i=>cI .i64 (Sh.g i)) true),(5000,.cells [.vec 5700])]⟩ [5700,6701] (ids:=[(5000,5000),(6000,6000),(7000,7000)]) ⟨rfl,rfl,rfl⟩
 obtain⟨y2,e2,h⟩:=B9 h;refine C6 Z [] Rj (Au1 Z Y e2) ?_;obtain⟨L1,e3,h⟩:=B9 h;refine Fx Z Pq [21000,21001,21002,21003] [9,8,6,5,4] 901 (fun z1=>⟨[(9,.reg 10000 0),(8,.reg 9000 0),(6,.reg 7000 0),(5,.reg 6000 0),(4,.reg 5000 0)],[(10500,.vec B4 1 z1.2.n (fun i=>cL 2 A0 (z1.2.g i)) false),(10000,.cells [.vec 10500]),(9500,.vec C7 1 z1.1.n (fun i=>cI .i64 (z1.1.g i)) false),(9000,.cells [.vec 9500]),(7000,.cells [pN 0]),(6000,.cells [.p M8]),(5000,.cells [.p M8])]⟩) (idl:=[(5000,5000),(6000,6000),(7000,7000),(9000,9000),(10000,10000)]) h (XW Z Y e3) (fun _=>by kernel_rfl) (fun _=>by kernel_rfl) (fun _=>by kernel_rfl) (fun _=>by kernel_rfl) (fun x1 _ f z1 j h=>?_) (fun z1 h=>?_)
 .refine Jx Z Pq ?_;apply kI Z h<;>intro h
  .refine Se Z Pq ⟨[(9,.reg 10000 0),(8,.reg 9000 0),(6,.reg 7000 0),(5,.reg 6000 0),(4,.reg 5000 0)],[(10500,.vec B4 1 z1.2.n (fun i=>cL 2 A0 (z1.2.g i)) false),(10000,.cells [.vec 10500]),(9500,.vec C7 1 z1.1.n (fun i=>cI .i64 (z1.1.g i)) false),(9000,.cells [.vec 9500]),(7000,.cells [pN 11]),(6000,.cells [.p M8]),(5000,.cells [.p M8])]⟩ (ids:=[(901,901),(5000,5000),(6000,6000),(7000,7000),(9000,9000),(9500,9500),(10000,10000),(10500,10500)]) ?_;obtain rfl:=C4 h;exact A9 Z Pq ⟨[(6,.reg 7000 0),(5,.reg 6000 0),(4,.reg 5000 0)],[(7000,.cells [pN 11]),(6701,.vec B4 1 Sk.n (fun i=>cL 2 A0 (Sk.g i)) true),(6000,.cells [.vec 6701]),(5700,.vec C7 1 Sh.n (fun i=>cI .i64 (Sh.g i)) true),(5000,.cells [.vec 5700])]⟩ [5700,6701] (ids:=[(5000,5000),(6000,6000),(7000,7000)]) ⟨rfl,rfl,rfl⟩
  refine T4 Z Pq [(0,.l [9000]),(3,.a [30000,9500]),(4,.l [10000]),(7,.a [34000,10500]),(8,.a [9000]),(9,.a [10000])] ?_;refine Y8 Pq (x:=.sl true 1 1 (D3 [pI .i64 0] [(0,cI .i64 x1.1)])) ?_;obtain⟨c9,h⟩:=D6 h;refine Y8 c9 (x:=.sl true 1 1 (D3 [M8] [(0,cL 2 A0 x1.2)])) ?_;obtain⟨c10,h⟩:=D6 h;refine H3 c10 ?_;exact j _ [(901,901),(5000,5000),(6000,6000),(7000,7000),(9000,9000),(9500,30000),(10000,10000),(10500,34000)] _ (z1.1.push x1.1,z1.2.push x1.2) Pq h (hle:=klR [(0,.fn (z1.2.n+1) (z1.2.push x1.2).n (T2 z1.2.n (fun i=>cL 2 A0 (z1.2.g i)) (D3 [M8] [(0,cL 2 A0 x1.2)])) (fun i=>cL 2 A0 ((z1.2.push x1.2).g i))),(1,.fn (z1.1.n+1) (z1.1.push x1.1).n (T2 z1.1.n (fun i=>cI .i64 (z1.1.g i)) (D3 [pI .i64 0] [(0,cI .i64 x1.1)])) (fun i=>cI .i64 ((z1.1.push x1.1).g i)))] (al1 ⟨rfl,EA (c:=cL 2 A0) (v:=z1.2) (x:=x1.2) (z:=[M8]) same rfl rfl⟩ (al1 ⟨rfl,EA (c:=cI .i64) (v:=z1.1) (x:=x1.1) (z:=[(pI .i64 0)]) same rfl rfl⟩ al0)))
 refine T4 Z Pq [(0,.l [9000]),(1,.l [10000]),(2,.a [5000]),(3,.a [6000]),(4,.a [7000])] ?_;refine H3 Pq ?_;obtain rfl:=C4 h;exact A9 Z Pq ⟨[(6,.reg 7000 0),(5,.reg 6000 0),(4,.reg 5000 0)],[(10500,.vec B4 1 z1.2.n (fun i=>cL 2 A0 (z1.2.g i)) true),(9500,.vec C7 1 z1.1.n (fun i=>cI .i64 (z1.1.g i)) true),(7000,.cells [pN 0]),(6000,.cells [.vec 10500]),(5000,.cells [.vec 9500])]⟩ [9500,10500] (ids:=[(5000,5000),(6000,6000),(7000,7000),(9500,9500),(10500,10500)]) ⟨rfl,rfl,rfl⟩
def T0 (N:Nat)(b:Law)(a:Sl Sm):Option ((Sl Sm)×Int):= (DL N b a).bind fun y1=>if (y1.2.2 != 0) then some (Si,y1.2.2) else if (decide (0<(y1.2.1.n:Int))) then if (((0:Int)<=(wrap .i64 ((y1.2.1.n:Int)-1))/\(wrap .i64 ((y1.2.1.n:Int)-1))<(y1.2.1.n:Int))/\(wrap .i64 ((y1.2.1.n:Int)-1)).toNat<y1.2.1.n)then some (y1.2.1.g (wrap .i64 ((y1.2.1.n:Int)-1)).toNat,0) else none else (B7 N a).bind fun y2=>some (y2,0)
theorem XY {a:Law}{b:Sl Sm}{y:(Sl Sm)×Int}(h:T0 N a b=some y) :FunO S Oa [.p (.agg (B5 a)),.p (vSl 2 A0 b)] [] (.tup [.p (vSl 2 A0 y.1),pN y.2]) ([]) []:=by
 unfold T0 at h;refine A3 Z func158 ?_;refine kC Z h (XX Z Y) (fun y1 h=>?_);apply kI Z h<;>intro h
 .obtain rfl:=C4 h;exact A9 Z Pq ⟨[(5,pN y1.2.2),(4,.p (vSl 2 A0 Si))],[]⟩ [] (ids:=[]) ⟨rfl,rfl,rfl⟩
 apply kI Z h<;>intro h
 .obtain⟨c3,h⟩:=D6 h;obtain rfl:=C4 h;exact Am4 Z c3 [] ⟨rfl,rfl,rfl⟩
 refine kC Z h (O8 Z Y) (fun y2 h=>?_);obtain rfl:=C4 h;exact A9 Z Pq ⟨[(5,pN 0),(4,.p (vSl 2 A0 y2))],[]⟩ [] (ids:=[]) ⟨rfl,rfl,rfl⟩
end Go.AM
namespace Go.AM
open Go.Proofs.Tryz
variable {N:Nat}
open IntKind (wrap)
open Go.Proofs
set_option maxRecDepth 10000
set_option maxHeartbeats 2000000
variable {S:U3}(Z:H2 S Tryz.prog) (Y:Ij S)
include Z Y
def R4 (N:Nat)(a:Law):Option Bool:= (Z6 N a).bind fun y1=>some (y1 != 0)
theorem LZ {a:Law}{y:Bool}(h:R4 N a=some y) :FunO S Gd [.p (.agg (B5 a))] [] (pB y) ([]) []:=by unfold R4 at h;refine A3 Z func143 ?_;refine kC Z h (IG Z Y) (fun y1 h=>?_);cases h;exact kR Z
def F8 (N:Nat)(a:Sl Law)(c:Law->Option Bool):Option Int:= Q7 N (fun b (x1:Int)=>if (decide (x1<(a.n:Int))) then if ((0:Int)<=x1/\x1<(a.n:Int))then (c (a.g x1.toNat)).bind fun y3=>if y3 then some x1 else b (wrap .i64 (x1+1)) else none else some (-1)) 0
theorem AJ {a:Sl Law}{c:Law->Option Bool}{kp_f:Nat}(d:∀{a0:Law}{b:Bool},c a0=some b->FunO S kp_f [.p (.agg (B5 a0))] [] (pB b) [] []){y:Int}(h:F8 N a c=some y) :FunO S O7 [.p (vSl 18 B5 a),.clo kp_f [] []] [] (pN y) ([]) []:=by
 unfold F8 at h;refine A3 Z func156 ?_;refine H0 Z Pq h (fun x1=>⟨[(8,pN x1),(7,pN (a.n:Int)),(1,.clo kp_f [] []),(0,.p (vSl 18 B5 a))],[]⟩) (ids:=[]) (fun _ _ _ _ _ f x1 g h=>?_);apply kI Z h<;>intro h
 .obtain⟨c8,h⟩:=D6 h;obtain⟨y3,e3,h⟩:=B9 h;refine C6 Z [] (And.intro c8 Rj) (d e3) ?_;apply kI Z h<;>intro h
  .cases h;exact kR Z
  exact g _ [] _ (wrap .i64 (x1+1)) Pq h
 cases h;exact kR Z
def E1 (N:Nat)(a:Sl Law)(b:Law->Option Bool):Option Bool:= (F8 N a b).bind fun y1=>some (decide (0<=y1))
theorem X9 {a:Sl Law}{c:Law->Option Bool}{kp_f:Nat}(d:∀{a0:Law}{b:Bool},c a0=some b->FunO S kp_f [.p (.agg (B5 a0))] [] (pB b) [] []){y:Bool}(h:E1 N a c=some y) :FunO S N3 [.p (vSl 18 B5 a),.clo kp_f [] []] [] (pB y) ([]) []:=by unfold E1 at h;refine A3 Z func142 ?_;refine kC Z h (AJ Z Y (fun e=>d e)) (fun y1 h=>?_);cases h;exact kR Z
def W8 (N:Nat)(a:Sl Law):Option Int:= if (decide (64<(a.n:Int))) then some 12 else (E1 N a (fun (u1:Law)=>R4 N u1)).bind fun y1=>if y1 then some 17 else some 0
theorem Pz {a:Sl Law}{y:Int}(h:W8 N a=some y) :FunO S HY [.p (vSl 18 B5 a)] [] (pN y) ([]) []:=by
 unfold W8 at h;refine A3 Z func122 ?_;apply kI Z h<;>intro h
 .cases h;exact kR Z
 refine kC Z h (X9 Z Y (fun e=>LZ Z Y e)) (fun y1 h=>?_);apply kI Z h<;>intro h
 .cases h;exact kR Z
 cases h;exact kR Z
def Bb (N:Nat)(b:Sl Law)(a:Sl (Sl Sm)):Option Int:= (W8 N b).bind fun y1=>if (y1 != 0) then some y1 else if (decide (256<(a.n:Int))) then some 12 else Q7 N (fun c (x1:Int)=>if (decide (x1<(a.n:Int))) then if ((0:Int)<=x1/\x1<(a.n:Int))then (P4 N (a.g x1.toNat)).bind fun y4=>if (y4 != 0) then some y4 else c (wrap .i64 (x1+1)) else none else some 0) 0
theorem PA {b:Sl Law}{a:Sl (Sl Sm)}{y:Int}(h:Bb N b a=some y) :FunO S HX [.p (vSl 18 B5 b),.p (vSl 1 (cL 2 A0) a)] [] (pN y) ([]) []:=by
 unfold Bb at h;refine A3 Z func99 ?_;refine kC Z h (Pz Z Y) (fun y1 h=>?_);apply kI Z h<;>intro h
 .cases h;exact kR Z
 apply kI Z h<;>intro h
 .cases h;exact kR Z
 refine H0 Z Pq h (fun x1=>⟨[(19,pN x1),(18,pN (a.n:Int)),(17,.p (vSl 1 (cL 2 A0) a))],[]⟩) (ids:=[]) (fun _ _ _ _ _ c x1 d h=>?_);apply kI Z h<;>intro h
 .obtain⟨c10,h⟩:=D6 h;obtain⟨y4,e4,h⟩:=B9 h;refine C6 Z [] c10 (Ee Z Y e4) ?_;apply kI Z h<;>intro h
  .cases h;exact kR Z
  exact d _ [] _ (wrap .i64 (x1+1)) Pq h
 cases h;exact kR Z
end Go.AM
namespace Go.AM
open Go.Proofs.Tryz
variable {N:Nat}
open IntKind (wrap)
open Go.Proofs
set_option maxRecDepth 10000
set_option maxHeartbeats 2000000
variable {S:U3}(Z:H2 S Tryz.prog) (Y:Ij S)
include Z Y
def AI2 (c:Int):Option PV:=if c=0 then none else some (.iface 181 (pI .i64 c))
def W0 (N:Nat)(c:Int)(q0:Sl Sm)(q1:Sl Law):Option (List (Int×(Sl Sm))):= (B7 N q0).bind fun y1=>Az (0,y1) (S0 N (fun a (x1:Sl Sm) (x2:Int)=>if (decide (x2<(q1.n:Int))) then if ((0:Int)<=x2/\x2<(q1.n:Int))then (T0 N (q1.g x2.toNat) x1).bind fun y4=>if (y4.2 != 0) then if y4.2=c then some []else none else Az (wrap .i64 (x2+1),y4.1) (a y4.1 (wrap .i64 (x2+1))) else none else if c=0 then some []else none) y1 0)
theorem Gf {q0:Sl Sm}{q1:Sl Law}{c:Int}{L:List (Int×(Sl Sm))}(h:W0 N c q0 q1=some L) :NK S Q8 [] [.reg 0 0,.reg 1 0] [.cells [.p (vSl 2 A0 q0)],.cells [.p (vSl 18 B5 q1)]] (L.map (fun (x:Int×(Sl Sm))=>[pI .i64 x.1,vSl 2 A0 x.2])) (AI2 c):=by
 unfold W0 at h;refine As6 Z func157 ?_;refine kC Z h (O8 Z Y) (fun y1 h=>?_);obtain⟨L1,rfl,d⟩:=Pc h;replace h:=d;refine Er Z Pq (ys:=(fun (x:Int×(Sl Sm))=>[pI .i64 x.1,vSl 2 A0 x.2]) (0,y1)) (rest:=L1.map (fun (x:Int×(Sl Sm))=>[pI .i64 x.1,vSl 2 A0 x.2])) ?_ ?_
 .refine D4 Z Pq (b:=false) (fun c1=>?_) (fun c1=>?_)
  .exact Bool.noConfusion ((rfl:false=false).symm.trans c1)
  refine Xs Z Pq h (fun x1 x2 L2=>⟨[(17,pN x2),(16,pN (q1.n:Int)),(15,.p (vSl 18 B5 q1)),(4,.p (vSl 2 A0 x1)),(0,.yf 2)],[(2,.yld (L2.map (fun (x:Int×(Sl Sm))=>[pI .i64 x.1,vSl 2 A0 x.2])) true),(1,.cells [.p (vSl 18 B5 q1)]),(0,.cells [.p (vSl 2 A0 q0)])]⟩) (ids:=[(0,0),(1,1),(2,2)]) (fun _ _ _ _ _ g x1 x2 L2 i h=>?_);apply kI Z h<;>intro h
  .obtain⟨c13,h⟩:=D6 h;obtain⟨y4,e4,h⟩:=B9 h;refine C6 Z [] (And.intro c13 Rj) (XY Z Y e4) ?_;refine D4 Z Pq (b:=y4.2 != 0) (fun c14=>?_) (fun c14=>?_)
   .replace h:=itT c14 h;obtain⟨c0,h⟩:=D6 h;obtain rfl:=C4 h;have j:AI2 c=some (.iface 181 (pI .i64 y4.2)):=by
     have:¬y4.2=0:=by simpa using c14
     rw[<- c0];simp[AI2,this]
    refine AV7 Z Pq (x:=.iface 181 (pI .i64 y4.2)) ?_;exact AO0 Z Pq (x:=.iface 181 (pI .i64 y4.2)) (objs:=[(.cells [.p (vSl 2 A0 q0)]),.cells [.p (vSl 18 B5 q1)],.yld [] true]) [0,1,2] ⟨true,rfl,rfl,fun _=>by rw[j];rfl,fun e=>nomatch e⟩
   replace h:=itF c14 h;obtain⟨L5,rfl,f⟩:=Pc h;replace h:=f;refine Er Z Pq (ys:=(fun (x:Int×(Sl Sm))=>[pI .i64 x.1,vSl 2 A0 x.2]) (wrap .i64 (x2+1),y4.1)) (rest:=L5.map (fun (x:Int×(Sl Sm))=>[pI .i64 x.1,vSl 2 A0 x.2])) ?_ ?_
   .refine D4 Z Pq (b:=false) (fun c15=>?_) (fun c15=>?_)
    .exact Bool.noConfusion ((rfl:false=false).symm.trans c15)
    exact i _ [(0,0),(1,1),(2,2)] _ y4.1 (wrap .i64 (x2+1)) L5 Pq h
   refine D4 Z Pq (b:=true) (fun c16=>?_) (fun c16=>?_)
   .exact A9 Z Pq (a:=.tup []) (objs:=[(.cells [.p (vSl 2 A0 q0)]),.cells [.p (vSl 18 B5 q1)],.yld [] false]) ⟨[],[(2,.yld [] false),(1,.cells [.p (vSl 18 B5 q1)]),(0,.cells [.p (vSl 2 A0 q0)])]⟩ [0,1,2] (ids:=[(0,0),(1,1),(2,2)]) ⟨false,rfl,rfl,fun e=>(nomatch e),fun _=>⟨_,rfl⟩⟩
   exact Bool.noConfusion (Rp.symm.trans c16)
  obtain⟨c0,h⟩:=D6 h;obtain rfl:=C4 h;exact A9 Z Pq (a:=.tup []) (objs:=[(.cells [.p (vSl 2 A0 q0)]),.cells [.p (vSl 18 B5 q1)],.yld [] true]) ⟨[],[(2,.yld [] true),(1,.cells [.p (vSl 18 B5 q1)]),(0,.cells [.p (vSl 2 A0 q0)])]⟩ [0,1,2] (ids:=[(0,0),(1,1),(2,2)]) ⟨true,rfl,rfl,fun _=>by subst c0;exact⟨_,rfl⟩,fun e=>(nomatch e)⟩
 refine D4 Z Pq (b:=true) (fun c17=>?_) (fun c17=>?_)
 .exact A9 Z Pq (a:=.tup []) (objs:=[(.cells [.p (vSl 2 A0 q0)]),.cells [.p (vSl 18 B5 q1)],.yld [] false]) ⟨[],[(2,.yld [] false),(1,.cells [.p (vSl 18 B5 q1)]),(0,.cells [.p (vSl 2 A0 q0)])]⟩ [0,1,2] (ids:=[(0,0),(1,1),(2,2)]) ⟨false,rfl,rfl,fun e=>(nomatch e),fun _=>⟨_,rfl⟩⟩
 exact Bool.noConfusion (Rp.symm.trans c17)
def Bc (N:Nat)(a:Sl Law)(b:Sl Sm):Option ((Sl Sm)×(Sl Law)):= some (b,a)
theorem Ie {a:Sl Law}{b:Sl Sm}{y:(Sl Sm)×(Sl Law)}(h:Bc N a b=some y) :FunO S Ia [.p (vSl 18 B5 a),.p (vSl 2 A0 b)] [] (.clo Q8 [] [.reg 0 0,.reg 1 0]) ([.cells [.p (vSl 2 A0 y.1)],.cells [.p (vSl 18 B5 y.2)]]) []:=by unfold Bc at h;refine A3 Z func144 ?_;obtain rfl:=C4 h;exact A9 Z Pq ⟨[(4,.clo Q8 [] [.reg 4000 0,.reg 3000 0])],[(4000,.cells [.p (vSl 2 A0 b)]),(3000,.cells [.p (vSl 18 B5 a)])]⟩ [4000,3000] (ids:=[(3000,3000),(4000,4000)]) ⟨rfl,rfl,rfl⟩
def D5 (N:Nat)(c:Int)(a:Sl Law)(d:Sl Sm):Option (Sl Sm):= (Bc N a d).bind fun y1=>(W0 N c y1.1 y1.2).bind fun L1=>Q5 L1 (fun b (x1:Int×(Sl Sm)) (z1:Sl Sm)=>b x1.2) (fun (z1:Sl Sm)=>some z1) Si
theorem KO {a:Sl Law}{b:Sl Sm}{y:Sl Sm}(h:D5 N 0 a b=some y) :FunO S I9 [.p (vSl 18 B5 a),.p (vSl 2 A0 b)] [] (.p (vSl 2 A0 y)) ([]) []:=by
 unfold D5 at h;refine A3 Z func125 ?_;refine kC Z h (Ie Z Y) (fun y1 h=>?_);obtain⟨L1,e2,h⟩:=B9 h;have f:NK S Q8 [] [.reg 0 0,.reg 1 0] [.cells [.p (vSl 2 A0 y1.1)],.cells [.p (vSl 18 B5 y1.2)]] (L1.map (fun (x:Int×(Sl Sm))=>[pI .i64 x.1,vSl 2 A0 x.2])) none:=Gf Z Y e2;refine ZA Z Pq [8000,8001] [4] 901 (fun z1=>⟨[(4,.reg 5000 0)],[(5000,.cells [.p (vSl 2 A0 z1)])]⟩) (idl:=[(5000,5000)]) h f (fun _=>by kernel_rfl) (fun _=>by kernel_rfl) (fun _=>by kernel_rfl) (fun _=>by kernel_rfl) (fun x1 _ c z1 d h=>?_) (fun z1 h=>?_)
 .refine Jx Z Pq ?_;exact d _ [(901,901),(5000,5000)] _ x1.2 Pq h
 cases h;exact kR Z
theorem KP {c:Int}{a:Sl Law}{b:Sl Sm}{y:Sl Sm}(hc:c≠0)(h:D5 N c a b=some y) :S.F I9 [.p (vSl 18 B5 a),.p (vSl 2 A0 b)] [] fun res o k=>res=.panic (.iface 181 (pI .i64 c))/\o=[]/\k=[]:=by
 unfold D5 at h;refine AH6 Z func125 ?_;refine kC Z h (Ie Z Y) (fun y1 h=>?_);obtain⟨L1,e2,h⟩:=B9 h;have g:NK S Q8 [] [.reg 0 0,.reg 1 0] [.cells [.p (vSl 2 A0 y1.1)],.cells [.p (vSl 18 B5 y1.2)]] (L1.map (fun (x:Int×(Sl Sm))=>[pI .i64 x.1,vSl 2 A0 x.2])) (some (.iface 181 (pI .i64 c))):=by
  have:=Gf Z Y e2
  simpa[AI2,hc]using this
 refine ZA Z Pq [8000,8001] [4] 901 (fun z1=>⟨[(4,.reg 5000 0)],[(5000,.cells [.p (vSl 2 A0 z1)])]⟩) (idl:=[(5000,5000)]) h g (fun _=>by kernel_rfl) (fun _=>by kernel_rfl) (fun _=>by kernel_rfl) (fun _=>by kernel_rfl) (fun x1 _ d z1 f h=>?_) (fun z1 h=>?_)
 .refine Jx Z Pq ?_;exact f _ [(901,901),(5000,5000)] _ x1.2 Pq h
 exact AO0 Z Pq (x:=.iface 181 (pI .i64 c)) (objs:=[]) [] ⟨rfl,rfl,rfl⟩
def G6 (N:Nat)(a:Sl Law)(b:Sl Sm):Option ((Sl Sm)×Bool):=
 match D5 N 0 a b with
 |some y=>some (y,true)
 |none=>(D5 N 11 a b).bind fun _=>some (Si,false)
theorem Ma {b:Sl Law}{c:Sl Sm}{y:(Sl Sm)×Bool}(h:G6 N b c=some y) :FunO S Gb [.p (vSl 18 B5 b),.p (vSl 2 A0 c)] [] (.tup [.p (vSl 2 A0 y.1),pB y.2]) ([]) []:=by
 unfold G6 at h;refine A3 Z func100 ?_;rcases e:D5 N 0 b c with _|z
 .rw[e]at h;obtain⟨z,e1,h⟩:=B9 h;obtain rfl:=C4 h;refine C6 Z [7000,3000,4000,5000] Pq (Y.attP (KP Z Y (by decide) e1)) ?_;refine T4 Z Pq [(0,.l [5000]),(1,.l [7000]),(3,.a [5000])] ?_;refine H3 Pq ?_;exact A9 Z Pq ⟨[(5,pB false),(4,.reg 5000 0)],[(5000,.cells [.p (vSl 2 A0 Sl.nil)])]⟩ [] (ids:=[(5000,5000)]) ⟨rfl,rfl,rfl⟩
 rw[e]at h;obtain rfl:=C4 h;refine C6 Z [7000,3000,4000,5000] Pq (Y.attR (KO Z Y e)) ?_;refine T4 Z Pq [(0,.l [5000]),(1,.l [7000]),(3,.a [5000])] ?_;refine H3 Pq ?_;exact A9 Z Pq ⟨[(5,pB true),(4,.reg 5000 0)],[(5000,.cells [.p (vSl 2 A0 z)])]⟩ [] (ids:=[(5000,5000)]) ⟨rfl,rfl,rfl⟩
end Go.AM
namespace Go.AM
open Go.Proofs
set_option maxRecDepth 10000
set_option maxHeartbeats 2000000
variable {S:U3}(Z:H2 S Tryz.prog) (Y:Ij S)
include Z Y
def K3 (N:Nat)(a:Sl Law)(b:Sl Sm):Option ((Sl Sm)×Int):= (Bb N a (Sl.of [b]:Sl (Sl Sm))).bind fun y1=>if (y1 != 0) then some (Si,y1) else (G6 N a b).bind fun y2=>if (!y2.2) then some (Si,11) else some (y2.1,0)
theorem Ov {N:Nat}{a:Sl Law}{b:Sl Sm}{y:(Sl Sm)×Int}(h:K3 N a b=some y) :FunO S GH [.p (vSl 18 B5 a),.p (vSl 2 A0 b)] [] (.tup [.p (vSl 2 A0 y.1),pN y.2]) ([]) []:=by
 unfold K3 at h;refine A3 Z Tryz.func72 ?_;refine Bz Z Rp ⟨[(11,.vec 12000),(9,.p (vSl 18 B5 a)),(1,.p (vSl 2 A0 b)),(0,.p (vSl 18 B5 a))],[(12000,.vec B4 1 (Sl.of [b]:Sl (Sl Sm)).n (fun i=>cL 2 A0 ((Sl.of [b]:Sl (Sl Sm)).g i)) false)]⟩ (ids:=[(12000,12000)]) ?_ (hle:=klR [(3,.fn 1 (Sl.of [b]:Sl (Sl Sm)).n (D3 [M8] [(0,cL 2 A0 b)]) (fun i=>cL 2 A0 ((Sl.of [b]:Sl (Sl Sm)).g i)))] (al1 ⟨rfl,(fun i c=>match i,c with|0,_=>rfl|_+1,c=>Pm c (by omega))⟩ al0));refine kC Z h (PA Z Y) (fun y1 h=>?_);apply kI Z h<;>intro h
 .obtain rfl:=C4 h;exact A9 Z Pq ⟨[(5,pN y1),(4,.p (vSl 2 A0 Si))],[]⟩ [] (ids:=[]) ⟨rfl,rfl,rfl⟩
 refine kC Z h (Ma Z Y) (fun y2 h=>?_);apply kI Z h<;>intro h
 .obtain rfl:=C4 h;exact A9 Z Pq ⟨[(5,pN 11),(4,.p (vSl 2 A0 Si))],[]⟩ [] (ids:=[]) ⟨rfl,rfl,rfl⟩
 cases h;exact kR Z
end Go.AM
namespace Go.AM
open Go.Proofs.Tryz
variable {N:Nat}
open IntKind (wrap)
open Go.Proofs
set_option maxRecDepth 10000
set_option maxHeartbeats 2000000
variable {S:U3}(Z:H2 S Tryz.prog) (Y:Ij S)
include Z Y
def Gs (N:Nat)(a:Int):Option Bool:= some (((((decide (97<=a))&&(decide (a<=122)))||((decide (65<=a))&&(decide (a<=90))))||((decide (48<=a))&&(decide (a<=57))))||(a==45))
def Ca (N:Nat)(a:Str):Option Bool:= Q7 N (fun b (x1:Int)=>if (decide (x1<(a.length:Int))) then if ((0:Int)<=x1/\x1<(a.length:Int))then (Gs N (Aw a x1)).bind fun y3=>if (!y3) then some false else b (wrap .i64 (x1+1)) else none else some ((decide (1<=(a.length:Int)))&&(decide ((a.length:Int)<=24)))) 0
def Y5 (N:Nat)(a:Sl J4):Option Int:= if ((decide ((a.n:Int)<1))=false->((decide (63<(a.n:Int)))=false->((0:Int)<=0/\0<(a.n:Int))))then if (((decide ((a.n:Int)<1))||(decide (63<(a.n:Int))))||((a.g 0).Parent != (-1))) then some 16 else Q7 N (fun b (x3:Int)=>if (decide (x3<(a.n:Int))) then lt (fun (z3:Bool)=>if z3 then some 16 else Q7 N (fun c (x7:Int)=>if (decide (x7<x3)) then if (((0:Int)<=x7/\x7<(a.n:Int))/\((0:Int)<=x3/\x3<(a.n:Int)))then if (((a.g x7.toNat).Name==(a.g x3.toNat).Name) != false) then some 16 else c (wrap .i64 (x7+1)) else none else b (wrap .i64 (x3+1))) 0) fun k3=>if (decide (0<x3)) then if ((0:Int)<=x3/\x3<(a.n:Int))then if (decide ((a.g x3.toNat).Parent<0)) then k3 true else if ((0:Int)<=x3/\x3<(a.n:Int))then if (decide (x3<=(a.g x3.toNat).Parent)) then k3 true else if ((0:Int)<=x3/\x3<(a.n:Int))then (Ca N (a.g x3.toNat).Name).bind fun d=>k3 (!d) else none else none else none else if ((0:Int)<=x3/\x3<(a.n:Int))then (Ca N (a.g x3.toNat).Name).bind fun f=>k3 (!f) else none else some 0) 0 else none
def Y6 (rec:A6->Int->Option (Sl Int))(N:Nat)(b:A6)(a:Int):Option (Sl Int):= if (decide (a<0)) then some Sh else if ((0:Int)<=a/\a<(b.Tree.n:Int))then (rec b (b.Tree.g a.toNat).Parent).bind fun y1=>if (((0:Int)<=a/\a<(b.On.n:Int))/\((y1.n+(b.On.g a.toNat).n)*8<=140737488355328/\y1.n+(b.On.g a.toNat).n<=140737488355328))then some (y1.app (b.On.g a.toNat)) else none else none
def Cb:Nat->A6->Int->Option (Sl Int)
 |0=>fun _ _=>none
 |N+1=>Y6 (Cb N) N
def Cc (N:Nat)(a:A6):Option Int:= (Y5 N a.Tree).bind fun y1=>if (y1 != 0) then some 16 else if (decide (64<(a.Laws.n:Int))) then some 12 else Q7 N (fun d (x1:Int)=>if (decide (x1<(a.Laws.n:Int))) then if ((0:Int)<=x1/\x1<(a.Laws.n:Int))then (Y4 N (a.Laws.g x1.toNat)).bind fun y4=>if (y4 != 0) then some 17 else d (wrap .i64 (x1+1)) else none else Q7 N (fun f (x3:Int)=>if (decide (x3<(a.Laws.n:Int))) then Q7 N (fun i (x5:Int)=>if (decide (x5<x3)) then if (((0:Int)<=x3/\x3<(a.Laws.n:Int))/\((0:Int)<=x5/\x5<(a.Laws.n:Int)))then if (((a.Laws.g x3.toNat).Name==(a.Laws.g x5.toNat).Name) != false) then some 6 else i (wrap .i64 (x5+1)) else none else f (wrap .i64 (x3+1))) 0 else if ((a.On.n:Int) != (a.Tree.n:Int)) then some 2 else Q7 N (fun j (x6:Int)=>if (decide (x6<(a.On.n:Int))) then (Cb N a x6).bind fun y7=>if (decide (64<(y7.n:Int))) then some 2 else j (wrap .i64 (x6+1)) else Q7 N (fun l (x8:Int)=>if (decide (x8<(a.On.n:Int))) then Q7 N (fun c (b:Int)=>if ((0:Int)<=x8/\x8<(a.On.n:Int))then if (decide (b<((a.On.g x8.toNat).n:Int))) then if (((0:Int)<=x8/\x8<(a.On.n:Int))/\((0:Int)<=b/\b<((a.On.g x8.toNat).n:Int)))then if (decide (((a.On.g x8.toNat).g b.toNat)<0)) then some 3 else if (((0:Int)<=x8/\x8<(a.On.n:Int))/\((0:Int)<=b/\b<((a.On.g x8.toNat).n:Int)))then if (decide ((a.Laws.n:Int)<=((a.On.g x8.toNat).g b.toNat))) then some 3 else c (wrap .i64 (b+1)) else none else none else l (wrap .i64 (x8+1)) else none) 0 else some 0) 0) 0) 0) 0
def FI (N:Nat)(a:Int):Option Bool:= some (((((decide (97<=a))&&(decide (a<=122)))||((decide (65<=a))&&(decide (a<=90))))||((decide (48<=a))&&(decide (a<=57))))||(a==45))
theorem SN {b:Int}{y:Bool}(h:FI N b=some y) :FunO S JK [.p (pI .u8 b)] [] (pB y) ([]) []:=by unfold FI at h;refine A3 Z func121 ?_;refine kB Z (A5 Z) Pq Pq 23 (.o (.o (.o (.n (.a (decide (97<=b))) (.a (decide (b<=122)))) (.n (.a (decide (65<=b))) (.a (decide (b<=90))))) (.n (.a (decide (48<=b))) (.a (decide (b<=57))))) (.a (b==45))) ?_;cases h;exact kR Z
def CC (N:Nat)(a:Str):Option Bool:= Q7 N (fun b (x1:Int)=>if (decide (x1<(a.length:Int))) then if ((0:Int)<=x1/\x1<(a.length:Int))then (FI N (Aw a x1)).bind fun y3=>if (!y3) then some false else b (wrap .i64 (x1+1)) else none else some ((decide (0<(a.length:Int)))&&(decide ((a.length:Int)<=24)))) 0
theorem Vq {b:Str}{y:Bool}(h:CC N b=some y) :FunO S LC [.p (.str b)] [] (pB y) ([]) []:=by
 unfold CC at h;refine A3 Z func96 ?_;refine H0 Z Pq h (fun x1=>⟨[(6,pN x1),(5,pN (b.length:Int)),(0,.p (.str b))],[]⟩) (ids:=[]) (fun _ _ _ _ _ c x1 d h=>?_);apply kI Z h<;>intro h
 .obtain⟨c8,h⟩:=D6 h;obtain⟨y3,e3,h⟩:=B9 h;refine C6 Z [] c8 (SN Z Y e3) ?_;apply kI Z h<;>intro h
  .cases h;exact kR Z
  exact d _ [] _ (wrap .i64 (x1+1)) Pq h
 refine kB Z (A5 Z) Pq Pq 4 (.n (.a (decide (0<(b.length:Int)))) (.a (decide ((b.length:Int)<=24)))) ?_;cases h;exact kR Z
def S4 (N:Nat)(a:Sl J4):Option Int:= if (((a.n:Int)==0)||(decide (63<(a.n:Int)))) then some 16 else S0 N (fun b (x2:List (Str×Bool)) (x3:Int)=>if (decide (x3<(a.n:Int))) then if ((0:Int)<=x3/\x3<(a.n:Int))then lt (fun (z3:Bool)=>if z3 then some 16 else b (HF eqS (a.g x3.toNat).Name true x2) (wrap .i64 (x3+1))) fun k3=>if (decide (x3<=(a.g x3.toNat).Parent)) then k3 true else if (decide ((a.g x3.toNat).Parent<(if 0<(wrap .i64 (x3-1))then 0 else (wrap .i64 (x3-1))))) then k3 true else (CC N (a.g x3.toNat).Name).bind fun y6=>if (!y6) then k3 true else AN3 (X1 eqS (a.g x3.toNat).Name x2) (k3 false) fun v6=>k3 v6 else none else some 0) [] 0
theorem Ei {c:Sl J4}{y:Int}(h:S4 N c=some y) :FunO S Lz [.p (vSl 2 G5 c)] [] (pN y) ([]) []:=by
 unfold S4 at h;refine A3 Z func65 ?_;refine kB Z (A5 Z) Pq Pq 4 (.o (.a ((c.n:Int)==0)) (.a (decide (63<(c.n:Int))))) ?_;apply kI Z h<;>intro h
 .cases h;exact kR Z
 refine G9 Z Pq h (fun x2 x3=>⟨[(17,pN x3),(16,pN (c.n:Int)),(15,.p (vSl 2 G5 c)),(3,.mref 15000)],[(15000,.map (Ju PV.str PV.bb x2))]⟩) (ids:=[(15000,15000)]) (fun _ _ _ _ _ f x2 x3 i h=>?_);apply kI Z h<;>intro h
 .obtain⟨c25,h⟩:=D6 h;refine EC Z (And.intro c25 Q6) (A5 Z) h 0 (fun z3=>⟨[(45,pB z3),(17,pN x3),(16,pN (c.n:Int)),(15,.p (vSl 2 G5 c)),(5,.reg 6000 0),(3,.mref 15000)],[(15000,.map (Ju PV.str PV.bb x2)),(6000,.cells [pN (c.g x3.toNat).Parent,.p (.str (c.g x3.toNat).Name)])]⟩) (fun M3 k3 d h=>?_) (fun z3 h=>?_)
  .refine kG Z h (fun h=>?_) (fun h=>?_)
   .exact d _ [(6000,6000),(15000,15000)] _ true Pq h
   refine kG Z h (fun h=>?_) (fun h=>?_)
   .exact d _ [(6000,6000),(15000,15000)] _ true Pq h
   refine kC Z h (Vq Z Y) (fun y6 h=>?_);refine kG Z h (fun h=>?_) (fun h=>?_)
   .exact d _ [(6000,6000),(15000,15000)] _ true Pq h
   rcases o6:X1 eqS (c.g x3.toNat).Name x2 with _|v6
   .replace h:=Bl5 o6 h;refine Hr Z Pq (kt:=Ct) (e:=ZC) (key:=PV.str (c.g x3.toNat).Name) (es:=Ju PV.str PV.bb x2) (x:=.v (.bool false)) (b:=false) (fd:=none) ((BI (kP:=PV.str) (vP:=PV.bb) (eq:=eqS) (fun _ _=>by kernel_rfl) (c.g x3.toNat).Name x2).trans (by rw[o6];rfl)) Pq ?_;exact d _ [(6000,6000),(15000,15000)] _ false Pq h
   replace h:=Bl6 o6 h;refine Hr Z Pq (kt:=Ct) (e:=ZC) (key:=PV.str (c.g x3.toNat).Name) (es:=Ju PV.str PV.bb x2) (x:=PV.bb v6) (b:=true) (fd:=some (PV.bb v6)) ((BI (kP:=PV.str) (vP:=PV.bb) (eq:=eqS) (fun _ _=>by kernel_rfl) (c.g x3.toNat).Name x2).trans (by rw[o6];rfl)) Pq ?_;exact d _ [(6000,6000),(15000,15000)] _ v6 Pq h
  apply kI Z h<;>intro h
  .cases h;exact kR Z
  refine Ml Z Pq (kt:=Ct) (key:=PV.str (c.g x3.toNat).Name) (y:=PV.bb true) (es:=Ju PV.str PV.bb x2) (Hq (kP:=PV.str) (vP:=PV.bb) (eq:=eqS) (fun _ _=>by kernel_rfl) (c.g x3.toNat).Name true x2) Pq ?_;exact i _ [(15000,15000)] _ (HF eqS (c.g x3.toNat).Name true x2) (wrap .i64 (x3+1)) Pq h
 cases h;exact kR Z
def Z8 (N:Nat)(a:A6):Option Int:= if ((0:Int)<=(a.On.n:Int)/\(a.On.n:Int)<=(a.On.n:Int)/\(a.On.n:Int)*8<=140737488355328/\(a.On.n:Int)<=140737488355328)then Am8 N (fun c (x4:Sl Int) (x5:Bool) (x6:Int)=>if (decide (x6<(a.On.n:Int))) then if ((((0:Int)<=x6/\x6<(a.On.n:Int))/\((0:Int)<=x6/\x6<(x4.n:Int)))/\x6.toNat<x4.n)then if ((0:Int)<=x6/\x6<(a.Tree.n:Int))then lt (fun (z3:Sl Int)=>if (((0:Int)<=x6/\x6<(z3.n:Int))/\x6.toNat<z3.n)then if (decide (64<(z3.g x6.toNat))) then some 2 else S0 N (fun d (f:Bool) (b:Int)=>if (decide (b<((a.On.g x6.toNat).n:Int))) then if ((0:Int)<=b/\b<((a.On.g x6.toNat).n:Int))then d ((f||(decide (((a.On.g x6.toNat).g b.toNat)<0)))||(decide ((a.Laws.n:Int)<=((a.On.g x6.toNat).g b.toNat)))) (wrap .i64 (b+1)) else none else c z3 f (wrap .i64 (x6+1))) x5 0 else none) fun k3=>if (decide (0<=(a.Tree.g x6.toNat).Parent)) then if (((((((0:Int)<=x6/\x6<((x4.upd x6.toNat ((a.On.g x6.toNat).n:Int)).n:Int))/\x6.toNat<(x4.upd x6.toNat ((a.On.g x6.toNat).n:Int)).n)/\((0:Int)<=(a.Tree.g x6.toNat).Parent/\(a.Tree.g x6.toNat).Parent<((x4.upd x6.toNat ((a.On.g x6.toNat).n:Int)).n:Int)))/\(a.Tree.g x6.toNat).Parent.toNat<(x4.upd x6.toNat ((a.On.g x6.toNat).n:Int)).n)/\((0:Int)<=x6/\x6<((x4.upd x6.toNat ((a.On.g x6.toNat).n:Int)).n:Int)))/\x6.toNat<(x4.upd x6.toNat ((a.On.g x6.toNat).n:Int)).n)then k3 ((x4.upd x6.toNat ((a.On.g x6.toNat).n:Int)).upd x6.toNat (wrap .i64 (((x4.upd x6.toNat ((a.On.g x6.toNat).n:Int)).g x6.toNat)+((x4.upd x6.toNat ((a.On.g x6.toNat).n:Int)).g (a.Tree.g x6.toNat).Parent.toNat)))) else none else k3 (x4.upd x6.toNat ((a.On.g x6.toNat).n:Int)) else none else none else if x5 then some 3 else some 0) (Sl.rep (a.On.n:Int).toNat 0:Sl Int) false 0 else none
theorem Ow {d:A6}{y:Int}(h:Z8 N d=some y) :FunO S GI [.p (.agg (A7 d))] [] (pN y) ([]) []:=by
 unfold Z8 at h;refine A3 Z func76 ?_;refine G4 Z Pq 2 2000 (A7 d) ?_;obtain⟨c1,h⟩:=D6 h;refine IU Z c1 h (fun x4 x5 x6=>⟨[(17,pN x6),(16,pN (d.On.n:Int)),(15,.p (vSl 1 (cL 1 (cI .i64)) d.On)),(4,pB x5),(3,.vec 14000),(1,.p (.ptr (A7 d)))],[(14000,.vec C7 1 x4.n (fun i=>cI .i64 (x4.g i)) false)]⟩) (ids:=[(14000,14000)]) (fun _ _ _ _ _ q x4 x5 x6 r h=>?_);apply kI Z h<;>intro h
 .obtain⟨c35,h⟩:=D6 h;refine P0 Z (And.intro (And.intro c35.1.1 c35.1.2) (And.intro (rfl:(1:Nat)=1) (And.intro c35.2 Ps))) 27 ⟨[(17,pN x6),(16,pN (d.On.n:Int)),(15,.p (vSl 1 (cL 1 (cI .i64)) d.On)),(6,.p (vSl 1 (cI .i64) (d.On.g x6.toNat))),(5,pN x6),(4,pB x5),(3,.vec 14000),(1,.p (.ptr (A7 d)))],[(14000,.vec C7 1 (x4.upd x6.toNat ((d.On.g x6.toNat).n:Int)).n (fun i=>cI .i64 ((x4.upd x6.toNat ((d.On.g x6.toNat).n:Int)).g i)) false)]⟩ (ids:=[(14000,14000)]) ?_ (hle:=klR [(7,.fn x4.n (x4.upd x6.toNat ((d.On.g x6.toNat).n:Int)).n (fun l=>if l=x6.toNat then splice ((fun i=>cI .i64 (x4.g i)) l) 0 [pI .i64 ((d.On.g x6.toNat).n:Int)]else (fun i=>cI .i64 (x4.g i)) l) (fun i=>cI .i64 ((x4.upd x6.toNat ((d.On.g x6.toNat).n:Int)).g i)))] (al1 ⟨rfl,Ak9 (c:=cI .i64) (v:=x4) (x:=((d.On.g x6.toNat).n:Int)) same (fun _=>by first|rfl|(dsimp only;split<;>rfl))⟩ al0));obtain⟨c36,h⟩:=D6 h;refine EC Z c36 (A5 Z) h 0 (fun z3=>⟨[(17,pN x6),(16,pN (d.On.n:Int)),(15,.p (vSl 1 (cL 1 (cI .i64)) d.On)),(6,.p (vSl 1 (cI .i64) (d.On.g x6.toNat))),(5,pN x6),(4,pB x5),(3,.vec 14000),(1,.p (.ptr (A7 d)))],[(14000,.vec C7 1 z3.n (fun i=>cI .i64 (z3.g i)) false)]⟩) (fun M3 k3 m h=>?_) (fun z3 h=>?_)
  .apply kI Z h<;>intro h
   .refine Ep Z Pq ?_;obtain⟨c41,h⟩:=D6 h;refine H3 (And.intro (And.intro (And.intro (And.intro (And.intro c41.1.1.1.1.1 c41.1.1.1.1.2) c41.1.1.1.2) c41.1.1.2) c41.1.2) (And.intro (rfl:(1:Nat)=1) (And.intro c41.2 Ps))) ?_;exact m _ [(14000,14000)] _ ((x4.upd x6.toNat ((d.On.g x6.toNat).n:Int)).upd x6.toNat (wrap .i64 (((x4.upd x6.toNat ((d.On.g x6.toNat).n:Int)).g x6.toNat)+((x4.upd x6.toNat ((d.On.g x6.toNat).n:Int)).g (d.Tree.g x6.toNat).Parent.toNat)))) Pq h (hle:=klR [(7,.fn (x4.upd x6.toNat ((d.On.g x6.toNat).n:Int)).n ((x4.upd x6.toNat ((d.On.g x6.toNat).n:Int)).upd x6.toNat (wrap .i64 (((x4.upd x6.toNat ((d.On.g x6.toNat).n:Int)).g x6.toNat)+((x4.upd x6.toNat ((d.On.g x6.toNat).n:Int)).g (d.Tree.g x6.toNat).Parent.toNat)))).n (fun l=>if l=x6.toNat then splice ((fun i=>cI .i64 ((x4.upd x6.toNat ((d.On.g x6.toNat).n:Int)).g i)) l) 0 [pI .i64 (wrap .i64 (((x4.upd x6.toNat ((d.On.g x6.toNat).n:Int)).g x6.toNat)+((x4.upd x6.toNat ((d.On.g x6.toNat).n:Int)).g (d.Tree.g x6.toNat).Parent.toNat)))]else (fun i=>cI .i64 ((x4.upd x6.toNat ((d.On.g x6.toNat).n:Int)).g i)) l) (fun i=>cI .i64 (((x4.upd x6.toNat ((d.On.g x6.toNat).n:Int)).upd x6.toNat (wrap .i64 (((x4.upd x6.toNat ((d.On.g x6.toNat).n:Int)).g x6.toNat)+((x4.upd x6.toNat ((d.On.g x6.toNat).n:Int)).g (d.Tree.g x6.toNat).Parent.toNat)))).g i)))] (al1 ⟨rfl,Ak9 (c:=cI .i64) (v:=x4.upd x6.toNat ((d.On.g x6.toNat).n:Int)) (x:=wrap .i64 (((x4.upd x6.toNat ((d.On.g x6.toNat).n:Int)).g x6.toNat)+((x4.upd x6.toNat ((d.On.g x6.toNat).n:Int)).g (d.Tree.g x6.toNat).Parent.toNat))) same (fun _=>by first|rfl|(dsimp only;split<;>rfl))⟩ al0))
   exact m _ [(14000,14000)] _ (x4.upd x6.toNat ((d.On.g x6.toNat).n:Int)) Pq h
  obtain⟨c42,h⟩:=D6 h;refine D4 Z c42 (b:=decide (64<(z3.g x6.toNat))) (fun c43=>?_) (fun c43=>?_)
  .replace h:=itT c43 h;cases h;exact kR Z
  replace h:=itF c43 h;refine G9 Z Pq h (fun j f=>⟨[(52,pN f),(51,pN ((d.On.g x6.toNat).n:Int)),(50,.p (vSl 1 (cI .i64) (d.On.g x6.toNat))),(17,pN x6),(16,pN (d.On.n:Int)),(15,.p (vSl 1 (cL 1 (cI .i64)) d.On)),(4,pB j),(3,.vec 14000),(1,.p (.ptr (A7 d)))],[(14000,.vec C7 1 z3.n (fun i=>cI .i64 (z3.g i)) false)]⟩) (ids:=[(14000,14000)]) (fun _ _ _ _ _ s j f t h=>?_);apply kI Z h<;>intro h
  .obtain⟨c49,h⟩:=D6 h;refine kB Z (A5 Z) c49 Pq 10 (.o (.o (.a j) (.a (decide (((d.On.g x6.toNat).g f.toNat)<0)))) (.a (decide ((d.Laws.n:Int)<=((d.On.g x6.toNat).g f.toNat))))) ?_;exact t _ [(14000,14000)] _ ((j||(decide (((d.On.g x6.toNat).g f.toNat)<0)))||(decide ((d.Laws.n:Int)<=((d.On.g x6.toNat).g f.toNat)))) (wrap .i64 (f+1)) Pq h
  exact r _ [(14000,14000)] _ z3 j (wrap .i64 (x6+1)) Pq h
 apply kI Z h<;>intro h
 .cases h;exact kR Z
 cases h;exact kR Z
def Q4 (N:Nat)(a:A6):Option Int:= (S4 N a.Tree).bind fun y1=>if (y1 != 0) then some 16 else if (decide (64<(a.Laws.n:Int))) then some 12 else S0 N (fun b (x1:List (Str×Int)) (x2:Int)=>if (decide (x2<(a.Laws.n:Int))) then if ((0:Int)<=x2/\x2<(a.Laws.n:Int))then (Z6 N (a.Laws.g x2.toNat)).bind fun y4=>if (y4 != 0) then some 17 else AN3 (X1 eqS (a.Laws.g x2.toNat).Name x1) (b (HF eqS (a.Laws.g x2.toNat).Name (wrap .i64 (0+1)) x1) (wrap .i64 (x2+1))) fun v3=>b (HF eqS (a.Laws.g x2.toNat).Name (wrap .i64 (v3+1)) x1) (wrap .i64 (x2+1)) else none else if (decide (((Ju PV.str (pI .i64) x1).length:Int)<(a.Laws.n:Int))) then some 6 else if ((a.On.n:Int) != (a.Tree.n:Int)) then some 2 else (Z8 N a).bind fun y5=>some y5) [] 0
theorem GT {a:A6}{y:Int}(h:Q4 N a=some y) :FunO S GG [.p (.agg (A7 a))] [] (pN y) ([]) []:=by
 unfold Q4 at h;refine A3 Z func46 ?_;refine kC Z h (Ei Z Y) (fun y1 h=>?_);apply kI Z h<;>intro h
 .cases h;exact kR Z
 apply kI Z h<;>intro h
 .cases h;exact kR Z
 refine G9 Z Pq h (fun x1 x2=>⟨[(18,pN x2),(17,pN (a.Laws.n:Int)),(16,.p (vSl 18 B5 a.Laws)),(3,.mref 15000),(1,.reg 2000 0)],[(15000,.map (Ju PV.str (pI .i64) x1)),(2000,.cells ((A7 a).map .p))]⟩) (ids:=[(2000,2000),(15000,15000)]) (fun _ _ _ _ _ d x1 x2 c h=>?_);apply kI Z h<;>intro h
 .obtain⟨c10,h⟩:=D6 h;obtain⟨y4,e4,h⟩:=B9 h;refine C6 Z [] (And.intro c10 Rj) (IG Z Y e4) ?_;apply kI Z h<;>intro h
  .cases h;exact kR Z
  rcases o3:X1 eqS (a.Laws.g x2.toNat).Name x1 with _|v3
  .replace h:=Bl5 o3 h;refine Hr Z Pq (kt:=Ct) (e:=C7) (key:=PV.str (a.Laws.g x2.toNat).Name) (es:=Ju PV.str (pI .i64) x1) (x:=pI .i64 0) (b:=false) (fd:=none) ((BI (kP:=PV.str) (vP:=pI .i64) (eq:=eqS) (fun _ _=>by kernel_rfl) (a.Laws.g x2.toNat).Name x1).trans (by rw[o3];rfl)) Pq ?_;refine Ml Z Pq (kt:=Ct) (key:=PV.str (a.Laws.g x2.toNat).Name) (y:=pI .i64 (wrap .i64 (0+1))) (es:=Ju PV.str (pI .i64) x1) (Hq (kP:=PV.str) (vP:=pI .i64) (eq:=eqS) (fun _ _=>by kernel_rfl) (a.Laws.g x2.toNat).Name (wrap .i64 (0+1)) x1) Pq ?_;exact c _ [(2000,2000),(15000,15000)] _ (HF eqS (a.Laws.g x2.toNat).Name (wrap .i64 (0+1)) x1) (wrap .i64 (x2+1)) Pq h
  replace h:=Bl6 o3 h;refine Hr Z Pq (kt:=Ct) (e:=C7) (key:=PV.str (a.Laws.g x2.toNat).Name) (es:=Ju PV.str (pI .i64) x1) (x:=pI .i64 v3) (b:=true) (fd:=some (pI .i64 v3)) ((BI (kP:=PV.str) (vP:=pI .i64) (eq:=eqS) (fun _ _=>by kernel_rfl) (a.Laws.g x2.toNat).Name x1).trans (by rw[o3];rfl)) Pq ?_;refine Ml Z Pq (kt:=Ct) (key:=PV.str (a.Laws.g x2.toNat).Name) (y:=pI .i64 (wrap .i64 (v3+1))) (es:=Ju PV.str (pI .i64) x1) (Hq (kP:=PV.str) (vP:=pI .i64) (eq:=eqS) (fun _ _=>by kernel_rfl) (a.Laws.g x2.toNat).Name (wrap .i64 (v3+1)) x1) Pq ?_;exact c _ [(2000,2000),(15000,15000)] _ (HF eqS (a.Laws.g x2.toNat).Name (wrap .i64 (v3+1)) x1) (wrap .i64 (x2+1)) Pq h
 apply kI Z h<;>intro h
 .cases h;exact kR Z
 apply kI Z h<;>intro h
 .cases h;exact kR Z
 refine kC Z h (Ow Z Y) (fun y5 h=>?_);cases h;exact kR Z
end Go.AM
namespace Go.AM
open IntKind (wrap)
open Go.Proofs
set_option maxRecDepth 10000
set_option maxHeartbeats 2000000
variable {S:U3}(Z:H2 S Tryz.prog) (Y:Ij S)
abbrev Mb {T:Type}(e:TypeId)(k:Nat)(c:T->List PV)(x:Sl T):Obj:=.vec e k x.n (fun q=>c (x.g q)) false
theorem Bi4 {T:Type}{e:TypeId}{k n i:Nat}{c:T->List PV}{X:Sl (Sl T)}{z:Sl T}:∀q,q<n->(fun q=>if q=i then Mb e k c z else if q=i then Obj.dead else Mb e k c (X.g q)) q=(fun q=>Mb e k c ((X.upd i z).g q)) q:=fun q _=>by by_cases h:q=i<;>simp[h]
include Z Y
def Z9 (N:Nat)(a:Sl J4):Option (Sl (Sl Int)):= if ((0:Int)<=(a.n:Int)/\(a.n:Int)<=(a.n:Int)/\(a.n:Int)*24<=140737488355328/\(a.n:Int)<=140737488355328)then S0 N (fun b (x:Int) (X:Sl (Sl Int))=>if (decide (x<(a.n:Int))) then if ((0:Int)<=x/\x<(a.n:Int))then if (a.g x.toNat).Parent.toNat<X.n then lt (fun (z:Sl Int)=>b (wrap .i64 (x+1)) (X.upd (a.g x.toNat).Parent.toNat z)) fun k=>if (decide (0<x)) then if (((0:Int)<=(a.g x.toNat).Parent/\(a.g x.toNat).Parent<(X.n:Int))/\(((X.g (a.g x.toNat).Parent.toNat).n+1)*8<=140737488355328/\(X.g (a.g x.toNat).Parent.toNat).n+1<=140737488355328))then k ((X.g (a.g x.toNat).Parent.toNat).push x) else none else k (X.g (a.g x.toNat).Parent.toNat) else none else none else some X) 0 ⟨a.n,fun _=>Sl.nil⟩ else none
theorem Ox {N:Nat}{b:Sl J4}{y:Sl (Sl Int)}(h:Z9 N b=some y) :FunO S GJ [.p (vSl 2 G5 b)] [] (.p (vSl 1 (cL 1 (cI .i64)) y)) [] []:=by
 unfold Z9 at h;refine A3 Z Tryz.func97 ?_;obtain⟨c1,h⟩:=D6 h;refine HR Z c1 9 (.fam 9000 9901 fun i=>Mb C7 1 (cI .i64) ((⟨b.n,fun _=>Sl.nil⟩:Sl (Sl Int)).g i)) (⟨by decide,fun i _=>rfl⟩:1000<=9901/\∀i,i<b.n->TZ [M8] (Mb C7 1 (cI .i64) ((⟨b.n,fun _=>Sl.nil⟩:Sl (Sl Int)).g i))) ?_;refine G9 Z Pq h (fun x X=>⟨[(11,pN x),(10,pN (b.n:Int)),(9,.p (vSl 2 G5 b)),(3,.vec 9000)],[(9901,.rows X.n fun i=>Mb C7 1 (cI .i64) (X.g i)),(9000,.fam SD X.n 9901 none)]⟩) (ids:=[(9901,9901),(9000,9000)]) (fun _ _ _ _ _ j x X f h=>?_);apply kI Z h<;>intro h
 .obtain⟨c2,h⟩:=D6 h;obtain⟨c3,h⟩:=D6 h;refine HR Z (And.intro c2 Q6) 17 (.take 9000 (b.g x.toNat).Parent.toNat 9801) (⟨⟨by decide,rfl⟩,c3⟩:(1000<=9801/\X.n=X.n)/\(b.g x.toNat).Parent.toNat<X.n) ?_;refine EC Z Pq (A5 Z) h 0 (fun z=>⟨[(11,pN x),(10,pN (b.n:Int)),(9,.p (vSl 2 G5 b)),(3,.vec 9000)],
   [(9901,(.rows X.n fun l=>if l=(b.g x.toNat).Parent.toNat then .dead else Mb C7 1 (cI .i64) (X.g l))),(9801,Mb C7 1 (cI .i64) z),(9000,.fam SD X.n 9901 (some ((b.g x.toNat).Parent.toNat,.vec 9801)))]⟩) (fun M k d h=>?_) (fun z h=>?_)
  .apply kI Z h<;>intro h
   .obtain⟨c4,h⟩:=D6 h;refine T4 Z Pq [(0,.n),(1,.n),(2,.l [6000]),(3,.n),(4,.n),(5,.l [6000]),(6,.l [9000]),(7,.l [9000]),(8,.n),(10,.a [29000,9801]),(11,.l [9000]),(12,.a [9000])] ?_;refine Y8 (And.intro c4.1 (And.intro c3 (rfl:(b.g x.toNat).Parent.toNat=(b.g x.toNat).Parent.toNat))) (x:=.sl true 1 1 (D3 [pI .i64 0] [(0,cI .i64 x)])) ?_;refine H3 (And.intro (And.intro c4.2 c4.1) (And.intro c3 (rfl:(b.g x.toNat).Parent.toNat=(b.g x.toNat).Parent.toNat))) ?_;exact d _ [(9901,9901),(9801,29000),(9000,9000)] _ ((X.g (b.g x.toNat).Parent.toNat).push x) Pq h (hle:=klR [(5,.fn ((X.g (b.g x.toNat).Parent.toNat).n+1) ((X.g (b.g x.toNat).Parent.toNat).push x).n (T2 (X.g (b.g x.toNat).Parent.toNat).n (fun i=>cI .i64 ((X.g (b.g x.toNat).Parent.toNat).g i)) (D3 [pI .i64 0] [(0,cI .i64 x)])) (fun i=>cI .i64 (((X.g (b.g x.toNat).Parent.toNat).push x).g i)))] (al1 ⟨rfl,EA (c:=cI .i64) (v:=X.g (b.g x.toNat).Parent.toNat) (x:=x) (z:=[(pI .i64 0)]) same rfl rfl⟩ al0))
   exact d _ [(9901,9901),(9801,9801),(9000,9000)] _ (X.g (b.g x.toNat).Parent.toNat) Pq h
  refine HR Z Pq 30 (.put 9000 9902) (⟨⟨by decide,rfl⟩,c3⟩:(1000<=9902/\X.n=X.n)/\(b.g x.toNat).Parent.toNat<X.n) ?_;exact f _ [(9901,9902),(9000,9000)] _ (wrap .i64 (x+1)) (X.upd (b.g x.toNat).Parent.toNat z) Pq h (hle:=klR [(4,.ob X.n (fun q=>if q=(b.g x.toNat).Parent.toNat then Mb C7 1 (cI .i64) z else if q=(b.g x.toNat).Parent.toNat then .dead else Mb C7 1 (cI .i64) (X.g q)) fun i=>Mb C7 1 (cI .i64) ((X.upd (b.g x.toNat).Parent.toNat z).g i))] (al1 Bi4 al0))
 refine HR Z Pq 31 (.pub 9000) (⟨rfl,fun i _=>rfl⟩:X.n=X.n/\∀i,i<X.n->(Ae6 (Mb C7 1 (cI .i64) (X.g i))).isSome=true) ?_;obtain rfl:=C4 h;exact A9 Z Pq ⟨[(2,.p (vSl 1 (cL 1 (cI .i64)) X))],[]⟩ [] (ids:=[]) ⟨rfl,rfl,rfl⟩ (hle:=klR [(0,.fn X.n X.n (fun i=>[(Ae6 (Mb C7 1 (cI .i64) (X.g i))).getD default]) (fun i=>cL 1 (cI .i64) (X.g i)))] (al1 ⟨rfl,fun _ _=>rfl⟩ al0))
end Go.AM
namespace Go.AM
open IntKind (wrap)
open Go.Proofs
set_option maxRecDepth 10000
set_option maxHeartbeats 2000000
variable {S:U3}(Z:H2 S Tryz.prog) (Y:Ij S)
include Z Y
def BO (N:Nat)(b:Sl J4):Option (Sl Int):= (Z9 N b).bind fun y1=>S0 N (fun a (x1:Sl Int) (x2:Int)=>if (decide (x2<(y1.n:Int))) then if ((0:Int)<=x2/\x2<(y1.n:Int))then if (((y1.g x2.toNat).n:Int)==0) then if ((x1.n+(Sl.of [x2]:Sl Int).n)*8<=140737488355328/\x1.n+(Sl.of [x2]:Sl Int).n<=140737488355328)then a (x1.push x2) (wrap .i64 (x2+1)) else none else a x1 (wrap .i64 (x2+1)) else none else some x1) Sh 0
theorem SO {N:Nat}{a:Sl J4}{y:Sl Int}(h:BO N a=some y) :FunO S JF [.p (vSl 2 G5 a)] [] (.vec 0) ([.vec C7 1 y.n (fun i=>cI .i64 (y.g i)) true]) []:=by
 unfold BO at h;refine A3 Z Tryz.func66 ?_;refine kC Z h (Ox Z Y) (fun y1 h=>?_);refine G9 Z Pq h (fun x1 x2=>⟨[(9,pN x2),(8,pN (y1.n:Int)),(7,.p (vSl 1 (cL 1 (cI .i64)) y1)),(3,.vec 4500)],[(4500,.vec C7 1 x1.n (fun i=>cI .i64 (x1.g i)) false)]⟩) (ids:=[]) (fun _ _ _ _ _ f x1 x2 d h=>?_);apply kI Z h<;>intro h
 .obtain⟨c8,h⟩:=D6 h;refine D4 Z c8 (b:=((y1.g x2.toNat).n:Int)==0) (fun c9=>?_) (fun c9=>?_)
  .replace h:=itT c9 h;obtain⟨c10,h⟩:=D6 h;exact d _ [(4500,21000)] _ (x1.push x2) (wrap .i64 (x2+1)) (And.intro Rp c10) h (hle:=klR [(3,.fn (x1.n+1) (x1.push x2).n (T2 x1.n (fun i=>cI .i64 (x1.g i)) (D3 [pI .i64 0] [(0,cI .i64 x2)])) (fun i=>cI .i64 ((x1.push x2).g i)))] (al1 ⟨rfl,EA (c:=cI .i64) (v:=x1) (x:=x2) (z:=[(pI .i64 0)]) same rfl rfl⟩ al0))
  replace h:=itF c9 h;exact d _ [(4500,4500)] _ x1 (wrap .i64 (x2+1)) Pq h
 obtain rfl:=C4 h;exact A9 Z Pq ⟨[(2,.vec 4500)],[(4500,.vec C7 1 x1.n (fun i=>cI .i64 (x1.g i)) true)]⟩ [4500] (ids:=[(4500,4500)]) ⟨rfl,rfl,rfl⟩
def J9 (N:Nat)(a:Sl J4):Option ((Sl Int)×Int):= (S4 N a).bind fun y1=>if (y1 != 0) then some (Sh,y1) else (BO N a).bind fun y2=>some (y2,0)
theorem Aj {N:Nat}{a:Sl J4}{y:(Sl Int)×Int}(h:J9 N a=some y) :FunO S JD [.p (vSl 2 G5 a)] [] (.tup [.vec 0,pN y.2]) ([.vec C7 1 y.1.n (fun i=>cI .i64 (y.1.g i)) true]) []:=by
 unfold J9 at h;refine A3 Z Tryz.func37 ?_;refine kC Z h (Ei Z Y) (fun y1 h=>?_);apply kI Z h<;>intro h
 .obtain rfl:=C4 h;exact A9 Z Pq ⟨[(3,pN y1),(2,.vec 3700)],[(3700,.vec C7 1 Sh.n (fun i=>cI .i64 (Sh.g i)) true)]⟩ [3700] (ids:=[]) ⟨rfl,rfl,rfl⟩
 refine kC Z h (SO Z Y) (fun y2 h=>?_);obtain rfl:=C4 h;exact A9 Z Pq ⟨[(3,pN 0),(2,.vec 12000)],[(12000,.vec C7 1 y2.n (fun i=>cI .i64 (y2.g i)) true)]⟩ [12000] (ids:=[(12000,12000)]) ⟨rfl,rfl,rfl⟩
def AL (N:Nat)(b:Sl J4)(c:Int):Option (Sl Int):= S0 N (fun a (x1:Sl Int) (x2:Int)=>if (decide (x2<(b.n:Int))) then if ((0:Int)<=x2/\x2<(b.n:Int))then if ((b.g x2.toNat).Parent==c) then if ((x1.n+(Sl.of [x2]:Sl Int).n)*8<=140737488355328/\x1.n+(Sl.of [x2]:Sl Int).n<=140737488355328)then a (x1.push x2) (wrap .i64 (x2+1)) else none else a x1 (wrap .i64 (x2+1)) else none else some x1) Sh 0
def R8 (N:Nat)(b:Sl J4):Option ((Sl Int)×Int):= (Y5 N b).bind fun y1=>if (y1 != 0) then some (Sh,y1) else S0 N (fun a (x1:Sl Int) (x2:Int)=>if (decide (x2<(b.n:Int))) then (AL N b x2).bind fun y4=>if ((y4.n:Int)==0) then if ((x1.n+(Sl.of [x2]:Sl Int).n)*8<=140737488355328/\x1.n+(Sl.of [x2]:Sl Int).n<=140737488355328)then a (x1.push x2) (wrap .i64 (x2+1)) else none else a x1 (wrap .i64 (x2+1)) else some (x1,0)) Sh 0
end Go.AM
namespace Go.AM
open Go.Proofs.Tryz
variable {N:Nat}
open IntKind (wrap)
open Go.Proofs
set_option maxRecDepth 10000
set_option maxHeartbeats 2000000
variable {S:U3}(Z:H2 S Tryz.prog) (Y:Ij S)
include Z Y
def Hh (N:Nat)(a:Sl J4)(b:Int):Option Int:= (Y5 N a).bind fun y1=>if ((y1==0)&&((decide (b<0))||(decide ((a.n:Int)<=b)))) then some 3 else some y1
def CD (rec:(Sl J4)->Int->Option (Sl Int))(N:Nat)(b:Sl J4)(a:Int):Option (Sl Int):= if (a==0) then some (Sl.of [0]:Sl Int) else if ((0:Int)<=a/\a<(b.n:Int))then (rec b (b.g a.toNat).Parent).bind fun y1=>if ((y1.n+(Sl.of [a]:Sl Int).n)*8<=140737488355328/\y1.n+(Sl.of [a]:Sl Int).n<=140737488355328)then some (y1.push a) else none else none
def EG:Nat->(Sl J4)->Int->Option (Sl Int)
 |0=>fun _ _=>none
 |N+1=>CD (EG N) N
theorem WJ {rec:(Sl J4)->Int->Option (Sl Int)}(d:∀{b:Sl J4}{a:Int}{y:Sl Int},rec b a=some y->FunO S Hi [.p (vSl 2 G5 b),pN a] [] (.vec 0) ([.vec C7 1 y.n (fun i=>cI .i64 (y.g i)) true]) []){b:Sl J4}{a:Int}{y:Sl Int}(h:CD rec N b a=some y) :FunO S Hi [.p (vSl 2 G5 b),pN a] [] (.vec 0) ([.vec C7 1 y.n (fun i=>cI .i64 (y.g i)) true]) []:=by
 unfold CD at h;refine A3 Z func140 ?_;apply kI Z h<;>intro h
 .obtain rfl:=C4 h;exact A9 Z Rp ⟨[(4,.vec 8000)],[(8000,.vec C7 1 (Sl.of [0]:Sl Int).n (fun i=>cI .i64 ((Sl.of [0]:Sl Int).g i)) true)]⟩ [8000] (ids:=[(8000,8000)]) ⟨rfl,rfl,rfl⟩ (hle:=klR [(0,.fn 1 (Sl.of [0]:Sl Int).n (D3 [pI .i64 0] [(0,cI .i64 0)]) (fun i=>cI .i64 ((Sl.of [0]:Sl Int).g i)))] (al1 ⟨rfl,(fun i f=>match i,f with|0,_=>rfl|_+1,f=>Pm f (by omega))⟩ al0))
 obtain⟨c2,h⟩:=D6 h;obtain⟨y1,e1,h⟩:=B9 h;refine C6 Z [] c2 (d e1) ?_;obtain⟨c3,h⟩:=D6 h;obtain rfl:=C4 h;exact A9 Z (And.intro Rp c3) ⟨[(4,.vec 18000)],[(18000,.vec C7 1 (y1.push a).n (fun i=>cI .i64 ((y1.push a).g i)) true)]⟩ [18000] (ids:=[(18000,18000)]) ⟨rfl,rfl,rfl⟩ (hle:=klR [(0,.fn (y1.n+1) (y1.push a).n (T2 y1.n (fun i=>cI .i64 (y1.g i)) (D3 [pI .i64 0] [(0,cI .i64 a)])) (fun i=>cI .i64 ((y1.push a).g i)))] (al1 ⟨rfl,EA (c:=cI .i64) (v:=y1) (x:=a) (z:=[(pI .i64 0)]) same rfl rfl⟩ al0))
def EH (N:Nat)(a:Sl J4)(b:Int):Option ((Sl Int)×Int):= (Hh N a b).bind fun y1=>if (y1 != 0) then some (Sh,y1) else (EG N a b).bind fun y2=>some (y2,0)
def CE (N:Nat)(c:Sl J4)(a:Sl Int):Option Int:= (S4 N c).bind fun y1=>if (y1 != 0) then some y1 else Q7 N (fun b (x1:Int)=>if (decide (x1<(a.n:Int))) then if ((0:Int)<=x1/\x1<(a.n:Int))then if ((decide ((a.g x1.toNat)<0))||(decide ((c.n:Int)<=(a.g x1.toNat)))) then some 3 else b (wrap .i64 (x1+1)) else none else some 0) 0
theorem Vr {c:Sl J4}{b:Sl Int}{y:Int}(h:CE N c b=some y) :FunO S LF [.p (vSl 2 G5 c),.p (vSl 1 (cI .i64) b)] [] (pN y) ([]) []:=by
 unfold CE at h;refine A3 Z func110 ?_;refine kC Z h (Ei Z Y) (fun y1 h=>?_);apply kI Z h<;>intro h
 .cases h;exact kR Z
 refine H0 Z Pq h (fun x1=>⟨[(15,pN x1),(14,pN (b.n:Int)),(13,.p (vSl 1 (cI .i64) b)),(0,.p (vSl 2 G5 c))],[]⟩) (ids:=[]) (fun _ _ _ _ _ d x1 f h=>?_);apply kI Z h<;>intro h
 .obtain⟨c9,h⟩:=D6 h;refine kB Z (A5 Z) c9 Pq 5 (.o (.a (decide ((b.g x1.toNat)<0))) (.a (decide ((c.n:Int)<=(b.g x1.toNat))))) ?_;apply kI Z h<;>intro h
  .cases h;exact kR Z
  exact f _ [] _ (wrap .i64 (x1+1)) Pq h
 cases h;exact kR Z
def Co (N:Nat)(q0:Int)(q1:Sl J4):Option (List (Int)):= Q7 N (fun a (x1:Int)=>if (decide (0<=x1)) then Az x1 (if ((0:Int)<=x1/\x1<(q1.n:Int))then a (q1.g x1.toNat).Parent else none) else some []) q0
theorem XZ {q0:Int}{q1:Sl J4}{L:List (Int)}(h:Co N q0 q1=some L) :Gk S FB [] [.reg 0 0,.reg 1 0] [.cells [pN q0],.cells [.p (vSl 2 G5 q1)]] (L.map (fun (x:Int)=>[pI .i64 x])):=by
 unfold Co at h;refine Hs Z func135 ?_;refine GD Z Pq h (fun x1 L1=>⟨[(2,.reg 1 0),(1,.reg 0 0),(0,.yf 2)],[(2,.yld (L1.map (fun (x:Int)=>[pI .i64 x])) true),(1,.cells [.p (vSl 2 G5 q1)]),(0,.cells [pN x1])]⟩) (ids:=[(0,0),(1,1),(2,2)]) (fun _ _ _ _ _ d x1 L1 f h=>?_);apply kI Z h<;>intro h
 .obtain⟨L4,rfl,c⟩:=Pc h;replace h:=c;refine Er Z Pq (ys:=(fun (x:Int)=>[pI .i64 x]) x1) (rest:=L4.map (fun (x:Int)=>[pI .i64 x])) ?_ ?_
  .refine D4 Z Pq (b:=false) (fun c8=>?_) (fun c8=>?_)
   .exact Bool.noConfusion ((rfl:false=false).symm.trans c8)
   obtain⟨c9,h⟩:=D6 h;exact f _ [(0,0),(1,1),(2,2)] _ (q1.g x1.toNat).Parent L4 c9 h
  refine D4 Z Pq (b:=true) (fun c10=>?_) (fun c10=>?_)
  .exact A9 Z Pq (a:=.tup []) (objs:=[(.cells [pN x1]),.cells [.p (vSl 2 G5 q1)],.yld [] false]) ⟨[],[(2,.yld [] false),(1,.cells [.p (vSl 2 G5 q1)]),(0,.cells [pN x1])]⟩ [0,1,2] (ids:=[(0,0),(1,1),(2,2)]) ⟨false,rfl,rfl,_,rfl⟩
  exact Bool.noConfusion (Rp.symm.trans c10)
 obtain rfl:=C4 h;exact A9 Z Pq (a:=.tup []) (objs:=[(.cells [pN x1]),.cells [.p (vSl 2 G5 q1)],.yld [] true]) ⟨[],[(2,.yld [] true),(1,.cells [.p (vSl 2 G5 q1)]),(0,.cells [pN x1])]⟩ [0,1,2] (ids:=[(0,0),(1,1),(2,2)]) ⟨true,rfl,rfl,_,rfl⟩
def JW (N:Nat)(a:Sl J4)(b:Int):Option (Int×(Sl J4)):= some (b,a)
theorem Au2 {a:Sl J4}{b:Int}{y:Int×(Sl J4)}(h:JW N a b=some y) :FunO S UY [.p (vSl 2 G5 a),pN b] [] (.clo FB [] [.reg 0 0,.reg 1 0]) ([.cells [pN y.1],.cells [.p (vSl 2 G5 y.2)]]) []:=by unfold JW at h;refine A3 Z func112 ?_;obtain rfl:=C4 h;exact A9 Z Pq ⟨[(4,.clo FB [] [.reg 4000 0,.reg 3000 0])],[(4000,.cells [pN b]),(3000,.cells [.p (vSl 2 G5 a)])]⟩ [4000,3000] (ids:=[(3000,3000),(4000,4000)]) ⟨rfl,rfl,rfl⟩
def I5 (N:Nat)(a:List (Int)):Option (Sl Int):= Q5 a (fun b (x1:Int) (z1:Sl Int)=>if ((z1.n+(Sl.of [x1]:Sl Int).n)*8<=140737488355328/\z1.n+(Sl.of [x1]:Sl Int).n<=140737488355328)then b (z1.push x1) else none) (fun (z1:Sl Int)=>some z1) Sh
theorem CF {d:List (Int)}{a:Int}{b:(Sl J4)}{kp_seq:Nat}(fp_seq:∃fn,Bm1[kp_seq]? = some fn/\fn.body.isSome=true/\(fn.name == "runtime.NumGoroutine")=false)(f:Gk S kp_seq [] [.reg 0 0,.reg 1 0] [(.cells [(pN a)]),(.cells [(.p (vSl 2 G5 b))])] (d.map (fun (x:Int)=>[(pI .i64) x]))){y:(Sl Int)}(h:I5 N d=some y) :FunO S O3 [(.p M8),(.clo kp_seq [] [(.reg 0 0),(.reg 1 0)])] [(.cells [(pN a)]),(.cells [(.p (vSl 2 G5 b))])] (.vec 0) ([(.vec C7 1 y.n (fun i=>(cI .i64) (y.g i)) false)]) [false,false]:=by
 unfold I5 at h;refine A3 Z func134 ?_;refine Sb Z Pq fp_seq [0,1] [2] 901 (fun z1=>⟨[(2,(.reg 3000 0))],[(3500,(.vec C7 1 z1.n (fun i=>(cI .i64) (z1.g i)) false)),(3000,(.cells [(.vec 3500)]))]⟩) (idl:=[(3000,3000)]) h f (fun _=>by kernel_rfl) (fun _=>by kernel_rfl) (fun _=>by kernel_rfl) (fun _=>by kernel_rfl) (fun x1 _ j z1 l h=>?_) (fun z1 h=>?_)
 .refine Jx Z Pq ?_;obtain⟨c1,h⟩:=D6 h;exact l _ [(901,901),(3000,3000),(3500,12000)] _ (z1.push x1) (And.intro Rp c1) h (hle:=klR [(0,.fn (z1.n+1) (z1.push x1).n (T2 z1.n (fun i=>(cI .i64) (z1.g i)) (D3 [(pI .i64 0)] [(0,(cI .i64) x1)])) (fun i=>(cI .i64) ((z1.push x1).g i)))] (al1 ⟨rfl,(EA (c:=(cI .i64)) (v:=z1) (x:=x1) (z:=[(pI .i64 0)]) same rfl rfl)⟩ al0))
 obtain rfl:=C4 h;exact A9 Z Pq ⟨[(4,(.vec 3500))],[(3500,(.vec C7 1 z1.n (fun i=>(cI .i64) (z1.g i)) false))]⟩ [3500] (ids:=[(3500,3500)]) ⟨rfl,rfl,rfl⟩
def S5 (N:Nat)(a:List (Int)):Option (Sl Int):= (I5 N a).bind fun y1=>some y1
theorem GU {c:List (Int)}{a:Int}{b:(Sl J4)}{kp_seq:Nat}(fp_seq:∃fn,Bm1[kp_seq]? = some fn/\fn.body.isSome=true/\(fn.name == "runtime.NumGoroutine")=false)(d:Gk S kp_seq [] [.reg 0 0,.reg 1 0] [(.cells [(pN a)]),(.cells [(.p (vSl 2 G5 b))])] (c.map (fun (x:Int)=>[(pI .i64) x]))){y:(Sl Int)}(h:S5 N c=some y) :FunO S AC [(.clo kp_seq [] [(.reg 0 0),(.reg 1 0)])] [(.cells [(pN a)]),(.cells [(.p (vSl 2 G5 b))])] (.vec 0) ([(.vec C7 1 y.n (fun i=>(cI .i64) (y.g i)) false)]) [false,false]:=by unfold S5 at h;refine A3 Z func111 ?_;obtain⟨y1,e1,h⟩:=B9 h;refine C6 Z [0,1] Pq (CF Z Y fp_seq d e1) ?_;obtain rfl:=C4 h;exact A9 Z Pq ⟨[(2,(.vec 5000))],[(5000,(.vec C7 1 y1.n (fun i=>(cI .i64) (y1.g i)) false))]⟩ [5000] (ids:=[(5000,5000)]) ⟨rfl,rfl,rfl⟩
def H8 (N:Nat)(b:Sl Int):Option (Sl Int):= Am8 N (fun a (x1:Sl Int) (x2:Int) (x3:Int)=>if (decide (x2<x3)) then if (((((((((0:Int)<=x3/\x3<(x1.n:Int))/\x3.toNat<x1.n)/\((0:Int)<=x2/\x2<(x1.n:Int)))/\x2.toNat<x1.n)/\((0:Int)<=x2/\x2<(x1.n:Int)))/\x2.toNat<x1.n)/\((0:Int)<=x3/\x3<((x1.upd x2.toNat (x1.g x3.toNat)).n:Int)))/\x3.toNat<(x1.upd x2.toNat (x1.g x3.toNat)).n)then a ((x1.upd x2.toNat (x1.g x3.toNat)).upd x3.toNat (x1.g x2.toNat)) (wrap .i64 (x2+1)) (wrap .i64 (x3-1)) else none else some x1) b 0 (wrap .i64 ((b.n:Int)-1))
theorem DM {a:Sl Int}{y:Sl Int}(h:H8 N a=some y) :FunO S Z1 [.vec 0] [.vec C7 1 a.n (fun i=>cI .i64 (a.g i)) false] (.tup []) ([.vec C7 1 y.n (fun i=>cI .i64 (y.g i)) false]) [true]:=by
 unfold H8 at h;refine A3 Z func113 ?_;refine IU Z Pq h (fun x1 x2 x3=>⟨[(3,pN x3),(2,pN x2),(0,.vec 0)],[(0,.vec C7 1 x1.n (fun i=>cI .i64 (x1.g i)) false)]⟩) (ids:=[(0,0)]) (fun _ _ _ _ _ b x1 x2 x3 d h=>?_);apply kI Z h<;>intro h
 .refine Ep Z Pq ?_;obtain⟨c6,h⟩:=D6 h;refine H3 (And.intro (And.intro (And.intro (And.intro (And.intro (And.intro (And.intro c6.1.1.1.1.1.1.1 c6.1.1.1.1.1.1.2) c6.1.1.1.1.1.2) c6.1.1.1.1.2) c6.1.1.1.2) (And.intro (rfl:(1:Nat)=1) (And.intro c6.1.1.2 Ps))) c6.1.2) (And.intro (rfl:(1:Nat)=1) (And.intro c6.2 Ps))) ?_;exact d _ [(0,0)] _ ((x1.upd x2.toNat (x1.g x3.toNat)).upd x3.toNat (x1.g x2.toNat)) (wrap .i64 (x2+1)) (wrap .i64 (x3-1)) Pq h (hle:=klR [(2,.fn x1.n ((x1.upd x2.toNat (x1.g x3.toNat)).upd x3.toNat (x1.g x2.toNat)).n (fun l=>if l=x3.toNat then splice ((fun l=>if l=x2.toNat then splice ((fun i=>cI .i64 (x1.g i)) l) 0 [pI .i64 (x1.g x3.toNat)]else (fun i=>cI .i64 (x1.g i)) l) l) 0 [pI .i64 (x1.g x2.toNat)]else (fun l=>if l=x2.toNat then splice ((fun i=>cI .i64 (x1.g i)) l) 0 [pI .i64 (x1.g x3.toNat)]else (fun i=>cI .i64 (x1.g i)) l) l) (fun i=>cI .i64 (((x1.upd x2.toNat (x1.g x3.toNat)).upd x3.toNat (x1.g x2.toNat)).g i)))] (al1 ⟨rfl,Ak9 (c:=cI .i64) (v:=x1.upd x2.toNat (x1.g x3.toNat)) (x:=x1.g x2.toNat) (Ak9 (c:=cI .i64) (v:=x1) (x:=x1.g x3.toNat) same (fun _=>by first|rfl|(dsimp only;split<;>rfl))) (fun _=>by first|rfl|(dsimp only;split<;>rfl))⟩ al0))
 obtain rfl:=C4 h;exact A9 Z Pq ⟨[],[(0,.vec C7 1 x1.n (fun i=>cI .i64 (x1.g i)) false)]⟩ [0] (ids:=[(0,0)]) ⟨rfl,rfl,rfl⟩
def DN (N:Nat)(a:Sl J4)(b:Int):Option ((Sl Int)×Int):= (CE N a (Sl.of [b]:Sl Int)).bind fun y1=>if (y1 != 0) then some (Sh,y1) else (JW N a b).bind fun y2=>(Co N y2.1 y2.2).bind fun L1=>(S5 N L1).bind fun y3=>(H8 N y3).bind fun y4=>some (y4,0)
theorem Ya {b:Sl J4}{a:Int}{y:(Sl Int)×Int}(h:DN N b a=some y) :FunO S NV [.p (vSl 2 G5 b),pN a] [] (.tup [.vec 0,pN y.2]) ([.vec C7 1 y.1.n (fun i=>cI .i64 (y.1.g i)) true]) []:=by
 unfold DN at h;refine A3 Z func79 ?_;refine Bz Z Rp ⟨[(10,.vec 11000),(8,.p (vSl 2 G5 b)),(1,pN a),(0,.p (vSl 2 G5 b))],[(11000,.vec C7 1 (Sl.of [a]:Sl Int).n (fun i=>cI .i64 ((Sl.of [a]:Sl Int).g i)) false)]⟩ (ids:=[(11000,11000)]) ?_ (hle:=klR [(3,.fn 1 (Sl.of [a]:Sl Int).n (D3 [pI .i64 0] [(0,cI .i64 a)]) (fun i=>cI .i64 ((Sl.of [a]:Sl Int).g i)))] (al1 ⟨rfl,(fun i c=>match i,c with|0,_=>rfl|_+1,c=>Pm c (by omega))⟩ al0));refine kC Z h (Vr Z Y) (fun y1 h=>?_);apply kI Z h<;>intro h
 .obtain rfl:=C4 h;exact A9 Z Pq ⟨[(5,pN y1),(4,.vec 5700)],[(5700,.vec C7 1 Sh.n (fun i=>cI .i64 (Sh.g i)) true)]⟩ [5700] (ids:=[]) ⟨rfl,rfl,rfl⟩
 refine kC Z h (Au2 Z Y) (fun y2 h=>?_);obtain⟨L1,e3,h⟩:=B9 h;obtain⟨y3,e4,h⟩:=B9 h;refine C6 Z [18000,18001] Pq (GU Z Y ⟨_,func135,by decide +kernel,by decide +kernel⟩ (XZ Z Y e3) e4) ?_;obtain⟨y4,e5,h⟩:=B9 h;refine AV1 Z [19000] Pq (DM Z Y e5) ?_;obtain rfl:=C4 h;exact A9 Z Pq ⟨[(5,pN 0),(4,.vec 19000)],[(19000,.vec C7 1 y4.n (fun i=>cI .i64 (y4.g i)) true)]⟩ [19000] (ids:=[(19000,19000)]) ⟨rfl,rfl,rfl⟩
def CG (N:Nat)(a:Sl Sm):Option Str:= S0 N (fun b (x1:Sl Int) (x2:Int)=>if (decide (x2<(a.n:Int))) then if ((0:Int)<=x2/\x2<(a.n:Int))then if ((x1.n+(Pr (a.g x2.toNat).Plus).n)*1<=140737488355328/\x1.n+(Pr (a.g x2.toNat).Plus).n<=140737488355328)then if (((x1.app (Pr (a.g x2.toNat).Plus)).n+(Pr (a.g x2.toNat).Minus).n)*1<=140737488355328/\(x1.app (Pr (a.g x2.toNat).Plus)).n+(Pr (a.g x2.toNat).Minus).n<=140737488355328)then b ((x1.app (Pr (a.g x2.toNat).Plus)).app (Pr (a.g x2.toNat).Minus)) (wrap .i64 (x2+1)) else none else none else none else some (Xl x1)) Sh 0
theorem LK {a:Sl Sm}{y:Str}(h:CG N a=some y) :FunO S LB [.p (vSl 2 A0 a)] [] (.p (.str y)) ([]) []:=by
 unfold CG at h;refine A3 Z func81 ?_;refine G9 Z Pq h (fun x1 x2=>⟨[(10,pN x2),(9,pN (a.n:Int)),(8,.p (vSl 2 A0 a)),(3,.vec 4500)],[(4500,.vec Ok 1 x1.n (fun i=>cI .u8 (x1.g i)) false)]⟩) (ids:=[]) (fun _ _ _ _ _ d x1 x2 l h=>?_);apply kI Z h<;>intro h
 .obtain⟨c22,h⟩:=D6 h;refine AG8 Z (And.intro c22 Q6) 2 (unrT [fun t=>t=⟨[(19,pN 0),(18,.p (.agg [pI .u32 (a.g x2.toNat).Plus,pI .u32 (a.g x2.toNat).Minus])),(10,pN x2),(9,pN (a.n:Int)),(8,.p (vSl 2 A0 a)),(3,.vec 4501)],[(4501,.vec Ok 1 x1.n (fun i=>cI .u8 (x1.g i)) false)]⟩/\(
   if ((x1.n+(Pr (a.g x2.toNat).Plus).n)*1<=140737488355328/\x1.n+(Pr (a.g x2.toNat).Plus).n<=140737488355328)then
    if (((x1.app (Pr (a.g x2.toNat).Plus)).n+(Pr (a.g x2.toNat).Minus).n)*1<=140737488355328/\(x1.app (Pr (a.g x2.toNat).Plus)).n+(Pr (a.g x2.toNat).Minus).n<=140737488355328)then
     d ((x1.app (Pr (a.g x2.toNat).Plus)).app (Pr (a.g x2.toNat).Minus)) (wrap .i64 (x2+1))
    else none
   else none
   )=some y,fun t=>t=⟨[(19,pN 1),(18,.p (.agg [pI .u32 (a.g x2.toNat).Plus,pI .u32 (a.g x2.toNat).Minus])),(10,pN x2),(9,pN (a.n:Int)),(8,.p (vSl 2 A0 a)),(3,.vec 4500)],[(4500,.vec Ok 1 (x1.app (Pr (a.g x2.toNat).Plus)).n (fun i=>cI .u8 ((x1.app (Pr (a.g x2.toNat).Plus)).g i)) false)]⟩/\(
    if (((x1.app (Pr (a.g x2.toNat).Plus)).n+(Pr (a.g x2.toNat).Minus).n)*1<=140737488355328/\(x1.app (Pr (a.g x2.toNat).Plus)).n+(Pr (a.g x2.toNat).Minus).n<=140737488355328)then
     d ((x1.app (Pr (a.g x2.toNat).Plus)).app (Pr (a.g x2.toNat).Minus)) (wrap .i64 (x2+1))
    else none
   )=some y,fun t=>t=⟨[(19,pN 2),(18,.p (.agg [pI .u32 (a.g x2.toNat).Plus,pI .u32 (a.g x2.toNat).Minus])),(10,pN x2),(9,pN (a.n:Int)),(8,.p (vSl 2 A0 a)),(3,.vec 4501)],[(4501,.vec Ok 1 ((x1.app (Pr (a.g x2.toNat).Plus)).app (Pr (a.g x2.toNat).Minus)).n (fun i=>cI .u8 (((x1.app (Pr (a.g x2.toNat).Plus)).app (Pr (a.g x2.toNat).Minus)).g i)) false)]⟩/\(
    d ((x1.app (Pr (a.g x2.toNat).Plus)).app (Pr (a.g x2.toNat).Minus)) (wrap .i64 (x2+1))
   )=some y]) ⟨[(19,pN 0),(18,.p (.agg [pI .u32 (a.g x2.toNat).Plus,pI .u32 (a.g x2.toNat).Minus])),(10,pN x2),(9,pN (a.n:Int)),(8,.p (vSl 2 A0 a)),(3,.vec 4501)],[(4501,.vec Ok 1 x1.n (fun i=>cI .u8 (x1.g i)) false)]⟩ (ids:=[(4501,4500)]) ⟨rfl,h⟩ (fun _ _ _ _ i _ t f ht j=>?_)
  rcases i with _|_|_|i
  .obtain⟨rfl,h⟩:=ht;refine D4 Z Pq (b:=decide ((0:Int)<2)) (fun c29=>?_) (fun c29=>?_)
   .obtain⟨c30,h⟩:=D6 h;exact j _ [(4500,33000)] _ _ (And.intro (And.intro (And.intro (And.intro (by decide:(0:Int)<=0/\(0:Int)<2) (by decide:(0:Int)<=8)) (by decide:(0:Int)<=16)) Rp) c30) rfl ⟨rfl,h⟩ (hle:=klR [(5,.fn (x1.n+3) (x1.app (Pr (a.g x2.toNat).Plus)).n (T2 x1.n (fun i=>cI .u8 (x1.g i)) (D3 [pI .u8 0] [(0,cI .u8 (wrap .u8 (a.g x2.toNat).Plus)),(1,cI .u8 (wrap .u8 (shI .shr .u32 (a.g x2.toNat).Plus 8))),(2,cI .u8 (wrap .u8 (shI .shr .u32 (a.g x2.toNat).Plus 16)))])) (fun i=>cI .u8 ((x1.app (Pr (a.g x2.toNat).Plus)).g i)))] (al1 ⟨rfl,WC (c:=cI .u8) (v:=x1) (w:=(Pr (a.g x2.toNat).Plus)) same rfl (fun i f=>match i,f with|0,_=>rfl|1,_=>rfl|2,_=>rfl|_+3,f=>Pm f (by omega)) rfl⟩ al0))
   exact Bool.noConfusion ((by decide:decide ((0:Int)<2)=true).symm.trans c29)
  .obtain⟨rfl,h⟩:=ht;refine D4 Z Pq (b:=decide ((1:Int)<2)) (fun c27=>?_) (fun c27=>?_)
   .obtain⟨c28,h⟩:=D6 h;exact j _ [(4501,33000)] _ _ (And.intro (And.intro (And.intro (And.intro (by decide:(0:Int)<=1/\(1:Int)<2) (by decide:(0:Int)<=8)) (by decide:(0:Int)<=16)) Rp) c28) rfl ⟨rfl,h⟩ (hle:=klR [(5,.fn ((x1.app (Pr (a.g x2.toNat).Plus)).n+3) ((x1.app (Pr (a.g x2.toNat).Plus)).app (Pr (a.g x2.toNat).Minus)).n (T2 (x1.app (Pr (a.g x2.toNat).Plus)).n (fun i=>cI .u8 ((x1.app (Pr (a.g x2.toNat).Plus)).g i)) (D3 [pI .u8 0] [(0,cI .u8 (wrap .u8 (a.g x2.toNat).Minus)),(1,cI .u8 (wrap .u8 (shI .shr .u32 (a.g x2.toNat).Minus 8))),(2,cI .u8 (wrap .u8 (shI .shr .u32 (a.g x2.toNat).Minus 16)))])) (fun i=>cI .u8 (((x1.app (Pr (a.g x2.toNat).Plus)).app (Pr (a.g x2.toNat).Minus)).g i)))] (al1 ⟨rfl,WC (c:=cI .u8) (v:=x1.app (Pr (a.g x2.toNat).Plus)) (w:=(Pr (a.g x2.toNat).Minus)) same rfl (fun i f=>match i,f with|0,_=>rfl|1,_=>rfl|2,_=>rfl|_+3,f=>Pm f (by omega)) rfl⟩ al0))
   exact Bool.noConfusion ((by decide:decide ((1:Int)<2)=true).symm.trans c27)
  .obtain⟨rfl,h⟩:=ht;refine D4 Z Pq (b:=decide ((2:Int)<2)) (fun c26=>?_) (fun c26=>?_)
   .exact Bool.noConfusion ((by decide:decide ((2:Int)<2)=false).symm.trans c26)
   exact l _ [(4500,4501)] _ ((x1.app (Pr (a.g x2.toNat).Plus)).app (Pr (a.g x2.toNat).Minus)) (wrap .i64 (x2+1)) Pq h
  exact Pm f (by omega)
 obtain rfl:=C4 h;exact Am4 Z ((fun _ _=>rfl):∀i:Nat,i<x1.n->true=true) [] ⟨rfl,rfl,rfl⟩
def E2 (N:Nat)(a:Sl F0)(c:F0->Option Bool):Option Int:= Q7 N (fun b (x1:Int)=>if (decide (x1<(a.n:Int))) then if ((0:Int)<=x1/\x1<(a.n:Int))then (c (a.g x1.toNat)).bind fun y3=>if y3 then some x1 else b (wrap .i64 (x1+1)) else none else some (-1)) 0
theorem Aa {a:Sl F0}{c:F0->Option Bool}{kp_f:Nat}(d:∀{a0:F0}{b:Bool},c a0=some b->FunO S kp_f [.p (.agg (C0 a0))] [] (pB b) [] []){y:Int}(h:E2 N a c=some y) :FunO S N6 [.p (vSl 2 C0 a),.clo kp_f [] []] [] (pN y) ([]) []:=by
 unfold E2 at h;refine A3 Z func116 ?_;refine H0 Z Pq h (fun x1=>⟨[(8,pN x1),(7,pN (a.n:Int)),(1,.clo kp_f [] []),(0,.p (vSl 2 C0 a))],[]⟩) (ids:=[]) (fun _ _ _ _ _ f x1 g h=>?_);apply kI Z h<;>intro h
 .obtain⟨c8,h⟩:=D6 h;obtain⟨y3,e3,h⟩:=B9 h;refine C6 Z [] (And.intro c8 Q6) (d e3) ?_;apply kI Z h<;>intro h
  .cases h;exact kR Z
  exact g _ [] _ (wrap .i64 (x1+1)) Pq h
 cases h;exact kR Z
def E6 (N:Nat)(a:Sl F0)(b:F0->Option Bool):Option Bool:= (E2 N a b).bind fun y1=>some (decide (0<=y1))
theorem W1 {a:Sl F0}{c:F0->Option Bool}{kp_f:Nat}(d:∀{a0:F0}{b:Bool},c a0=some b->FunO S kp_f [.p (.agg (C0 a0))] [] (pB b) [] []){y:Bool}(h:E6 N a c=some y) :FunO S K4 [.p (vSl 2 C0 a),.clo kp_f [] []] [] (pB y) ([]) []:=by unfold E6 at h;refine A3 Z func86 ?_;refine kC Z h (Aa Z Y (fun e=>d e)) (fun y1 h=>?_);cases h;exact kR Z
def Bf (N:Nat)(a:F0):Option Bool:= some ((!a.Has)&&(decide (0<(a.W.n:Int))))
theorem Mc {b:F0}{y:Bool}(h:Bf N b=some y) :FunO S Ga [.p (.agg (C0 b))] [] (pB y) ([]) []:=by unfold Bf at h;refine A3 Z func87 ?_;refine kB Z (A5 Z) Pq Pq 5 (.n (.a (!b.Has)) (.a (decide (0<(b.W.n:Int))))) ?_;cases h;exact kR Z
def W9 (N:Nat)(a:Sl F0):Option Bool:= (E6 N a (fun (u1:F0)=>Bf N u1)).bind fun y1=>some (!y1)
theorem Ig {a:Sl F0}{y:Bool}(h:W9 N a=some y) :FunO S HU [.p (vSl 2 C0 a)] [] (pB y) ([]) []:=by unfold W9 at h;refine A3 Z func54 ?_;refine kC Z h (W1 Z Y (fun e=>Mc Z Y e)) (fun y1 h=>?_);cases h;exact kR Z
def N5 (N:Nat)(a:Sl F0):Option Int:= Q7 N (fun b (x1:Int)=>if (decide (x1<(a.n:Int))) then if ((0:Int)<=x1/\x1<(a.n:Int))then (P4 N (a.g x1.toNat).W).bind fun y3=>if (y3 != 0) then some y3 else b (wrap .i64 (x1+1)) else none else some 0) 0
theorem Ew {a:Sl F0}{y:Int}(h:N5 N a=some y) :FunO S HV [.p (vSl 2 C0 a)] [] (pN y) ([]) []:=by
 unfold N5 at h;refine A3 Z func56 ?_;refine H0 Z Pq h (fun x1=>⟨[(8,pN x1),(7,pN (a.n:Int)),(6,.p (vSl 2 C0 a))],[]⟩) (ids:=[]) (fun _ _ _ _ _ b x1 c h=>?_);apply kI Z h<;>intro h
 .obtain⟨c8,h⟩:=D6 h;obtain⟨y3,e3,h⟩:=B9 h;refine C6 Z [] (And.intro c8 Q6) (Ee Z Y e3) ?_;apply kI Z h<;>intro h
  .cases h;exact kR Z
  exact c _ [] _ (wrap .i64 (x1+1)) Pq h
 cases h;exact kR Z
def Bd (N:Nat)(a:Str):Option Bool:= (S4 N (Sl.of [(⟨-1,a⟩:J4)]:Sl J4)).bind fun y1=>some (y1==0)
theorem PB {a:Str}{y:Bool}(h:Bd N a=some y) :FunO S HW [.p (.str a)] [] (pB y) ([]) []:=by unfold Bd at h;refine A3 Z func88 ?_;refine Bz Z Rp ⟨[(5,.vec 6000)],[(6000,.vec KM 2 (Sl.of [(⟨-1,a⟩:J4)]:Sl J4).n (fun i=>G5 ((Sl.of [(⟨-1,a⟩:J4)]:Sl J4).g i)) false)]⟩ (ids:=[(6000,6000)]) ?_ (hle:=klR [(0,.fn 1 (Sl.of [(⟨-1,a⟩:J4)]:Sl J4).n (D3 [pI .i64 0,.str []] [(0,G5 (⟨-1,a⟩:J4))]) (fun i=>G5 ((Sl.of [(⟨-1,a⟩:J4)]:Sl J4).g i)))] (al1 ⟨rfl,(fun i b=>match i,b with|0,_=>rfl|_+1,b=>Pm b (by omega))⟩ al0));refine kC Z h (Ei Z Y) (fun y1 h=>?_);cases h;exact kR Z
def K5 (N:Nat)(a:Sl Entry)(b:Int):Option Int:= Q7 N (fun c (x2:Int)=>if (decide (x2<(a.n:Int))) then if ((0:Int)<=x2/\x2<(a.n:Int))then lt (fun (z3:Bool)=>if z3 then some 2 else c (wrap .i64 (x2+1))) fun k3=>if (((a.g x2.toNat).Forms.n:Int) != b) then k3 true else (W9 N (a.g x2.toNat).Forms).bind fun y6=>k3 (!y6) else none else Q7 N (fun d (x5:Int)=>if (decide (x5<(a.n:Int))) then if ((0:Int)<=x5/\x5<(a.n:Int))then (Bd N (a.g x5.toNat).Gloss).bind fun y9=>if (!y9) then some 15 else d (wrap .i64 (x5+1)) else none else some 0) 0) 0
theorem Gg {b:Sl Entry}{a:Int}{y:Int}(h:K5 N b a=some y) :FunO S FZ [.p (vSl 2 B2 b),pN a] [] (pN y) ([]) []:=by
 unfold K5 at h;refine A3 Z func55 ?_;refine H0 Z Pq h (fun x2=>⟨[(11,pN x2),(10,pN (b.n:Int)),(9,.p (vSl 2 B2 b)),(1,pN a),(0,.p (vSl 2 B2 b))],[]⟩) (ids:=[]) (fun _ _ _ _ _ d x2 f h=>?_);apply kI Z h<;>intro h
 .obtain⟨c14,h⟩:=D6 h;refine EC Z (And.intro c14 Q6) (A5 Z) h 0 (fun z3=>⟨[(25,pB z3),(11,pN x2),(10,pN (b.n:Int)),(9,.p (vSl 2 B2 b)),(1,pN a),(0,.p (vSl 2 B2 b))],[]⟩) (fun M3 k3 c h=>?_) (fun z3 h=>?_)
  .refine kG Z h (fun h=>?_) (fun h=>?_)
   .exact c _ [] _ true Pq h
   refine kC Z h (Ig Z Y) (fun y6 h=>?_);exact c _ [] _ (!y6) Pq h
  apply kI Z h<;>intro h
  .cases h;exact kR Z
  exact f _ [] _ (wrap .i64 (x2+1)) Pq h
 refine H0 Z Pq h (fun x5=>⟨[(29,pN x5),(28,pN (b.n:Int)),(27,.p (vSl 2 B2 b))],[]⟩) (ids:=[]) (fun _ _ _ _ _ g x5 i h=>?_);apply kI Z h<;>intro h
 .obtain⟨c26,h⟩:=D6 h;obtain⟨y9,e9,h⟩:=B9 h;refine C6 Z [] (And.intro c26 Q6) (PB Z Y e9) ?_;apply kI Z h<;>intro h
  .cases h;exact kR Z
  exact i _ [] _ (wrap .i64 (x5+1)) Pq h
 cases h;exact kR Z
def S9 (N:Nat)(d:A6)(a:Sl F0)(b:Sl Entry):Option Int:= (Q4 N d).bind fun y1=>if (y1 != 0) then some y1 else (J9 N d.Tree).bind fun y2=>if (decide (256<(b.n:Int))) then some 12 else lt (fun (z1:Bool)=>if z1 then some 2 else (K5 N b (y2.1.n:Int)).bind fun y5=>if (y5 != 0) then some y5 else (N5 N a).bind fun y6=>if (y6 != 0) then some y6 else Q7 N (fun c (x2:Int)=>if (decide (x2<(b.n:Int))) then if ((0:Int)<=x2/\x2<(b.n:Int))then (N5 N (b.g x2.toNat).Forms).bind fun y9=>if (y9 != 0) then some y9 else c (wrap .i64 (x2+1)) else none else some 0) 0) fun k1=>if ((a.n:Int) != (b.n:Int)) then k1 true else (W9 N a).bind fun y4=>k1 (!y4)
theorem El {c:A6}{a:Sl F0}{b:Sl Entry}{y:Int}(h:S9 N c a b=some y) :FunO S HS [.p (.agg (A7 c)),.p (vSl 2 C0 a),.p (vSl 2 B2 b)] [] (pN y) ([]) []:=by
 unfold S9 at h;refine A3 Z func21 ?_;refine kC Z h (GT Z Y) (fun y1 h=>?_);apply kI Z h<;>intro h
 .cases h;exact kR Z
 refine kC Z h (Aj Z Y) (fun y2 h=>?_);apply kI Z h<;>intro h
 .cases h;exact kR Z
 refine EC Z Pq (A5 Z) h 0 (fun z1=>⟨[(30,pB z1),(8,.vec 24000),(2,.p (vSl 2 B2 b)),(1,.p (vSl 2 C0 a))],[(24000,.vec C7 1 y2.1.n (fun i=>cI .i64 (y2.1.g i)) true)]⟩) (fun M1 k1 d h=>?_) (fun z1 h=>?_)
 .refine kG Z h (fun h=>?_) (fun h=>?_)
  .exact d _ [(24000,24000)] _ true Pq h
  refine kC Z h (Ig Z Y) (fun y4 h=>?_);exact d _ [(24000,24000)] _ (!y4) Pq h
 apply kI Z h<;>intro h
 .cases h;exact kR Z
 refine kC Z h (Gg Z Y) (fun y5 h=>?_);apply kI Z h<;>intro h
 .cases h;exact kR Z
 refine kC Z h (Ew Z Y) (fun y6 h=>?_);apply kI Z h<;>intro h
 .cases h;exact kR Z
 refine H0 Z Pq h (fun x2=>⟨[(55,pN x2),(54,pN (b.n:Int)),(53,.p (vSl 2 B2 b))],[]⟩) (ids:=[]) (fun _ _ _ _ _ f x2 j h=>?_);apply kI Z h<;>intro h
 .obtain⟨c16,h⟩:=D6 h;obtain⟨y9,e9,h⟩:=B9 h;refine C6 Z [] (And.intro c16 Q6) (Ew Z Y e9) ?_;apply kI Z h<;>intro h
  .cases h;exact kR Z
  exact j _ [] _ (wrap .i64 (x2+1)) Pq h
 cases h;exact kR Z
def G3 (N:Nat)(q0:Sl Entry):Option (List (J5×(Sl Sm))):= Q7 N (fun b (x2:Int)=>if (decide (x2<(q0.n:Int))) then if ((0:Int)<=x2/\x2<(q0.n:Int))then Q7 N (fun a (x4:Int)=>if (decide (x4<((q0.g x2.toNat).Forms.n:Int))) then if ((0:Int)<=x4/\x4<((q0.g x2.toNat).Forms.n:Int))then if ((q0.g x2.toNat).Forms.g x4.toNat).Has then Az ((⟨x2,x4⟩:J5),((q0.g x2.toNat).Forms.g x4.toNat).W) (a (wrap .i64 (x4+1))) else a (wrap .i64 (x4+1)) else none else b (wrap .i64 (x2+1))) 0 else none else some []) 0
theorem V4 {q0:Sl Entry}{L:List (J5×(Sl Sm))}(h:G3 N q0=some L) :Gk S V2 [] [.reg 0 0] [.cells [.p (vSl 2 B2 q0)]] (L.map (fun (x:J5×(Sl Sm))=>[(fun x=>.agg (AA x)) x.1,vSl 2 A0 x.2])):=by
 unfold G3 at h;refine Hs Z func82 ?_;refine GD Z Pq h (fun x2 L1=>⟨[(9,pN x2),(8,pN (q0.n:Int)),(7,.p (vSl 2 B2 q0)),(0,.yf 1)],[(1,.yld (L1.map (fun (x:J5×(Sl Sm))=>[(fun x=>.agg (AA x)) x.1,vSl 2 A0 x.2])) true),(0,.cells [.p (vSl 2 B2 q0)])]⟩) (ids:=[(0,0),(1,1)]) (fun _ _ _ _ _ f x2 L1 i h=>?_);apply kI Z h<;>intro h
 .obtain⟨c48,h⟩:=D6 h;refine GD Z (And.intro c48 Q6) h (fun x4 L16=>⟨[(17,pN x4),(16,pN ((q0.g x2.toNat).Forms.n:Int)),(15,.p (vSl 2 C0 (q0.g x2.toNat).Forms)),(9,pN x2),(8,pN (q0.n:Int)),(7,.p (vSl 2 B2 q0)),(3,pN x2),(0,.yf 1)],[(1,.yld (L16.map (fun (x:J5×(Sl Sm))=>[(fun x=>.agg (AA x)) x.1,vSl 2 A0 x.2])) true),(0,.cells [.p (vSl 2 B2 q0)])]⟩) (ids:=[(0,0),(1,1)]) (fun _ _ _ _ _ j x4 L16 d h=>?_);apply kI Z h<;>intro h
  .obtain⟨c64,h⟩:=D6 h;refine Ek Z (And.intro c64 Q6) (b:=((q0.g x2.toNat).Forms.g x4.toNat).Has) (fun c67=>?_) (fun c67=>?_)
   .replace h:=itT c67 h;obtain⟨L22,rfl,c⟩:=Pc h;replace h:=c;refine Er Z Pq (ys:=(fun (x:J5×(Sl Sm))=>[(fun x=>.agg (AA x)) x.1,vSl 2 A0 x.2]) ((⟨x2,x4⟩:J5),((q0.g x2.toNat).Forms.g x4.toNat).W)) (rest:=L22.map (fun (x:J5×(Sl Sm))=>[(fun x=>.agg (AA x)) x.1,vSl 2 A0 x.2])) ?_ ?_
    .refine D4 Z Pq (b:=false) (fun c68=>?_) (fun c68=>?_)
     .exact Bool.noConfusion ((rfl:false=false).symm.trans c68)
     exact d _ [(0,0),(1,1)] _ (wrap .i64 (x4+1)) L22 Pq h
    refine D4 Z Pq (b:=true) (fun c69=>?_) (fun c69=>?_)
    .exact A9 Z Pq (a:=.tup []) (objs:=[(.cells [.p (vSl 2 B2 q0)]),.yld [] false]) ⟨[],[(1,.yld [] false),(0,.cells [.p (vSl 2 B2 q0)])]⟩ [0,1] (ids:=[(0,0),(1,1)]) ⟨false,rfl,rfl,_,rfl⟩
    exact Bool.noConfusion (Rp.symm.trans c69)
   replace h:=itF c67 h;exact d _ [(0,0),(1,1)] _ (wrap .i64 (x4+1)) L16 Pq h
  exact i _ [(0,0),(1,1)] _ (wrap .i64 (x2+1)) L16 Pq h
 obtain rfl:=C4 h;exact A9 Z Pq (a:=.tup []) (objs:=[(.cells [.p (vSl 2 B2 q0)]),.yld [] true]) ⟨[],[(1,.yld [] true),(0,.cells [.p (vSl 2 B2 q0)])]⟩ [0,1] (ids:=[(0,0),(1,1)]) ⟨true,rfl,rfl,_,rfl⟩
def P7 (N:Nat)(a:Sl Entry):Option (Sl Entry):= some a
theorem Au {a:Sl Entry}{y:Sl Entry}(h:P7 N a=some y) :FunO S Fb [.p (vSl 2 B2 a)] [] (.clo V2 [] [.reg 0 0]) ([.cells [.p (vSl 2 B2 y)]]) []:=by unfold P7 at h;refine A3 Z func50 ?_;obtain rfl:=C4 h;exact A9 Z Pq ⟨[(2,.clo V2 [] [.reg 2000 0])],[(2000,.cells [.p (vSl 2 B2 a)])]⟩ [2000] (ids:=[(2000,2000)]) ⟨rfl,rfl,rfl⟩
def Bi (N:Nat)(a:Sl F0):Option Bool:= Q7 N (fun b (x1:Int)=>if (decide (x1<(a.n:Int))) then if ((0:Int)<=x1/\x1<(a.n:Int))then if ((!(a.g x1.toNat).Has)=true->((0:Int)<=x1/\x1<(a.n:Int)))then if ((!(a.g x1.toNat).Has)&&(decide (0<((a.g x1.toNat).W.n:Int)))) then some false else b (wrap .i64 (x1+1)) else none else none else some true) 0
def Y7 (N:Nat)(a:Sl F0):Option Int:= Q7 N (fun b (x1:Int)=>if (decide (x1<(a.n:Int))) then if ((0:Int)<=x1/\x1<(a.n:Int))then (Y1 N (a.g x1.toNat).W).bind fun y3=>if (y3 != 0) then some y3 else b (wrap .i64 (x1+1)) else none else some 0) 0
def Dn (N:Nat)(i:A6)(a:Sl F0)(b:Sl Entry):Option Int:= (Cc N i).bind fun y1=>if (y1 != 0) then some y1 else if (decide (256<(b.n:Int))) then some 12 else (R8 N i.Tree).bind fun y2=>lt (fun (z1:Bool)=>if z1 then some 2 else Q7 N (fun c (x3:Int)=>if (decide (x3<(b.n:Int))) then if ((0:Int)<=x3/\x3<(b.n:Int))then lt (fun (z4:Bool)=>if z4 then some 2 else c (wrap .i64 (x3+1))) fun k4=>if (((b.g x3.toNat).Forms.n:Int) != (y2.1.n:Int)) then k4 true else if ((0:Int)<=x3/\x3<(b.n:Int))then (Bi N (b.g x3.toNat).Forms).bind fun j=>k4 (!j) else none else none else Q7 N (fun d (x6:Int)=>if (decide (x6<(b.n:Int))) then if ((0:Int)<=x6/\x6<(b.n:Int))then (Ca N (b.g x6.toNat).Gloss).bind fun l=>if (!l) then some 15 else d (wrap .i64 (x6+1)) else none else (Y7 N a).bind fun m=>S0 N (fun f (x7:Int) (x8:Int)=>if ((decide (x8<(b.n:Int)))&&(x7==0)) then if ((0:Int)<=x8/\x8<(b.n:Int))then (Y7 N (b.g x8.toNat).Forms).bind fun o=>f o (wrap .i64 (x8+1)) else none else some x7) m 0) 0) 0) fun k1=>if ((a.n:Int) != (b.n:Int)) then k1 true else (Bi N a).bind fun y4=>k1 (!y4)
def EI (N:Nat)(a:A6)(f:Int)(b:Int):Option (Sl Law):= (EH N a.Tree f).bind fun y1=>S0 N (fun d (x3:Sl Law) (x4:Int)=>if (decide (x4<(y1.1.n:Int))) then if ((((0:Int)<=x4/\x4<(y1.1.n:Int))/\x4.toNat<y1.1.n)/\((0:Int)<=(y1.1.g x4.toNat)/\(y1.1.g x4.toNat)<(a.On.n:Int)))then S0 N (fun c (x7:Sl Law) (x8:Int)=>if (decide (x8<((a.On.g (y1.1.g x4.toNat).toNat).n:Int))) then if ((0:Int)<=x8/\x8<((a.On.g (y1.1.g x4.toNat).toNat).n:Int))then if (((a.On.g (y1.1.g x4.toNat).toNat).g x8.toNat) != b) then if (((0:Int)<=x8/\x8<((a.On.g (y1.1.g x4.toNat).toNat).n:Int))/\((0:Int)<=((a.On.g (y1.1.g x4.toNat).toNat).g x8.toNat)/\((a.On.g (y1.1.g x4.toNat).toNat).g x8.toNat)<(a.Laws.n:Int)))then if ((x7.n+(Sl.of [a.Laws.g ((a.On.g (y1.1.g x4.toNat).toNat).g x8.toNat).toNat]:Sl Law).n)*200<=140737488355328/\x7.n+(Sl.of [a.Laws.g ((a.On.g (y1.1.g x4.toNat).toNat).g x8.toNat).toNat]:Sl Law).n<=140737488355328)then c (x7.push (a.Laws.g ((a.On.g (y1.1.g x4.toNat).toNat).g x8.toNat).toNat)) (wrap .i64 (x8+1)) else none else none else c x7 (wrap .i64 (x8+1)) else none else d x7 (wrap .i64 (x4+1))) x3 0 else none else some x3) (Sl.nil:Sl Law) 0
def Ae (N:Nat)(d:A6)(b:F0)(a:Int)(c:Int):Option F0:= if (!b.Has) then some (⟨false,Si⟩:F0) else (R8 N d.Tree).bind fun y1=>if (((0:Int)<=a/\a<(y1.1.n:Int))/\a.toNat<y1.1.n)then (EI N d (y1.1.g a.toNat) c).bind fun y2=>(Bl N y2 b.W).bind fun y3=>if (y3.2 != 0) then some (⟨false,Si⟩:F0) else some (⟨true,y3.1⟩:F0) else none
def Bw (N:Nat)(d:A6)(b:F0)(c:Int)(f:F0)(a:Int):Option Bool:= (Ae N d b c a).bind fun y1=>lt (fun (z1:Bool)=>some z1) fun k1=>if y1.Has then (FG N y1.W f.W).bind fun y3=>k1 y3 else k1 false
def AN (N:Nat)(f:A6)(b:Sl F0)(d:Sl Entry)(a:Int):Option ((Sl A1)×Int):= (Dn N f b d).bind fun y1=>if (y1 != 0) then some ((Sl.nil:Sl A1),y1) else if ((decide (a<0))||(decide (1073741824<a))) then some ((Sl.nil:Sl A1),2) else S0 N (fun i (x3:Sl A1) (x4:Int)=>if (decide (x4<(d.n:Int))) then S0 N (fun c (x7:Sl A1) (x8:Int)=>if ((0:Int)<=x4/\x4<(d.n:Int))then if (decide (x8<((d.g x4.toNat).Forms.n:Int))) then if (((0:Int)<=x4/\x4<(d.n:Int))/\((0:Int)<=x8/\x8<((d.g x4.toNat).Forms.n:Int)))then if (!((d.g x4.toNat).Forms.g x8.toNat).Has) then c x7 (wrap .i64 (x8+1)) else if ((0:Int)<=x4/\x4<(b.n:Int))then (Bw N f (b.g x4.toNat) x8 ((d.g x4.toNat).Forms.g x8.toNat) (-1)).bind fun j=>if j then c x7 (wrap .i64 (x8+1)) else if ((0:Int)<=x4/\x4<(b.n:Int))then (Ae N f (b.g x4.toNat) x8 (-1)).bind fun l=>if (!l.Has) then if ((x7.n+(Sl.of [(⟨x4,x8,2,a⟩:A1)]:Sl A1).n)*32<=140737488355328/\x7.n+(Sl.of [(⟨x4,x8,2,a⟩:A1)]:Sl A1).n<=140737488355328)then c (x7.push (⟨x4,x8,2,a⟩:A1)) (wrap .i64 (x8+1)) else none else if ((x7.n+(Sl.of [(⟨x4,x8,1,a⟩:A1)]:Sl A1).n)*32<=140737488355328/\x7.n+(Sl.of [(⟨x4,x8,1,a⟩:A1)]:Sl A1).n<=140737488355328)then c (x7.push (⟨x4,x8,1,a⟩:A1)) (wrap .i64 (x8+1)) else none else none else none else none else i x7 (wrap .i64 (x4+1)) else none) x3 0 else some (x3,0)) (Sl.nil:Sl A1) 0
def S8 (N:Nat)(j:A6)(c:Sl F0)(d:Sl Entry)(a:Sl A1):Option (Bool×Int):= (AN N j c d 0).bind fun y1=>if (y1.2 != 0) then some (false,y1.2) else (R8 N j.Tree).bind fun y2=>Q7 N (fun f (x1:Int)=>if (decide (x1<(a.n:Int))) then if ((0:Int)<=x1/\x1<(a.n:Int))then if ((((decide ((a.g x1.toNat).Entry<0))=false->((0:Int)<=x1/\x1<(a.n:Int)))/\((decide ((a.g x1.toNat).Entry<0))=false->((decide ((d.n:Int)<=(a.g x1.toNat).Entry))=false->((0:Int)<=x1/\x1<(a.n:Int)))))/\((decide ((a.g x1.toNat).Entry<0))=false->((decide ((d.n:Int)<=(a.g x1.toNat).Entry))=false->((decide ((a.g x1.toNat).Leaf<0))=false->((0:Int)<=x1/\x1<(a.n:Int))))))then if ((((decide ((a.g x1.toNat).Entry<0))||(decide ((d.n:Int)<=(a.g x1.toNat).Entry)))||(decide ((a.g x1.toNat).Leaf<0)))||(decide ((y2.1.n:Int)<=(a.g x1.toNat).Leaf))) then some (false,3) else f (wrap .i64 (x1+1)) else none else none else Q7 N (fun i (x4:Int)=>if (decide (x4<(y1.1.n:Int))) then S0 N (fun b (x7:Bool) (x8:Int)=>if (decide (x8<(a.n:Int))) then if x7 then b true (wrap .i64 (x8+1)) else if ((((0:Int)<=x8/\x8<(a.n:Int))/\((0:Int)<=x4/\x4<(y1.1.n:Int)))/\x4.toNat<y1.1.n)then if ((a.g x8.toNat).Entry==(y1.1.g x4.toNat).Entry) then if ((((0:Int)<=x8/\x8<(a.n:Int))/\((0:Int)<=x4/\x4<(y1.1.n:Int)))/\x4.toNat<y1.1.n)then b ((a.g x8.toNat).Leaf==(y1.1.g x4.toNat).Leaf) (wrap .i64 (x8+1)) else none else b false (wrap .i64 (x8+1)) else none else if (!x7) then some (false,0) else i (wrap .i64 (x4+1))) false 0 else some (true,0)) 0) 0
def Bm (N:Nat)(d:A6)(b:Sl F0)(f:Sl Entry)(a:Int):Option ((Sl Int)×Int):= (AN N d b f 0).bind fun y1=>if (y1.2 != 0) then some (Sh,y1.2) else (R8 N d.Tree).bind fun y2=>if ((decide (a<0))||(decide ((y2.1.n:Int)<=a))) then some (Sh,3) else S0 N (fun c (x1:Sl Int) (x2:Int)=>if (decide (x2<(y1.1.n:Int))) then if (((0:Int)<=x2/\x2<(y1.1.n:Int))/\x2.toNat<y1.1.n)then if ((y1.1.g x2.toNat).Leaf==a) then if ((((0:Int)<=x2/\x2<(y1.1.n:Int))/\x2.toNat<y1.1.n)/\((x1.n+(Sl.of [(y1.1.g x2.toNat).Entry]:Sl Int).n)*8<=140737488355328/\x1.n+(Sl.of [(y1.1.g x2.toNat).Entry]:Sl Int).n<=140737488355328))then c (x1.push (y1.1.g x2.toNat).Entry) (wrap .i64 (x2+1)) else none else c x1 (wrap .i64 (x2+1)) else none else some (x1,0)) Sh 0
def KQ (N:Nat)(a:Sl A1)(b:Sl A1):Option Bool:= if ((a.n:Int) != (b.n:Int)) then some false else Q7 N (fun c (x1:Int)=>if (decide (x1<(a.n:Int))) then if (((0:Int)<=x1/\x1<(a.n:Int))/\((0:Int)<=x1/\x1<(b.n:Int)))then if ((((a.g x1.toNat).Entry==(b.g x1.toNat).Entry)&&(((a.g x1.toNat).Leaf==(b.g x1.toNat).Leaf)&&(((a.g x1.toNat).Kind==(b.g x1.toNat).Kind)&&((a.g x1.toNat).Cost==(b.g x1.toNat).Cost)))) != true) then some false else c (wrap .i64 (x1+1)) else none else some true) 0
theorem Ai9 {a:Sl A1}{b:Sl A1}{y:Bool}(h:KQ N a b=some y) :FunO S QJ [.p (vSl 4 A4 a),.p (vSl 4 A4 b)] [] (pB y) ([]) []:=by
 unfold KQ at h;refine A3 Z func23 ?_;apply kI Z h<;>intro h
 .cases h;exact kR Z
 refine H0 Z Pq h (fun x1=>⟨[(5,pN x1),(1,.p (vSl 4 A4 b)),(0,.p (vSl 4 A4 a))],[]⟩) (ids:=[]) (fun _ _ _ _ _ c x1 d h=>?_);apply kI Z h<;>intro h
 .refine E3 Z Pq [2,3,6,7] ?_;obtain⟨c9,h⟩:=D6 h;refine H3 (And.intro (And.intro (And.intro (And.intro c9.1 Rh) c9.2) Rh) (by decide +kernel:Ad0 Tryz.prog B1=true)) ?_;apply kI Z h<;>intro h
  .cases h;exact kR Z
  exact d _ [] _ (wrap .i64 (x1+1)) Pq h
 cases h;exact kR Z
def U8 (N:Nat)(p_x:Sl Int)(a:Sl Int):Option Bool:= if ((p_x.n:Int) != (a.n:Int)) then some false else Q7 N (fun b (x1:Int)=>if (decide (x1<(p_x.n:Int))) then if (((0:Int)<=x1/\x1<(p_x.n:Int))/\((0:Int)<=x1/\x1<(a.n:Int)))then if ((p_x.g x1.toNat) != (a.g x1.toNat)) then some false else b (wrap .i64 (x1+1)) else none else some true) 0
theorem Fo {p_x:Sl Int}{a:Sl Int}{y:Bool}(h:U8 N p_x a=some y) :FunO S JA [.p (vSl 1 (cI .i64) p_x),.p (vSl 1 (cI .i64) a)] [] (pB y) ([]) []:=by
 unfold U8 at h;refine A3 Z func26 ?_;apply kI Z h<;>intro h
 .cases h;exact kR Z
 refine H0 Z Pq h (fun x1=>⟨[(5,pN x1),(1,.p (vSl 1 (cI .i64) a)),(0,.p (vSl 1 (cI .i64) p_x))],[]⟩) (ids:=[]) (fun _ _ _ _ _ b x1 c h=>?_);apply kI Z h<;>intro h
 .refine E3 Z Pq [2,3,6,7] ?_;obtain⟨c9,h⟩:=D6 h;refine H3 c9 ?_;apply kI Z h<;>intro h
  .cases h;exact kR Z
  exact c _ [] _ (wrap .i64 (x1+1)) Pq h
 cases h;exact kR Z
def Cd (N:Nat)(a:A6):Option Bool:= if ((decide (63<(a.Tree.n:Int)))||(decide (64<(a.Laws.n:Int)))) then some (((decide ((a.Tree.n:Int)<=200))&&(decide ((a.Laws.n:Int)<=200)))&&(decide ((a.On.n:Int)<=200))) else S0 N (fun b (x1:Int) (x2:Int)=>if ((decide (x2<(a.Laws.n:Int)))&&(decide (x2<=6))) then if ((0:Int)<=x2/\x2<(a.Laws.n:Int))then (Dg N (a.Laws.g x2.toNat).Left).bind fun y5=>if ((0:Int)<=x2/\x2<(a.Laws.n:Int))then (Dg N (a.Laws.g x2.toNat).Right).bind fun y6=>b (wrap .i64 ((wrap .i64 (x1+y5))+y6)) (wrap .i64 (x2+1)) else none else none else S0 N (fun c (x3:Int) (x4:Int)=>if ((decide (x4<(a.On.n:Int)))&&(decide (x4<=200))) then if ((0:Int)<=x4/\x4<(a.On.n:Int))then c (wrap .i64 (x3+((a.On.g x4.toNat).n:Int))) (wrap .i64 (x4+1)) else none else some (((((decide ((a.Laws.n:Int)<=6))&&(decide (x1<=60)))&&(decide ((a.On.n:Int)<=200)))&&(decide (x3<=12)))&&(decide ((a.Tree.n:Int)<=8)))) 0 0) 0 0
theorem MT {b:A6}{y:Bool}(h:Cd N b=some y) :FunO S NN [.p (.agg (A7 b))] [] (pB y) ([]) []:=by
 unfold Cd at h;refine A3 Z func14 ?_;refine G4 Z Pq 2 2000 (A7 b) ?_;refine kB Z (A5 Z) Pq Pq 5 (.o (.a (decide (63<(b.Tree.n:Int)))) (.a (decide (64<(b.Laws.n:Int))))) ?_;apply kI Z h<;>intro h
 .refine kB Z (A5 Z) Pq Pq 11 (.n (.n (.a (decide ((b.Tree.n:Int)<=200))) (.a (decide ((b.Laws.n:Int)<=200)))) (.a (decide ((b.On.n:Int)<=200)))) ?_;cases h;exact kR Z
 refine G9 Z Pq h (fun x1 x2=>⟨[(5,pN x2),(4,pN 0),(3,pN x1),(1,.p (.ptr (A7 b)))],[]⟩) (ids:=[]) (fun _ _ _ _ _ c x1 x2 d h=>?_);refine kB Z (A5 Z) Pq Pq 3 (.n (.a (decide (x2<(b.Laws.n:Int)))) (.a (decide (x2<=6)))) ?_;apply kI Z h<;>intro h
 .refine E3 Z Pq [2,4,6,7,10,12,14,15] ?_;obtain⟨c9,h⟩:=D6 h;obtain⟨y5,e5,h⟩:=B9 h;refine K7 (And.intro c9 (by decide:(7:Nat)<=17)) (QP Z Y e5) ?_;obtain⟨c10,h⟩:=D6 h;obtain⟨y6,e6,h⟩:=B9 h;refine K7 (And.intro c10 (by decide:(7:Nat)<=10)) (QP Z Y e6) ?_;refine H3 Pq ?_;exact d _ [] _ (wrap .i64 ((wrap .i64 (x1+y5))+y6)) (wrap .i64 (x2+1)) Pq h
 refine G9 Z Pq h (fun x3 x4=>⟨[(6,pN x4),(4,pN x3),(3,pN x1),(1,.p (.ptr (A7 b)))],[]⟩) (ids:=[]) (fun _ _ _ _ _ f x3 x4 i h=>?_);refine kB Z (A5 Z) Pq Pq 3 (.n (.a (decide (x4<(b.On.n:Int)))) (.a (decide (x4<=200)))) ?_;apply kI Z h<;>intro h
 .obtain⟨c14,h⟩:=D6 h;exact i _ [] _ (wrap .i64 (x3+((b.On.g x4.toNat).n:Int))) (wrap .i64 (x4+1)) c14 h
 refine kB Z (A5 Z) Pq Pq 19 (.n (.n (.n (.n (.a (decide ((b.Laws.n:Int)<=6))) (.a (decide (x1<=60)))) (.a (decide ((b.On.n:Int)<=200)))) (.a (decide (x3<=12)))) (.a (decide ((b.Tree.n:Int)<=8)))) ?_;cases h;exact kR Z
def Ce (N:Nat)(a:Sl F0)(b:Sl Entry):Option Bool:= if ((((decide (6<(b.n:Int)))&&(decide ((b.n:Int)<=256)))||(decide (400<(b.n:Int))))||(decide (400<(a.n:Int)))) then some false else Q7 N (fun c (x1:Int)=>if (decide (x1<(a.n:Int))) then if ((0:Int)<=x1/\x1<(a.n:Int))then if (decide (100<((a.g x1.toNat).W.n:Int))) then some false else c (wrap .i64 (x1+1)) else none else Q7 N (fun d (x3:Int)=>if (decide (x3<(b.n:Int))) then if ((0:Int)<=x3/\x3<(b.n:Int))then if (decide (20<((b.g x3.toNat).Forms.n:Int))) then some false else Q7 N (fun f (x5:Int)=>if ((0:Int)<=x3/\x3<(b.n:Int))then if (decide (x5<((b.g x3.toNat).Forms.n:Int))) then if (((0:Int)<=x3/\x3<(b.n:Int))/\((0:Int)<=x5/\x5<((b.g x3.toNat).Forms.n:Int)))then if (decide (100<(((b.g x3.toNat).Forms.g x5.toNat).W.n:Int))) then some false else f (wrap .i64 (x5+1)) else none else d (wrap .i64 (x3+1)) else none) 0 else none else some true) 0) 0
theorem MU {c:Sl F0}{d:Sl Entry}{y:Bool}(h:Ce N c d=some y) :FunO S NO [.p (vSl 2 C0 c),.p (vSl 2 B2 d)] [] (pB y) ([]) []:=by
 unfold Ce at h;refine A3 Z func15 ?_;refine kB Z (A5 Z) Pq Pq 14 (.o (.o (.n (.a (decide (6<(d.n:Int)))) (.a (decide ((d.n:Int)<=256)))) (.a (decide (400<(d.n:Int))))) (.a (decide (400<(c.n:Int))))) ?_;apply kI Z h<;>intro h
 .cases h;exact kR Z
 refine H0 Z Pq h (fun x1=>⟨[(5,pN x1),(1,.p (vSl 2 B2 d)),(0,.p (vSl 2 C0 c))],[]⟩) (ids:=[]) (fun _ _ _ _ _ f x1 i h=>?_);apply kI Z h<;>intro h
 .obtain⟨c9,h⟩:=D6 h;refine D4 Z c9 (b:=decide (100<((c.g x1.toNat).W.n:Int))) (fun c10=>?_) (fun c10=>?_)
  .replace h:=itT c10 h;cases h;exact kR Z
  replace h:=itF c10 h;exact i _ [] _ (wrap .i64 (x1+1)) Pq h
 refine H0 Z Pq h (fun x3=>⟨[(6,pN x3),(1,.p (vSl 2 B2 d))],[]⟩) (ids:=[]) (fun _ _ _ _ _ j x3 l h=>?_);apply kI Z h<;>intro h
 .obtain⟨c42,h⟩:=D6 h;refine D4 Z c42 (b:=decide (20<((d.g x3.toNat).Forms.n:Int))) (fun c43=>?_) (fun c43=>?_)
  .replace h:=itT c43 h;cases h;exact kR Z
  replace h:=itF c43 h;refine H0 Z Pq h (fun x5=>⟨[(7,pN x5),(6,pN x3),(1,.p (vSl 2 B2 d))],[]⟩) (ids:=[]) (fun _ _ _ _ _ m x5 q h=>?_);obtain⟨c52,h⟩:=D6 h;refine D4 Z c52 (b:=decide (x5<((d.g x3.toNat).Forms.n:Int))) (fun c53=>?_) (fun c53=>?_)
  .replace h:=itT c53 h;obtain⟨c54,h⟩:=D6 h;refine D4 Z c54 (b:=decide (100<(((d.g x3.toNat).Forms.g x5.toNat).W.n:Int))) (fun c55=>?_) (fun c55=>?_)
   .replace h:=itT c55 h;cases h;exact kR Z
   replace h:=itF c55 h;exact q _ [] _ (wrap .i64 (x5+1)) Pq h
  replace h:=itF c53 h;exact l _ [] _ (wrap .i64 (x3+1)) Pq h
 cases h;exact kR Z
def Oy (N:Nat)  : Option Sm:= some (⟨2,5⟩:Sm)
theorem Yb    {y:Sm}(h:Oy N  = some y) :FunO S At0 [] [] (.p (.agg (A0 y))) ([]) []:=by unfold Oy at h;refine A3 Z func41 ?_;cases h;exact kR Z
def SP (N:Nat)  : Option Sm:= some (⟨3,4⟩:Sm)
theorem Au3    {y:Sm}(h:SP N  = some y) :FunO S At1 [] [] (.p (.agg (A0 y))) ([]) []:=by unfold SP at h;refine A3 Z func42 ?_;cases h;exact kR Z
def FJ (N:Nat)  : Option Sm:= some (⟨5,2⟩:Sm)
theorem IH    {y:Sm}(h:FJ N  = some y) :FunO S As9 [] [] (.p (.agg (A0 y))) ([]) []:=by unfold FJ at h;refine A3 Z func40 ?_;cases h;exact kR Z
def Yc (N:Nat)  : Option Law:= some (⟨[86],Pat.mk 1 (⟨4,0⟩:Sm) false 0 0 (Sl.nil:Sl Pat).n (Sl.nil:Sl Pat).g,Pat.mk 1 (⟨4,0⟩:Sm) false 0 0 (Sl.nil:Sl Pat).n (Sl.nil:Sl Pat).g,(Sl.of [(⟨2,0⟩:Sm)]:Sl Sm),(Sl.of [(⟨0,0,(⟨1,0⟩:Sm),0,0⟩:FS)]:Sl FS),1⟩:Law)
theorem AX0    {y:Law}(h:Yc N  = some y) :FunO S At2 [] [] (.p (.agg (B5 y))) ([]) []:=by unfold Yc at h;refine A3 Z func67 ?_;obtain rfl:=C4 h;exact A9 Z (And.intro Rp Rp) ⟨[(0,.reg 1000 0)],[(1000,.cells [.p (.str [86]),pN 1,pU 4,pU 0,pB false,pN 0,pN 0,.p (.sl false 7 (Sl.nil:Sl Pat).n (Bt (Pat.mk 1 (⟨4,0⟩:Sm) false 0 0 (Sl.nil:Sl Pat).n (Sl.nil:Sl Pat).g))),pN 1,pU 4,pU 0,pB false,pN 0,pN 0,.p (.sl false 7 (Sl.nil:Sl Pat).n (Bt (Pat.mk 1 (⟨4,0⟩:Sm) false 0 0 (Sl.nil:Sl Pat).n (Sl.nil:Sl Pat).g))),.p (vSl 2 A0 (Sl.of [(⟨2,0⟩:Sm)]:Sl Sm)),.p (vSl 6 Ax (Sl.of [(⟨0,0,(⟨1,0⟩:Sm),0,0⟩:FS)]:Sl FS)),pN 1])]⟩ [] (ids:=[(1000,1000)]) ⟨rfl,rfl,rfl⟩ (hle:=klR [(15,.fn 1 (Sl.of [(⟨2,0⟩:Sm)]:Sl Sm).n (D3 [pI .u32 0,pI .u32 0] [(0,A0 (⟨2,0⟩:Sm))]) (fun i=>A0 ((Sl.of [(⟨2,0⟩:Sm)]:Sl Sm).g i))),(16,.fn 1 (Sl.of [(⟨0,0,(⟨1,0⟩:Sm),0,0⟩:FS)]:Sl FS).n (D3 [pI .i64 0,pI .u32 0,pI .u32 0,pI .u32 0,pI .u32 0,pI .i64 0] [(0,Ax (⟨0,0,(⟨1,0⟩:Sm),0,0⟩:FS))]) (fun i=>Ax ((Sl.of [(⟨0,0,(⟨1,0⟩:Sm),0,0⟩:FS)]:Sl FS).g i)))] (al1 ⟨rfl,(fun i a=>match i,a with|0,_=>rfl|_+1,a=>Pm a (by omega))⟩ (al1 ⟨rfl,(fun i a=>match i,a with|0,_=>rfl|_+1,a=>Pm a (by omega))⟩ al0)))
def Yd (N:Nat)  : Option Law:= some (⟨[70],Pat.mk 0 (⟨0,0⟩:Sm) false 0 0 (Sl.nil:Sl Pat).n (Sl.nil:Sl Pat).g,Pat.mk 6 (⟨0,0⟩:Sm) false 0 0 (Sl.nil:Sl Pat).n (Sl.nil:Sl Pat).g,(Sl.of [(⟨4,0⟩:Sm)]:Sl Sm),(Sl.nil:Sl FS),1⟩:Law)
theorem AX1    {y:Law}(h:Yd N  = some y) :FunO S At3 [] [] (.p (.agg (B5 y))) ([]) []:=by unfold Yd at h;refine A3 Z func68 ?_;obtain rfl:=C4 h;exact A9 Z Rp ⟨[(0,.reg 1000 0)],[(1000,.cells [.p (.str [70]),pN 0,pU 0,pU 0,pB false,pN 0,pN 0,.p (.sl false 7 (Sl.nil:Sl Pat).n (Bt (Pat.mk 0 (⟨0,0⟩:Sm) false 0 0 (Sl.nil:Sl Pat).n (Sl.nil:Sl Pat).g))),pN 6,pU 0,pU 0,pB false,pN 0,pN 0,.p (.sl false 7 (Sl.nil:Sl Pat).n (Bt (Pat.mk 6 (⟨0,0⟩:Sm) false 0 0 (Sl.nil:Sl Pat).n (Sl.nil:Sl Pat).g))),.p (vSl 2 A0 (Sl.of [(⟨4,0⟩:Sm)]:Sl Sm)),.p (vSl 6 Ax (Sl.nil:Sl FS)),pN 1])]⟩ [] (ids:=[(1000,1000)]) ⟨rfl,rfl,rfl⟩ (hle:=klR [(15,.fn 1 (Sl.of [(⟨4,0⟩:Sm)]:Sl Sm).n (D3 [pI .u32 0,pI .u32 0] [(0,A0 (⟨4,0⟩:Sm))]) (fun i=>A0 ((Sl.of [(⟨4,0⟩:Sm)]:Sl Sm).g i)))] (al1 ⟨rfl,(fun i a=>match i,a with|0,_=>rfl|_+1,a=>Pm a (by omega))⟩ al0))
def FK (N:Nat)  : Option A6:= (Yc N ).bind fun y1=>(Yd N ).bind fun y2=>some (⟨(Sl.of [(⟨-1,[114]⟩:J4),(⟨0,[109]⟩:J4),(⟨1,[107]⟩:J4),(⟨0,[110]⟩:J4)]:Sl J4),(Sl.of [y1,y2]:Sl Law),(Sl.of [Sh,(Sl.of [0]:Sl Int),(Sl.of [1]:Sl Int),Sh]:Sl (Sl Int))⟩:A6)
theorem SQ    {y:A6}(h:FK N  = some y) :FunO S JE [] [] (.p (.agg (A7 y))) ([]) []:=by unfold FK at h;refine A3 Z func38 ?_;obtain⟨y1,e1,h⟩:=B9 h;refine C6 Z [] Rp (AX0 Z Y e1) ?_;refine kC Z h (AX1 Z Y) (fun y2 h=>?_);refine P0 Z (And.intro (And.intro Rp Rp) Rp) 13 ⟨[(12,.vec 13000),(11,.vec 12000),(10,.vec 11000),(7,.vec 7000),(0,.reg 1000 0)],[(13000,.vec C7 1 (Sl.of [1]:Sl Int).n (fun i=>cI .i64 ((Sl.of [1]:Sl Int).g i)) true),(12000,.vec C7 1 (Sl.of [0]:Sl Int).n (fun i=>cI .i64 ((Sl.of [0]:Sl Int).g i)) true),(11000,.vec K8 18 (Sl.of [y1,y2]:Sl Law).n (fun i=>B5 ((Sl.of [y1,y2]:Sl Law).g i)) false),(7000,.vec KM 2 (Sl.of [(⟨-1,[114]⟩:J4),(⟨0,[109]⟩:J4),(⟨1,[107]⟩:J4),(⟨0,[110]⟩:J4)]:Sl J4).n (fun i=>G5 ((Sl.of [(⟨-1,[114]⟩:J4),(⟨0,[109]⟩:J4),(⟨1,[107]⟩:J4),(⟨0,[110]⟩:J4)]:Sl J4).g i)) false),(1000,.cells [.p M8,.p M8,.p M8])]⟩ (ids:=[(1000,1000),(7000,7000),(11000,11000),(12000,12000),(13000,13000)]) ?_ (hle:=klR [(0,.fn 1 (Sl.of [1]:Sl Int).n (D3 [pI .i64 0] [(0,cI .i64 1)]) (fun i=>cI .i64 ((Sl.of [1]:Sl Int).g i))),(1,.fn 1 (Sl.of [0]:Sl Int).n (D3 [pI .i64 0] [(0,cI .i64 0)]) (fun i=>cI .i64 ((Sl.of [0]:Sl Int).g i))),(2,.fn 2 (Sl.of [y1,y2]:Sl Law).n (D3 [.str [],pI .i64 0,pI .u32 0,pI .u32 0,.v (.bool false),pI .i64 0,pI .i64 0,M8,pI .i64 0,pI .u32 0,pI .u32 0,.v (.bool false),pI .i64 0,pI .i64 0,M8,M8,M8,pI .i64 0] [(0,B5 y1),(1,B5 y2)]) (fun i=>B5 ((Sl.of [y1,y2]:Sl Law).g i))),(3,.fn 4 (Sl.of [(⟨-1,[114]⟩:J4),(⟨0,[109]⟩:J4),(⟨1,[107]⟩:J4),(⟨0,[110]⟩:J4)]:Sl J4).n (D3 [pI .i64 0,.str []] [(0,G5 (⟨-1,[114]⟩:J4)),(1,G5 (⟨0,[109]⟩:J4)),(2,G5 (⟨1,[107]⟩:J4)),(3,G5 (⟨0,[110]⟩:J4))]) (fun i=>G5 ((Sl.of [(⟨-1,[114]⟩:J4),(⟨0,[109]⟩:J4),(⟨1,[107]⟩:J4),(⟨0,[110]⟩:J4)]:Sl J4).g i)))] (al1 ⟨rfl,(fun i a=>match i,a with|0,_=>rfl|_+1,a=>Pm a (by omega))⟩ (al1 ⟨rfl,(fun i a=>match i,a with|0,_=>rfl|_+1,a=>Pm a (by omega))⟩ (al1 ⟨rfl,(fun i a=>match i,a with|0,_=>rfl|1,_=>rfl|_+2,a=>Pm a (by omega))⟩ (al1 ⟨rfl,(fun i a=>match i,a with|0,_=>rfl|1,_=>rfl|2,_=>rfl|3,_=>rfl|_+4,a=>Pm a (by omega))⟩ al0)))));refine AV5 Z Rp 14 14000 (k:=1) (n:=4) (e:=SD) (vw:=false) (D3 [M8] [(0,[M8]),(1,cL 1 (cI .i64) (Sl.of [0]:Sl Int)),(2,cL 1 (cI .i64) (Sl.of [1]:Sl Int)),(3,[M8])]) (fun i=>cL 1 (cI .i64) ((Sl.of [Sh,(Sl.of [0]:Sl Int),(Sl.of [1]:Sl Int),Sh]:Sl (Sl Int)).g i)) (fun i a=>match i,a with|0,_=>leCn|1,_=>leCr _|2,_=>leCr _|3,_=>leCn|_+4,a=>Pm a (by omega)) ?_;obtain rfl:=C4 h;exact A9 Z Pq ⟨[(0,.reg 1000 0)],[(1000,.cells [.p (vSl 2 G5 (Sl.of [(⟨-1,[114]⟩:J4),(⟨0,[109]⟩:J4),(⟨1,[107]⟩:J4),(⟨0,[110]⟩:J4)]:Sl J4)),.p (vSl 18 B5 (Sl.of [y1,y2]:Sl Law)),.p (vSl 1 (cL 1 (cI .i64)) (Sl.of [Sh,(Sl.of [0]:Sl Int),(Sl.of [1]:Sl Int),Sh]:Sl (Sl Int)))])]⟩ [] (ids:=[(1000,1000)]) ⟨rfl,rfl,rfl⟩
def Fd (N:Nat)(a:Sl Sm):Option F0:= some (⟨true,a⟩:F0)
theorem KR {a:Sl Sm}{y:F0}(h:Fd N a=some y) :FunO S QK [.p (vSl 2 A0 a)] [] (.p (.agg (C0 y))) ([]) []:=by unfold Fd at h;refine A3 Z func39 ?_;cases h;exact kR Z
def FL (N:Nat)(a:Sl F0):Option Entry:= some (⟨[103],a⟩:Entry)
theorem Oz {a:Sl F0}{y:Entry}(h:FL N a=some y) :FunO S NQ [.p (vSl 2 C0 a)] [] (.p (.agg (B2 y))) ([]) []:=by unfold FL at h;refine A3 Z func43 ?_;cases h;exact kR Z
end Go.AM
namespace Go.AM
open IntKind (wrap)
open Go.Proofs
set_option maxRecDepth 10000
set_option maxHeartbeats 2000000
variable {S:U3}(Z:H2 S Tryz.prog) (Y:Ij S)
abbrev Gl (es:List (Str×F0)):Obj:=.map (Ju PV.str (fun x=>.agg (C0 x)) es)
abbrev AX2 (M:Sl (List (Str×F0))):List Obj:=[.cells [.vec 1],.fam B0 M.n 2 none,.rows M.n fun i=>Gl (M.g i)]
theorem Bi5 {i n:Nat}{g:Nat->Obj}:∀q,q<n->(fun q=>if q=i then g i else if q=i then Obj.dead else g q) q=(fun q=>g q) q:=fun q _=>by
 show (if q=i then g i else if q=i then Obj.dead else g q)=g q;by_cases h:q=i
 .subst h;rw[Pk rfl]
 rw[Pl h,Pl h]
theorem Bi6 {i n:Nat}{M:Sl (List (Str×F0))}{x:List (Str×F0)}:∀q,q<n->(fun q=>if q=i then Gl x else if q=i then Obj.dead else Gl (M.g q)) q=(fun q=>Gl ((M.upd i x).g q)) q:=fun q _=>by
 show (if q=i then Gl x else if q=i then Obj.dead else Gl (M.g q))=Gl (if q=i then x else M.g q);by_cases h:q=i
 .rw[Pk h,Pk h]
 rw[Pl h,Pl h,Pl h]
abbrev knO (K i:Nat):Obj:=if i<K then Gl []else .ghost [.p (.v (.map none))]
theorem obKn {K x n:Nat}(hx:x=K):∀q,q<n->(fun q=>if q=x then Obj.map []else if q=x then Obj.dead else knO K q) q=(fun i=>knO (K+1) i) q:=fun q _=>by
 show (if q=x then Gl []else if q=x then Obj.dead else if q<K then Gl []else .ghost [.p (.v (.map none))])=if q<K+1 then Gl []else .ghost [.p (.v (.map none))]
 by_cases e:q=x
 .rw[Pk e,Pk (by omega)]
 rw[Pl e,Pl e];by_cases e2:q<K
 .rw[Pk e2,Pk (by omega)]
 rw[Pl e2,Pl (by omega)]
include Z Y
def H1 (N:Nat)(p:F0)(leaf:Int)(M:Sl (List (Str×F0)))(X:Sl (Sl Law)):Option (Sl Sm×Bool×Sl (List (Str×F0))):= if (!p.Has) then some (Si,false,M) else if leaf.toNat<M.n then if ((0:Int)<=leaf/\leaf<(M.n:Int))then (CG N p.W).bind fun k=>AN3 (X1 eqS k (M.g leaf.toNat)) (if ((0:Int)<=leaf/\leaf<(X.n:Int))then (K3 N (X.g leaf.toNat) p.W).bind fun w=>some (w.1,w.2==0,M.upd leaf.toNat (HF eqS k (⟨w.2==0,w.1⟩:F0) (M.g leaf.toNat))) else none) fun v=>some (v.W,v.Has,M) else none else none
theorem X4 {N:Nat}{p:F0}{leaf:Int}{X:Sl (Sl Law)}{M:Sl (List (Str×F0))}{y:Sl Sm×Bool×Sl (List (Str×F0))}(h:H1 N p leaf M X=some y) :FunO S D1 [.p (.agg (C0 p)),pN leaf,.reg 0 0,.p (.ptr [vSl 1 (cL 18 B5) X])] (AX2 M) (.tup [.p (vSl 2 A0 y.1),pB y.2.1]) (AX2 y.2.2) [true,true,false]:=by
 unfold H1 at h;refine A3 Z Tryz.func80 ?_;refine G4 Z Pq 12 5000 (C0 p) ?_;apply kI Z h<;>intro h
 .obtain rfl:=C4 h;exact A9 Z Pq ⟨[(7,pB false),(6,.p (vSl 2 A0 Si))],[(9902,.rows M.n fun i=>Gl (M.g i)),(1,.fam B0 M.n 9902 none),(0,.cells [.vec 1])]⟩ [0,1,9902] (ids:=[(0,0),(1,1),(9902,2)]) ⟨rfl,rfl,rfl⟩
 obtain⟨c1,h⟩:=D6 h;obtain⟨c2,h⟩:=D6 h;refine Zz Z Pq (.take 1 leaf.toNat 9801) (⟨⟨by decide,rfl⟩,c1⟩:(1000<=9801/\M.n=M.n)/\leaf.toNat<M.n) ?_;obtain⟨k,e1,h⟩:=B9 h;refine T4 Z Pq [(0,.l [0]),(2,.l [1]),(3,.l [1]),(5,.n),(6,.n),(7,.l [9801]),(11,.a [9000]),(12,.a [9000])] ?_;refine K7 (And.intro c2 (And.intro c1 (rfl:leaf.toNat=leaf.toNat))) (LK Z Y e1) ?_;rcases o1:X1 eqS k (M.g leaf.toNat)with _|v1
 .replace h:=Bl5 o1 h;refine Zu Pq (kt:=Ct) (e:=Ck) (key:=PV.str k) (es:=Ju PV.str (fun x=>.agg (C0 x)) (M.g leaf.toNat)) (x:=.agg [.v (.bool false),M8]) (b:=false) (fd:=none) ((BI (kP:=PV.str) (vP:=fun x=>.agg (C0 x)) (eq:=eqS) (fun _ _=>by kernel_rfl) k (M.g leaf.toNat)).trans (by rw[o1];rfl)) Pq ?_;refine H3 Pq ?_;refine D4 Z Pq (b:=true) (fun c=>?_) (fun c=>Bool.noConfusion (Rp.symm.trans c));obtain⟨c3,h⟩:=D6 h;obtain⟨w,e2,h⟩:=B9 h;refine E3 Z Pq [0,2,3,5,6] ?_;refine K7 c3 (Ov Z Y e2) ?_;refine H3 Pq ?_;refine T4 Z Pq [(0,.l [0]),(2,.l [1]),(3,.l [1]),(5,.n),(6,.n),(7,.l [9000])] ?_;refine K7 (And.intro c2 (And.intro c1 (rfl:leaf.toNat=leaf.toNat))) (LK Z Y e1) ?_;refine AG6 Pq (kt:=Ct) (key:=PV.str k) (y:=(fun x=>.agg (C0 x)) (⟨w.2==0,w.1⟩:F0)) (es:=Ju PV.str (fun x=>.agg (C0 x)) (M.g leaf.toNat)) (Hq (kP:=PV.str) (vP:=fun x=>.agg (C0 x)) (eq:=eqS) (fun _ _=>by kernel_rfl) k (⟨w.2==0,w.1⟩:F0) (M.g leaf.toNat)) Pq ?_;refine H3 Pq ?_;obtain rfl:=C4 h;refine Zz Z Pq (.put 1 9902) (⟨⟨by decide,rfl⟩,c1⟩:(1000<=9902/\M.n=M.n)/\leaf.toNat<M.n) ?_;refine Ep Z Pq ?_;refine H3 Pq ?_;exact A9 Z Pq ⟨[(7,pB (w.2==0)),(6,.p (vSl 2 A0 w.1))],[(9902,.rows M.n fun i=>Gl ((M.upd leaf.toNat (HF eqS k (⟨w.2==0,w.1⟩:F0) (M.g leaf.toNat))).g i)),(1,.fam B0 M.n 9902 none),(0,.cells [.vec 1])]⟩ [0,1,9902] (ids:=[(0,0),(1,1),(9902,9902)]) ⟨rfl,rfl,rfl⟩ (hle:=klR [(3,.ob M.n (fun q=>if q=leaf.toNat then Gl (HF eqS k (⟨w.2==0,w.1⟩:F0) (M.g leaf.toNat))else if q=leaf.toNat then .dead else Gl (M.g q)) fun i=>Gl ((M.upd leaf.toNat (HF eqS k (⟨w.2==0,w.1⟩:F0) (M.g leaf.toNat))).g i))] (al1 Bi6 al0))
 replace h:=Bl6 o1 h;refine Zu Pq (kt:=Ct) (e:=Ck) (key:=PV.str k) (es:=Ju PV.str (fun x=>.agg (C0 x)) (M.g leaf.toNat)) (x:=.agg (C0 v1)) (b:=true) (fd:=some (.agg (C0 v1))) ((BI (kP:=PV.str) (vP:=fun x=>.agg (C0 x)) (eq:=eqS) (fun _ _=>by kernel_rfl) k (M.g leaf.toNat)).trans (by rw[o1];rfl)) Pq ?_;refine H3 Pq ?_;obtain rfl:=C4 h;refine D4 Z Pq (b:=false) (fun c=>Bool.noConfusion ((rfl:false=false).symm.trans c)) (fun c=>?_);refine Zz Z Pq (.put 1 9902) (⟨⟨by decide,rfl⟩,c1⟩:(1000<=9902/\M.n=M.n)/\leaf.toNat<M.n) ?_;refine Ep Z Pq ?_;refine H3 Pq ?_;exact A9 Z Pq ⟨[(7,pB v1.Has),(6,.p (vSl 2 A0 v1.W))],[(9902,.rows M.n fun i=>Gl (M.g i)),(1,.fam B0 M.n 9902 none),(0,.cells [.vec 1])]⟩ [0,1,9902] (ids:=[(0,0),(1,1),(9902,9902)]) ⟨rfl,rfl,rfl⟩ (hle:=klR [(3,.ob M.n (fun q=>if q=leaf.toNat then Gl (M.g leaf.toNat)else if q=leaf.toNat then .dead else Gl (M.g q)) fun i=>Gl (M.g i))] (al1 (Bi5 (g:=fun i=>Gl (M.g i))) al0))
def J0 (N:Nat)(a:A6)(b:Int):Option (Sl (Sl Law)):= (J9 N a.Tree).bind fun l=>if ((0:Int)<=(l.1.n:Int)/\(l.1.n:Int)<=(l.1.n:Int)/\(l.1.n:Int)*24<=140737488355328/\(l.1.n:Int)<=140737488355328)then if ((0:Int)<=(l.1.n:Int)/\(l.1.n:Int)<=(l.1.n:Int)/\(l.1.n:Int)*8<=140737488355328/\(l.1.n:Int)<=140737488355328)then Am8 N (fun f (K:Nat) (X:Sl (Sl Law)) (x:Int)=>if (decide (x<(l.1.n:Int))) then if (((0:Int)<=x/\x<(l.1.n:Int))/\x.toNat<l.1.n)then (DN N a.Tree (l.1.g x.toNat)).bind fun w=>S0 N (fun d (X:Sl (Sl Law)) (y:Int)=>if (decide (y<(w.1.n:Int))) then if ((((0:Int)<=y/\y<(w.1.n:Int))/\y.toNat<w.1.n)/\((0:Int)<=(w.1.g y.toNat)/\(w.1.g y.toNat)<(a.On.n:Int)))then S0 N (fun c (X:Sl (Sl Law)) (z:Int)=>if (decide (z<((a.On.g (w.1.g y.toNat).toNat).n:Int))) then if ((0:Int)<=z/\z<((a.On.g (w.1.g y.toNat).toNat).n:Int))then if (((a.On.g (w.1.g y.toNat).toNat).g z.toNat) != b) then if x.toNat<X.n then if (((0:Int)<=x/\x<(X.n:Int))/\((0:Int)<=((a.On.g (w.1.g y.toNat).toNat).g z.toNat)/\((a.On.g (w.1.g y.toNat).toNat).g z.toNat)<(a.Laws.n:Int)))then if (((X.g x.toNat).n+1)*200<=140737488355328/\(X.g x.toNat).n+1<=140737488355328)then c (X.upd x.toNat ((X.g x.toNat).push (a.Laws.g ((a.On.g (w.1.g y.toNat).toNat).g z.toNat).toNat))) (wrap .i64 (z+1)) else none else none else none else c X (wrap .i64 (z+1)) else none else d X (wrap .i64 (y+1))) X 0 else none else if x.toNat=K/\K<l.1.n then f (K+1) X (wrap .i64 (x+1))else none) X 0 else none else if K=l.1.n/\X.n=l.1.n then some X else none) 0 ⟨l.1.n,fun _=>Sl.nil⟩ 0 else none else none
theorem Bg {N:Nat}{f:A6}{d:Int}{y:Sl (Sl Law)}(h:J0 N f d=some y) :FunO S FY [.p (.agg (A7 f)),pN d] [] (.clo D1 [] [.reg 0 0,.p (.ptr [vSl 1 (cL 18 B5) y])]) (AX2 ⟨y.n,fun _=>[]⟩) []:=by
 unfold J0 at h;refine A3 Z Tryz.func49 ?_;refine G4 Z Pq 18 3000 (A7 f) ?_;obtain⟨l,e1,h⟩:=B9 h;refine C6 Z [] Pq (Aj Z Y e1) ?_;obtain⟨c1,h⟩:=D6 h;refine HR Z c1 26 (.fam 26000 9901 fun i=>Mb K8 18 B5 ((⟨l.1.n,fun _=>Sl.nil⟩:Sl (Sl Law)).g i)) (⟨by decide,fun i _=>rfl⟩:1000<=9901/\∀i,i<l.1.n->TZ [M8] (Mb K8 18 B5 ((⟨l.1.n,fun _=>Sl.nil⟩:Sl (Sl Law)).g i))) ?_;obtain⟨c2,h⟩:=D6 h;refine HR Z c2 29 (.fam 29000 9951 fun i=>knO 0 i) (⟨by decide,fun i _=>⟨rfl,rfl⟩⟩:1000<=9951/\∀i,i<l.1.n->TZ [.v (.map none)] (knO 0 i)) ?_;refine IU Z Pq h (fun K X x=>⟨[(31,pN x),(30,pN (l.1.n:Int)),(29,.vec 21000),(8,.reg 9000 0),(7,.reg 8000 0),(2,.p (.ptr (A7 f))),(1,pN d)],
  [(29000,.fam B0 l.1.n 9951 none),(26000,.fam Ec X.n 9901 none),(21000,.vec C7 1 l.1.n (fun i=>cI .i64 (l.1.g i)) true),(9951,.rows l.1.n fun i=>knO K i),(9901,.rows X.n fun i=>Mb K8 18 B5 (X.g i)),(9000,.cells [.vec 29000]),(8000,.cells [.vec 26000])]⟩) (ids:=[(29000,29000),(26000,26000),(21000,21000),(9951,9951),(9901,9901),(9000,9000),(8000,8000)]) (fun _ _ _ _ _ t K X x m h=>?_)
 apply kI Z h<;>intro h
 .obtain⟨c3,h⟩:=D6 h;obtain⟨w,e2,h⟩:=B9 h;refine C6 Z [] c3 (Ya Z Y e2) ?_;refine G9 Z Pq h (fun X u=>⟨[(45,pN u),(44,pN (w.1.n:Int)),(43,.vec 41000),(31,pN x),(30,pN (l.1.n:Int)),(29,.vec 21000),(9,pN x),(8,.reg 9000 0),(7,.reg 8000 0),(2,.p (.ptr (A7 f))),(1,pN d)],[(41000,.vec C7 1 w.1.n (fun i=>cI .i64 (w.1.g i)) true),(29000,.fam B0 l.1.n 9951 none),(26000,.fam Ec X.n 9901 none),(21000,.vec C7 1 l.1.n (fun i=>cI .i64 (l.1.g i)) true),(9951,.rows l.1.n fun i=>knO K i),(9901,.rows X.n fun i=>Mb K8 18 B5 (X.g i)),(9000,.cells [.vec 29000]),(8000,.cells [.vec 26000])]⟩) (ids:=[(41000,41000),(29000,29000),(26000,26000),(21000,21000),(9951,9951),(9901,9901),(9000,9000),(8000,8000)]) (fun _ _ _ _ _ o X u r h=>?_);apply kI Z h<;>intro h
  .obtain⟨c4,h⟩:=D6 h;refine G9 Z c4 h (fun X z=>⟨[(55,pN z),(54,pN ((f.On.g (w.1.g u.toNat).toNat).n:Int)),(53,.p (vSl 1 (cI .i64) (f.On.g (w.1.g u.toNat).toNat))),(45,pN u),(44,pN (w.1.n:Int)),(43,.vec 41000),(31,pN x),(30,pN (l.1.n:Int)),(29,.vec 21000),(9,pN x),(8,.reg 9000 0),(7,.reg 8000 0),(2,.p (.ptr (A7 f))),(1,pN d)],[(41000,.vec C7 1 w.1.n (fun i=>cI .i64 (w.1.g i)) true),(29000,.fam B0 l.1.n 9951 none),(26000,.fam Ec X.n 9901 none),(21000,.vec C7 1 l.1.n (fun i=>cI .i64 (l.1.g i)) true),(9951,.rows l.1.n fun i=>knO K i),(9901,.rows X.n fun i=>Mb K8 18 B5 (X.g i)),(9000,.cells [.vec 29000]),(8000,.cells [.vec 26000])]⟩) (ids:=[(41000,41000),(29000,29000),(26000,26000),(21000,21000),(9951,9951),(9901,9901),(9000,9000),(8000,8000)]) (fun _ _ _ _ _ s X z j h=>?_);apply kI Z h<;>intro h
   .obtain⟨c5,h⟩:=D6 h;refine D4 Z c5 (b:=((f.On.g (w.1.g u.toNat).toNat).g z.toNat) != d) (fun c6=>?_) (fun c6=>?_)
    .replace h:=itT c6 h;obtain⟨c7,h⟩:=D6 h;obtain⟨c8,h⟩:=D6 h;obtain⟨c9,h⟩:=D6 h;refine Zz Z Pq (.take 26000 x.toNat 9801) (⟨⟨by decide,rfl⟩,c7⟩:(1000<=9801/\X.n=X.n)/\x.toNat<X.n) ?_;refine T4 Z Pq [(0,.l [8000]),(2,.l [8000]),(4,.l [26000]),(5,.l [26000]),(6,.n),(7,.n),(9,.n),(10,.n),(12,.a [75000,9801]),(13,.l [26000]),(14,.a [26000])] ?_;refine Y8 (And.intro (And.intro (And.intro c8.1 (And.intro c7 (rfl:x.toNat=x.toNat))) c8.2) Rj) (x:=.sl true 18 1 (D3 [.str [],pI .i64 0,pI .u32 0,pI .u32 0,.v (.bool false),pI .i64 0,pI .i64 0,M8,pI .i64 0,pI .u32 0,pI .u32 0,.v (.bool false),pI .i64 0,pI .i64 0,M8,M8,M8,pI .i64 0] [(0,B5 (f.Laws.g ((f.On.g (w.1.g u.toNat).toNat).g z.toNat).toNat))])) ?_;refine H3 (And.intro (And.intro c9 c8.1) (And.intro c7 (rfl:x.toNat=x.toNat))) ?_;refine P0 Z Pq 76 ⟨[(55,pN z),(54,pN ((f.On.g (w.1.g u.toNat).toNat).n:Int)),(53,.p (vSl 1 (cI .i64) (f.On.g (w.1.g u.toNat).toNat))),(45,pN u),(44,pN (w.1.n:Int)),(43,.vec 41000),(31,pN x),(30,pN (l.1.n:Int)),(29,.vec 21000),(9,pN x),(8,.reg 9000 0),(7,.reg 8000 0),(2,.p (.ptr (A7 f))),(1,pN d)],[(75000,Mb K8 18 B5 ((X.g x.toNat).push (f.Laws.g ((f.On.g (w.1.g u.toNat).toNat).g z.toNat).toNat))),(41000,.vec C7 1 w.1.n (fun i=>cI .i64 (w.1.g i)) true),(29000,.fam B0 l.1.n 9951 none),(26000,.fam Ec X.n 9901 (some (x.toNat,.vec 75000))),(21000,.vec C7 1 l.1.n (fun i=>cI .i64 (l.1.g i)) true),(9951,.rows l.1.n fun i=>knO K i),(9901,(.rows X.n fun q=>if q=x.toNat then .dead else Mb K8 18 B5 (X.g q))),(9000,.cells [.vec 29000]),(8000,.cells [.vec 26000])]⟩ (ids:=[(75000,75000),(41000,41000),(29000,29000),(26000,26000),(21000,21000),(9951,9951),(9901,9901),(9000,9000),(8000,8000)]) ?_ (hle:=klR [(10,.fn ((X.g x.toNat).n+1) ((X.g x.toNat).push (f.Laws.g ((f.On.g (w.1.g u.toNat).toNat).g z.toNat).toNat)).n (T2 (X.g x.toNat).n (fun i=>B5 ((X.g x.toNat).g i)) (D3 [.str [],pI .i64 0,pI .u32 0,pI .u32 0,.v (.bool false),pI .i64 0,pI .i64 0,M8,pI .i64 0,pI .u32 0,pI .u32 0,.v (.bool false),pI .i64 0,pI .i64 0,M8,M8,M8,pI .i64 0] [(0,B5 (f.Laws.g ((f.On.g (w.1.g u.toNat).toNat).g z.toNat).toNat))])) (fun i=>B5 (((X.g x.toNat).push (f.Laws.g ((f.On.g (w.1.g u.toNat).toNat).g z.toNat).toNat)).g i)))] (al1 ⟨rfl,EA (c:=B5) (v:=X.g x.toNat) (x:=f.Laws.g ((f.On.g (w.1.g u.toNat).toNat).g z.toNat).toNat) (z:=[(.str []),pI .i64 0,pI .u32 0,pI .u32 0,.v (.bool false),pI .i64 0,pI .i64 0,M8,pI .i64 0,pI .u32 0,pI .u32 0,.v (.bool false),pI .i64 0,pI .i64 0,M8,M8,M8,pI .i64 0]) same rfl rfl⟩ al0));refine HR Z Pq 76 (.put 26000 9902) (⟨⟨by decide,rfl⟩,c7⟩:(1000<=9902/\X.n=X.n)/\x.toNat<X.n) ?_;exact j _ [(41000,41000),(29000,29000),(26000,26000),(21000,21000),(9951,9951),(9901,9902),(9000,9000),(8000,8000)] _ (X.upd x.toNat ((X.g x.toNat).push (f.Laws.g ((f.On.g (w.1.g u.toNat).toNat).g z.toNat).toNat))) (wrap .i64 (z+1)) Pq h (hle:=klR [(17,.ob X.n (fun q=>if q=x.toNat then Mb K8 18 B5 ((X.g x.toNat).push (f.Laws.g ((f.On.g (w.1.g u.toNat).toNat).g z.toNat).toNat))else if q=x.toNat then .dead else Mb K8 18 B5 (X.g q)) fun i=>Mb K8 18 B5 ((X.upd x.toNat ((X.g x.toNat).push (f.Laws.g ((f.On.g (w.1.g u.toNat).toNat).g z.toNat).toNat))).g i))] (al1 Bi4 al0))
    replace h:=itF c6 h;exact j _ [(41000,41000),(29000,29000),(26000,26000),(21000,21000),(9951,9951),(9901,9901),(9000,9000),(8000,8000)] _ X (wrap .i64 (z+1)) Pq h
   exact r _ [(41000,41000),(29000,29000),(26000,26000),(21000,21000),(9951,9951),(9901,9901),(9000,9000),(8000,8000)] _ X (wrap .i64 (u+1)) Pq h
  obtain⟨c4,h⟩:=D6 h;refine HR Z Pq 78 (.over 29000 x.toNat) (⟨rfl,by omega⟩:l.1.n=l.1.n/\x.toNat<l.1.n) ?_;refine HR Z (And.intro c3.1 (And.intro c3.2 (rfl:x.toNat=x.toNat))) 82 (.put 29000 9952) (⟨⟨by decide,rfl⟩,c3.2⟩:(1000<=9952/\l.1.n=l.1.n)/\x.toNat<l.1.n) ?_;exact m _ [(29000,29000),(26000,26000),(21000,21000),(9951,9952),(9901,9901),(9000,9000),(8000,8000)] _ (K+1) X (wrap .i64 (x+1)) Pq h (hle:=klR [(8,.ob l.1.n (fun q=>if q=x.toNat then .map []else if q=x.toNat then .dead else knO K q) fun i=>knO (K+1) i)] (al1 (obKn c4.1) al0))
 obtain⟨c3,h⟩:=D6 h;obtain rfl:=C4 h;refine HR Z Pq 83 (.pub 26000) (⟨rfl,fun i _=>rfl⟩:X.n=X.n/\∀i,i<X.n->(Ae6 (Mb K8 18 B5 (X.g i))).isSome=true) ?_;refine P0 Z Pq 83 ⟨[(8,.reg 9000 0),(7,.reg 8000 0)],[(29000,.fam B0 X.n 9951 none),(9951,.rows X.n fun i=>Gl []),(9000,.cells [.vec 29000]),(8000,.cells [.p (vSl 1 (cL 18 B5) X)])]⟩ (ids:=[(29000,29000),(9951,9951),(9000,9000),(8000,8000)]) ?_ (hle:=klR [(0,.nt l.1.n X.n),(1,.nt l.1.n X.n),(2,.ob X.n (fun i=>knO K i) (fun i=>Gl [])),(3,.fn X.n X.n (fun i=>[(Ae6 (Mb K8 18 B5 (X.g i))).getD default]) (fun i=>cL 18 B5 (X.g i)))] (al1 c3.2.symm (al1 c3.2.symm (al1 (fun i hi=>Pk (by omega)) (al1 ⟨rfl,fun _ _=>rfl⟩ al0)))));refine G4 Z Pq 83 8000 [vSl 1 (cL 18 B5) X] ?_;exact A9 Z Pq ⟨[(4,.clo D1 [] [.reg 9000 0,.p (.ptr [vSl 1 (cL 18 B5) X])])],[(29000,.fam B0 X.n 9951 none),(9951,.rows X.n fun i=>Gl []),(9000,.cells [.vec 29000])]⟩ [9000,29000,9951] (ids:=[(29000,29000),(9951,9951),(9000,9000)]) ⟨rfl,rfl,rfl⟩
end Go.AM
