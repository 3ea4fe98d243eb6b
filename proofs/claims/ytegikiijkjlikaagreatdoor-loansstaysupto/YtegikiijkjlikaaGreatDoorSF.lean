/- Part 6. -/
import Derived.Test.YtegikiijkjlikaaGreatDoorSE
import Derived.Test.YtegikiijkjlikaaGreatDoorSD
set_option linter.defProp false
set_option linter.unusedSimpArgs false
set_option linter.unusedVariables false
set_option linter.unusedSectionVars false
namespace Go.AM
open Go.Proofs.Tryz
abbrev Qy:Sl (Sl Qz):=Sl.nil
abbrev Qw:Sl Qz:=Sl.nil
def Q7:(18:Nat)<=18:=by decide
variable {N:Nat}
theorem Na{c:Prop}{i:Decidable c}{α:Sort _}{a b:α}(h:¬c:=by omega):(if c then a else b)=b:=Nf h
theorem J4{c:Prop}{i:Decidable c}{α:Sort _}{a b:α}(h:c:=by omega):(if c then a else b)=a:=Nd h
open IntKind (wrap)
def As0:=@BitVec.getLsbD_or
def Av5:=@BitVec.getLsbD_not
def Az0:=@List.mem_range'_1
def Az8:=@Bool.or_eq_false_iff
def AC8:=@List.filter_cons_of_pos
def AC9:=@List.filter_cons_of_neg
def AD7:=@Bool.not_eq_true
def AE5:=@BitVec.getLsbD_zero
def AG0:=@Nat.testBit_two_pow_mul
def AG3:=@Nat.testBit_lt_two_pow
def AG4:=@List.filter_eq_nil_iff
def AH6:=@BitVec.getLsbD_of_ge
def AI2:=@Nat.div_eq_zero_iff
open Go.Proofs
set_option maxRecDepth 10000
set_option maxHeartbeats 2000000
variable {S:U6}(Z:G6 S Tryz.prog) (Y:Kt S)
include Z Y
def AA (N:Nat)(a:Str):Option Bool:= lt (fun (z1:Bool)=>some z1) fun k1=>if ((a==[]) != true) then if (decide ((a.length:Int)<=24)) then (Co N a [97,98,99,100,101,102,103,104,105,106,107,108,109,110,111,112,113,114,115,116,117,118,119,120,121,122,65,66,67,68,69,70,71,72,73,74,75,76,77,78,79,80,81,82,83,84,85,86,87,88,89,90,48,49,50,51,52,53,54,55,56,57,45]).bind fun y2=>k1 ((y2==[]) != false) else k1 false else k1 false
theorem QP {b:Str}{y:Bool}(h:AA N b=some y) :FunO S JG [.p (.str b)] [] (pB y) ([]) []:=by
 unfold AA at h;refine A4 Z func128 ?_;refine Se Z Nk (C6 Z) h 0 (fun z1=>⟨[(2,pB z1)],[]⟩) (fun M1 k1 a h=>?_) (fun z1 h=>?_)
 .refine kG Z h (fun h=>?_) (fun h=>?_)
  .refine kG Z h (fun h=>?_) (fun h=>?_)
   .refine kC Z h (KV Z Y) (fun y2 h=>?_);exact a _ [] _ ((y2==[]) != false) Nk h
   exact a _ [] _ false Nk h
  exact a _ [] _ false Nk h
 cases h;exact kR Z
def Q0 (N:Nat)(p_x:Ap)(a:Int):Option Bool:= lt (fun (z1:Bool)=>if z1 then some false else if ((((E9 .andNot .u32 (E9 .or .u32 p_x.Clear p_x.Take) 16777215) != 0)||((E9 .and .u32 p_x.Clear (E9 .or .u32 p_x.Set.Plus p_x.Set.Minus)) != 0))||((E9 .and .u32 p_x.Take (E9 .or .u32 (E9 .or .u32 p_x.Set.Plus p_x.Set.Minus) p_x.Clear)) != 0)) then some false else if (p_x.Take==0) then some (p_x.Of==0) else some ((decide (0<=p_x.Of))&&(decide (p_x.Of<a)))) fun k1=>if (decide (p_x.From<(-1))) then k1 true else if (decide (a<=p_x.From)) then k1 true else (F2 N p_x.Set).bind fun y2=>k1 (!y2)
theorem TJ {p_x:Ap}{b:Int}{y:Bool}(h:Q0 N p_x b=some y) :FunO S LX [.p (.agg (Y7 p_x)),pN b] [] (pB y) ([]) []:=by
 unfold Q0 at h;refine A4 Z func125 ?_;refine Se Z Nk (C6 Z) h 0 (fun z1=>⟨[(13,pB z1),(5,pU (E9 .or .u32 p_x.Set.Plus p_x.Set.Minus)),(2,.reg 3000 0),(1,pN b)],[(3000,.cells ((Y7 p_x).map .p))]⟩) (fun M1 k1 c h=>?_) (fun z1 h=>?_)
 .refine kG Z h (fun h=>?_) (fun h=>?_)
  .exact c _ [(3000,3000)] _ true Nk h
  refine kG Z h (fun h=>?_) (fun h=>?_)
  .exact c _ [(3000,3000)] _ true Nk h
  refine kC Z h (N8 Z Y) (fun y2 h=>?_);exact c _ [(3000,3000)] _ (!y2) Nk h
 apply kI Z h<;>intro h
 .cases h;exact kR Z
 refine kB Z (C6 Z) Nk Nk 16 (.o (.o (.a ((E9 .andNot .u32 (E9 .or .u32 p_x.Clear p_x.Take) 16777215) != 0)) (.a ((E9 .and .u32 p_x.Clear (E9 .or .u32 p_x.Set.Plus p_x.Set.Minus)) != 0))) (.a ((E9 .and .u32 p_x.Take (E9 .or .u32 (E9 .or .u32 p_x.Set.Plus p_x.Set.Minus) p_x.Clear)) != 0))) ?_;apply kI Z h<;>intro h
 .cases h;exact kR Z
 apply kI Z h<;>intro h
 .cases h;exact kR Z
 refine kB Z (C6 Z) Nk Nk 5 (.n (.a (decide (0<=p_x.Of))) (.a (decide (p_x.Of<b)))) ?_;cases h;exact kR Z
def U2 (N:Nat)(p_x:Ap)(q0:Int):Option Bool:= (Q0 N p_x q0).bind fun y1=>some (!y1)
theorem Nr {p_x:Ap}{q0:Int}{y:Bool}(h:U2 N p_x q0=some y) :FunO S GC [.p (.agg (Y7 p_x)),.reg 0 0] [.cells [pN q0]] (pB y) ([.cells [pN q0]]) [true]:=by unfold U2 at h;refine A4 Z func124 ?_;refine kC Z h (TJ Z Y) (fun y1 h=>?_);obtain rfl:=D0 h;exact A8 Z Nk ⟨[(3,pB (!y1))],[(0,.cells [pN q0])]⟩ [0] (ids:=[(0,0)]) ⟨rfl,rfl,rfl⟩
def U3 (N:Nat)(a:Qz):Option Bool:= (F2 N a).bind fun y1=>some (!y1)
theorem Ns {a:Qz}{y:Bool}(h:U3 N a=some y) :FunO S GD [.p (.agg (A0 a))] [] (pB y) ([]) []:=by unfold U3 at h;refine A4 Z func126 ?_;refine kC Z h (N8 Z Y) (fun y1 h=>?_);cases h;exact kR Z
def D4 (N:Nat)(a:Sl Ap)(c:Ap->Option Bool):Option Int:= Ao N (fun b (x1:Int)=>if (decide (x1<(a.n:Int))) then if ((0:Int)<=x1/\x1<(a.n:Int))then (c (a.g x1.toNat)).bind fun y3=>if y3 then some x1 else b (wrap .i64 (x1+1)) else none else some (-1)) 0
theorem V6 {c:Sl Ap}{d:Ap->Option Bool}{a:Int}{kp_f:Nat}(f:∀{a0:Ap}{b:Bool},d a0=some b->FunO S kp_f [.p (.agg (Y7 a0)),.reg 0 0] [.cells [pN a]] (pB b) [.cells [pN a]] [true]){y:Int}(h:D4 N c d=some y) :FunO S K0 [.p (vSl 6 Y7 c),.clo kp_f [] [.reg 0 0]] [.cells [pN a]] (pN y) ([.cells [pN a]]) [true]:=by
 unfold D4 at h;refine A4 Z func152 ?_;refine CJ Z Nk h (fun x1=>⟨[(8,pN x1),(7,pN (c.n:Int)),(1,.clo kp_f [] [.reg 0 0]),(0,.p (vSl 6 Y7 c))],[(0,.cells [pN a])]⟩) (ids:=[(0,0)]) (fun _ _ _ _ _ g x1 i h=>?_);apply kI Z h<;>intro h
 .obtain⟨c8,h⟩:=P1 h;obtain⟨y3,e3,h⟩:=D8 h;refine E5 Z [0] (Ar0 c8 (by decide:(6:Nat)<=6)) (f e3) ?_;apply kI Z h<;>intro h
  .obtain rfl:=D0 h;exact A8 Z Nk ⟨[(4,pN x1)],[(0,.cells [pN a])]⟩ [0] (ids:=[(0,0)]) ⟨rfl,rfl,rfl⟩
  exact i _ [(0,0)] _ (wrap .i64 (x1+1)) Nk h
 obtain rfl:=D0 h;exact A8 Z Nk ⟨[(4,pN (-1))],[(0,.cells [pN a])]⟩ [0] (ids:=[(0,0)]) ⟨rfl,rfl,rfl⟩
def B3 (N:Nat)(a:Sl Ap)(b:Ap->Option Bool):Option Bool:= (D4 N a b).bind fun y1=>some (decide (0<=y1))
theorem Q9 {c:Sl Ap}{d:Ap->Option Bool}{a:Int}{kp_f:Nat}(f:∀{a0:Ap}{b:Bool},d a0=some b->FunO S kp_f [.p (.agg (Y7 a0)),.reg 0 0] [.cells [pN a]] (pB b) [.cells [pN a]] [true]){y:Bool}(h:B3 N c d=some y) :FunO S I3 [.p (vSl 6 Y7 c),.clo kp_f [] [.reg 0 0]] [.cells [pN a]] (pB y) ([.cells [pN a]]) [true]:=by unfold B3 at h;refine A4 Z func131 ?_;obtain⟨y1,e1,h⟩:=D8 h;refine E5 Z [0] Nk (V6 Z Y (fun e=>f e) e1) ?_;obtain rfl:=D0 h;exact A8 Z Nk ⟨[(4,pB (decide (0<=y1)))],[(0,.cells [pN a])]⟩ [0] (ids:=[(0,0)]) ⟨rfl,rfl,rfl⟩
def Y2 (N:Nat)(a:Law):Option Int:= (AA N a.Name).bind fun y1=>if (!y1) then some 17 else (S4 N a.Left).bind fun y2=>if (y2 != 0) then some 17 else (S4 N a.Right).bind fun y3=>if (y3 != 0) then some 17 else if (decide (4<(a.If.n:Int))) then some 17 else if (decide (6<(a.Out.n:Int))) then some 17 else if ((wrap .i64 ((a.If.n:Int)+(a.Out.n:Int)))==0) then some 17 else if ((decide (a.Mode<1))||(decide (3<a.Mode))) then some 17 else (A7 N a.If (fun (u1:Qz)=>U3 N u1)).bind fun y4=>if y4 then some 17 else (B3 N a.Out (fun (u2:Ap)=>U2 N u2 (a.If.n:Int))).bind fun y5=>if y5 then some 17 else some 0
theorem Kb {c:Law}{y:Int}(h:Y2 N c=some y) :FunO S JE [.p (.agg (A5 c))] [] (pN y) ([]) []:=by
 unfold Y2 at h;refine A4 Z func89 ?_;refine kC Z h (QP Z Y) (fun y1 h=>?_);refine E4 Z Nk (b:=!y1) (fun c1=>?_) (fun c1=>?_)
 .replace h:=itT c1 h;refine E4 Z Nk (b:=!y1) (fun c2=>?_) (fun c2=>?_)
  .cases h;exact kR Z
  exact Bool.noConfusion (c1.symm.trans c2)
 replace h:=itF c1 h;refine kC Z h (Et Z Y) (fun y2 h=>?_);refine E4 Z Nk (b:=y2 != 0) (fun c3=>?_) (fun c3=>?_)
 .replace h:=itT c3 h;refine E4 Z Nk (b:=y2 != 0) (fun c4=>?_) (fun c4=>?_)
  .cases h;exact kR Z
  exact Bool.noConfusion (c3.symm.trans c4)
 replace h:=itF c3 h;refine kC Z h (Et Z Y) (fun y3 h=>?_);refine E4 Z Nk (b:=y3 != 0) (fun c5=>?_) (fun c5=>?_)
 .replace h:=itT c5 h;refine E4 Z Nk (b:=y3 != 0) (fun c6=>?_) (fun c6=>?_)
  .cases h;exact kR Z
  exact Bool.noConfusion (c5.symm.trans c6)
 replace h:=itF c5 h;refine E4 Z Nk (b:=decide (4<(c.If.n:Int))) (fun c7=>?_) (fun c7=>?_)
 .replace h:=itT c7 h;refine E4 Z Nk (b:=decide (4<(c.If.n:Int))) (fun c8=>?_) (fun c8=>?_)
  .cases h;exact kR Z
  exact Bool.noConfusion (c7.symm.trans c8)
 replace h:=itF c7 h;refine E4 Z Nk (b:=decide (6<(c.Out.n:Int))) (fun c9=>?_) (fun c9=>?_)
 .replace h:=itT c9 h;refine E4 Z Nk (b:=decide (6<(c.Out.n:Int))) (fun c10=>?_) (fun c10=>?_)
  .cases h;exact kR Z
  exact Bool.noConfusion (c9.symm.trans c10)
 replace h:=itF c9 h;refine E4 Z Nk (b:=(wrap .i64 ((c.If.n:Int)+(c.Out.n:Int)))==0) (fun c11=>?_) (fun c11=>?_)
 .replace h:=itT c11 h;refine E4 Z Nk (b:=(wrap .i64 ((c.If.n:Int)+(c.Out.n:Int)))==0) (fun c12=>?_) (fun c12=>?_)
  .cases h;exact kR Z
  exact Bool.noConfusion (c11.symm.trans c12)
 replace h:=itF c11 h;refine kB Z (C6 Z) Nk Nk 4 (.o (.a (decide (c.Mode<1))) (.a (decide (3<c.Mode)))) ?_;refine E4 Z Nk (b:=(decide (c.Mode<1))||(decide (3<c.Mode))) (fun c13=>?_) (fun c13=>?_)
 .replace h:=itT c13 h;refine E4 Z Nk (b:=(decide (c.Mode<1))||(decide (3<c.Mode))) (fun c14=>?_) (fun c14=>?_)
  .cases h;exact kR Z
  exact Bool.noConfusion (c13.symm.trans c14)
 replace h:=itF c13 h;refine kC Z h (H2 Z Y (fun e=>Ns Z Y e)) (fun y4 h=>?_);refine E4 Z Nk (b:=y4) (fun c15=>?_) (fun c15=>?_)
 .replace h:=itT c15 h;refine E4 Z Nk (b:=y4) (fun c16=>?_) (fun c16=>?_)
  .cases h;exact kR Z
  exact Bool.noConfusion (c15.symm.trans c16)
 replace h:=itF c15 h;obtain⟨y5,e5,h⟩:=D8 h;refine E5 Z [4000] Nk (Q9 Z Y (fun e=>Nr Z Y e) e5) ?_;apply kI Z h<;>intro h
 .cases h;exact kR Z
 cases h;exact kR Z
def Dx (N:Nat)(a:Law)(p_w:Sl Qz):Option Int:= (Y2 N a).bind fun y1=>if (y1 != 0) then some y1 else (S0 N p_w).bind fun y2=>some y2
theorem QR {a:Law}{p_w:Sl Qz}{y:Int}(h:Dx N a p_w=some y) :FunO S JI [.p (.agg (A5 a)),.p (vSl 2 A0 p_w)] [] (pN y) ([]) []:=by
 unfold Dx at h;refine A4 Z func158 ?_;refine kC Z h (Kb Z Y) (fun y1 h=>?_);apply kI Z h<;>intro h
 .cases h;exact kR Z
 refine kC Z h (Ep Z Y) (fun y2 h=>?_);cases h;exact kR Z
def Q1 (N:Nat)(a:Int)(q0:Law)(q1:Sl Qz):Option Bool:= (Ae N q0.Left q1 a).bind fun y1=>if ((y1.1.n:Int)==0) then some false else (BL N q0.Right q1 (wrap .i64 (a+(q0.If.n:Int)))).bind fun y2=>some (decide (0<(y2.1.n:Int)))
theorem Lb {a:Int}{q0:Law}{q1:Sl Qz}{y:Bool}(h:Q1 N a q0 q1=some y) :FunO S P9 [pN a,.reg 0 0,.reg 1 0] [.cells ((A5 q0).map .p),.cells [.p (vSl 2 A0 q1)]] (pB y) ([.cells ((A5 q0).map .p),.cells [.p (vSl 2 A0 q1)]]) [true,true]:=by
 unfold Q1 at h;refine A4 Z func201 ?_;refine kC Z h (Nq Z Y) (fun y1 h=>?_);apply kI Z h<;>intro h
 .obtain rfl:=D0 h;exact A8 Z Nk ⟨[(4,pB false)],[(1,.cells [.p (vSl 2 A0 q1)]),(0,.cells ((A5 q0).map .p))]⟩ [0,1] (ids:=[(0,0),(1,1)]) ⟨rfl,rfl,rfl⟩
 refine kC Z h (QO Z Y) (fun y2 h=>?_);obtain rfl:=D0 h;exact A8 Z Nk ⟨[(4,pB (decide (0<(y2.1.n:Int))))],[(1,.cells [.p (vSl 2 A0 q1)]),(0,.cells ((A5 q0).map .p))]⟩ [0,1] (ids:=[(0,0),(1,1)]) ⟨rfl,rfl,rfl⟩
def Ev (N:Nat)(a:Law)(p_w:Sl Qz):Option (Law×(Sl Qz)):= some (a,p_w)
theorem Pb {a:Law}{p_w:Sl Qz}{y:Law×(Sl Qz)}(h:Ev N a p_w=some y) :FunO S Ik [.p (.agg (A5 a)),.p (vSl 2 A0 p_w)] [] (.clo P9 [] [.reg 0 0,.reg 1 0]) ([.cells ((A5 y.1).map .p),.cells [.p (vSl 2 A0 y.2)]]) []:=by unfold Ev at h;refine A4 Z func188 ?_;obtain rfl:=D0 h;exact A8 Z Nk ⟨[(4,.clo P9 [] [.reg 3000 0,.reg 4000 0])],[(4000,.cells [.p (vSl 2 A0 p_w)]),(3000,.cells ((A5 a).map .p))]⟩ [3000,4000] (ids:=[(3000,3000),(4000,4000)]) ⟨rfl,rfl,rfl⟩
def K4 (N:Nat)(a:Law)(b:Sl Qz):Option (Sl Qz):= N6 N (fun c (x1:Sl Qz) (x2:Int)=>if (decide (x2<(a.Out.n:Int))) then if ((0:Int)<=x2/\x2<(a.Out.n:Int))then if ((decide (0<=(a.Out.g x2.toNat).From))=true->((0:Int)<=(a.Out.g x2.toNat).From/\(a.Out.g x2.toNat).From<(b.n:Int)))then (K9 N (⟨(if (decide (0<=(a.Out.g x2.toNat).From)) then (b.g (a.Out.g x2.toNat).From.toNat).Plus else 0),(if (decide (0<=(a.Out.g x2.toNat).From)) then (b.g (a.Out.g x2.toNat).From.toNat).Minus else 0)⟩:Qz) (a.Out.g x2.toNat).Clear (a.Out.g x2.toNat).Set).bind fun y5=>if ((a.Out.g x2.toNat).Take != 0) then if ((0:Int)<=(a.Out.g x2.toNat).Of/\(a.Out.g x2.toNat).Of<(b.n:Int))then (P2 N y5.1 (b.g (a.Out.g x2.toNat).Of.toNat) (a.Out.g x2.toNat).Take).bind fun y6=>if ((x1.n+(Sl.of [y6.1]:Sl Qz).n)*8<=140737488355328/\x1.n+(Sl.of [y6.1]:Sl Qz).n<=140737488355328)then c (x1.push y6.1) (wrap .i64 (x2+1)) else none else none else if ((x1.n+(Sl.of [y5.1]:Sl Qz).n)*8<=140737488355328/\x1.n+(Sl.of [y5.1]:Sl Qz).n<=140737488355328)then c (x1.push y5.1) (wrap .i64 (x2+1)) else none else none else none else some x1) Qw 0
theorem Pc {d:Law}{a:Sl Qz}{y:Sl Qz}(h:K4 N d a=some y) :FunO S OM [.p (.agg (A5 d)),.p (vSl 2 A0 a)] [] (.p (vSl 2 A0 y)) ([]) []:=by
 unfold K4 at h;refine A4 Z func177 ?_;refine CL Z Nk 4 3000 (A5 d) ?_;refine W1 Z Nk h (fun x1 x2=>⟨[(12,pN x2),(11,pN (d.Out.n:Int)),(10,.p (vSl 6 Y7 d.Out)),(5,.vec 6500),(1,.p (vSl 2 A0 a))],[(6500,.vec B1 2 x1.n (fun i=>A0 (x1.g i)) false)]⟩) (ids:=[]) (fun _ _ _ _ _ o x1 x2 l h=>?_);apply kI Z h<;>intro h
 .obtain⟨c16,h⟩:=P1 h;refine CL Z (Ar0 c16 (by decide:(6:Nat)<=6)) 8 8000 (Y7 (d.Out.g x2.toNat)) ?_;obtain⟨c18,h⟩:=P1 h;obtain⟨t5,f⟩:∃x:Int,x=(if (decide (0<=(d.Out.g x2.toNat).From)) then (a.g (d.Out.g x2.toNat).From.toNat).Plus else 0):=⟨_,rfl⟩;obtain⟨t6,j⟩:∃x:Int,x=(if (decide (0<=(d.Out.g x2.toNat).From)) then (a.g (d.Out.g x2.toNat).From.toNat).Minus else 0):=⟨_,rfl⟩;refine Tr Z Nk (C6 Z) 0 ⟨[(12,pN x2),(11,pN (d.Out.n:Int)),(10,.p (vSl 6 Y7 d.Out)),(8,.reg 9000 0),(7,.p (.ptr (Y7 (d.Out.g x2.toNat)))),(5,.vec 6500),(1,.p (vSl 2 A0 a))],[(9000,.cells [pU t5,pU t6]),(6500,.vec B1 2 x1.n (fun i=>A0 (x1.g i)) false)]⟩ (fun M3 m=>?_) ?_
  .refine E4 Z Nk (b:=decide (0<=(d.Out.g x2.toNat).From)) (fun c19=>?_) (fun c19=>?_)
   .exact m _ [(6500,6500),(9000,9000)] _ (Ar0 (c18 c19) P0) (hle:=klR [(5,.eq (pI .u32 (a.g (d.Out.g x2.toNat).From.toNat).Plus) (pI .u32 t5)),(6,.eq (pI .u32 (a.g (d.Out.g x2.toNat).From.toNat).Minus) (pI .u32 t6))] (al1 (by simp only[f,j,c19,Leaf.ok,pm,Nh,Ni]) (al1 (by simp only[f,j,c19,Leaf.ok,pm,Nh,Ni]) al0)))
   exact m _ [(6500,6500),(9000,9000)] _ Nk (hle:=klR [(5,.eq (pI .u32 0) (pI .u32 t5)),(6,.eq (pI .u32 0) (pI .u32 t6))] (al1 (by simp only[f,j,c19,Leaf.ok,pm,Nh,Ni]) (al1 (by simp only[f,j,c19,Leaf.ok,pm,Nh,Ni]) al0)))
  subst j;subst f;obtain⟨y5,e5,h⟩:=D8 h;refine E5 Z [] (by decide:(2:Nat)<=4) (KW Z Y e5) ?_;apply kI Z h<;>intro h
  .refine T3 Z Nk [3,4,5,7,8] ?_;obtain⟨c21,h⟩:=P1 h;obtain⟨y6,e6,h⟩:=D8 h;refine CK (Ar0 c21 P0) (OY Z Y e6) ?_;refine X9 Nk ?_;obtain⟨c22,h⟩:=P1 h;exact l _ [(6500,52000)] _ (x1.push y6.1) (wrap .i64 (x2+1)) (Ar0 Q8 c22) h (hle:=klR [(4,.fn (x1.n+1) (x1.push y6.1).n (BP x1.n (fun i=>A0 (x1.g i)) (G7 [pI .u32 0,pI .u32 0] [(0,A0 y6.1)])) (fun i=>A0 ((x1.push y6.1).g i)))] (al1 ⟨rfl,Uh (c:=A0) (v:=x1) (x:=y6.1) (z:=[(pI .u32 0),pI .u32 0]) same rfl rfl⟩ al0))
  obtain⟨c23,h⟩:=P1 h;exact l _ [(6500,52000)] _ (x1.push y5.1) (wrap .i64 (x2+1)) (Ar0 Q8 c23) h (hle:=klR [(4,.fn (x1.n+1) (x1.push y5.1).n (BP x1.n (fun i=>A0 (x1.g i)) (G7 [pI .u32 0,pI .u32 0] [(0,A0 y5.1)])) (fun i=>A0 ((x1.push y5.1).g i)))] (al1 ⟨rfl,Uh (c:=A0) (v:=x1) (x:=y5.1) (z:=[(pI .u32 0),pI .u32 0]) same rfl rfl⟩ al0))
 obtain rfl:=D0 h;exact A8 Z Nk ⟨[(4,.p (vSl 2 A0 x1))],[]⟩ [] (ids:=[]) ⟨rfl,rfl,rfl⟩
def A6 (N:Nat)(a:Sl (Sl Qz)):Option (Sl Qz):= N6 N (fun b (x1:Int) (x2:Int)=>if (decide (x2<(a.n:Int))) then if ((0:Int)<=x2/\x2<(a.n:Int))then if (decide ((wrap .i64 (x1+((a.g x2.toNat).n:Int)))<0)) then none else b (wrap .i64 (x1+((a.g x2.toNat).n:Int))) (wrap .i64 (x2+1)) else none else (G2 N x1).bind fun y1=>N6 N (fun c (x3:Sl Qz) (x4:Int)=>if (decide (x4<(a.n:Int))) then if (((0:Int)<=x4/\x4<(a.n:Int))/\((x3.n+(a.g x4.toNat).n)*8<=140737488355328/\x3.n+(a.g x4.toNat).n<=140737488355328))then c (x3.app (a.g x4.toNat)) (wrap .i64 (x4+1)) else none else some x3) y1 0) 0 0
theorem J3 {a:Sl (Sl Qz)}{y:Sl Qz}(h:A6 N a=some y) :FunO S J1 [.p (vSl 1 (cL 2 A0) a)] [] (.vec 0) ([.vec B1 2 y.n (fun i=>A0 (y.g i)) true]) []:=by
 unfold A6 at h;refine A4 Z func176 ?_;refine W1 Z Nk h (fun x1 x2=>⟨[(11,pN x2),(10,pN (a.n:Int)),(9,.p (vSl 1 (cL 2 A0) a)),(3,pN x1),(0,.p (vSl 1 (cL 2 A0) a))],[]⟩) (ids:=[]) (fun _ _ _ _ _ d x1 x2 f h=>?_);apply kI Z h<;>intro h
 .obtain⟨c8,h⟩:=P1 h;refine E4 Z c8 (b:=decide ((wrap .i64 (x1+((a.g x2.toNat).n:Int)))<0)) (fun c9=>?_) (fun c9=>?_)
  .replace h:=itT c9 h;cases h
  replace h:=itF c9 h;exact f _ [] _ (wrap .i64 (x1+((a.g x2.toNat).n:Int))) (wrap .i64 (x2+1)) Nk h
 refine kC Z h (W6 Z Y) (fun y1 h=>?_);refine W1 Z Nk h (fun x3 x4=>⟨[(27,pN x4),(26,pN (a.n:Int)),(25,.p (vSl 1 (cL 2 A0) a)),(6,.vec 7500)],[(7500,.vec B1 2 x3.n (fun i=>A0 (x3.g i)) false)]⟩) (ids:=[(7500,25000)]) (fun _ _ _ _ _ j x3 x4 l h=>?_);apply kI Z h<;>intro h
 .obtain⟨c13,h⟩:=P1 h;exact l _ [(7500,34000)] _ (x3.app (a.g x4.toNat)) (wrap .i64 (x4+1)) c13 h (hle:=klR [(3,.fn (x3.n+(a.g x4.toNat).n) (x3.app (a.g x4.toNat)).n (BP x3.n (fun i=>A0 (x3.g i)) (fun i=>A0 ((a.g x4.toNat).g i))) (fun i=>A0 ((x3.app (a.g x4.toNat)).g i)))] (al1 ⟨rfl,appL (c:=A0) (v:=x3) (w:=a.g x4.toNat) same rfl same rfl⟩ al0))
 obtain rfl:=D0 h;exact A8 Z Nk ⟨[(2,.vec 7500)],[(7500,.vec B1 2 x3.n (fun i=>A0 (x3.g i)) true)]⟩ [7500] (ids:=[(7500,7500)]) ⟨rfl,rfl,rfl⟩
def N9 (N:Nat)(b:Law)(p_w:Sl Qz)(a:Int):Option (Sl Qz):= if (((0:Int)<=a/\a<=(p_w.n:Int))/\((0:Int)<=a/\a<=(wrap .i64 (a+(b.If.n:Int)))/\(wrap .i64 (a+(b.If.n:Int)))<=(p_w.n:Int)))then (K4 N b (p_w.sub a.toNat (wrap .i64 (a+(b.If.n:Int))).toNat)).bind fun y1=>if ((0:Int)<=(wrap .i64 (a+(b.If.n:Int)))/\(wrap .i64 (a+(b.If.n:Int)))<=(p_w.n:Int))then (A6 N (Sl.of [p_w.take a.toNat,y1,p_w.drop (wrap .i64 (a+(b.If.n:Int))).toNat]:Sl (Sl Qz))).bind fun y2=>some y2 else none else none
theorem GP {b:Law}{p_w:Sl Qz}{a:Int}{y:Sl Qz}(h:N9 N b p_w a=some y) :FunO S GF [.p (.agg (A5 b)),.p (vSl 2 A0 p_w),pN a] [] (.vec 0) ([.vec B1 2 y.n (fun i=>A0 (y.g i)) true]) []:=by unfold N9 at h;refine A4 Z func179 ?_;refine CL Z Nk 6 4000 (A5 b) ?_;refine T3 Z Nk [3,8] ?_;obtain⟨c1,h⟩:=P1 h;obtain⟨y1,e1,h⟩:=D8 h;refine CK (Ar0 (Ar0 c1.1 Q7) c1.2) (Pc Z Y e1) ?_;obtain⟨c2,h⟩:=P1 h;refine Dk c2 (x:=.sl true 1 3 (G7 [P4] [(0,cL 2 A0 (p_w.take a.toNat)),(1,cL 2 A0 y1),(2,cL 2 A0 (p_w.drop (wrap .i64 (a+(b.If.n:Int))).toNat))])) ?_;obtain⟨y2,e2,h⟩:=D8 h;refine Zh [] Nk (FunO.le Z (args:=[.p (.sl true 1 3 (G7 [P4] [(0,cL 2 A0 (p_w.take a.toNat)),(1,cL 2 A0 y1),(2,cL 2 A0 (p_w.drop (wrap .i64 (a+(b.If.n:Int))).toNat))]))]) (by exact⟨Uz rfl (fun i c=>match i,c with|0,_=>rfl|1,_=>rfl|2,_=>rfl|_+3,c=>Ng c (by omega)),trivial⟩) (J3 Z Y e2)) ?_;refine X9 Nk ?_;obtain rfl:=D0 h;exact A8 Z Nk ⟨[(6,.vec 27000)],[(27000,.vec B1 2 y2.n (fun i=>A0 (y2.g i)) true)]⟩ [27000] (ids:=[(27000,27000)]) ⟨rfl,rfl,rfl⟩
def S5 (N:Nat)(q0:Law)(q1:Sl Qz)(q2:Int):Option (List (Int)):= (Ev N q0 q1).bind fun y1=>Ao N (fun a (x2:Int)=>if (decide ((wrap .i64 (x2+(q0.If.n:Int)))<=(q1.n:Int))) then Ao N (fun b (x4:Int)=>if (decide (x4<(q0.If.n:Int))) then if ((0:Int)<=x4/\x4<(q0.If.n:Int))then if ((0:Int)<=(wrap .i64 (x2+x4))/\(wrap .i64 (x2+x4))<(q1.n:Int))then (I0 N (q1.g (wrap .i64 (x2+x4)).toNat) (q0.If.g x4.toNat)).bind fun c=>if (!c) then a (wrap .i64 (x2+1)) else b (wrap .i64 (x4+1)) else none else none else (Q1 N x2 y1.1 y1.2).bind fun d=>if d then P7 x2 (a (wrap .i64 (x2+1))) else a (wrap .i64 (x2+1))) 0 else some []) q2
theorem Io {q0:Law}{q1:Sl Qz}{q2:Int}{L:List (Int)}(h:S5 N q0 q1 q2=some L) :Ck S Ca [] [.reg 0 0,.reg 1 0,.reg 2 0] [.cells ((A5 q0).map .p),.cells [.p (vSl 2 A0 q1)],.cells [pN q2]] (L.map (fun (x:Int)=>[pI .i64 x])):=by
 unfold S5 at h;refine EM Z func187 ?_;refine kC Z h (Pb Z Y) (fun y1 h=>?_);refine Ef Z Nk h (fun x2 L1=>⟨[(6,pN x2),(5,.clo P9 [] [.reg 12000 0,.reg 12001 0]),(2,.reg 1 0),(1,.reg 0 0),(0,.yf 3)],[(12001,.cells [.p (vSl 2 A0 y1.2)]),(12000,.cells ((A5 y1.1).map .p)),(3,.yld (L1.map (fun (x:Int)=>[pI .i64 x])) true),(2,.cells [pN q2]),(1,.cells [.p (vSl 2 A0 q1)]),(0,.cells ((A5 q0).map .p))]⟩) (ids:=[(0,0),(1,1),(2,2),(3,3),(12000,12000),(12001,12001)]) (fun _ _ _ _ _ f x2 L1 c h=>?_);apply kI Z h<;>intro h
 .refine Ef Z Nk h (fun x4 L8=>⟨[(26,pN x4),(25,pN (q0.If.n:Int)),(24,.p (vSl 2 A0 q0.If)),(6,pN x2),(5,.clo P9 [] [.reg 12000 0,.reg 12001 0]),(2,.reg 1 0),(1,.reg 0 0),(0,.yf 3)],[(12001,.cells [.p (vSl 2 A0 y1.2)]),(12000,.cells ((A5 y1.1).map .p)),(3,.yld (L8.map (fun (x:Int)=>[pI .i64 x])) true),(2,.cells [pN q2]),(1,.cells [.p (vSl 2 A0 q1)]),(0,.cells ((A5 q0).map .p))]⟩) (ids:=[(0,0),(1,1),(2,2),(3,3),(12000,12000),(12001,12001)]) (fun _ _ _ _ _ i x4 L8 j h=>?_);apply kI Z h<;>intro h
  .obtain⟨c47,h⟩:=P1 h;refine Ab6 Z (Ar0 c47 P0) 9000 [pI .u32 (q0.If.g x4.toNat).Plus,pI .u32 (q0.If.g x4.toNat).Minus] ?_;refine T3 Z Nk [4,5,6,7] ?_;obtain⟨c48,h⟩:=P1 h;obtain⟨l,e12,h⟩:=D8 h;refine CK (Ar0 (Ar0 c48 P0) P0) (Hu Z Y e12) ?_;refine X9 Nk ?_;apply kI Z h<;>intro h
   .exact c _ [(0,0),(1,1),(2,2),(3,3),(12000,12000),(12001,12001)] _ (wrap .i64 (x2+1)) L8 Nk h
   exact j _ [(0,0),(1,1),(2,2),(3,3),(12000,12000),(12001,12001)] _ (wrap .i64 (x4+1)) L8 Nk h
  obtain⟨m,e13,h⟩:=D8 h;refine E5 Z [12000,12001] Nk (Lb Z Y e13) ?_;refine kG Z h (fun h=>?_) (fun h=>?_)
  .obtain⟨L10,rfl,d⟩:=KC h;replace h:=d;refine Cl Z Nk (ys:=(fun (x:Int)=>[pI .i64 x]) x2) (rest:=L10.map (fun (x:Int)=>[pI .i64 x])) ?_ ?_
   .refine E4 Z Nk (b:=false) (fun c53=>?_) (fun c53=>?_)
    .exact Bool.noConfusion ((rfl:false=false).symm.trans c53)
    exact c _ [(0,0),(1,1),(2,2),(3,3),(12000,12000),(12001,12001)] _ (wrap .i64 (x2+1)) L10 Nk h
   refine E4 Z Nk (b:=true) (fun c54=>?_) (fun c54=>?_)
   .exact A8 Z Nk (a:=.tup []) (objs:=[(.cells ((A5 q0).map .p)),.cells [.p (vSl 2 A0 q1)],.cells [pN q2],.yld [] false]) ⟨[],[(3,.yld [] false),(2,.cells [pN q2]),(1,.cells [.p (vSl 2 A0 q1)]),(0,.cells ((A5 q0).map .p))]⟩ [0,1,2,3] (ids:=[(0,0),(1,1),(2,2),(3,3)]) ⟨false,rfl,rfl,_,rfl⟩
   exact Bool.noConfusion (Q8.symm.trans c54)
  exact c _ [(0,0),(1,1),(2,2),(3,3),(12000,12000),(12001,12001)] _ (wrap .i64 (x2+1)) L8 Nk h
 obtain rfl:=D0 h;exact A8 Z Nk (a:=.tup []) (objs:=[(.cells ((A5 q0).map .p)),.cells [.p (vSl 2 A0 q1)],.cells [pN q2],.yld [] true]) ⟨[],[(3,.yld [] true),(2,.cells [pN q2]),(1,.cells [.p (vSl 2 A0 q1)]),(0,.cells ((A5 q0).map .p))]⟩ [0,1,2,3] (ids:=[(0,0),(1,1),(2,2),(3,3)]) ⟨true,rfl,rfl,_,rfl⟩
def EV (N:Nat)(b:Law)(p_w:Sl Qz)(a:Int):Option (Law×(Sl Qz)×Int):= some (b,p_w,a)
theorem Ma {b:Law}{p_w:Sl Qz}{a:Int}{y:Law×(Sl Qz)×Int}(h:EV N b p_w a=some y) :FunO S LY [.p (.agg (A5 b)),.p (vSl 2 A0 p_w),pN a] [] (.clo Ca [] [.reg 0 0,.reg 1 0,.reg 2 0]) ([.cells ((A5 y.1).map .p),.cells [.p (vSl 2 A0 y.2.1)],.cells [pN y.2.2]]) []:=by unfold EV at h;refine A4 Z func175 ?_;obtain rfl:=D0 h;exact A8 Z Nk ⟨[(6,.clo Ca [] [.reg 4000 0,.reg 5000 0,.reg 6000 0])],[(6000,.cells [pN a]),(5000,.cells [.p (vSl 2 A0 p_w)]),(4000,.cells ((A5 b).map .p))]⟩ [4000,5000,6000] (ids:=[(4000,4000),(5000,5000),(6000,6000)]) ⟨rfl,rfl,rfl⟩
def AS (N:Nat)(b:Law)(p_w:Sl Qz)(a:Int):Option Bool:= (EV N b p_w a).bind fun y1=>(S5 N y1.1 y1.2.1 y1.2.2).bind fun L1=>K5 L1 (fun c (x1:Int) (_:Unit)=>some (x1==a)) (fun (_:Unit)=>some false) ()
theorem Pd {b:Law}{p_w:Sl Qz}{a:Int}{y:Bool}(h:AS N b p_w a=some y) :FunO S ON [.p (.agg (A5 b)),.p (vSl 2 A0 p_w),pN a] [] (pB y) ([]) []:=by
 unfold AS at h;refine A4 Z func178 ?_;refine kC Z h (Ma Z Y) (fun y1 h=>?_);obtain⟨L1,e2,h⟩:=D8 h;refine Hr Z Nk [12000,12001,12002] [6,5] 901 (fun _=>⟨[(6,.reg 7000 0),(5,.reg 6000 0)],[(7000,.cells [.p (.v (.bool false))]),(6000,.cells [pN a])]⟩) (idl:=[(6000,6000),(7000,7000)]) h (Io Z Y e2) (fun _=>by kernel_rfl) (fun _=>by kernel_rfl) (fun _=>by kernel_rfl) (fun _=>by kernel_rfl) (fun x1 _ c _ d h=>?_) (fun _ h=>?_)
 .refine Gx Z Nk ?_;refine MR Z Nk ⟨[(6,.reg 7000 0),(5,.reg 6000 0)],[(7000,.cells [pB (x1==a)]),(6000,.cells [pN a])]⟩ (ids:=[(901,901),(6000,6000),(7000,7000)]) ?_;cases h;exact kR Z
 cases h;exact kR Z
def AB (N:Nat)(q0:Sl Qz)(q1:Law)(q2:Int)(q3:Int):Option (List (Int×(Sl Qz))):= if (q1.Mode==1) then (EV N q1 q0 0).bind fun y1=>(S5 N y1.1 y1.2.1 y1.2.2).bind fun L1=>K5 L1 (fun b (x1:Int) (z1:(Sl Qz)×Int×Int)=>if (decide (x1<z1.2.1)) then b (z1.1,z1.2.1,z1.2.2) else if (((0:Int)<=(wrap .i64 (x1+z1.2.2))/\(wrap .i64 (x1+z1.2.2))<=(z1.1.n:Int))/\((0:Int)<=x1/\x1<=(wrap .i64 (x1+q2))/\(wrap .i64 (x1+q2))<=(q0.n:Int)))then (K4 N q1 (q0.sub x1.toNat (wrap .i64 (x1+q2)).toNat)).bind fun y6=>if ((0:Int)<=(wrap .i64 (x1+q2))/\(wrap .i64 (x1+q2))<=(q0.n:Int))then (A6 N (Sl.of [z1.1.take (wrap .i64 (x1+z1.2.2)).toNat,y6,q0.drop (wrap .i64 (x1+q2)).toNat]:Sl (Sl Qz))).bind fun y7=>P7 (x1,y7) (b (y7,wrap .i64 (x1+(if q2<1 then 1 else q2)),wrap .i64 ((wrap .i64 (z1.2.2+q3))-q2))) else none else none) (fun (z1:(Sl Qz)×Int×Int)=>some []) (q0,0,0) else if (q1.Mode==2) then N6 N (fun a (x5:Sl Qz) (x6:Int)=>if (decide ((wrap .i64 (x6+q2))<=(x5.n:Int))) then (AS N q1 x5 x6).bind fun g=>if (!g) then a x5 (wrap .i64 (x6+1)) else (N9 N q1 x5 x6).bind fun d=>P7 (x6,d) (if (q2==0) then a d (wrap .i64 ((wrap .i64 (x6+q3))+1)) else a d (wrap .i64 (x6+q3))) else some []) q0 0 else if (q1.Mode==3) then N6 N (fun c (x7:Sl Qz) (x8:Int)=>if (decide (0<=x8)) then (AS N q1 x7 x8).bind fun i=>if (!i) then c x7 (wrap .i64 (x8-1)) else (N9 N q1 x7 x8).bind fun f=>P7 (x8,f) (c f (wrap .i64 (x8-(if q2<1 then 1 else q2)))) else some []) q0 (wrap .i64 ((q0.n:Int)-q2)) else some []
theorem QS {q0:Sl Qz}{q1:Law}{q2:Int}{q3:Int}{L:List (Int×(Sl Qz))}(h:AB N q0 q1 q2 q3=some L) :Ck S Dq [] [.reg 0 0,.reg 1 0,.reg 2 0,.reg 3 0] [.cells [.p (vSl 2 A0 q0)],.cells ((A5 q1).map .p),.cells [pN q2],.cells [pN q3]] (L.map (fun (x:Int×(Sl Qz))=>[pI .i64 x.1,vSl 2 A0 x.2])):=by
 unfold AB at h;refine EM Z func174 ?_;apply kI Z h<;>intro h
 .refine kC Z h (Ma Z Y) (fun y1 h=>?_);obtain⟨L1,e2,h⟩:=D8 h;refine XP Z Nk [20000,20001,20002] [8,7,6,5,4,3,2,1] 900 (fun z1 L2=>⟨[(8,.reg 9000 0),(7,.reg 8000 0),(6,.reg 7000 0),(5,.reg 6000 0),(4,.reg 3 0),(3,.reg 2 0),(2,.reg 1 0),(1,.reg 0 0)],[(9000,.cells [pN z1.2.2]),(8000,.cells [pN z1.2.1]),(7000,.cells [.p (vSl 2 A0 z1.1)]),(6000,.cells [.yf 4]),(4,.yld (L2.map (fun (x:Int×(Sl Qz))=>[pI .i64 x.1,vSl 2 A0 x.2])) true),(3,.cells [pN q3]),(2,.cells [pN q2]),(1,.cells ((A5 q1).map .p)),(0,.cells [.p (vSl 2 A0 q0)])]⟩) (idl:=[(0,0),(1,1),(2,2),(3,3),(4,4),(6000,6000),(7000,7000),(8000,8000),(9000,9000)]) h (Io Z Y e2) (fun _=>by kernel_rfl) (fun _ _=>by kernel_rfl) (fun _ _=>by kernel_rfl) (fun _ _=>by kernel_rfl) (fun x1 _ s z1 L2 j h=>?_) (fun z1 L2 h=>?_)
  .refine Gx Z Nk ?_;apply kI Z h<;>intro h
   .exact j _ [(0,0),(1,1),(2,2),(3,3),(4,4),(900,900),(6000,6000),(7000,7000),(8000,8000),(9000,9000)] _ (z1.1,z1.2.1,z1.2.2) L2 Nk h
   refine T4 Z Nk [(0,.l [7000]),(2,.l [9000]),(5,.l [1]),(6,.l [0]),(9,.l [2]),(12,.n),(13,.l [0]),(15,.l [2]),(20,.a [7000])] ?_;obtain⟨c13,h⟩:=P1 h;obtain⟨y6,e7,h⟩:=D8 h;refine CK c13 (Pc Z Y e7) ?_;obtain⟨c14,h⟩:=P1 h;refine Dk c14 (x:=.sl true 1 3 (G7 [P4] [(0,cL 2 A0 (z1.1.take (wrap .i64 (x1+z1.2.2)).toNat)),(1,cL 2 A0 y6),(2,cL 2 A0 (q0.drop (wrap .i64 (x1+q2)).toNat))])) ?_;obtain⟨y7,e8,h⟩:=D8 h;refine Zh [] Nk (FunO.le Z (args:=[.p (.sl true 1 3 (G7 [P4] [(0,cL 2 A0 (z1.1.take (wrap .i64 (x1+z1.2.2)).toNat)),(1,cL 2 A0 y6),(2,cL 2 A0 (q0.drop (wrap .i64 (x1+q2)).toNat))]))]) (by exact⟨Uz rfl (fun i t=>match i,t with|0,_=>rfl|1,_=>rfl|2,_=>rfl|_+3,t=>Ng t (by omega)),trivial⟩) (J3 Z Y e8)) ?_;refine X9 Nk ?_;obtain⟨L5,rfl,m⟩:=KC h;replace h:=m;refine Cl Z Nk (ys:=(fun (x:Int×(Sl Qz))=>[pI .i64 x.1,vSl 2 A0 x.2]) (x1,y7)) (rest:=L5.map (fun (x:Int×(Sl Qz))=>[pI .i64 x.1,vSl 2 A0 x.2])) ?_ ?_
   .refine E4 Z Nk (b:=false) (fun c15=>?_) (fun c15=>?_)
    .exact Bool.noConfusion ((rfl:false=false).symm.trans c15)
    refine T4 Z Nk [(1,.l [2]),(4,.l [9000]),(5,.l [3]),(7,.l [2]),(9,.a [8000]),(10,.a [9000])] ?_;refine X9 Nk ?_;exact j _ [(0,0),(1,1),(2,2),(3,3),(4,4),(900,900),(6000,6000),(7000,7000),(8000,8000),(9000,9000)] _ (y7,wrap .i64 (x1+(if q2<1 then 1 else q2)),wrap .i64 ((wrap .i64 (z1.2.2+q3))-q2)) L5 Nk h
   refine E4 Z Nk (b:=true) (fun c16=>?_) (fun c16=>?_)
   .refine MR Z Nk ⟨[(8,.reg 9000 0),(7,.reg 8000 0),(6,.reg 7000 0),(5,.reg 6000 0),(4,.reg 3 0),(3,.reg 2 0),(2,.reg 1 0),(1,.reg 0 0)],[(44000,.vec B1 2 y7.n (fun i=>A0 (y7.g i)) true),(9000,.cells [pN z1.2.2]),(8000,.cells [pN z1.2.1]),(7000,.cells [.vec 44000]),(6000,.cells [.yf 4]),(4,.yld [] false),(3,.cells [pN q3]),(2,.cells [pN q2]),(1,.cells ((A5 q1).map .p)),(0,.cells [.p (vSl 2 A0 q0)])]⟩ (ids:=[(0,0),(1,1),(2,2),(3,3),(4,4),(900,900),(6000,6000),(7000,7000),(8000,8000),(9000,9000),(44000,44000)]) ?_;exact A8 Z Nk (a:=.tup []) (objs:=[(.cells [.p (vSl 2 A0 q0)]),.cells ((A5 q1).map .p),.cells [pN q2],.cells [pN q3],.yld [] false]) ⟨[],[(4,.yld [] false),(3,.cells [pN q3]),(2,.cells [pN q2]),(1,.cells ((A5 q1).map .p)),(0,.cells [.p (vSl 2 A0 q0)])]⟩ [0,1,2,3,4] (ids:=[(0,0),(1,1),(2,2),(3,3),(4,4)]) ⟨false,rfl,rfl,_,rfl⟩
   exact Bool.noConfusion (Q8.symm.trans c16)
  obtain rfl:=D0 h;exact A8 Z Nk (a:=.tup []) (objs:=[(.cells [.p (vSl 2 A0 q0)]),.cells ((A5 q1).map .p),.cells [pN q2],.cells [pN q3],.yld [] true]) ⟨[],[(4,.yld [] true),(3,.cells [pN q3]),(2,.cells [pN q2]),(1,.cells ((A5 q1).map .p)),(0,.cells [.p (vSl 2 A0 q0)])]⟩ [0,1,2,3,4] (ids:=[(0,0),(1,1),(2,2),(3,3),(4,4)]) ⟨true,rfl,rfl,_,rfl⟩
 apply kI Z h<;>intro h
 .refine Qp Z Nk h (fun x5 x6 L6=>⟨[(10,pN x6),(6,.reg 7000 0),(5,.reg 6000 0),(4,.reg 3 0),(3,.reg 2 0),(2,.reg 1 0)],[(7000,.cells [.p (vSl 2 A0 x5)]),(6000,.cells [.yf 4]),(4,.yld (L6.map (fun (x:Int×(Sl Qz))=>[pI .i64 x.1,vSl 2 A0 x.2])) true),(3,.cells [pN q3]),(2,.cells [pN q2]),(1,.cells ((A5 q1).map .p)),(0,.cells [.p (vSl 2 A0 q0)])]⟩) (ids:=[(0,0),(1,1),(2,2),(3,3),(4,4),(6000,6000),(7000,7000)]) (fun _ _ _ _ _ u x5 x6 L6 c h=>?_);apply kI Z h<;>intro h
  .refine kC Z h (Pd Z Y) (fun w h=>?_);apply kI Z h<;>intro h
   .exact c _ [(0,0),(1,1),(2,2),(3,3),(4,4),(6000,6000),(7000,7000)] _ x5 (wrap .i64 (x6+1)) L6 Nk h
   refine kC Z h (GP Z Y) (fun d h=>?_);obtain⟨L9,rfl,o⟩:=KC h;replace h:=o;refine Cl Z Nk (ys:=(fun (x:Int×(Sl Qz))=>[pI .i64 x.1,vSl 2 A0 x.2]) (x6,d)) (rest:=L9.map (fun (x:Int×(Sl Qz))=>[pI .i64 x.1,vSl 2 A0 x.2])) ?_ ?_
   .refine E4 Z Nk (b:=false) (fun c30=>?_) (fun c30=>?_)
    .exact Bool.noConfusion ((rfl:false=false).symm.trans c30)
    apply kI Z h<;>intro h
    .exact c _ [(0,0),(1,1),(2,2),(3,3),(4,4),(6000,6000),(7000,7000)] _ d (wrap .i64 ((wrap .i64 (x6+q3))+1)) L9 Nk h
    exact c _ [(0,0),(1,1),(2,2),(3,3),(4,4),(6000,6000),(7000,7000)] _ d (wrap .i64 (x6+q3)) L9 Nk h
   refine E4 Z Nk (b:=true) (fun c32=>?_) (fun c32=>?_)
   .exact A8 Z Nk (a:=.tup []) (objs:=[(.cells [.p (vSl 2 A0 q0)]),.cells ((A5 q1).map .p),.cells [pN q2],.cells [pN q3],.yld [] false]) ⟨[],[(4,.yld [] false),(3,.cells [pN q3]),(2,.cells [pN q2]),(1,.cells ((A5 q1).map .p)),(0,.cells [.p (vSl 2 A0 q0)])]⟩ [0,1,2,3,4] (ids:=[(0,0),(1,1),(2,2),(3,3),(4,4)]) ⟨false,rfl,rfl,_,rfl⟩
   exact Bool.noConfusion (Q8.symm.trans c32)
  obtain rfl:=D0 h;exact A8 Z Nk (a:=.tup []) (objs:=[(.cells [.p (vSl 2 A0 q0)]),.cells ((A5 q1).map .p),.cells [pN q2],.cells [pN q3],.yld [] true]) ⟨[],[(4,.yld [] true),(3,.cells [pN q3]),(2,.cells [pN q2]),(1,.cells ((A5 q1).map .p)),(0,.cells [.p (vSl 2 A0 q0)])]⟩ [0,1,2,3,4] (ids:=[(0,0),(1,1),(2,2),(3,3),(4,4)]) ⟨true,rfl,rfl,_,rfl⟩
 apply kI Z h<;>intro h
 .refine Qp Z Nk h (fun x7 x8 L10=>⟨[(11,pN x8),(6,.reg 7000 0),(5,.reg 6000 0),(3,.reg 2 0),(2,.reg 1 0)],[(7000,.cells [.p (vSl 2 A0 x7)]),(6000,.cells [.yf 4]),(4,.yld (L10.map (fun (x:Int×(Sl Qz))=>[pI .i64 x.1,vSl 2 A0 x.2])) true),(3,.cells [pN q3]),(2,.cells [pN q2]),(1,.cells ((A5 q1).map .p)),(0,.cells [.p (vSl 2 A0 q0)])]⟩) (ids:=[(0,0),(1,1),(2,2),(3,3),(4,4),(6000,6000),(7000,7000)]) (fun _ _ _ _ _ v x7 x8 L10 q h=>?_);apply kI Z h<;>intro h
  .refine kC Z h (Pd Z Y) (fun y h=>?_);apply kI Z h<;>intro h
   .exact q _ [(0,0),(1,1),(2,2),(3,3),(4,4),(6000,6000),(7000,7000)] _ x7 (wrap .i64 (x8-1)) L10 Nk h
   refine kC Z h (GP Z Y) (fun r h=>?_);obtain⟨L13,rfl,f⟩:=KC h;replace h:=f;refine Cl Z Nk (ys:=(fun (x:Int×(Sl Qz))=>[pI .i64 x.1,vSl 2 A0 x.2]) (x8,r)) (rest:=L13.map (fun (x:Int×(Sl Qz))=>[pI .i64 x.1,vSl 2 A0 x.2])) ?_ ?_
   .refine E4 Z Nk (b:=false) (fun c44=>?_) (fun c44=>?_)
    .exact Bool.noConfusion ((rfl:false=false).symm.trans c44)
    exact q _ [(0,0),(1,1),(2,2),(3,3),(4,4),(6000,6000),(7000,7000)] _ r (wrap .i64 (x8-(if q2<1 then 1 else q2))) L13 Nk h
   refine E4 Z Nk (b:=true) (fun c45=>?_) (fun c45=>?_)
   .exact A8 Z Nk (a:=.tup []) (objs:=[(.cells [.p (vSl 2 A0 q0)]),.cells ((A5 q1).map .p),.cells [pN q2],.cells [pN q3],.yld [] false]) ⟨[],[(4,.yld [] false),(3,.cells [pN q3]),(2,.cells [pN q2]),(1,.cells ((A5 q1).map .p)),(0,.cells [.p (vSl 2 A0 q0)])]⟩ [0,1,2,3,4] (ids:=[(0,0),(1,1),(2,2),(3,3),(4,4)]) ⟨false,rfl,rfl,_,rfl⟩
   exact Bool.noConfusion (Q8.symm.trans c45)
  obtain rfl:=D0 h;exact A8 Z Nk (a:=.tup []) (objs:=[(.cells [.p (vSl 2 A0 q0)]),.cells ((A5 q1).map .p),.cells [pN q2],.cells [pN q3],.yld [] true]) ⟨[],[(4,.yld [] true),(3,.cells [pN q3]),(2,.cells [pN q2]),(1,.cells ((A5 q1).map .p)),(0,.cells [.p (vSl 2 A0 q0)])]⟩ [0,1,2,3,4] (ids:=[(0,0),(1,1),(2,2),(3,3),(4,4)]) ⟨true,rfl,rfl,_,rfl⟩
 obtain rfl:=D0 h;exact A8 Z Nk (a:=.tup []) (objs:=[(.cells [.p (vSl 2 A0 q0)]),.cells ((A5 q1).map .p),.cells [pN q2],.cells [pN q3],.yld [] true]) ⟨[],[(4,.yld [] true),(3,.cells [pN q3]),(2,.cells [pN q2]),(1,.cells ((A5 q1).map .p)),(0,.cells [.p (vSl 2 A0 q0)])]⟩ [0,1,2,3,4] (ids:=[(0,0),(1,1),(2,2),(3,3),(4,4)]) ⟨true,rfl,rfl,_,rfl⟩
def GQ (N:Nat)(a:Law)(p_w:Sl Qz):Option ((Sl Qz)×Law×Int×Int):= some (p_w,a,(a.If.n:Int),(a.Out.n:Int))
theorem VM {b:Law}{p_w:Sl Qz}{y:(Sl Qz)×Law×Int×Int}(h:GQ N b p_w=some y) :FunO S OK [.p (.agg (A5 b)),.p (vSl 2 A0 p_w)] [] (.clo Dq [] [.reg 0 0,.reg 1 0,.reg 2 0,.reg 3 0]) ([.cells [.p (vSl 2 A0 y.1)],.cells ((A5 y.2.1).map .p),.cells [pN y.2.2.1],.cells [pN y.2.2.2]]) []:=by unfold GQ at h;refine A4 Z func159 ?_;refine T4 Z Nk [(1,.l [3000]),(2,.n),(4,.l [3000]),(5,.n),(6,.a [6000]),(7,.a [7000]),(8,.a [6000]),(9,.a [7000])] ?_;refine X9 Nk ?_;obtain rfl:=D0 h;exact A8 Z Nk ⟨[(4,.clo Dq [] [.reg 4000 0,.reg 3000 0,.reg 6000 0,.reg 7000 0])],[(7000,.cells [pN (b.Out.n:Int)]),(6000,.cells [pN (b.If.n:Int)]),(4000,.cells [.p (vSl 2 A0 p_w)]),(3000,.cells ((A5 b).map .p))]⟩ [4000,3000,6000,7000] (ids:=[(3000,3000),(4000,4000),(6000,6000),(7000,7000)]) ⟨rfl,rfl,rfl⟩
def BM (N:Nat)(b:Law)(p_w:Sl Qz):Option ((Sl Int)×(Sl (Sl Qz))×Int):= (Dx N b p_w).bind fun y1=>if (y1 != 0) then some (Qv,Qy,y1) else (GQ N b p_w).bind fun y2=>(AB N y2.1 y2.2.1 y2.2.2.1 y2.2.2.2).bind fun L1=>K5 L1 (fun a (x1:Int×(Sl Qz)) (z1:(Sl Int)×(Sl (Sl Qz)))=>if (decide (32<(x1.2.n:Int))) then some (Qv,Qy,11) else if ((z1.1.n+(Sl.of [x1.1]:Sl Int).n)*8<=140737488355328/\z1.1.n+(Sl.of [x1.1]:Sl Int).n<=140737488355328)then if ((z1.2.n+(Sl.of [x1.2]:Sl (Sl Qz)).n)*24<=140737488355328/\z1.2.n+(Sl.of [x1.2]:Sl (Sl Qz)).n<=140737488355328)then a (z1.1.push x1.1,z1.2.push x1.2) else none else none) (fun (z1:(Sl Int)×(Sl (Sl Qz)))=>some (z1.1,z1.2,0)) (Qv,Qy)
theorem QT {b:Law}{p_w:Sl Qz}{y:(Sl Int)×(Sl (Sl Qz))×Int}(h:BM N b p_w=some y) :FunO S JH [.p (.agg (A5 b)),.p (vSl 2 A0 p_w)] [] (.tup [.vec 0,.vec 1,pN y.2.2]) ([.vec M9 1 y.1.n (fun i=>cI .i64 (y.1.g i)) true,.vec D7 1 y.2.1.n (fun i=>cL 2 A0 (y.2.1.g i)) true]) []:=by
 unfold BM at h;refine A4 Z func146 ?_;refine CL Z Nk 4 3000 (A5 b) ?_;obtain⟨y1,e1,h⟩:=D8 h;refine E5 Z [] Q7 (QR Z Y e1) ?_;apply kI Z h<;>intro h
 .obtain rfl:=D0 h;exact A8 Z Nk ⟨[(6,.reg 7000 0),(5,.reg 6000 0),(4,.reg 5000 0)],[(7000,.cells [pN y1]),(6701,.vec D7 1 Qy.n (fun i=>cL 2 A0 (Qy.g i)) true),(6000,.cells [.vec 6701]),(5700,.vec M9 1 Qv.n (fun i=>cI .i64 (Qv.g i)) true),(5000,.cells [.vec 5700])]⟩ [5700,6701] (ids:=[(5000,5000),(6000,6000),(7000,7000)]) ⟨rfl,rfl,rfl⟩
 obtain⟨y2,e2,h⟩:=D8 h;refine E5 Z [] Q7 (VM Z Y e2) ?_;obtain⟨L1,e3,h⟩:=D8 h;refine Hr Z Nk [21000,21001,21002,21003] [9,8,6,5,4] 901 (fun z1=>⟨[(9,.reg 10000 0),(8,.reg 9000 0),(6,.reg 7000 0),(5,.reg 6000 0),(4,.reg 5000 0)],[(10500,.vec D7 1 z1.2.n (fun i=>cL 2 A0 (z1.2.g i)) false),(10000,.cells [.vec 10500]),(9500,.vec M9 1 z1.1.n (fun i=>cI .i64 (z1.1.g i)) false),(9000,.cells [.vec 9500]),(7000,.cells [pN 0]),(6000,.cells [.p P4]),(5000,.cells [.p P4])]⟩) (idl:=[(5000,5000),(6000,6000),(7000,7000),(9000,9000),(10000,10000)]) h (QS Z Y e3) (fun _=>by kernel_rfl) (fun _=>by kernel_rfl) (fun _=>by kernel_rfl) (fun _=>by kernel_rfl) (fun x1 _ d z1 f h=>?_) (fun z1 h=>?_)
 .refine Gx Z Nk ?_;apply kI Z h<;>intro h
  .refine MR Z Nk ⟨[(9,.reg 10000 0),(8,.reg 9000 0),(6,.reg 7000 0),(5,.reg 6000 0),(4,.reg 5000 0)],[(10500,.vec D7 1 z1.2.n (fun i=>cL 2 A0 (z1.2.g i)) false),(10000,.cells [.vec 10500]),(9500,.vec M9 1 z1.1.n (fun i=>cI .i64 (z1.1.g i)) false),(9000,.cells [.vec 9500]),(7000,.cells [pN 11]),(6000,.cells [.p P4]),(5000,.cells [.p P4])]⟩ (ids:=[(901,901),(5000,5000),(6000,6000),(7000,7000),(9000,9000),(9500,9500),(10000,10000),(10500,10500)]) ?_;obtain rfl:=D0 h;exact A8 Z Nk ⟨[(6,.reg 7000 0),(5,.reg 6000 0),(4,.reg 5000 0)],[(7000,.cells [pN 11]),(6701,.vec D7 1 Qy.n (fun i=>cL 2 A0 (Qy.g i)) true),(6000,.cells [.vec 6701]),(5700,.vec M9 1 Qv.n (fun i=>cI .i64 (Qv.g i)) true),(5000,.cells [.vec 5700])]⟩ [5700,6701] (ids:=[(5000,5000),(6000,6000),(7000,7000)]) ⟨rfl,rfl,rfl⟩
  refine T4 Z Nk [(0,.l [9000]),(3,.a [30000,9500]),(4,.l [10000]),(7,.a [34000,10500]),(8,.a [9000]),(9,.a [10000])] ?_;refine Dk Nk (x:=.sl true 1 1 (G7 [pI .i64 0] [(0,cI .i64 x1.1)])) ?_;obtain⟨c9,h⟩:=P1 h;refine Dk c9 (x:=.sl true 1 1 (G7 [P4] [(0,cL 2 A0 x1.2)])) ?_;obtain⟨c10,h⟩:=P1 h;refine X9 c10 ?_;exact f _ [(901,901),(5000,5000),(6000,6000),(7000,7000),(9000,9000),(9500,30000),(10000,10000),(10500,34000)] _ (z1.1.push x1.1,z1.2.push x1.2) Nk h (hle:=klR [(0,.fn (z1.2.n+1) (z1.2.push x1.2).n (BP z1.2.n (fun i=>cL 2 A0 (z1.2.g i)) (G7 [P4] [(0,cL 2 A0 x1.2)])) (fun i=>cL 2 A0 ((z1.2.push x1.2).g i))),(1,.fn (z1.1.n+1) (z1.1.push x1.1).n (BP z1.1.n (fun i=>cI .i64 (z1.1.g i)) (G7 [pI .i64 0] [(0,cI .i64 x1.1)])) (fun i=>cI .i64 ((z1.1.push x1.1).g i)))] (al1 ⟨rfl,Uh (c:=cL 2 A0) (v:=z1.2) (x:=x1.2) (z:=[P4]) same rfl rfl⟩ (al1 ⟨rfl,Uh (c:=cI .i64) (v:=z1.1) (x:=x1.1) (z:=[(pI .i64 0)]) same rfl rfl⟩ al0)))
 refine T4 Z Nk [(0,.l [9000]),(1,.l [10000]),(2,.a [5000]),(3,.a [6000]),(4,.a [7000])] ?_;refine X9 Nk ?_;obtain rfl:=D0 h;exact A8 Z Nk ⟨[(6,.reg 7000 0),(5,.reg 6000 0),(4,.reg 5000 0)],[(10500,.vec D7 1 z1.2.n (fun i=>cL 2 A0 (z1.2.g i)) true),(9500,.vec M9 1 z1.1.n (fun i=>cI .i64 (z1.1.g i)) true),(7000,.cells [pN 0]),(6000,.cells [.vec 10500]),(5000,.cells [.vec 9500])]⟩ [9500,10500] (ids:=[(5000,5000),(6000,6000),(7000,7000),(9500,9500),(10500,10500)]) ⟨rfl,rfl,rfl⟩
def O1 (N:Nat)(a:Law)(p_w:Sl Qz):Option ((Sl Qz)×Int):= (BM N a p_w).bind fun y1=>if (y1.2.2 != 0) then some (Qw,y1.2.2) else if (decide (0<(y1.2.1.n:Int))) then if (((0:Int)<=(wrap .i64 ((y1.2.1.n:Int)-1))/\(wrap .i64 ((y1.2.1.n:Int)-1))<(y1.2.1.n:Int))/\(wrap .i64 ((y1.2.1.n:Int)-1)).toNat<y1.2.1.n)then some (y1.2.1.g (wrap .i64 ((y1.2.1.n:Int)-1)).toNat,0) else none else (A2 N p_w).bind fun y2=>some (y2,0)
theorem QU {a:Law}{p_w:Sl Qz}{y:(Sl Qz)×Int}(h:O1 N a p_w=some y) :FunO S JF [.p (.agg (A5 a)),.p (vSl 2 A0 p_w)] [] (.tup [.p (vSl 2 A0 y.1),pN y.2]) ([]) []:=by
 unfold O1 at h;refine A4 Z func122 ?_;refine kC Z h (QT Z Y) (fun y1 h=>?_);apply kI Z h<;>intro h
 .obtain rfl:=D0 h;exact A8 Z Nk ⟨[(5,pN y1.2.2),(4,.p (vSl 2 A0 Qw))],[]⟩ [] (ids:=[]) ⟨rfl,rfl,rfl⟩
 apply kI Z h<;>intro h
 .obtain⟨c3,h⟩:=P1 h;obtain rfl:=D0 h;exact Ab3 Z c3 [] ⟨rfl,rfl,rfl⟩
 refine kC Z h (K3 Z Y) (fun y2 h=>?_);obtain rfl:=D0 h;exact A8 Z Nk ⟨[(5,pN 0),(4,.p (vSl 2 A0 y2))],[]⟩ [] (ids:=[]) ⟨rfl,rfl,rfl⟩
end Go.AM
namespace Go.AM
open Go.Proofs.Tryz
variable {N:Nat}
open IntKind (wrap)
open Go.Proofs
set_option maxRecDepth 10000
set_option maxHeartbeats 2000000
variable {S:U6}(Z:G6 S Tryz.prog) (Y:Kt S)
include Z Y
def N5 (N:Nat)(a:Law):Option Bool:= (Y2 N a).bind fun y1=>some (y1 != 0)
theorem IB {a:Law}{y:Bool}(h:N5 N a=some y) :FunO S DO [.p (.agg (A5 a))] [] (pB y) ([]) []:=by unfold N5 at h;refine A4 Z func114 ?_;refine kC Z h (Kb Z Y) (fun y1 h=>?_);cases h;exact kR Z
def D5 (N:Nat)(a:Sl Law)(c:Law->Option Bool):Option Int:= Ao N (fun b (x1:Int)=>if (decide (x1<(a.n:Int))) then if ((0:Int)<=x1/\x1<(a.n:Int))then (c (a.g x1.toNat)).bind fun y3=>if y3 then some x1 else b (wrap .i64 (x1+1)) else none else some (-1)) 0
theorem V7 {a:Sl Law}{c:Law->Option Bool}{kp_f:Nat}(d:∀{a0:Law}{b:Bool},c a0=some b->FunO S kp_f [.p (.agg (A5 a0))] [] (pB b) [] []){y:Int}(h:D5 N a c=some y) :FunO S J9 [.p (vSl 18 A5 a),.clo kp_f [] []] [] (pN y) ([]) []:=by
 unfold D5 at h;refine A4 Z func143 ?_;refine CJ Z Nk h (fun x1=>⟨[(8,pN x1),(7,pN (a.n:Int)),(1,.clo kp_f [] []),(0,.p (vSl 18 A5 a))],[]⟩) (ids:=[]) (fun _ _ _ _ _ f x1 g h=>?_);apply kI Z h<;>intro h
 .obtain⟨c8,h⟩:=P1 h;obtain⟨y3,e3,h⟩:=D8 h;refine E5 Z [] (Ar0 c8 Q7) (d e3) ?_;apply kI Z h<;>intro h
  .cases h;exact kR Z
  exact g _ [] _ (wrap .i64 (x1+1)) Nk h
 cases h;exact kR Z
def B4 (N:Nat)(a:Sl Law)(b:Law->Option Bool):Option Bool:= (D5 N a b).bind fun y1=>some (decide (0<=y1))
theorem R4 {a:Sl Law}{c:Law->Option Bool}{kp_f:Nat}(d:∀{a0:Law}{b:Bool},c a0=some b->FunO S kp_f [.p (.agg (A5 a0))] [] (pB b) [] []){y:Bool}(h:B4 N a c=some y) :FunO S I2 [.p (vSl 18 A5 a),.clo kp_f [] []] [] (pB y) ([]) []:=by unfold B4 at h;refine A4 Z func113 ?_;refine kC Z h (V7 Z Y (fun e=>d e)) (fun y1 h=>?_);cases h;exact kR Z
def M0 (N:Nat)(p_laws:Sl Law):Option Int:= if (decide (64<(p_laws.n:Int))) then some 12 else (B4 N p_laws (fun (u1:Law)=>N5 N u1)).bind fun y1=>if y1 then some 17 else some 0
theorem Cq {p_laws:Sl Law}{y:Int}(h:M0 N p_laws=some y) :FunO S Fu [.p (vSl 18 A5 p_laws)] [] (pN y) ([]) []:=by
 unfold M0 at h;refine A4 Z func75 ?_;apply kI Z h<;>intro h
 .cases h;exact kR Z
 refine kC Z h (R4 Z Y (fun e=>IB Z Y e)) (fun y1 h=>?_);apply kI Z h<;>intro h
 .cases h;exact kR Z
 cases h;exact kR Z
def O2 (N:Nat)(p_laws:Sl Law)(a:Sl (Sl Qz)):Option Int:= (M0 N p_laws).bind fun y1=>if (y1 != 0) then some y1 else if (decide (256<(a.n:Int))) then some 12 else Ao N (fun b (x1:Int)=>if (decide (x1<(a.n:Int))) then if ((0:Int)<=x1/\x1<(a.n:Int))then (S0 N (a.g x1.toNat)).bind fun y4=>if (y4 != 0) then some y4 else b (wrap .i64 (x1+1)) else none else some 0) 0
theorem FA {p_laws:Sl Law}{a:Sl (Sl Qz)}{y:Int}(h:O2 N p_laws a=some y) :FunO S Fs [.p (vSl 18 A5 p_laws),.p (vSl 1 (cL 2 A0) a)] [] (pN y) ([]) []:=by
 unfold O2 at h;refine A4 Z func57 ?_;refine kC Z h (Cq Z Y) (fun y1 h=>?_);apply kI Z h<;>intro h
 .cases h;exact kR Z
 apply kI Z h<;>intro h
 .cases h;exact kR Z
 refine CJ Z Nk h (fun x1=>⟨[(19,pN x1),(18,pN (a.n:Int)),(17,.p (vSl 1 (cL 2 A0) a))],[]⟩) (ids:=[]) (fun _ _ _ _ _ b x1 c h=>?_);apply kI Z h<;>intro h
 .obtain⟨c10,h⟩:=P1 h;obtain⟨y4,e4,h⟩:=D8 h;refine E5 Z [] c10 (Ep Z Y e4) ?_;apply kI Z h<;>intro h
  .cases h;exact kR Z
  exact c _ [] _ (wrap .i64 (x1+1)) Nk h
 cases h;exact kR Z
end Go.AM
namespace Go.AM
open Go.Proofs.Tryz
variable {N:Nat}
open IntKind (wrap)
open Go.Proofs
set_option maxRecDepth 10000
set_option maxHeartbeats 2000000
variable {S:U6}(Z:G6 S Tryz.prog) (Y:Kt S)
include Z Y
def QV (c:Int):Option PV:=if c=0 then none else some (.iface 160 (pI .i64 c))
def H6 (N:Nat)(c:Int)(q0:Sl Qz)(q1:Sl Law):Option (List (Int×(Sl Qz))):= (A2 N q0).bind fun y1=>P7 (0,y1) (N6 N (fun a (x1:Sl Qz) (x2:Int)=>if (decide (x2<(q1.n:Int))) then if ((0:Int)<=x2/\x2<(q1.n:Int))then (O1 N (q1.g x2.toNat) x1).bind fun y4=>if (y4.2 != 0) then if y4.2=c then some []else none else P7 (wrap .i64 (x2+1),y4.1) (a y4.1 (wrap .i64 (x2+1))) else none else if c=0 then some []else none) y1 0)
theorem Bc {q0:Sl Qz}{q1:Sl Law}{c:Int}{L:List (Int×(Sl Qz))}(h:H6 N c q0 q1=some L) :HZ S J5 [] [.reg 0 0,.reg 1 0] [.cells [.p (vSl 2 A0 q0)],.cells [.p (vSl 18 A5 q1)]] (L.map (fun (x:Int×(Sl Qz))=>[pI .i64 x.1,vSl 2 A0 x.2])) (QV c):=by
 unfold H6 at h;refine Vr Z func121 ?_;refine kC Z h (K3 Z Y) (fun y1 h=>?_);obtain⟨L1,rfl,d⟩:=KC h;replace h:=d;refine Cl Z Nk (ys:=(fun (x:Int×(Sl Qz))=>[pI .i64 x.1,vSl 2 A0 x.2]) (0,y1)) (rest:=L1.map (fun (x:Int×(Sl Qz))=>[pI .i64 x.1,vSl 2 A0 x.2])) ?_ ?_
 .refine E4 Z Nk (b:=false) (fun c1=>?_) (fun c1=>?_)
  .exact Bool.noConfusion ((rfl:false=false).symm.trans c1)
  refine Qp Z Nk h (fun x1 x2 L2=>⟨[(17,pN x2),(16,pN (q1.n:Int)),(15,.p (vSl 18 A5 q1)),(4,.p (vSl 2 A0 x1)),(0,.yf 2)],[(2,.yld (L2.map (fun (x:Int×(Sl Qz))=>[pI .i64 x.1,vSl 2 A0 x.2])) true),(1,.cells [.p (vSl 18 A5 q1)]),(0,.cells [.p (vSl 2 A0 q0)])]⟩) (ids:=[(0,0),(1,1),(2,2)]) (fun _ _ _ _ _ g x1 x2 L2 i h=>?_);apply kI Z h<;>intro h
  .obtain⟨c13,h⟩:=P1 h;obtain⟨y4,e4,h⟩:=D8 h;refine E5 Z [] (Ar0 c13 Q7) (QU Z Y e4) ?_;refine E4 Z Nk (b:=y4.2 != 0) (fun c14=>?_) (fun c14=>?_)
   .replace h:=itT c14 h;obtain⟨c0,h⟩:=P1 h;obtain rfl:=D0 h;have j:QV c=some (.iface 160 (pI .i64 y4.2)):=by
     have:¬y4.2=0:=by simpa using c14
     rw[<- c0];simp[QV,this]
    refine Ac1 Z Nk (x:=.iface 160 (pI .i64 y4.2)) ?_;exact Zj Z Nk (x:=.iface 160 (pI .i64 y4.2)) (objs:=[(.cells [.p (vSl 2 A0 q0)]),.cells [.p (vSl 18 A5 q1)],.yld [] true]) [0,1,2] ⟨true,rfl,rfl,fun _=>by rw[j];rfl,fun e=>nomatch e⟩
   replace h:=itF c14 h;obtain⟨L5,rfl,f⟩:=KC h;replace h:=f;refine Cl Z Nk (ys:=(fun (x:Int×(Sl Qz))=>[pI .i64 x.1,vSl 2 A0 x.2]) (wrap .i64 (x2+1),y4.1)) (rest:=L5.map (fun (x:Int×(Sl Qz))=>[pI .i64 x.1,vSl 2 A0 x.2])) ?_ ?_
   .refine E4 Z Nk (b:=false) (fun c15=>?_) (fun c15=>?_)
    .exact Bool.noConfusion ((rfl:false=false).symm.trans c15)
    exact i _ [(0,0),(1,1),(2,2)] _ y4.1 (wrap .i64 (x2+1)) L5 Nk h
   refine E4 Z Nk (b:=true) (fun c16=>?_) (fun c16=>?_)
   .exact A8 Z Nk (a:=.tup []) (objs:=[(.cells [.p (vSl 2 A0 q0)]),.cells [.p (vSl 18 A5 q1)],.yld [] false]) ⟨[],[(2,.yld [] false),(1,.cells [.p (vSl 18 A5 q1)]),(0,.cells [.p (vSl 2 A0 q0)])]⟩ [0,1,2] (ids:=[(0,0),(1,1),(2,2)]) ⟨false,rfl,rfl,fun e=>(nomatch e),fun _=>⟨_,rfl⟩⟩
   exact Bool.noConfusion (Q8.symm.trans c16)
  obtain⟨c0,h⟩:=P1 h;obtain rfl:=D0 h;exact A8 Z Nk (a:=.tup []) (objs:=[(.cells [.p (vSl 2 A0 q0)]),.cells [.p (vSl 18 A5 q1)],.yld [] true]) ⟨[],[(2,.yld [] true),(1,.cells [.p (vSl 18 A5 q1)]),(0,.cells [.p (vSl 2 A0 q0)])]⟩ [0,1,2] (ids:=[(0,0),(1,1),(2,2)]) ⟨true,rfl,rfl,fun _=>by subst c0;exact⟨_,rfl⟩,fun e=>(nomatch e)⟩
 refine E4 Z Nk (b:=true) (fun c17=>?_) (fun c17=>?_)
 .exact A8 Z Nk (a:=.tup []) (objs:=[(.cells [.p (vSl 2 A0 q0)]),.cells [.p (vSl 18 A5 q1)],.yld [] false]) ⟨[],[(2,.yld [] false),(1,.cells [.p (vSl 18 A5 q1)]),(0,.cells [.p (vSl 2 A0 q0)])]⟩ [0,1,2] (ids:=[(0,0),(1,1),(2,2)]) ⟨false,rfl,rfl,fun e=>(nomatch e),fun _=>⟨_,rfl⟩⟩
 exact Bool.noConfusion (Q8.symm.trans c17)
def M4 (N:Nat)(p_laws:Sl Law)(p_w:Sl Qz):Option ((Sl Qz)×(Sl Law)):= some (p_w,p_laws)
theorem Cr {p_laws:Sl Law}{p_w:Sl Qz}{y:(Sl Qz)×(Sl Law)}(h:M4 N p_laws p_w=some y) :FunO S Fv [.p (vSl 18 A5 p_laws),.p (vSl 2 A0 p_w)] [] (.clo J5 [] [.reg 0 0,.reg 1 0]) ([.cells [.p (vSl 2 A0 y.1)],.cells [.p (vSl 18 A5 y.2)]]) []:=by unfold M4 at h;refine A4 Z func87 ?_;obtain rfl:=D0 h;exact A8 Z Nk ⟨[(4,.clo J5 [] [.reg 4000 0,.reg 3000 0])],[(4000,.cells [.p (vSl 2 A0 p_w)]),(3000,.cells [.p (vSl 18 A5 p_laws)])]⟩ [4000,3000] (ids:=[(3000,3000),(4000,4000)]) ⟨rfl,rfl,rfl⟩
def A9 (N:Nat)(c:Int)(p_laws:Sl Law)(p_w:Sl Qz):Option (Sl Qz):= (M4 N p_laws p_w).bind fun y1=>(H6 N c y1.1 y1.2).bind fun L1=>K5 L1 (fun a (x1:Int×(Sl Qz)) (z1:Sl Qz)=>a x1.2) (fun (z1:Sl Qz)=>some z1) Qw
theorem Hy {p_laws:Sl Law}{p_w:Sl Qz}{y:Sl Qz}(h:A9 N 0 p_laws p_w=some y) :FunO S G5 [.p (vSl 18 A5 p_laws),.p (vSl 2 A0 p_w)] [] (.p (vSl 2 A0 y)) ([]) []:=by
 unfold A9 at h;refine A4 Z func120 ?_;refine kC Z h (Cr Z Y) (fun y1 h=>?_);obtain⟨L1,e2,h⟩:=D8 h;have c:HZ S J5 [] [.reg 0 0,.reg 1 0] [.cells [.p (vSl 2 A0 y1.1)],.cells [.p (vSl 18 A5 y1.2)]] (L1.map (fun (x:Int×(Sl Qz))=>[pI .i64 x.1,vSl 2 A0 x.2])) none:=Bc Z Y e2;refine MT Z Nk [8000,8001] [4] 901 (fun z1=>⟨[(4,.reg 5000 0)],[(5000,.cells [.p (vSl 2 A0 z1)])]⟩) (idl:=[(5000,5000)]) h c (fun _=>by kernel_rfl) (fun _=>by kernel_rfl) (fun _=>by kernel_rfl) (fun _=>by kernel_rfl) (fun x1 _ a z1 b h=>?_) (fun z1 h=>?_)
 .refine Gx Z Nk ?_;exact b _ [(901,901),(5000,5000)] _ x1.2 Nk h
 cases h;exact kR Z
theorem Hz {c:Int}{p_laws:Sl Law}{p_w:Sl Qz}{y:Sl Qz}(hc:c≠0)(h:A9 N c p_laws p_w=some y) :S.F G5 [.p (vSl 18 A5 p_laws),.p (vSl 2 A0 p_w)] [] fun res o k=>res=.panic (.iface 160 (pI .i64 c))/\o=[]/\k=[]:=by
 unfold A9 at h;refine XX Z func120 ?_;refine kC Z h (Cr Z Y) (fun y1 h=>?_);obtain⟨L1,e2,h⟩:=D8 h;have d:HZ S J5 [] [.reg 0 0,.reg 1 0] [.cells [.p (vSl 2 A0 y1.1)],.cells [.p (vSl 18 A5 y1.2)]] (L1.map (fun (x:Int×(Sl Qz))=>[pI .i64 x.1,vSl 2 A0 x.2])) (some (.iface 160 (pI .i64 c))):=by
  have:=Bc Z Y e2
  simpa[QV,hc]using this
 refine MT Z Nk [8000,8001] [4] 901 (fun z1=>⟨[(4,.reg 5000 0)],[(5000,.cells [.p (vSl 2 A0 z1)])]⟩) (idl:=[(5000,5000)]) h d (fun _=>by kernel_rfl) (fun _=>by kernel_rfl) (fun _=>by kernel_rfl) (fun _=>by kernel_rfl) (fun x1 _ a z1 b h=>?_) (fun z1 h=>?_)
 .refine Gx Z Nk ?_;exact b _ [(901,901),(5000,5000)] _ x1.2 Nk h
 exact Zj Z Nk (x:=.iface 160 (pI .i64 c)) (objs:=[]) [] ⟨rfl,rfl,rfl⟩
def D6 (N:Nat)(p_laws:Sl Law)(p_w:Sl Qz):Option ((Sl Qz)×Bool):=
 match A9 N 0 p_laws p_w with
 |some y=>some (y,true)
 |none=>(A9 N 11 p_laws p_w).bind fun _=>some (Qw,false)
theorem IC {p_laws:Sl Law}{p_w:Sl Qz}{y:(Sl Qz)×Bool}(h:D6 N p_laws p_w=some y) :FunO S DN [.p (vSl 18 A5 p_laws),.p (vSl 2 A0 p_w)] [] (.tup [.p (vSl 2 A0 y.1),pB y.2]) ([]) []:=by
 unfold D6 at h;refine A4 Z func85 ?_;rcases e:A9 N 0 p_laws p_w with _|z
 .rw[e]at h;obtain⟨z,e1,h⟩:=D8 h;obtain rfl:=D0 h;refine E5 Z [7000,3000,4000,5000] Nk (Y.attP (Hz Z Y (by decide) e1)) ?_;refine T4 Z Nk [(0,.l [5000]),(1,.l [7000]),(3,.a [5000])] ?_;refine X9 Nk ?_;exact A8 Z Nk ⟨[(5,pB false),(4,.reg 5000 0)],[(5000,.cells [.p (vSl 2 A0 Sl.nil)])]⟩ [] (ids:=[(5000,5000)]) ⟨rfl,rfl,rfl⟩
 rw[e]at h;obtain rfl:=D0 h;refine E5 Z [7000,3000,4000,5000] Nk (Y.attR (Hy Z Y e)) ?_;refine T4 Z Nk [(0,.l [5000]),(1,.l [7000]),(3,.a [5000])] ?_;refine X9 Nk ?_;exact A8 Z Nk ⟨[(5,pB true),(4,.reg 5000 0)],[(5000,.cells [.p (vSl 2 A0 z)])]⟩ [] (ids:=[(5000,5000)]) ⟨rfl,rfl,rfl⟩
end Go.AM
namespace Go.AM
open Go.Proofs.Tryz
open Go.Proofs
set_option maxRecDepth 100000
set_option maxHeartbeats 2000000
def Af (N:Nat)(c:Int)(p_laws:Sl Law)(p_w:Sl Qz):Option (Sl (Sl Qz)):= (M4 N p_laws p_w).bind fun y1=>(H6 N c y1.1 y1.2).bind fun L1=>K5 L1 (fun a (x1:Int×(Sl Qz)) (z1:Sl (Sl Qz))=>(A2 N x1.2).bind fun y4=>if ((z1.n+(Sl.of [y4]:Sl (Sl Qz)).n)*24<=140737488355328/\z1.n+(Sl.of [y4]:Sl (Sl Qz)).n<=140737488355328)then a (z1.push y4) else none) (fun (z1:Sl (Sl Qz))=>some z1) Qy
def O3 (N:Nat)(p_laws:Sl Law)(p_w:Sl Qz):Option (Sl (Sl Qz)×Int):=
 (O2 N p_laws (Sl.of [p_w]:Sl (Sl Qz))).bind fun y1=>
 if (y1 != 0) then some (Qy,y1)
 else match Af N 0 p_laws p_w with
  |some l=>some (l,0)
  |none=>(Af N 11 p_laws p_w).bind fun _=>some (Qy,11)
structure LibD (S:U6):Prop where
 forms:∀{N:Nat}{p_laws:Sl Law}{p_w:Sl Qz}{y:Sl (Sl Qz)×Int},O3 N p_laws p_w=some y ->
  FunO S W3 [.p (vSl 18 A5 p_laws),.p (vSl 2 A0 p_w)] [] (.tup [.p (vSl 1 (cL 2 A0) y.1),pN y.2]) [] []
def sq1:Code->Code
 |.seq a _=>a
 |_=>.skip
def sq2:Code->Code
 |.seq _ b=>b
 |_=>.skip
def Ad3:Code->Array Oper
 |.region _ ops _=>ops
 |_=>#[]
noncomputable def fmB:Code:=Tryz.f60.body.getD .skip
noncomputable def fm0:Code:=sq1 fmB
noncomputable def fmA:Code:=sq1 (sq2 fmB)
noncomputable def fm4:Code:=sq1 (sq2 (sq2 fmB))
noncomputable def fm5:Code:=sq1 (sq2 (sq2 (sq2 fmB)))
noncomputable def fmR:Code:=sq2 (sq2 (sq2 (sq2 fmB)))
theorem VN:Tryz.f60.body=some (.seq fm0 (.seq fmA (.seq fm4 (.seq fm5 fmR)))):=by kernel_rfl
theorem Ad4:¬Tryz.f60.name = "runtime.NumGoroutine" := by decide +kernel
theorem fm0_n:Ix Tryz.prog 28 fm0:=by rw[show fm0=.region 0 (Ad3 fm0) false by kernel_rfl];exact AK (by kernel_rfl)
theorem fm4_n:Ix Tryz.prog 28 fm4:=by rw[show fm4=.region 4 (Ad3 fm4) false by kernel_rfl];exact AK (by kernel_rfl)
def cdO:Code->Operand
 |.cond c _ _=>c
 |_=>.tmp 0
def cdA:Code->Code
 |.cond _ a _=>a
 |_=>.skip
theorem fmA_n:Ix Tryz.prog 28 fmA:=by rw[show fmA=.seq (.region 1 (Ad3 (sq1 fmA)) false) (.seq (.region 2 (Ad3 (sq1 (sq2 fmA))) false) (.cond (cdO (sq2 (sq2 fmA))) (.seq (.region 3 (Ad3 (sq1 (cdA (sq2 (sq2 fmA))))) false) .ret) .skip)) by kernel_rfl];exact Jz (AK (by kernel_rfl)) (Jz (AK (by kernel_rfl)) (Tz (Jz (AK (by kernel_rfl)) Vx) Ty))
def rgG:Code->Operand
 |.block _ (.rangeFunc g _ _ _)=>g
 |_=>.tmp 0
def rgP:Code->Array Tmp
 |.block _ (.rangeFunc _ p _ _)=>p
 |_=>#[]
def rgA:Code->Code
 |.block _ (.rangeFunc _ _ a _)=>a
 |_=>.skip
def rgB:Code->Code
 |.block _ (.rangeFunc _ _ _ b)=>b
 |_=>.skip
theorem fmR_d (D:List Deferred):MV Tryz.prog 28 D fmR:=by rw[show fmR=.seq (.seq (.region 6 (Ad3 (sq1 (sq1 fmR))) false) (.block 0 (.rangeFunc (rgG (sq2 (sq1 fmR))) (rgP (sq2 (sq1 fmR))) (rgA (sq2 (sq1 fmR))) (rgB (sq2 (sq1 fmR)))))) (.seq (.region 9 (Ad3 (sq1 (sq2 fmR))) false) .ret) by kernel_rfl];exact Jy (Jy (Ia (by kernel_rfl)) (Qu (Qt (by kernel_rfl)))) (Jy (Ia (by kernel_rfl)) Vw)
def HA (S:U6)(R1 R2:St->Prop)(X:PV->St->Prop):H5
 |.normal,st=>S.up st R1
 |.ret,st=>S.up st R2
 |.panic x,st=>X x st
 |_,_=>False
section
variable {S:U6}{P:Program}{g:Cfg}{pr:Prop}{R1 R2:St->Prop}{X:PV->St->Prop}
theorem An5 (Z:G6 S P)(hc:pr)(st:St){ids:List (Nat×Nat)}(hR:R1 st)(hp:pr=C7 (cnd P g):=by kernel_rfl)(a:stp P g=.pop .normal [] (stp P g).st:=by kernel_rfl)
 (hle:KLe ids (stp P g).st st:=by exact kl):KG S P (HA S R1 R2 X) g:=by
 refine⟨Di Z hc ?_ hp⟩;rw[a];exact Z.le ids _ _ R1 hle.out hR
theorem Zl (Z:G6 S P)(hc:pr)(st:St){ids:List (Nat×Nat)}(hR:R2 st)(hp:pr=C7 (cnd P g):=by kernel_rfl)(a:stp P g=.pop .ret [] (stp P g).st:=by kernel_rfl)
 (hle:KLe ids (stp P g).st st:=by exact kl):KG S P (HA S R1 R2 X) g:=by
 refine⟨Di Z hc ?_ hp⟩;rw[a];exact Z.le ids _ _ R2 hle.out hR
theorem An6 (Z:G6 S P)(hc:pr){x:PV}(b:X x (stp P g).st)(hp:pr=C7 (cnd P g):=by kernel_rfl)(a:Tv (stp P g)=some x:=by kernel_rfl):KG S P (HA S R1 R2 X) g:=by
 refine⟨Di Z hc ?_ hp⟩;generalize stp P g=g1 at a b;unfold Tv at a;split at a
 .cases a;exact b
 cases a
end
abbrev vN:AV:=.p (vSl 1 (cL 2 A0) Qy)
def Yd (a:Sl Law)(b:Sl Qz):St:=⟨[(7,.reg 8000 0),(5,.reg 6000 0),(4,vN),(1,.p (vSl 2 A0 b)),(0,.p (vSl 18 A5 a))],[(8000,.cells [.p P4]),(6000,.cells [pN 0])]⟩
def fmSE (e:Int):St:=⟨[(5,.reg 6000 0),(4,vN)],[(6000,.cells [pN e])]⟩
noncomputable def An7:Code:=.seq fm0 (.seq fmA fm4)
section
variable {S:U6}(Z:G6 S Tryz.prog) (Y:Kt S)
include Z Y
theorem An8 {N:Nat}{a:Sl Law}{b:Sl Qz}{e:Int}(h:O2 N a (Sl.of [b]:Sl (Sl Qz))=some e) :KG S Tryz.prog (HA S (fun st=>e=0/\st=Yd a b) (fun st=>e≠0/\st=fmSE e) fun _ _=>False) (.code An7 [] ⟨argEnv [.p (vSl 18 A5 a),.p (vSl 2 A0 b)],objRegs []⟩):=by
 refine W0 Z Q8 ⟨[(12,.vec 13000),(10,.p (vSl 18 A5 a)),(5,.reg 6000 0),(4,vN),(1,.p (vSl 2 A0 b)),(0,.p (vSl 18 A5 a))],[(13000,.vec D7 1 (Sl.of [b]:Sl (Sl Qz)).n (fun i=>cL 2 A0 ((Sl.of [b]:Sl (Sl Qz)).g i)) false),(6000,.cells [pN 0])]⟩ (ids:=[(6000,6000),(13000,13000)]) ?_ (hle:=klR [(4,.fn 1 (Sl.of [b]:Sl (Sl Qz)).n (G7 [P4] [(0,cL 2 A0 b)]) (fun i=>cL 2 A0 ((Sl.of [b]:Sl (Sl Qz)).g i)))] (al1 ⟨rfl,(fun i c=>match i,c with|0,_=>rfl|_+1,c=>Ng c (by omega))⟩ al0));refine E5 Z [] Nk (FA Z Y h) ?_;refine E4 Z Nk (b:=e != 0) (fun h1=>?_) (fun h1=>?_)
 .exact Zl Z Nk (fmSE e) (ids:=[(6000,6000)]) ⟨by simpa using h1,rfl⟩
 exact An5 Z Nk (Yd a b) (ids:=[(6000,6000),(8000,8000)]) ⟨by simpa using h1,rfl⟩
def fmS (z:Sl (Sl Qz)):St:=⟨[(7,.reg 1 0),(5,.reg 0 0),(4,vN)],[(8500,.vec D7 1 z.n (fun i=>cL 2 A0 (z.g i)) false),(1,.cells [.vec 8500]),(0,.cells [pN 0])]⟩
def fmT (z:Sl (Sl Qz)):St:=⟨[(5,.reg 0 0),(4,.p (vSl 1 (cL 2 A0) z))],[(0,.cells [pN 0])]⟩
def VO (a:Sl Law)(b:Sl Qz):List AV:=[.p (vSl 18 A5 a),.p (vSl 2 A0 b),.top,.top,vN,.reg 0 0,.top,.reg 1 0,.top,.top,.top,.top,.top,.top,.top,.top,.top,.top,.top,.top,.top,.top,.top,.top,.top,.top,.top,.top]
theorem Ad5 {N:Nat}{c:Int}{a:Sl Law}{b:Sl Qz}{y:Sl (Sl Qz)}(h:Af N c a b=some y) :KG S Tryz.prog (HA S (fun _=>False) (fun st=>c=0/\st=fmT y) fun x st=>c≠0/\x=.iface 160 (pI .i64 c)/\st=fmS y) (.code fmR [] ⟨argEnv (VO a b),objRegs [.cells [pN 0],.cells [.p P4]]⟩):=by
 unfold Af at h;refine kC Z h (Cr Z Y) (fun y1 h=>?_);obtain⟨L1,e2,h⟩:=D8 h;have j:HZ S J5 [] [.reg 0 0,.reg 1 0] [.cells [.p (vSl 2 A0 y1.1)],.cells [.p (vSl 18 A5 y1.2)]] (L1.map (fun (x:Int×(Sl Qz))=>[pI .i64 x.1,vSl 2 A0 x.2])) (QV c):=Bc Z Y e2;refine MT Z Nk [20000,20001] [7,5,4] 901 fmS (idl:=[(0,0),(1,1)]) h j (fun _=>by kernel_rfl) (fun _=>by kernel_rfl) (fun _=>by kernel_rfl) (fun _=>by kernel_rfl) (fun x1 _ d z1 f h=>?_) (fun z1 h=>?_)
 .refine Gx Z Nk ?_;refine T3 Z Nk [2,3] ?_;obtain⟨y4,e4,h⟩:=D8 h;refine CK Nk (F1 Z Y e4) ?_;refine Dk Nk (x:=.sl true 1 1 (G7 [P4] [(0,cL 2 A0 y4)])) ?_;obtain⟨c5,h⟩:=P1 h;refine X9 c5 ?_;exact f _ [(0,0),(1,1),(901,901),(8500,27000)] _ (z1.push y4) Nk h (hle:=klR [(0,.fn (z1.n+1) (z1.push y4).n (BP z1.n (fun i=>cL 2 A0 (z1.g i)) (G7 [P4] [(0,cL 2 A0 y4)])) (fun i=>cL 2 A0 ((z1.push y4).g i)))] (al1 ⟨rfl,Uh (c:=cL 2 A0) (v:=z1) (x:=y4) (z:=[P4]) same rfl rfl⟩ al0))
 obtain rfl:=D0 h;by_cases hc:c=0
 .subst hc;exact Zl Z Nk (fmT z1) (ids:=[(0,0)]) ⟨rfl,rfl⟩
 have e:QV c=some (.iface 160 (pI .i64 c)):=by simp[QV,hc]
 rw[e];exact An6 Z Nk ⟨hc,rfl,by kernel_rfl⟩
end
theorem rep2 {w:World}{Pi Pi' : Nat->Nat->Prop}{live live' : Nat->Prop}{rho rho' : Nat->Value}(hk:Keeps w Pi w Pi'){v:Value}{x z:PV}(h:RepA w Pi live rho v (.tup [.p x,.p z])):RepA w Pi' live' rho' v (.tup [.p x,.p z]):=by
 cases h with
 |tup vs _ hs ha=>
  refine .tup vs _ hs fun i b=>?_;have a:i<2:=by simpa using b
  match i,a with
  |0,_=>exact .p _ _ ((ha 0 (by simp)).toP.keeps hk)
  |1,_=>exact .p _ _ ((ha 1 (by simp)).toP.keeps hk)
theorem Ad6 {Q:Exit->Act->World->Prop}{a:Act}{w:World}(h:Q .normal { a with defers:={ target:=.fn (.func E6) #[],args:=#[a.tmps.getD 5 undef] }::a.defers } w):fm5.wpIn Fence.wide 0 Tryz.prog Q a w:=by simp only[fm5,fmB,sq1,sq2,f60,Option.getD];refine wpIn_region ?_;simp[wpOpsIn,Oper.wpIn,Oper.semAt,Oper.uponIn,go_sem];simpa[Aq0]using h
theorem VP (Y:Kt (BR Tryz.prog)){N:Nat}{p_laws:Sl Law}{p_w:Sl Qz}{y:Sl (Sl Qz)×Int}(h:O3 N p_laws p_w=some y) :FunO (BR Tryz.prog) W3 [.p (vSl 18 A5 p_laws),.p (vSl 2 A0 p_w)] [] (.tup [.p (vSl 1 (cL 2 A0) y.1),pN y.2]) [] []:=by
 have Z:=Ap2 Tryz.prog;unfold O3 at h;obtain⟨e,e1,h⟩:=D8 h;have hpre:=An8 Z Y e1;intro 𝒢 C w vs rho hG hSat hvs;obtain⟨l⟩:=vs
 match l,hvs with
 |[v0,v1],hvs=>?_
 refine⟨.enter W3 #[v0,v1],w,by simp[callFunc,func60,VN,Ad4],?_⟩;refine callsIn_of_wp_marks func60 VN Nk ?_;have hS':=VK (n:=Tryz.f60.ntmps-2) hSat hvs;have hn:Tryz.f60.ntmps-2=26:=rfl;rw[hn]at hS';have hsz:((#[v0,v1]:Array Value)++Array.replicate 26 undef).size=28:=by simp
 obtain⟨PP,u⟩:∃PP:H5,PP=HA (BR Tryz.prog) (fun st=>e=0/\st=Yd p_laws p_w) (fun st=>e≠0/\st=fmSE e) fun _ _=>False:=⟨_,rfl⟩;have hw:awp (BR Tryz.prog) Tryz.prog An7 PP ⟨argEnv [.p (vSl 18 A5 p_laws),.p (vSl 2 A0 p_w)],objRegs []⟩:=by rw[u];exact hpre.out
 obtain⟨R,hR⟩:∃R:Ending->World->Prop,R=fun e w'=>∃C' r objs' ks rho', 𝒢.G C' /\ (r=.ret (.tup [.p (vSl 1 (cL 2 A0) y.1),pN y.2])/\objs' = []/\ks=[])/\SatE C' (objRegs objs') w' rho' /\
  Xi w' (Prv C'.X (A1 (objRegs objs')) rho') (Lv (A1 (objRegs objs'))) rho' e r/\∀i:Nat,ks[i]? = some true->i<objs'.length/\rho' i=rho i:=⟨_,rfl⟩
 rw[<- hR];have fin0:∀{C1:Ctx}{s:St}{a:Act}{w1:World}{rho1:Nat->Value},(𝒢.fix C.rho0).G C1->Sat C1 s a w1 rho1->∀{v:Value},RepA w1 (PiS C1 s rho1) (Lv (A1 s.regs)) rho1 v (.tup [.p (vSl 1 (cL 2 A0) y.1),pN y.2])->R (.returned v) w1:=by intro C1 s a w1 rho1 f hs v m;obtain⟨m1,m2,_⟩:=Eb (outs:=[]) (objs:=[]) hs rfl rfl;rw[hR];exact⟨C1,.ret _,[],[],_,f.1,⟨rfl,rfl,rfl⟩,m1,⟨v,rfl,rep2 m2 m⟩,fun i hi=>by simp at hi⟩
 have hx:∀(K:St->Prop) (e' : Exit) (a' : Act) (w' : World),e' ≠ .normal->WPN (𝒢.fix C.rho0) 28 (thn (BR Tryz.prog) K PP) [] e' a' w' -> bodyPostM Fence.wide 0 Tryz.prog f60 R e' a' w':=by
  rintro K e' a' w' hne ⟨t,hdf⟩;cases e' with
  |normal=>exact Ng rfl hne
  |exit id=>obtain⟨_,_,_,_,_,_,hh⟩:=t;rw[u]at hh;exact hh.elim
  |goto l=>obtain⟨_,_,_,_,_,_,hh⟩:=t;rw[u]at hh;exact hh.elim
  |outgrown=>exact t.elim
  |panic ch=>obtain⟨_,_,_,_,_,_,_,_,_,_,hh⟩:=t;rw[u]at hh;exact hh.elim
  |ret=>obtain⟨C1,s,rho1,f,hs,b,hu⟩:=t;rw[u]at hu;obtain⟨s2,rho2,⟨he0,rfl⟩,_,o⟩:=hu C1 a' w' rho1 hs;have hd:=hdf (.inr rfl);rw[Nd (by simpa using he0)]at h;obtain rfl:=D0 h;show LeavesInM Fence.wide 0 Tryz.prog f60 a'.tmps R a'.defers .returning w';rw[hd];obtain⟨v,hv,m⟩:=De o (fn:=f60) (l:=[vN,pN e]) (by kernel_rfl);exact⟨v,hv,fin0 f o m⟩
 refine wpIn_seq (wpIn_mono (fm0_n (𝒢.fix C.rho0) _ C _ _ w rho ⟨hG,rfl⟩ hS' hsz hw) ?_);intro e' a1 w1 t;by_cases hn:e' = .normal
 case neg=>cases e'<;>first|exact Ng rfl hn|exact hx _ _ a1 w1 hn t
 subst hn;obtain⟨⟨C1,s1,rho1,f,j,b,q⟩,g⟩:=t;obtain⟨C1,s1,rho1,f,j,b,hw1⟩:=NextOk.up f j b q;replace g:=g (.inl rfl);clear q;refine wpIn_seq (wpIn_mono (fmA_n (𝒢.fix C.rho0) _ C1 s1 a1 w1 rho1 f j b hw1) ?_);rw[g];clear j b hw1 g f;intro e' a1 w1 t;by_cases hn:e' = .normal
 case neg=>cases e'<;>first|exact Ng rfl hn|exact hx _ _ a1 w1 hn t
 subst hn;obtain⟨⟨C1,s1,rho1,f,j,b,q⟩,g⟩:=t;obtain⟨C1,s1,rho1,f,j,b,hw1⟩:=NextOk.up f j b q;replace g:=g (.inl rfl);clear q;refine wpIn_seq (wpIn_mono (fm4_n (𝒢.fix C.rho0) PP C1 s1 a1 w1 rho1 f j b hw1) ?_);rw[g];clear j b hw1 g f;intro e' a1 w1 t;by_cases hn:e' = .normal
 case neg=>
  have he' : WPN (𝒢.fix C.rho0) 28 (thn (BR Tryz.prog) (fun _=>True) PP) [] e' a1 w1:=by cases e'<;>first|exact Ng rfl hn|exact t
  cases e'<;>first|exact Ng rfl hn|exact hx _ _ a1 w1 hn he'
 subst hn;obtain⟨⟨C1,s1,rho1,f,j,b,q⟩,g⟩:=t;rw[u]at q;obtain⟨s2,rho2,⟨he0,rfl⟩,_,o⟩:=q C1 a1 w1 rho1 j;replace g:=g (.inl rfl);rw[Nf (by simp[he0])]at h;refine wpIn_seq ?_;refine Ad6 ?_;rw[g];have hcs:Sat (C1.callee (Yd p_laws p_w).regs w1 rho2 [6000,8000]) ⟨argEnv (VO p_laws p_w),objRegs [.cells [pN 0],.cells [.p P4]]⟩ ⟨a1.tmps,[]⟩ w1 fun p=>rho2 ([6000,8000].getD p 0):=
  Ea o (by kernel_rfl) (by kernel_rfl) (by kernel_rfl) Nk (show Bi [6000,8000] ((List.range 28).map (get (Yd p_laws p_w).env))=some (VO p_laws p_w) by kernel_rfl)
   (by rw[b];simp) (fun i hi=>by
    have hi:i<28:=by simpa using hi
    have:=o.env i
    simpa[Aq1,hi]using this)
 have hT:TabOk Tryz.prog w1 (Prv C1.X (A1 (Yd p_laws p_w).regs) rho2):=(𝒢.tab C1 f.1).keeps o.keep;obtain⟨b0,hv5,hr5⟩:∃b0,a1.tmps.getD 5 undef=.pointer (some ⟨b0,0,none⟩)/\rho2 6000=.pointer (some ⟨b0,0,none⟩):=by
  have h5:RepA w1 _ _ rho2 (a1.tmps.getD 5 undef) (.reg 6000 0):=o.env 5;generalize a1.tmps.getD 5 undef=v at h5;cases h5 with
  |reg _ _ b0 _ hb=>exact⟨b0,rfl,hb⟩
 have hlive0:∀{st:St},(A1 st.regs 0).isSome=true->Lv (A1 st.regs) 0:=fun h=>h;have fin:∀{s5:St}{a5:Act}{w5:World}{rho5:Nat->Value},Sat (C1.callee (Yd p_laws p_w).regs w1 rho2 [6000,8000]) s5 a5 w5 rho5->Da Tryz.prog s5 Tryz.f60.results.toList=some [.p (vSl 1 (cL 2 A0) y.1),pN y.2] ->
  LeavesInM Fence.wide 0 Tryz.prog f60 a5.tmps R [] .returning w5:=by
  intro s5 a5 w5 rho5 hs5 hr;obtain⟨v,hv,m⟩:=De hs5 (fn:=f60) hr;obtain⟨g1,g2,_⟩:=Eb (outs:=[]) (objs:=[]) hs5 rfl rfl;obtain⟨k1,_,k3,_⟩:=LA (d:=0) (ks:=[]) (objs':=[]) o (ids:=[6000,8000]) (objs:=[.cells [pN 0],.cells [.p P4]]) (by kernel_rfl) (by kernel_rfl) g1 (fun i hi=>by simp at hi) (by kernel_rfl);exact⟨v,hv,fin0 f k1 (rep2 (g2.trans k3) m)⟩
 have main:∀(c:Int) (z:Sl (Sl Qz)),Af N c p_laws p_w=some z->(c=0->y=(z,0))->(c≠0->y=(Qy,c)) ->
  fmR.wpIn Fence.wide 0 Tryz.prog (bodyPostM Fence.wide 0 Tryz.prog f60 R) { tmps:=a1.tmps,defers:=[{ target:=.fn (.func E6) #[],args:=#[a1.tmps.getD 5 undef] }] } w1:=by
  intro c z hz hy0 hy1;have hrest:=Ad5 Z Y hz;have hrun:=fmR_d [{ target:=.fn (.func E6) #[],args:=#[a1.tmps.getD 5 undef] }] (Prot.triv Tryz.prog (C1.callee (Yd p_laws p_w).regs w1 rho2 [6000,8000]) (fun _ _ h=>h) hT) _ _ _ ⟨a1.tmps,[]⟩ w1 _ rfl hcs b hrest.out;refine wpIn_mono hrun ?_;rintro e' a' w' ⟨a0,rfl,hq⟩;cases e' with
  |normal=>obtain⟨C',s',rho',hG',hs',hsz',hu⟩:=hq;obtain⟨_,_,hf,_⟩:=hu C' a0 w' rho' hs';exact hf.elim
  |exit id=>obtain⟨_,_,_,_,_,_,hh⟩:=hq;exact hh.elim
  |goto l=>obtain⟨_,_,_,_,_,_,hh⟩:=hq;exact hh.elim
  |outgrown=>exact hq.elim
  |ret=>
   obtain⟨C',s',rho',rfl,hs',hsz',hu⟩:=hq;obtain⟨s3,rho3,⟨hc0,rfl⟩,_,hs3⟩:=hu _ a0 w' rho' hs';refine Z8 (by simp) ?_ a0.defers a0 w' rfl rfl hs3;intro a3 w3 hs4 ht;refine⟨by simp,.inr ⟨by simp[Fence.wide],_,_,E6,#[a1.tmps.getD 5 undef],rfl,by simp[go_sem],fun _ _=>trivial,?_⟩⟩;refine (JQ _ w3).mono ?_;rintro e u' w4 ⟨rfl,rfl,rfl⟩
   have:=fin hs4 (by rw[hy0 hc0];kernel_rfl)
   rw[ht]at this;exact this
  |panic chain=>
   obtain⟨C',s',rho',v,x,rfl,rfl,hs',hsz',hv,hc0,rfl,rfl⟩:=hq;obtain rfl:v=.iface 160 (.int .i64 c):=by
    cases hv with
    |iface _ _ _ h=>cases h;rfl
   refine Z8 (by simp) ?_ a0.defers a0 w' rfl rfl hs';intro a3 w3 hs4 ht;have hl0:Lv (A1 (fmS z).regs) 0:=show (A1 (fmS z).regs 0).isSome=true by kernel_rfl
   have hr0:rho' 0=.pointer (some ⟨b0,0,none⟩):=(hs4.pin 0 (by omega) hl0).trans hr5;have hva:RS (C1.callee (Yd p_laws p_w).regs w1 rho2 [6000,8000]) (fmS z) w3 rho' (a1.tmps.getD 5 undef) (.reg 0 0):=by rw[hv5];exact .reg 0 0 b0 hl0 hr0
   have hst:store Tryz.prog (fmS z).regs 27 (.reg 0 0) (.p (pI .i64 c))=some ([],ins 0 (.cells [pN c]) (fmS z).regs):=by kernel_rfl
   obtain⟨w4,hrun4,hs5,_⟩:=FF hs4 (vx:=.int .i64 c) hva (.p _ _ (.v _)) hst Nk;refine⟨by simp,.inr ⟨by simp[Fence.wide],_,_,E6,#[a1.tmps.getD 5 undef],rfl,by simp[go_sem],fun _ _=>trivial,?_⟩⟩;refine (DR _ c [] w3 w4 hrun4 ⟨_,hv5⟩).mono ?_;rintro e u' w5 ⟨rfl,rfl,rfl⟩
   have:=fin hs5 (by rw[hy1 hc0];kernel_rfl)
   rw[ht]at this;exact this
 rcases e0:Af N 0 p_laws p_w with _|z
 .rw[e0]at h;obtain⟨z,e2,h⟩:=D8 h;obtain rfl:=D0 h;exact main 11 z e2 (fun h=>Ng h (by decide)) fun _=>rfl
 rw[e0]at h;obtain rfl:=D0 h;exact main 0 z e0 (fun _=>rfl) fun h=>Ng rfl h
abbrev LibE (S:U6):Prop:=Kt S/\LibD S
theorem Lc {S:U6}(Z:G6 S Tryz.prog)(Y:LibE S){N:Nat}{p_laws:Sl Law}{p_w:Sl Qz}{y:Sl (Sl Qz)×Int}(h:O3 N p_laws p_w=some y) :FunO S W3 [.p (vSl 18 A5 p_laws),.p (vSl 2 A0 p_w)] [] (.tup [.p (vSl 1 (cL 2 A0) y.1),pN y.2]) [] []:=Y.2.forms h
theorem libE (Y:Kt (BR Tryz.prog)):LibE (BR Tryz.prog):=⟨Y,⟨VP Y⟩⟩
end Go.AM
namespace Go.AM
open Go.Proofs.Tryz
variable {N:Nat}
open IntKind (wrap)
open Go.Proofs
set_option maxRecDepth 10000
set_option maxHeartbeats 2000000
variable {S:U6}(Z:G6 S Tryz.prog) (Y:Kt S)
include Z Y
def E3 (N:Nat)(p_laws:Sl Law)(p_w:Sl Qz):Option ((Sl Qz)×Int):= (O2 N p_laws (Sl.of [p_w]:Sl (Sl Qz))).bind fun y1=>if (y1 != 0) then some (Qw,y1) else (D6 N p_laws p_w).bind fun y2=>if (!y2.2) then some (Qw,11) else some (y2.1,0)
theorem Kc {p_laws:Sl Law}{p_w:Sl Qz}{y:(Sl Qz)×Int}(h:E3 N p_laws p_w=some y) :FunO S Ei [.p (vSl 18 A5 p_laws),.p (vSl 2 A0 p_w)] [] (.tup [.p (vSl 2 A0 y.1),pN y.2]) ([]) []:=by
 unfold E3 at h;refine A4 Z func58 ?_;refine W0 Z Q8 ⟨[(11,.vec 12000),(9,.p (vSl 18 A5 p_laws)),(1,.p (vSl 2 A0 p_w)),(0,.p (vSl 18 A5 p_laws))],[(12000,.vec D7 1 (Sl.of [p_w]:Sl (Sl Qz)).n (fun i=>cL 2 A0 ((Sl.of [p_w]:Sl (Sl Qz)).g i)) false)]⟩ (ids:=[(12000,12000)]) ?_ (hle:=klR [(3,.fn 1 (Sl.of [p_w]:Sl (Sl Qz)).n (G7 [P4] [(0,cL 2 A0 p_w)]) (fun i=>cL 2 A0 ((Sl.of [p_w]:Sl (Sl Qz)).g i)))] (al1 ⟨rfl,(fun i a=>match i,a with|0,_=>rfl|_+1,a=>Ng a (by omega))⟩ al0));refine kC Z h (FA Z Y) (fun y1 h=>?_);apply kI Z h<;>intro h
 .obtain rfl:=D0 h;exact A8 Z Nk ⟨[(5,pN y1),(4,.p (vSl 2 A0 Qw))],[]⟩ [] (ids:=[]) ⟨rfl,rfl,rfl⟩
 refine kC Z h (IC Z Y) (fun y2 h=>?_);apply kI Z h<;>intro h
 .obtain rfl:=D0 h;exact A8 Z Nk ⟨[(5,pN 11),(4,.p (vSl 2 A0 Qw))],[]⟩ [] (ids:=[]) ⟨rfl,rfl,rfl⟩
 cases h;exact kR Z
def K6 (N:Nat)(p_laws:Sl Law)(a:Sl (Sl Qz)):Option Int:= (M0 N p_laws).bind fun y1=>if (y1 != 0) then some y1 else Ao N (fun b (x1:Int)=>if (decide (x1<(a.n:Int))) then if ((0:Int)<=x1/\x1<(a.n:Int))then (S0 N (a.g x1.toNat)).bind fun y4=>if (y4 != 0) then some y4 else b (wrap .i64 (x1+1)) else none else some 0) 0
theorem Ag {p_laws:Sl Law}{a:Sl (Sl Qz)}{y:Int}(h:K6 N p_laws a=some y) :FunO S Gz [.p (vSl 18 A5 p_laws),.p (vSl 1 (cL 2 A0) a)] [] (pN y) ([]) []:=by
 unfold K6 at h;refine A4 Z func45 ?_;refine kC Z h (Cq Z Y) (fun y1 h=>?_);apply kI Z h<;>intro h
 .cases h;exact kR Z
 refine CJ Z Nk h (fun x1=>⟨[(16,pN x1),(15,pN (a.n:Int)),(14,.p (vSl 1 (cL 2 A0) a))],[]⟩) (ids:=[]) (fun _ _ _ _ _ b x1 c h=>?_);apply kI Z h<;>intro h
 .obtain⟨c9,h⟩:=P1 h;obtain⟨y4,e4,h⟩:=D8 h;refine E5 Z [] c9 (Ep Z Y e4) ?_;apply kI Z h<;>intro h
  .cases h;exact kR Z
  exact c _ [] _ (wrap .i64 (x1+1)) Nk h
 cases h;exact kR Z
def H4 (N:Nat)(p_laws:Sl Law)(a:Sl Qz)(b:Sl Qz):Option Bool:= (E3 N p_laws a).bind fun y1=>lt (fun (z1:Bool)=>some z1) fun k1=>if (y1.2==0) then (Y9 N y1.1 b).bind fun y3=>k1 y3 else k1 false
theorem Bn {p_laws:Sl Law}{a:Sl Qz}{b:Sl Qz}{y:Bool}(h:H4 N p_laws a b=some y) :FunO S GA [.p (vSl 18 A5 p_laws),.p (vSl 2 A0 a),.p (vSl 2 A0 b)] [] (pB y) ([]) []:=by
 unfold H4 at h;refine A4 Z func52 ?_;refine kC Z h (Kc Z Y) (fun y1 h=>?_);refine Se Z Nk (C6 Z) h 0 (fun z1=>⟨[(6,pB z1)],[]⟩) (fun M1 k1 c h=>?_) (fun z1 h=>?_)
 .refine kG Z h (fun h=>?_) (fun h=>?_)
  .refine kC Z h (Im Z Y) (fun y3 h=>?_);exact c _ [] _ y3 Nk h
  exact c _ [] _ false Nk h
 cases h;exact kR Z
def H7 (N:Nat)(q0:Sl Law)(q1:Sl Bp):Option (List (Int)):= Ao N (fun a (x2:Int)=>if (decide (x2<(wrap .i64 ((q0.n:Int)+1)))) then Ao N (fun b (x4:Int)=>if (decide (x4<(q1.n:Int))) then if ((0:Int)<=x4/\x4<(q1.n:Int))then if ((0:Int)<=x2/\x2<=(q0.n:Int))then (H4 N (q0.drop x2.toNat) (q1.g x4.toNat).From (q1.g x4.toNat).To).bind fun y9=>if (!y9) then a (wrap .i64 (x2+1)) else b (wrap .i64 (x4+1)) else none else none else P7 x2 (a (wrap .i64 (x2+1)))) 0 else some []) 0
theorem Bd {q0:Sl Law}{q1:Sl Bp}{L:List (Int)}(h:H7 N q0 q1=some L) :Ck S X4 [] [.reg 0 0,.reg 1 0] [.cells [.p (vSl 18 A5 q0)],.cells [.p (vSl 2 J6 q1)]] (L.map (fun (x:Int)=>[pI .i64 x])):=by
 unfold H7 at h;refine EM Z func78 ?_;refine Ef Z Nk h (fun x2 L1=>⟨[(10,pN x2),(9,pN (wrap .i64 ((q0.n:Int)+1))),(2,.reg 1 0),(1,.reg 0 0),(0,.yf 2)],[(2,.yld (L1.map (fun (x:Int)=>[pI .i64 x])) true),(1,.cells [.p (vSl 2 J6 q1)]),(0,.cells [.p (vSl 18 A5 q0)])]⟩) (ids:=[(0,0),(1,1),(2,2)]) (fun _ _ _ _ _ f x2 L1 c h=>?_);apply kI Z h<;>intro h
 .refine Ef Z Nk h (fun x4 L6=>⟨[(15,pN x4),(14,pN (q1.n:Int)),(13,.p (vSl 2 J6 q1)),(10,pN x2),(9,pN (wrap .i64 ((q0.n:Int)+1))),(4,pN x2),(2,.reg 1 0),(1,.reg 0 0),(0,.yf 2)],[(2,.yld (L6.map (fun (x:Int)=>[pI .i64 x])) true),(1,.cells [.p (vSl 2 J6 q1)]),(0,.cells [.p (vSl 18 A5 q0)])]⟩) (ids:=[(0,0),(1,1),(2,2)]) (fun _ _ _ _ _ i x4 L6 j h=>?_);apply kI Z h<;>intro h
  .obtain⟨c41,h⟩:=P1 h;refine Ab6 Z (Ar0 c41 P0) 7000 [vSl 2 A0 (q1.g x4.toNat).From,vSl 2 A0 (q1.g x4.toNat).To] ?_;refine T3 Z Nk [4,6,7] ?_;obtain⟨c42,h⟩:=P1 h;obtain⟨y9,e9,h⟩:=D8 h;refine CK c42 (Bn Z Y e9) ?_;refine X9 Nk ?_;apply kI Z h<;>intro h
   .exact c _ [(0,0),(1,1),(2,2)] _ (wrap .i64 (x2+1)) L6 Nk h
   exact j _ [(0,0),(1,1),(2,2)] _ (wrap .i64 (x4+1)) L6 Nk h
  obtain⟨L7,rfl,d⟩:=KC h;replace h:=d;refine Cl Z Nk (ys:=(fun (x:Int)=>[pI .i64 x]) x2) (rest:=L7.map (fun (x:Int)=>[pI .i64 x])) ?_ ?_
  .refine E4 Z Nk (b:=false) (fun c44=>?_) (fun c44=>?_)
   .exact Bool.noConfusion ((rfl:false=false).symm.trans c44)
   exact c _ [(0,0),(1,1),(2,2)] _ (wrap .i64 (x2+1)) L7 Nk h
  refine E4 Z Nk (b:=true) (fun c45=>?_) (fun c45=>?_)
  .exact A8 Z Nk (a:=.tup []) (objs:=[(.cells [.p (vSl 18 A5 q0)]),.cells [.p (vSl 2 J6 q1)],.yld [] false]) ⟨[],[(2,.yld [] false),(1,.cells [.p (vSl 2 J6 q1)]),(0,.cells [.p (vSl 18 A5 q0)])]⟩ [0,1,2] (ids:=[(0,0),(1,1),(2,2)]) ⟨false,rfl,rfl,_,rfl⟩
  exact Bool.noConfusion (Q8.symm.trans c45)
 obtain rfl:=D0 h;exact A8 Z Nk (a:=.tup []) (objs:=[(.cells [.p (vSl 18 A5 q0)]),.cells [.p (vSl 2 J6 q1)],.yld [] true]) ⟨[],[(2,.yld [] true),(1,.cells [.p (vSl 2 J6 q1)]),(0,.cells [.p (vSl 18 A5 q0)])]⟩ [0,1,2] (ids:=[(0,0),(1,1),(2,2)]) ⟨true,rfl,rfl,_,rfl⟩
def Q2 (N:Nat)(p_laws:Sl Law)(a:Sl Bp):Option ((Sl Law)×(Sl Bp)):= some (p_laws,a)
theorem Cs {p_laws:Sl Law}{a:Sl Bp}{y:(Sl Law)×(Sl Bp)}(h:Q2 N p_laws a=some y) :FunO S Fq [.p (vSl 18 A5 p_laws),.p (vSl 2 J6 a)] [] (.clo X4 [] [.reg 0 0,.reg 1 0]) ([.cells [.p (vSl 18 A5 y.1)],.cells [.p (vSl 2 J6 y.2)]]) []:=by unfold Q2 at h;refine A4 Z func47 ?_;obtain rfl:=D0 h;exact A8 Z Nk ⟨[(4,.clo X4 [] [.reg 3000 0,.reg 4000 0])],[(4000,.cells [.p (vSl 2 J6 a)]),(3000,.cells [.p (vSl 18 A5 p_laws)])]⟩ [3000,4000] (ids:=[(3000,3000),(4000,4000)]) ⟨rfl,rfl,rfl⟩
def H0 (N:Nat)(a:Sl (Sl Law)):Option (Sl Law):= N6 N (fun b (x1:Int) (x2:Int)=>if (decide (x2<(a.n:Int))) then if ((0:Int)<=x2/\x2<(a.n:Int))then if (decide ((wrap .i64 (x1+((a.g x2.toNat).n:Int)))<0)) then none else b (wrap .i64 (x1+((a.g x2.toNat).n:Int))) (wrap .i64 (x2+1)) else none else (O4 N x1).bind fun y1=>N6 N (fun c (x3:Sl Law) (x4:Int)=>if (decide (x4<(a.n:Int))) then if (((0:Int)<=x4/\x4<(a.n:Int))/\((x3.n+(a.g x4.toNat).n)*200<=140737488355328/\x3.n+(a.g x4.toNat).n<=140737488355328))then c (x3.app (a.g x4.toNat)) (wrap .i64 (x4+1)) else none else some x3) y1 0) 0 0
theorem Z1 {a:Sl (Sl Law)}{y:Sl Law}(h:H0 N a=some y) :FunO S N3 [.p (vSl 1 (cL 18 A5) a)] [] (.p (vSl 18 A5 y)) ([]) []:=by
 unfold H0 at h;refine A4 Z func84 ?_;refine W1 Z Nk h (fun x1 x2=>⟨[(11,pN x2),(10,pN (a.n:Int)),(9,.p (vSl 1 (cL 18 A5) a)),(3,pN x1),(0,.p (vSl 1 (cL 18 A5) a))],[]⟩) (ids:=[]) (fun _ _ _ _ _ d x1 x2 f h=>?_);apply kI Z h<;>intro h
 .obtain⟨c8,h⟩:=P1 h;refine E4 Z c8 (b:=decide ((wrap .i64 (x1+((a.g x2.toNat).n:Int)))<0)) (fun c9=>?_) (fun c9=>?_)
  .replace h:=itT c9 h;cases h
  replace h:=itF c9 h;exact f _ [] _ (wrap .i64 (x1+((a.g x2.toNat).n:Int))) (wrap .i64 (x2+1)) Nk h
 refine kC Z h (Am Z Y) (fun y1 h=>?_);refine W1 Z Nk h (fun x3 x4=>⟨[(27,pN x4),(26,pN (a.n:Int)),(25,.p (vSl 1 (cL 18 A5) a)),(6,.vec 7500)],[(7500,.vec N7 18 x3.n (fun i=>A5 (x3.g i)) false)]⟩) (ids:=[(7500,25000)]) (fun _ _ _ _ _ j x3 x4 l h=>?_);apply kI Z h<;>intro h
 .obtain⟨c13,h⟩:=P1 h;exact l _ [(7500,34000)] _ (x3.app (a.g x4.toNat)) (wrap .i64 (x4+1)) c13 h (hle:=klR [(3,.fn (x3.n+(a.g x4.toNat).n) (x3.app (a.g x4.toNat)).n (BP x3.n (fun i=>A5 (x3.g i)) (fun i=>A5 ((a.g x4.toNat).g i))) (fun i=>A5 ((x3.app (a.g x4.toNat)).g i)))] (al1 ⟨rfl,appL (c:=A5) (v:=x3) (w:=a.g x4.toNat) same rfl same rfl⟩ al0))
 obtain rfl:=D0 h;exact A8 Z Nk ⟨[(2,.p (vSl 18 A5 x3))],[]⟩ [] (ids:=[]) ⟨rfl,rfl,rfl⟩
def Be (N:Nat)(q0:Sl Law)(q1:Sl Qz)(q2:Sl Qz):Option (List (Int)):= (H4 N q0 q1 q2).bind fun y1=>if y1 then some [] else Ao N (fun a (x1:Int)=>if (decide (x1<(q0.n:Int))) then if (((0:Int)<=x1/\x1<=(q0.n:Int))/\((0:Int)<=(wrap .i64 (x1+1))/\(wrap .i64 (x1+1))<=(q0.n:Int)))then (H0 N (Sl.of [q0.take x1.toNat,q0.drop (wrap .i64 (x1+1)).toNat]:Sl (Sl Law))).bind fun y6=>(H4 N y6 q1 q2).bind fun y7=>if y7 then P7 x1 (a (wrap .i64 (x1+1))) else a (wrap .i64 (x1+1)) else none else some []) 0
theorem ID {q0:Sl Law}{q1:Sl Qz}{q2:Sl Qz}{L:List (Int)}(h:Be N q0 q1 q2=some L) :Ck S X5 [] [.reg 0 0,.reg 1 0,.reg 2 0] [.cells [.p (vSl 18 A5 q0)],.cells [.p (vSl 2 A0 q1)],.cells [.p (vSl 2 A0 q2)]] (L.map (fun (x:Int)=>[pI .i64 x])):=by
 unfold Be at h;refine EM Z func83 ?_;refine kC Z h (Bn Z Y) (fun y1 h=>?_);apply kI Z h<;>intro h
 .obtain rfl:=D0 h;exact A8 Z Nk (a:=.tup []) (objs:=[(.cells [.p (vSl 18 A5 q0)]),.cells [.p (vSl 2 A0 q1)],.cells [.p (vSl 2 A0 q2)],.yld [] true]) ⟨[],[(3,.yld [] true),(2,.cells [.p (vSl 2 A0 q2)]),(1,.cells [.p (vSl 2 A0 q1)]),(0,.cells [.p (vSl 18 A5 q0)])]⟩ [0,1,2,3] (ids:=[(0,0),(1,1),(2,2),(3,3)]) ⟨true,rfl,rfl,_,rfl⟩
 refine Ef Z Nk h (fun x1 L1=>⟨[(12,pN x1),(11,pN (q0.n:Int)),(3,.reg 2 0),(2,.reg 1 0),(1,.reg 0 0),(0,.yf 3)],[(3,.yld (L1.map (fun (x:Int)=>[pI .i64 x])) true),(2,.cells [.p (vSl 2 A0 q2)]),(1,.cells [.p (vSl 2 A0 q1)]),(0,.cells [.p (vSl 18 A5 q0)])]⟩) (ids:=[(0,0),(1,1),(2,2),(3,3)]) (fun _ _ _ _ _ f x1 L1 c h=>?_);apply kI Z h<;>intro h
 .refine XY Z Nk 15 [(0,.l [0]),(3,.l [0]),(8,.n),(9,.l [1]),(10,.l [2]),(11,.n)] ?_;obtain⟨c25,h⟩:=P1 h;refine Dk c25 (x:=.sl true 1 2 (G7 [P4] [(0,cL 18 A5 (q0.take x1.toNat)),(1,cL 18 A5 (q0.drop (wrap .i64 (x1+1)).toNat))])) ?_;obtain⟨y6,e6,h⟩:=D8 h;refine CK Nk (FunO.le Z (args:=[.p (.sl true 1 2 (G7 [P4] [(0,cL 18 A5 (q0.take x1.toNat)),(1,cL 18 A5 (q0.drop (wrap .i64 (x1+1)).toNat))]))]) (by exact⟨Uz rfl (fun i g=>match i,g with|0,_=>rfl|1,_=>rfl|_+2,g=>Ng g (by omega)),trivial⟩) (Z1 Z Y e6)) ?_;obtain⟨y7,e7,h⟩:=D8 h;refine CK Nk (Bn Z Y e7) ?_;refine Ab4 Nk (b:=y7) (fun c26=>?_) (fun c26=>?_)
  .replace h:=itT c26 h;refine X9 Nk ?_;refine FR Z Nk (b:=true) (fun c29=>?_) (fun c29=>?_)
   .obtain⟨L7,rfl,d⟩:=KC h;replace h:=d;refine Cl Z Nk (ys:=(fun (x:Int)=>[pI .i64 x]) x1) (rest:=L7.map (fun (x:Int)=>[pI .i64 x])) ?_ ?_
    .refine E4 Z Nk (b:=false) (fun c30=>?_) (fun c30=>?_)
     .exact Bool.noConfusion ((rfl:false=false).symm.trans c30)
     exact c _ [(0,0),(1,1),(2,2),(3,3)] _ (wrap .i64 (x1+1)) L7 Nk h
    refine E4 Z Nk (b:=true) (fun c31=>?_) (fun c31=>?_)
    .exact A8 Z Nk (a:=.tup []) (objs:=[(.cells [.p (vSl 18 A5 q0)]),.cells [.p (vSl 2 A0 q1)],.cells [.p (vSl 2 A0 q2)],.yld [] false]) ⟨[],[(3,.yld [] false),(2,.cells [.p (vSl 2 A0 q2)]),(1,.cells [.p (vSl 2 A0 q1)]),(0,.cells [.p (vSl 18 A5 q0)])]⟩ [0,1,2,3] (ids:=[(0,0),(1,1),(2,2),(3,3)]) ⟨false,rfl,rfl,_,rfl⟩
    exact Bool.noConfusion (Q8.symm.trans c31)
   exact Bool.noConfusion (Q8.symm.trans c29)
  replace h:=itF c26 h;refine X9 Nk ?_;refine FR Z Nk (b:=false) (fun c34=>?_) (fun c34=>?_)
  .exact Bool.noConfusion ((rfl:false=false).symm.trans c34)
  exact c _ [(0,0),(1,1),(2,2),(3,3)] _ (wrap .i64 (x1+1)) L1 Nk h
 obtain rfl:=D0 h;exact A8 Z Nk (a:=.tup []) (objs:=[(.cells [.p (vSl 18 A5 q0)]),.cells [.p (vSl 2 A0 q1)],.cells [.p (vSl 2 A0 q2)],.yld [] true]) ⟨[],[(3,.yld [] true),(2,.cells [.p (vSl 2 A0 q2)]),(1,.cells [.p (vSl 2 A0 q1)]),(0,.cells [.p (vSl 18 A5 q0)])]⟩ [0,1,2,3] (ids:=[(0,0),(1,1),(2,2),(3,3)]) ⟨true,rfl,rfl,_,rfl⟩
def Ct (N:Nat)(p_laws:Sl Law)(b:Sl Qz)(a:Sl Qz):Option ((Sl Law)×(Sl Qz)×(Sl Qz)):= some (p_laws,b,a)
theorem Ld {p_laws:Sl Law}{b:Sl Qz}{a:Sl Qz}{y:(Sl Law)×(Sl Qz)×(Sl Qz)}(h:Ct N p_laws b a=some y) :FunO S Fr [.p (vSl 18 A5 p_laws),.p (vSl 2 A0 b),.p (vSl 2 A0 a)] [] (.clo X5 [] [.reg 0 0,.reg 1 0,.reg 2 0]) ([.cells [.p (vSl 18 A5 y.1)],.cells [.p (vSl 2 A0 y.2.1)],.cells [.p (vSl 2 A0 y.2.2)]]) []:=by unfold Ct at h;refine A4 Z func54 ?_;obtain rfl:=D0 h;exact A8 Z Nk ⟨[(6,.clo X5 [] [.reg 4000 0,.reg 5000 0,.reg 6000 0])],[(6000,.cells [.p (vSl 2 A0 a)]),(5000,.cells [.p (vSl 2 A0 b)]),(4000,.cells [.p (vSl 18 A5 p_laws)])]⟩ [4000,5000,6000] (ids:=[(4000,4000),(5000,5000),(6000,6000)]) ⟨rfl,rfl,rfl⟩
def F7 (N:Nat)(a:List (Int)):Option (Sl Int):= K5 a (fun b (x1:Int) (z1:Sl Int)=>if ((z1.n+(Sl.of [x1]:Sl Int).n)*8<=140737488355328/\z1.n+(Sl.of [x1]:Sl Int).n<=140737488355328)then b (z1.push x1) else none) (fun (z1:Sl Int)=>some z1) Qv
theorem AT {d:List (Int)}{a:(Sl Law)}{b:(Sl Bp)}{kp_seq:Nat}(fp_seq:∃fn,Aq3[kp_seq]? = some fn/\fn.body.isSome=true/\(fn.name == "runtime.NumGoroutine")=false)(f:Ck S kp_seq [] [.reg 0 0,.reg 1 0] [(.cells [(.p (vSl 18 A5 a))]),(.cells [(.p (vSl 2 J6 b))])] (d.map (fun (x:Int)=>[(pI .i64) x]))){y:(Sl Int)}(h:F7 N d=some y) :FunO S G4 [(.p P4),(.clo kp_seq [] [(.reg 0 0),(.reg 1 0)])] [(.cells [(.p (vSl 18 A5 a))]),(.cells [(.p (vSl 2 J6 b))])] (.vec 0) ([(.vec M9 1 y.n (fun i=>(cI .i64) (y.g i)) true)]) [false,false]:=by
 unfold F7 at h;refine A4 Z func77 ?_;refine Gw Z Nk fp_seq [0,1] [2] 901 (fun z1=>⟨[(2,(.reg 3000 0))],[(3500,(.vec M9 1 z1.n (fun i=>(cI .i64) (z1.g i)) false)),(3000,(.cells [(.vec 3500)]))]⟩) (idl:=[(3000,3000)]) h f (fun _=>by kernel_rfl) (fun _=>by kernel_rfl) (fun _=>by kernel_rfl) (fun _=>by kernel_rfl) (fun x1 _ j z1 l h=>?_) (fun z1 h=>?_)
 .refine Gx Z Nk ?_;obtain⟨c1,h⟩:=P1 h;exact l _ [(901,901),(3000,3000),(3500,12000)] _ (z1.push x1) (Ar0 Q8 c1) h (hle:=klR [(0,.fn (z1.n+1) (z1.push x1).n (BP z1.n (fun i=>(cI .i64) (z1.g i)) (G7 [(pI .i64 0)] [(0,(cI .i64) x1)])) (fun i=>(cI .i64) ((z1.push x1).g i)))] (al1 ⟨rfl,(Uh (c:=(cI .i64)) (v:=z1) (x:=x1) (z:=[(pI .i64 0)]) same rfl rfl)⟩ al0))
 obtain rfl:=D0 h;exact A8 Z Nk ⟨[(4,(.vec 3500))],[(3500,(.vec M9 1 z1.n (fun i=>(cI .i64) (z1.g i)) true))]⟩ [3500] (ids:=[(3500,3500)]) ⟨rfl,rfl,rfl⟩
def I7 (N:Nat)(a:List (Int)):Option (Sl Int):= (F7 N a).bind fun y1=>some y1
theorem Ew {c:List (Int)}{a:(Sl Law)}{b:(Sl Bp)}{kp_seq:Nat}(fp_seq:∃fn,Aq3[kp_seq]? = some fn/\fn.body.isSome=true/\(fn.name == "runtime.NumGoroutine")=false)(d:Ck S kp_seq [] [.reg 0 0,.reg 1 0] [(.cells [(.p (vSl 18 A5 a))]),(.cells [(.p (vSl 2 J6 b))])] (c.map (fun (x:Int)=>[(pI .i64) x]))){y:(Sl Int)}(h:I7 N c=some y) :FunO S O5 [(.clo kp_seq [] [(.reg 0 0),(.reg 1 0)])] [(.cells [(.p (vSl 18 A5 a))]),(.cells [(.p (vSl 2 J6 b))])] (.vec 0) ([(.vec M9 1 y.n (fun i=>(cI .i64) (y.g i)) true)]) [false,false]:=by unfold I7 at h;refine A4 Z func46 ?_;obtain⟨y1,e1,h⟩:=D8 h;refine E5 Z [0,1] Nk (AT Z Y fp_seq d e1) ?_;obtain rfl:=D0 h;exact A8 Z Nk ⟨[(2,(.vec 5000))],[(5000,(.vec M9 1 y1.n (fun i=>(cI .i64) (y1.g i)) true))]⟩ [5000] (ids:=[(5000,5000)]) ⟨rfl,rfl,rfl⟩
def Dy (N:Nat)(b:List (Int)):Option (Aw×Bool):= K5 b (fun a (x1:Int) (z1:Int×Int×Bool)=>if (!z1.2.2) then a (x1,x1,true) else a (z1.1,x1,z1.2.2)) (fun (z1:Int×Int×Bool)=>some ((⟨z1.1,z1.2.1⟩:Aw),z1.2.2)) (0,0,false)
theorem Nt {d:List (Int)}{b:(Sl Law)}{c:(Sl Bp)}{kp_l:Nat}(fp_l:∃fn,Aq3[kp_l]? = some fn/\fn.body.isSome=true/\(fn.name == "runtime.NumGoroutine")=false)(f:Ck S kp_l [] [.reg 0 0,.reg 1 0] [(.cells [(.p (vSl 18 A5 b))]),(.cells [(.p (vSl 2 J6 c))])] (d.map (fun (x:Int)=>[(pI .i64) x]))){y:(Aw×Bool)}(h:Dy N d=some y) :FunO S Ie [(.clo kp_l [] [(.reg 0 0),(.reg 1 0)])] [(.cells [(.p (vSl 18 A5 b))]),(.cells [(.p (vSl 2 J6 c))])] (.tup [(.p (.agg (Ib y.1))),(pB y.2)]) ([]) [false,false]:=by
 unfold Dy at h;refine A4 Z func50 ?_;refine Gw Z Nk fp_l [0,1] [3,2] 901 (fun z1=>⟨[(3,(.reg 4000 0)),(2,(.reg 3000 0))],[(4000,(.cells [(pB z1.2.2)])),(3000,(.cells [(pN z1.1),(pN z1.2.1)]))]⟩) (idl:=[(3000,3000),(4000,4000)]) h f (fun _=>by kernel_rfl) (fun _=>by kernel_rfl) (fun _=>by kernel_rfl) (fun _=>by kernel_rfl) (fun x1 _ i z1 g h=>?_) (fun z1 h=>?_)
 .refine Gx Z Nk ?_;apply kI Z h<;>intro h
  .exact g _ [(901,901),(3000,3000),(4000,4000)] _ (x1,x1,true) Nk h
  exact g _ [(901,901),(3000,3000),(4000,4000)] _ (z1.1,x1,z1.2.2) Nk h
 refine T4 Z Nk [(0,.l [3000]),(1,.l [4000]),(2,.a [3000]),(3,.a [4000])] ?_;refine X9 Nk ?_;obtain rfl:=D0 h;exact A8 Z Nk ⟨[(3,(.reg 4000 0)),(2,(.reg 3000 0))],[(4000,(.cells [(pB z1.2.2)])),(3000,(.cells [(pN z1.1),(pN z1.2.1)]))]⟩ [] (ids:=[(3000,3000),(4000,4000)]) ⟨rfl,rfl,rfl⟩
def Q3 (N:Nat)(p_laws:Sl Law)(b:Sl Qz)(a:Sl Qz):Option ((Sl Int)×Int):= (K6 N p_laws (Sl.of [b,a]:Sl (Sl Qz))).bind fun y1=>if (y1 != 0) then some (Qv,y1) else (Q2 N p_laws (Sl.of [(⟨b,a⟩:Bp)]:Sl Bp)).bind fun y2=>(H7 N y2.1 y2.2).bind fun L1=>(I7 N L1).bind fun y3=>some (y3,0)
theorem FB {p_laws:Sl Law}{b:Sl Qz}{a:Sl Qz}{y:(Sl Int)×Int}(h:Q3 N p_laws b a=some y) :FunO S Fl [.p (vSl 18 A5 p_laws),.p (vSl 2 A0 b),.p (vSl 2 A0 a)] [] (.tup [.vec 0,pN y.2]) ([.vec M9 1 y.1.n (fun i=>cI .i64 (y.1.g i)) true]) []:=by
 unfold Q3 at h;refine A4 Z func16 ?_;refine W0 Z Q8 ⟨[(12,.vec 13000),(9,.p (vSl 18 A5 p_laws)),(2,.p (vSl 2 A0 a)),(1,.p (vSl 2 A0 b)),(0,.p (vSl 18 A5 p_laws))],[(13000,.vec D7 1 (Sl.of [b,a]:Sl (Sl Qz)).n (fun i=>cL 2 A0 ((Sl.of [b,a]:Sl (Sl Qz)).g i)) false)]⟩ (ids:=[(13000,13000)]) ?_ (hle:=klR [(4,.fn 2 (Sl.of [b,a]:Sl (Sl Qz)).n (G7 [P4] [(0,cL 2 A0 b),(1,cL 2 A0 a)]) (fun i=>cL 2 A0 ((Sl.of [b,a]:Sl (Sl Qz)).g i)))] (al1 ⟨rfl,(fun i c=>match i,c with|0,_=>rfl|1,_=>rfl|_+2,c=>Ng c (by omega))⟩ al0));refine kC Z h (Ag Z Y) (fun y1 h=>?_);apply kI Z h<;>intro h
 .obtain rfl:=D0 h;exact A8 Z Nk ⟨[(7,pN y1),(6,.vec 7700)],[(7700,.vec M9 1 Qv.n (fun i=>cI .i64 (Qv.g i)) true)]⟩ [7700] (ids:=[]) ⟨rfl,rfl,rfl⟩
 refine W0 Z Q8 ⟨[(21,.vec 22000),(17,.p (vSl 18 A5 p_laws))],[(22000,.vec Ht 2 (Sl.of [(⟨b,a⟩:Bp)]:Sl Bp).n (fun i=>J6 ((Sl.of [(⟨b,a⟩:Bp)]:Sl Bp).g i)) false)]⟩ (ids:=[(22000,22000)]) ?_ (hle:=klR [(1,.fn 1 (Sl.of [(⟨b,a⟩:Bp)]:Sl Bp).n (G7 [P4,P4] [(0,J6 (⟨b,a⟩:Bp))]) (fun i=>J6 ((Sl.of [(⟨b,a⟩:Bp)]:Sl Bp).g i)))] (al1 ⟨rfl,(fun i c=>match i,c with|0,_=>rfl|_+1,c=>Ng c (by omega))⟩ al0));refine kC Z h (Cs Z Y) (fun y2 h=>?_);obtain⟨L1,e3,h⟩:=D8 h;obtain⟨y3,e4,h⟩:=D8 h;refine E5 Z [23000,23001] Nk (Ew Z Y ⟨_,func78,by decide +kernel,by decide +kernel⟩ (Bd Z Y e3) e4) ?_;obtain rfl:=D0 h;exact A8 Z Nk ⟨[(7,pN 0),(6,.vec 24000)],[(24000,.vec M9 1 y3.n (fun i=>cI .i64 (y3.g i)) true)]⟩ [24000] (ids:=[(24000,24000)]) ⟨rfl,rfl,rfl⟩
def Ex (N:Nat)(p_laws:Sl Law)(b:Sl Qz)(a:Sl Qz):Option (Aw×Bool×Int):= (K6 N p_laws (Sl.of [b,a]:Sl (Sl Qz))).bind fun y1=>if (y1 != 0) then some ((⟨0,0⟩:Aw),false,y1) else (Q2 N p_laws (Sl.of [(⟨b,a⟩:Bp)]:Sl Bp)).bind fun y2=>(H7 N y2.1 y2.2).bind fun L1=>(Dy N L1).bind fun y3=>some (y3.1,y3.2,0)
theorem Pe {p_laws:Sl Law}{b:Sl Qz}{a:Sl Qz}{y:Aw×Bool×Int}(h:Ex N p_laws b a=some y) :FunO S Ic [.p (vSl 18 A5 p_laws),.p (vSl 2 A0 b),.p (vSl 2 A0 a)] [] (.tup [.p (.agg (Ib y.1)),pB y.2.1,pN y.2.2]) ([]) []:=by
 unfold Ex at h;refine A4 Z func18 ?_;refine W0 Z Q8 ⟨[(15,.vec 16000),(12,.p (vSl 18 A5 p_laws)),(6,.reg 7000 0),(2,.p (vSl 2 A0 a)),(1,.p (vSl 2 A0 b)),(0,.p (vSl 18 A5 p_laws))],[(16000,.vec D7 1 (Sl.of [b,a]:Sl (Sl Qz)).n (fun i=>cL 2 A0 ((Sl.of [b,a]:Sl (Sl Qz)).g i)) false),(7000,.cells [pN 0,pN 0])]⟩ (ids:=[(7000,7000),(16000,16000)]) ?_ (hle:=klR [(4,.fn 2 (Sl.of [b,a]:Sl (Sl Qz)).n (G7 [P4] [(0,cL 2 A0 b),(1,cL 2 A0 a)]) (fun i=>cL 2 A0 ((Sl.of [b,a]:Sl (Sl Qz)).g i)))] (al1 ⟨rfl,(fun i c=>match i,c with|0,_=>rfl|1,_=>rfl|_+2,c=>Ng c (by omega))⟩ al0));refine kC Z h (Ag Z Y) (fun y1 h=>?_);apply kI Z h<;>intro h
 .cases h;exact kR Z
 refine W0 Z Q8 ⟨[(26,.vec 27000),(22,.p (vSl 18 A5 p_laws)),(6,.reg 7000 0)],[(27000,.vec Ht 2 (Sl.of [(⟨b,a⟩:Bp)]:Sl Bp).n (fun i=>J6 ((Sl.of [(⟨b,a⟩:Bp)]:Sl Bp).g i)) false),(7000,.cells [pN 0,pN 0])]⟩ (ids:=[(7000,7000),(27000,27000)]) ?_ (hle:=klR [(1,.fn 1 (Sl.of [(⟨b,a⟩:Bp)]:Sl Bp).n (G7 [P4,P4] [(0,J6 (⟨b,a⟩:Bp))]) (fun i=>J6 ((Sl.of [(⟨b,a⟩:Bp)]:Sl Bp).g i)))] (al1 ⟨rfl,(fun i c=>match i,c with|0,_=>rfl|_+1,c=>Ng c (by omega))⟩ al0));refine kC Z h (Cs Z Y) (fun y2 h=>?_);obtain⟨L1,e3,h⟩:=D8 h;obtain⟨y3,e4,h⟩:=D8 h;refine E5 Z [28000,28001] Nk (Nt Z Y ⟨_,func78,by decide +kernel,by decide +kernel⟩ (Bd Z Y e3) e4) ?_;cases h;exact kR Z
def Cu (N:Nat)(p_laws:Sl Law)(b:Sl Qz)(a:Sl Qz):Option (Bool×Int):= (K6 N p_laws (Sl.of [b,a]:Sl (Sl Qz))).bind fun y1=>if (y1 != 0) then some (false,y1) else (H4 N p_laws b a).bind fun y2=>some (y2,0)
theorem Lf {p_laws:Sl Law}{b:Sl Qz}{a:Sl Qz}{y:Bool×Int}(h:Cu N p_laws b a=some y) :FunO S Fm [.p (vSl 18 A5 p_laws),.p (vSl 2 A0 b),.p (vSl 2 A0 a)] [] (.tup [pB y.1,pN y.2]) ([]) []:=by
 unfold Cu at h;refine A4 Z func20 ?_;refine W0 Z Q8 ⟨[(12,.vec 13000),(9,.p (vSl 18 A5 p_laws)),(2,.p (vSl 2 A0 a)),(1,.p (vSl 2 A0 b)),(0,.p (vSl 18 A5 p_laws))],[(13000,.vec D7 1 (Sl.of [b,a]:Sl (Sl Qz)).n (fun i=>cL 2 A0 ((Sl.of [b,a]:Sl (Sl Qz)).g i)) false)]⟩ (ids:=[(13000,13000)]) ?_ (hle:=klR [(4,.fn 2 (Sl.of [b,a]:Sl (Sl Qz)).n (G7 [P4] [(0,cL 2 A0 b),(1,cL 2 A0 a)]) (fun i=>cL 2 A0 ((Sl.of [b,a]:Sl (Sl Qz)).g i)))] (al1 ⟨rfl,(fun i c=>match i,c with|0,_=>rfl|1,_=>rfl|_+2,c=>Ng c (by omega))⟩ al0));refine kC Z h (Ag Z Y) (fun y1 h=>?_);apply kI Z h<;>intro h
 .cases h;exact kR Z
 refine kC Z h (Bn Z Y) (fun y2 h=>?_);cases h;exact kR Z
def I8 (N:Nat)(a:List (Int)):Option (Sl Int):= K5 a (fun b (x1:Int) (z1:Sl Int)=>if ((z1.n+(Sl.of [x1]:Sl Int).n)*8<=140737488355328/\z1.n+(Sl.of [x1]:Sl Int).n<=140737488355328)then b (z1.push x1) else none) (fun (z1:Sl Int)=>some z1) Qv
theorem AU {f:List (Int)}{a:(Sl Law)}{b:(Sl Qz)}{d:(Sl Qz)}{kp_seq:Nat}(fp_seq:∃fn,Aq3[kp_seq]? = some fn/\fn.body.isSome=true/\(fn.name == "runtime.NumGoroutine")=false)(j:Ck S kp_seq [] [.reg 0 0,.reg 1 0,.reg 2 0] [(.cells [(.p (vSl 18 A5 a))]),(.cells [(.p (vSl 2 A0 b))]),(.cells [(.p (vSl 2 A0 d))])] (f.map (fun (x:Int)=>[(pI .i64) x]))){y:(Sl Int)}(h:I8 N f=some y) :FunO S G4 [(.p P4),(.clo kp_seq [] [(.reg 0 0),(.reg 1 0),(.reg 2 0)])] [(.cells [(.p (vSl 18 A5 a))]),(.cells [(.p (vSl 2 A0 b))]),(.cells [(.p (vSl 2 A0 d))])] (.vec 0) ([(.vec M9 1 y.n (fun i=>(cI .i64) (y.g i)) true)]) [false,false,false]:=by
 unfold I8 at h;refine A4 Z func77 ?_;refine Gw Z Nk fp_seq [0,1,2] [2] 901 (fun z1=>⟨[(2,(.reg 3000 0))],[(3500,(.vec M9 1 z1.n (fun i=>(cI .i64) (z1.g i)) false)),(3000,(.cells [(.vec 3500)]))]⟩) (idl:=[(3000,3000)]) h j (fun _=>by kernel_rfl) (fun _=>by kernel_rfl) (fun _=>by kernel_rfl) (fun _=>by kernel_rfl) (fun x1 _ l z1 m h=>?_) (fun z1 h=>?_)
 .refine Gx Z Nk ?_;obtain⟨c1,h⟩:=P1 h;exact m _ [(901,901),(3000,3000),(3500,12000)] _ (z1.push x1) (Ar0 Q8 c1) h (hle:=klR [(0,.fn (z1.n+1) (z1.push x1).n (BP z1.n (fun i=>(cI .i64) (z1.g i)) (G7 [(pI .i64 0)] [(0,(cI .i64) x1)])) (fun i=>(cI .i64) ((z1.push x1).g i)))] (al1 ⟨rfl,(Uh (c:=(cI .i64)) (v:=z1) (x:=x1) (z:=[(pI .i64 0)]) same rfl rfl)⟩ al0))
 obtain rfl:=D0 h;exact A8 Z Nk ⟨[(4,(.vec 3500))],[(3500,(.vec M9 1 z1.n (fun i=>(cI .i64) (z1.g i)) true))]⟩ [3500] (ids:=[(3500,3500)]) ⟨rfl,rfl,rfl⟩
def S6 (N:Nat)(a:List (Int)):Option (Sl Int):= (I8 N a).bind fun y1=>some y1
theorem Ey {d:List (Int)}{a:(Sl Law)}{b:(Sl Qz)}{c:(Sl Qz)}{kp_seq:Nat}(fp_seq:∃fn,Aq3[kp_seq]? = some fn/\fn.body.isSome=true/\(fn.name == "runtime.NumGoroutine")=false)(f:Ck S kp_seq [] [.reg 0 0,.reg 1 0,.reg 2 0] [(.cells [(.p (vSl 18 A5 a))]),(.cells [(.p (vSl 2 A0 b))]),(.cells [(.p (vSl 2 A0 c))])] (d.map (fun (x:Int)=>[(pI .i64) x]))){y:(Sl Int)}(h:S6 N d=some y) :FunO S O5 [(.clo kp_seq [] [(.reg 0 0),(.reg 1 0),(.reg 2 0)])] [(.cells [(.p (vSl 18 A5 a))]),(.cells [(.p (vSl 2 A0 b))]),(.cells [(.p (vSl 2 A0 c))])] (.vec 0) ([(.vec M9 1 y.n (fun i=>(cI .i64) (y.g i)) true)]) [false,false,false]:=by unfold S6 at h;refine A4 Z func46 ?_;obtain⟨y1,e1,h⟩:=D8 h;refine E5 Z [0,1,2] Nk (AU Z Y fp_seq f e1) ?_;obtain rfl:=D0 h;exact A8 Z Nk ⟨[(2,(.vec 5000))],[(5000,(.vec M9 1 y1.n (fun i=>(cI .i64) (y1.g i)) true))]⟩ [5000] (ids:=[(5000,5000)]) ⟨rfl,rfl,rfl⟩
def Cv (N:Nat)(p_laws:Sl Law)(b:Sl Qz)(a:Sl Qz):Option ((Sl Int)×Int):= (K6 N p_laws (Sl.of [b,a]:Sl (Sl Qz))).bind fun y1=>if (y1 != 0) then some (Qv,y1) else (Ct N p_laws b a).bind fun y2=>(Be N y2.1 y2.2.1 y2.2.2).bind fun L1=>(S6 N L1).bind fun y3=>some (y3,0)
theorem Lg {p_laws:Sl Law}{b:Sl Qz}{a:Sl Qz}{y:(Sl Int)×Int}(h:Cv N p_laws b a=some y) :FunO S Fn [.p (vSl 18 A5 p_laws),.p (vSl 2 A0 b),.p (vSl 2 A0 a)] [] (.tup [.vec 0,pN y.2]) ([.vec M9 1 y.1.n (fun i=>cI .i64 (y.1.g i)) true]) []:=by
 unfold Cv at h;refine A4 Z func24 ?_;refine W0 Z Q8 ⟨[(12,.vec 13000),(9,.p (vSl 18 A5 p_laws)),(2,.p (vSl 2 A0 a)),(1,.p (vSl 2 A0 b)),(0,.p (vSl 18 A5 p_laws))],[(13000,.vec D7 1 (Sl.of [b,a]:Sl (Sl Qz)).n (fun i=>cL 2 A0 ((Sl.of [b,a]:Sl (Sl Qz)).g i)) false)]⟩ (ids:=[(13000,13000)]) ?_ (hle:=klR [(4,.fn 2 (Sl.of [b,a]:Sl (Sl Qz)).n (G7 [P4] [(0,cL 2 A0 b),(1,cL 2 A0 a)]) (fun i=>cL 2 A0 ((Sl.of [b,a]:Sl (Sl Qz)).g i)))] (al1 ⟨rfl,(fun i c=>match i,c with|0,_=>rfl|1,_=>rfl|_+2,c=>Ng c (by omega))⟩ al0));refine kC Z h (Ag Z Y) (fun y1 h=>?_);apply kI Z h<;>intro h
 .obtain rfl:=D0 h;exact A8 Z Nk ⟨[(7,pN y1),(6,.vec 7700)],[(7700,.vec M9 1 Qv.n (fun i=>cI .i64 (Qv.g i)) true)]⟩ [7700] (ids:=[]) ⟨rfl,rfl,rfl⟩
 refine kC Z h (Ld Z Y) (fun y2 h=>?_);obtain⟨L1,e3,h⟩:=D8 h;obtain⟨y3,e4,h⟩:=D8 h;refine E5 Z [21000,21001,21002] Nk (Ey Z Y ⟨_,func83,by decide +kernel,by decide +kernel⟩ (ID Z Y e3) e4) ?_;obtain rfl:=D0 h;exact A8 Z Nk ⟨[(7,pN 0),(6,.vec 22000)],[(22000,.vec M9 1 y3.n (fun i=>cI .i64 (y3.g i)) true)]⟩ [22000] (ids:=[(22000,22000)]) ⟨rfl,rfl,rfl⟩
end Go.AM
namespace Go.AM
open Go.Proofs.Tryz
variable {N:Nat}
open IntKind (wrap)
open Go.Proofs
set_option maxRecDepth 10000
set_option maxHeartbeats 2000000
variable {S:U6}(Z:G6 S Tryz.prog) (Y:Kt S)
include Z Y
def Ah (N:Nat)(p_laws:Sl Law)(a:Sl Bp):Option Int:= (M0 N p_laws).bind fun y1=>if (y1 != 0) then some y1 else if (decide (256<(a.n:Int))) then some 12 else Ao N (fun b (x1:Int)=>if (decide (x1<(a.n:Int))) then if ((0:Int)<=x1/\x1<(a.n:Int))then (K6 N (Sl.nil:Sl Law) (Sl.of [(a.g x1.toNat).From,(a.g x1.toNat).To]:Sl (Sl Qz))).bind fun y4=>if (y4 != 0) then some y4 else b (wrap .i64 (x1+1)) else none else some 0) 0
theorem GR {p_laws:Sl Law}{a:Sl Bp}{y:Int}(h:Ah N p_laws a=some y) :FunO S BY [.p (vSl 18 A5 p_laws),.p (vSl 2 J6 a)] [] (pN y) ([]) []:=by
 unfold Ah at h;refine A4 Z func59 ?_;refine kC Z h (Cq Z Y) (fun y1 h=>?_);apply kI Z h<;>intro h
 .cases h;exact kR Z
 apply kI Z h<;>intro h
 .cases h;exact kR Z
 refine CJ Z Nk h (fun x1=>⟨[(19,pN x1),(18,pN (a.n:Int)),(17,.p (vSl 2 J6 a))],[]⟩) (ids:=[]) (fun _ _ _ _ _ b x1 c h=>?_);apply kI Z h<;>intro h
 .obtain⟨c10,h⟩:=P1 h;refine W0 Z (Ar0 (Ar0 c10 P0) Q8) ⟨[(27,.vec 28000),(19,pN x1),(18,pN (a.n:Int)),(17,.p (vSl 2 J6 a))],[(28000,.vec D7 1 (Sl.of [(a.g x1.toNat).From,(a.g x1.toNat).To]:Sl (Sl Qz)).n (fun i=>cL 2 A0 ((Sl.of [(a.g x1.toNat).From,(a.g x1.toNat).To]:Sl (Sl Qz)).g i)) false)]⟩ (ids:=[(28000,28000)]) ?_ (hle:=klR [(3,.fn 2 (Sl.of [(a.g x1.toNat).From,(a.g x1.toNat).To]:Sl (Sl Qz)).n (G7 [P4] [(0,cL 2 A0 (a.g x1.toNat).From),(1,cL 2 A0 (a.g x1.toNat).To)]) (fun i=>cL 2 A0 ((Sl.of [(a.g x1.toNat).From,(a.g x1.toNat).To]:Sl (Sl Qz)).g i)))] (al1 ⟨rfl,(fun i d=>match i,d with|0,_=>rfl|1,_=>rfl|_+2,d=>Ng d (by omega))⟩ al0));obtain⟨y4,e4,h⟩:=D8 h;refine E5 Z [] Nk (FunO.le Z (args:=[.p P4,.p (vSl 1 (cL 2 A0) (Sl.of [(a.g x1.toNat).From,(a.g x1.toNat).To]:Sl (Sl Qz)))]) (by exact⟨Am8,⟨.inl rfl,trivial⟩⟩) (Ag Z Y e4)) ?_;apply kI Z h<;>intro h
  .cases h;exact kR Z
  exact c _ [] _ (wrap .i64 (x1+1)) Nk h
 cases h;exact kR Z
def FC (N:Nat)(p_laws:Sl Law)(a:Sl Bp):Option ((Sl Int)×Int):= (Ah N p_laws a).bind fun y1=>if (y1 != 0) then some (Qv,y1) else N6 N (fun b (x3:Sl Int) (x4:Int)=>if (decide (x4<(a.n:Int))) then if ((0:Int)<=x4/\x4<(a.n:Int))then (Q2 N p_laws (Sl.of [a.g x4.toNat]:Sl Bp)).bind fun y4=>(H7 N y4.1 y4.2).bind fun L3=>K5 L3 (fun c (x7:Int) (z3:Int)=>c x7) (fun (z3:Int)=>if ((x3.n+(Sl.of [z3]:Sl Int).n)*8<=140737488355328/\x3.n+(Sl.of [z3]:Sl Int).n<=140737488355328)then b (x3.push z3) (wrap .i64 (x4+1)) else none) (-1) else none else some (x3,0)) Qv 0
theorem WK {p_laws:Sl Law}{a:Sl Bp}{y:(Sl Int)×Int}(h:FC N p_laws a=some y) :FunO S Fp [.p (vSl 18 A5 p_laws),.p (vSl 2 J6 a)] [] (.tup [.vec 0,pN y.2]) ([.vec M9 1 y.1.n (fun i=>cI .i64 (y.1.g i)) true]) []:=by
 unfold FC at h;refine A4 Z func31 ?_;refine kC Z h (GR Z Y) (fun y1 h=>?_);apply kI Z h<;>intro h
 .obtain rfl:=D0 h;exact A8 Z Nk ⟨[(5,pN y1),(4,.vec 5700)],[(5700,.vec M9 1 Qv.n (fun i=>cI .i64 (Qv.g i)) true)]⟩ [5700] (ids:=[]) ⟨rfl,rfl,rfl⟩
 refine W1 Z Nk h (fun x3 x4=>⟨[(20,pN x4),(19,pN (a.n:Int)),(18,.p (vSl 2 J6 a)),(7,.vec 8500),(0,.p (vSl 18 A5 p_laws))],[(8500,.vec M9 1 x3.n (fun i=>cI .i64 (x3.g i)) false)]⟩) (ids:=[]) (fun _ _ _ _ _ b x3 x4 d h=>?_);apply kI Z h<;>intro h
 .obtain⟨c7,h⟩:=P1 h;refine W0 Z (Ar0 (Ar0 c7 P0) Q8) ⟨[(26,.vec 27000),(24,.p (vSl 18 A5 p_laws)),(20,pN x4),(19,pN (a.n:Int)),(18,.p (vSl 2 J6 a)),(10,.reg 11000 0),(7,.vec 8500),(0,.p (vSl 18 A5 p_laws))],[(27000,.vec Ht 2 (Sl.of [a.g x4.toNat]:Sl Bp).n (fun i=>J6 ((Sl.of [a.g x4.toNat]:Sl Bp).g i)) false),(11000,.cells [pN (-1)]),(8500,.vec M9 1 x3.n (fun i=>cI .i64 (x3.g i)) false)]⟩ (ids:=[(8500,8500),(11000,11000),(27000,27000)]) ?_ (hle:=klR [(5,.fn 1 (Sl.of [a.g x4.toNat]:Sl Bp).n (G7 [P4,P4] [(0,J6 (a.g x4.toNat))]) (fun i=>J6 ((Sl.of [a.g x4.toNat]:Sl Bp).g i)))] (al1 ⟨rfl,(fun i f=>match i,f with|0,_=>rfl|_+1,f=>Ng f (by omega))⟩ al0));refine kC Z h (Cs Z Y) (fun y4 h=>?_);obtain⟨L3,e7,h⟩:=D8 h;refine Hr Z Nk [28000,28001] [20,19,18,10,7,0] 905 (fun z3=>⟨[(20,pN x4),(19,pN (a.n:Int)),(18,.p (vSl 2 J6 a)),(10,.reg 11000 0),(7,.vec 8500),(0,.p (vSl 18 A5 p_laws))],[(11000,.cells [pN z3]),(8500,.vec M9 1 x3.n (fun i=>cI .i64 (x3.g i)) false)]⟩) (idl:=[(8500,8500),(11000,11000)]) h (Bd Z Y e7) (fun _=>by kernel_rfl) (fun _=>by kernel_rfl) (fun _=>by kernel_rfl) (fun _=>by kernel_rfl) (fun x7 _ j z3 l h=>?_) (fun z3 h=>?_)
  .refine Gx Z Nk ?_;exact l _ [(905,905),(8500,8500),(11000,11000)] _ x7 Nk h
  obtain⟨c8,h⟩:=P1 h;exact d _ [(8500,34000)] _ (x3.push z3) (wrap .i64 (x4+1)) (Ar0 Q8 c8) h (hle:=klR [(4,.fn (x3.n+1) (x3.push z3).n (BP x3.n (fun i=>cI .i64 (x3.g i)) (G7 [pI .i64 0] [(0,cI .i64 z3)])) (fun i=>cI .i64 ((x3.push z3).g i)))] (al1 ⟨rfl,Uh (c:=cI .i64) (v:=x3) (x:=z3) (z:=[(pI .i64 0)]) same rfl rfl⟩ al0))
 obtain rfl:=D0 h;exact A8 Z Nk ⟨[(5,pN 0),(4,.vec 8500)],[(8500,.vec M9 1 x3.n (fun i=>cI .i64 (x3.g i)) true)]⟩ [8500] (ids:=[(8500,8500)]) ⟨rfl,rfl,rfl⟩
def Ez (N:Nat)  : Option Qz:= some (⟨5,2⟩:Qz)
theorem HB    {y:Qz}(h:Ez N  = some y) :FunO S VA [] [] (.p (.agg (A0 y))) ([]) []:=by unfold Ez at h;refine A4 Z func41 ?_;cases h;exact kR Z
def FV (N:Nat)  : Option Qz:= some (⟨2,5⟩:Qz)
theorem Kd    {y:Qz}(h:FV N  = some y) :FunO S VB [] [] (.p (.agg (A0 y))) ([]) []:=by unfold FV at h;refine A4 Z func42 ?_;cases h;exact kR Z
def QW (N:Nat)  : Option Qz:= some (⟨3,4⟩:Qz)
theorem Ad7    {y:Qz}(h:QW N  = some y) :FunO S VD [] [] (.p (.agg (A0 y))) ([]) []:=by unfold QW at h;refine A4 Z func44 ?_;cases h;exact kR Z
def CS (N:Nat)  : Option (Sl Law):= some (Sl.of [(⟨[86],Pat.mk 1 (⟨4,0⟩:Qz) false 0 0 (Sl.nil:Sl Pat).n (Sl.nil:Sl Pat).g,Pat.mk 1 (⟨4,0⟩:Qz) false 0 0 (Sl.nil:Sl Pat).n (Sl.nil:Sl Pat).g,(Sl.of [(⟨2,0⟩:Qz)]:Sl Qz),(Sl.of [(⟨0,0,(⟨1,0⟩:Qz),0,0⟩:Ap)]:Sl Ap),1⟩:Law),(⟨[70],Pat.mk 0 (⟨0,0⟩:Qz) false 0 0 (Sl.nil:Sl Pat).n (Sl.nil:Sl Pat).g,Pat.mk 6 (⟨0,0⟩:Qz) false 0 0 (Sl.nil:Sl Pat).n (Sl.nil:Sl Pat).g,(Sl.of [(⟨4,0⟩:Qz)]:Sl Qz),(Sl.nil:Sl Ap),1⟩:Law)]:Sl Law)
theorem GS    {y:Sl Law}(h:CS N  = some y) :FunO S OF [] [] (.vec 0) ([.vec N7 18 y.n (fun i=>A5 (y.g i)) true]) []:=by unfold CS at h;refine A4 Z func43 ?_;refine Y0 Z Nk 6 ⟨[(1,.reg 2000 0)],[(2000,.cells [pN 1,pU 4,pU 0,pB false,pN 0,pN 0,.p (vSl 7 B8 (Sl.nil:Sl Pat))])]⟩ (ids:=[(2000,2000)]) ?_;refine Y0 Z (Ar0 Q8 Q8) 13 ⟨[(12,.p (vSl 6 Y7 (Sl.of [(⟨0,0,(⟨1,0⟩:Qz),0,0⟩:Ap)]:Sl Ap))),(9,.p (vSl 2 A0 (Sl.of [(⟨2,0⟩:Qz)]:Sl Qz))),(7,.p (.agg [pI .i64 1,pI .u32 4,pI .u32 0,.bb false,pI .i64 0,pI .i64 0,vSl 7 B8 (Sl.nil:Sl Pat)])),(6,.p (.agg [pI .i64 1,pI .u32 4,pI .u32 0,.bb false,pI .i64 0,pI .i64 0,vSl 7 B8 (Sl.nil:Sl Pat)]))],[]⟩ (ids:=[]) ?_ (hle:=klR [(0,.fn 1 (Sl.of [(⟨0,0,(⟨1,0⟩:Qz),0,0⟩:Ap)]:Sl Ap).n (G7 [pI .i64 0,pI .u32 0,pI .u32 0,pI .u32 0,pI .u32 0,pI .i64 0] [(0,Y7 (⟨0,0,(⟨1,0⟩:Qz),0,0⟩:Ap))]) (fun i=>Y7 ((Sl.of [(⟨0,0,(⟨1,0⟩:Qz),0,0⟩:Ap)]:Sl Ap).g i))),(1,.fn 1 (Sl.of [(⟨2,0⟩:Qz)]:Sl Qz).n (G7 [pI .u32 0,pI .u32 0] [(0,A0 (⟨2,0⟩:Qz))]) (fun i=>A0 ((Sl.of [(⟨2,0⟩:Qz)]:Sl Qz).g i)))] (al1 ⟨rfl,(fun i a=>match i,a with|0,_=>rfl|_+1,a=>Ng a (by omega))⟩ (al1 ⟨rfl,(fun i a=>match i,a with|0,_=>rfl|_+1,a=>Ng a (by omega))⟩ al0)));refine Y0 Z Q8 17 ⟨[(16,.p (vSl 2 A0 (Sl.of [(⟨4,0⟩:Qz)]:Sl Qz))),(14,.p (.agg [pI .i64 6,pI .u32 0,pI .u32 0,.v (.bool false),pI .i64 0,pI .i64 0,P4])),(2,.reg 3000 0)],[(3000,.cells [.p (.str [86]),pN 1,pU 4,pU 0,pB false,pN 0,pN 0,.p (vSl 7 B8 (Sl.nil:Sl Pat)),pN 1,pU 4,pU 0,pB false,pN 0,pN 0,.p (vSl 7 B8 (Sl.nil:Sl Pat)),.p (vSl 2 A0 (Sl.of [(⟨2,0⟩:Qz)]:Sl Qz)),.p (vSl 6 Y7 (Sl.of [(⟨0,0,(⟨1,0⟩:Qz),0,0⟩:Ap)]:Sl Ap)),pN 1])]⟩ (ids:=[(3000,3000)]) ?_ (hle:=klR [(0,.fn 1 (Sl.of [(⟨4,0⟩:Qz)]:Sl Qz).n (G7 [pI .u32 0,pI .u32 0] [(0,A0 (⟨4,0⟩:Qz))]) (fun i=>A0 ((Sl.of [(⟨4,0⟩:Qz)]:Sl Qz).g i)))] (al1 ⟨rfl,(fun i a=>match i,a with|0,_=>rfl|_+1,a=>Ng a (by omega))⟩ al0));refine Y0 Z Nk 19 ⟨[(18,.p (.agg [.str [86],pI .i64 1,pI .u32 4,pI .u32 0,.bb false,pI .i64 0,pI .i64 0,vSl 7 B8 (Sl.nil:Sl Pat),pI .i64 1,pI .u32 4,pI .u32 0,.bb false,pI .i64 0,pI .i64 0,vSl 7 B8 (Sl.nil:Sl Pat),vSl 2 A0 (Sl.of [(⟨2,0⟩:Qz)]:Sl Qz),vSl 6 Y7 (Sl.of [(⟨0,0,(⟨1,0⟩:Qz),0,0⟩:Ap)]:Sl Ap),pI .i64 1])),(3,.reg 4000 0)],[(4000,.cells [.p (.str [70]),pN 0,pU 0,pU 0,pB false,pN 0,pN 0,.p (vSl 7 B8 (Sl.nil:Sl Pat)),pN 6,pU 0,pU 0,pB false,pN 0,pN 0,.p (vSl 7 B8 (Sl.nil:Sl Pat)),.p (vSl 2 A0 (Sl.of [(⟨4,0⟩:Qz)]:Sl Qz)),.p (vSl 6 Y7 (Sl.nil:Sl Ap)),pN 1])]⟩ (ids:=[(4000,4000)]) ?_;obtain rfl:=D0 h;exact A8 Z Q8 ⟨[(0,.vec 21000)],[(21000,.vec N7 18 (Sl.of [(⟨[86],Pat.mk 1 (⟨4,0⟩:Qz) false 0 0 (Sl.nil:Sl Pat).n (Sl.nil:Sl Pat).g,Pat.mk 1 (⟨4,0⟩:Qz) false 0 0 (Sl.nil:Sl Pat).n (Sl.nil:Sl Pat).g,(Sl.of [(⟨2,0⟩:Qz)]:Sl Qz),(Sl.of [(⟨0,0,(⟨1,0⟩:Qz),0,0⟩:Ap)]:Sl Ap),1⟩:Law),(⟨[70],Pat.mk 0 (⟨0,0⟩:Qz) false 0 0 (Sl.nil:Sl Pat).n (Sl.nil:Sl Pat).g,Pat.mk 6 (⟨0,0⟩:Qz) false 0 0 (Sl.nil:Sl Pat).n (Sl.nil:Sl Pat).g,(Sl.of [(⟨4,0⟩:Qz)]:Sl Qz),(Sl.nil:Sl Ap),1⟩:Law)]:Sl Law).n (fun i=>A5 ((Sl.of [(⟨[86],Pat.mk 1 (⟨4,0⟩:Qz) false 0 0 (Sl.nil:Sl Pat).n (Sl.nil:Sl Pat).g,Pat.mk 1 (⟨4,0⟩:Qz) false 0 0 (Sl.nil:Sl Pat).n (Sl.nil:Sl Pat).g,(Sl.of [(⟨2,0⟩:Qz)]:Sl Qz),(Sl.of [(⟨0,0,(⟨1,0⟩:Qz),0,0⟩:Ap)]:Sl Ap),1⟩:Law),(⟨[70],Pat.mk 0 (⟨0,0⟩:Qz) false 0 0 (Sl.nil:Sl Pat).n (Sl.nil:Sl Pat).g,Pat.mk 6 (⟨0,0⟩:Qz) false 0 0 (Sl.nil:Sl Pat).n (Sl.nil:Sl Pat).g,(Sl.of [(⟨4,0⟩:Qz)]:Sl Qz),(Sl.nil:Sl Ap),1⟩:Law)]:Sl Law).g i)) true)]⟩ [21000] (ids:=[(21000,21000)]) ⟨rfl,rfl,rfl⟩ (hle:=klR [(0,.fn 2 (Sl.of [(⟨[86],Pat.mk 1 (⟨4,0⟩:Qz) false 0 0 (Sl.nil:Sl Pat).n (Sl.nil:Sl Pat).g,Pat.mk 1 (⟨4,0⟩:Qz) false 0 0 (Sl.nil:Sl Pat).n (Sl.nil:Sl Pat).g,(Sl.of [(⟨2,0⟩:Qz)]:Sl Qz),(Sl.of [(⟨0,0,(⟨1,0⟩:Qz),0,0⟩:Ap)]:Sl Ap),1⟩:Law),(⟨[70],Pat.mk 0 (⟨0,0⟩:Qz) false 0 0 (Sl.nil:Sl Pat).n (Sl.nil:Sl Pat).g,Pat.mk 6 (⟨0,0⟩:Qz) false 0 0 (Sl.nil:Sl Pat).n (Sl.nil:Sl Pat).g,(Sl.of [(⟨4,0⟩:Qz)]:Sl Qz),(Sl.nil:Sl Ap),1⟩:Law)]:Sl Law).n (G7 [.str [],pI .i64 0,pI .u32 0,pI .u32 0,.v (.bool false),pI .i64 0,pI .i64 0,P4,pI .i64 0,pI .u32 0,pI .u32 0,.v (.bool false),pI .i64 0,pI .i64 0,P4,P4,P4,pI .i64 0] [(0,A5 (⟨[86],Pat.mk 1 (⟨4,0⟩:Qz) false 0 0 (Sl.nil:Sl Pat).n (Sl.nil:Sl Pat).g,Pat.mk 1 (⟨4,0⟩:Qz) false 0 0 (Sl.nil:Sl Pat).n (Sl.nil:Sl Pat).g,(Sl.of [(⟨2,0⟩:Qz)]:Sl Qz),(Sl.of [(⟨0,0,(⟨1,0⟩:Qz),0,0⟩:Ap)]:Sl Ap),1⟩:Law)),(1,A5 (⟨[70],Pat.mk 0 (⟨0,0⟩:Qz) false 0 0 (Sl.nil:Sl Pat).n (Sl.nil:Sl Pat).g,Pat.mk 6 (⟨0,0⟩:Qz) false 0 0 (Sl.nil:Sl Pat).n (Sl.nil:Sl Pat).g,(Sl.of [(⟨4,0⟩:Qz)]:Sl Qz),(Sl.nil:Sl Ap),1⟩:Law))]) (fun i=>A5 ((Sl.of [(⟨[86],Pat.mk 1 (⟨4,0⟩:Qz) false 0 0 (Sl.nil:Sl Pat).n (Sl.nil:Sl Pat).g,Pat.mk 1 (⟨4,0⟩:Qz) false 0 0 (Sl.nil:Sl Pat).n (Sl.nil:Sl Pat).g,(Sl.of [(⟨2,0⟩:Qz)]:Sl Qz),(Sl.of [(⟨0,0,(⟨1,0⟩:Qz),0,0⟩:Ap)]:Sl Ap),1⟩:Law),(⟨[70],Pat.mk 0 (⟨0,0⟩:Qz) false 0 0 (Sl.nil:Sl Pat).n (Sl.nil:Sl Pat).g,Pat.mk 6 (⟨0,0⟩:Qz) false 0 0 (Sl.nil:Sl Pat).n (Sl.nil:Sl Pat).g,(Sl.of [(⟨4,0⟩:Qz)]:Sl Qz),(Sl.nil:Sl Ap),1⟩:Law)]:Sl Law).g i)))] (al1 ⟨rfl,(fun i a=>match i,a with|0,_=>rfl|1,_=>rfl|_+2,a=>Ng a (by omega))⟩ al0))
def EW (N:Nat)(a:Sl Int)(b:Sl Int):Option Bool:= if ((a.n:Int) != (b.n:Int)) then some false else Ao N (fun c (x1:Int)=>if (decide (x1<(a.n:Int))) then if (((0:Int)<=x1/\x1<(a.n:Int))/\((0:Int)<=x1/\x1<(b.n:Int)))then if ((a.g x1.toNat) != (b.g x1.toNat)) then some false else c (wrap .i64 (x1+1)) else none else some true) 0
theorem Mb {a:Sl Int}{b:Sl Int}{y:Bool}(h:EW N a b=some y) :FunO S LU [.p (vSl 1 (cI .i64) a),.p (vSl 1 (cI .i64) b)] [] (pB y) ([]) []:=by
 unfold EW at h;refine A4 Z func22 ?_;apply kI Z h<;>intro h
 .cases h;exact kR Z
 refine CJ Z Nk h (fun x1=>⟨[(5,pN x1),(1,.p (vSl 1 (cI .i64) b)),(0,.p (vSl 1 (cI .i64) a))],[]⟩) (ids:=[]) (fun _ _ _ _ _ c x1 d h=>?_);apply kI Z h<;>intro h
 .refine T3 Z Nk [2,3,6,7] ?_;obtain⟨c9,h⟩:=P1 h;refine X9 c9 ?_;apply kI Z h<;>intro h
  .cases h;exact kR Z
  exact d _ [] _ (wrap .i64 (x1+1)) Nk h
 cases h;exact kR Z
def EA (N:Nat)(a:Sl Int)(c:Int):Option Bool:= Ao N (fun b (x1:Int)=>if (decide (x1<(a.n:Int))) then if ((0:Int)<=x1/\x1<(a.n:Int))then if ((a.g x1.toNat)==c) then some true else b (wrap .i64 (x1+1)) else none else some false) 0
theorem VQ {a:Sl Int}{c:Int}{y:Bool}(h:EA N a c=some y) :FunO S OD [.p (vSl 1 (cI .i64) a),pN c] [] (pB y) ([]) []:=by
 unfold EA at h;refine A4 Z func26 ?_;refine CJ Z Nk h (fun x1=>⟨[(5,pN x1),(1,pN c),(0,.p (vSl 1 (cI .i64) a))],[]⟩) (ids:=[]) (fun _ _ _ _ _ d x1 f h=>?_);apply kI Z h<;>intro h
 .obtain⟨c8,h⟩:=P1 h;refine E4 Z c8 (b:=(a.g x1.toNat)==c) (fun c9=>?_) (fun c9=>?_)
  .replace h:=itT c9 h;cases h;exact kR Z
  replace h:=itF c9 h;exact f _ [] _ (wrap .i64 (x1+1)) Nk h
 cases h;exact kR Z
def S7 (N:Nat)  : Option Bool:= (Ez N ).bind fun y1=>(FV N ).bind fun y2=>(Ez N ).bind fun y3=>(FV N ).bind fun y4=>(Ez N ).bind fun y5=>(FV N ).bind fun y6=>(CS N ).bind fun y7=>(Ez N ).bind fun y8=>(FV N ).bind fun y9=>(Q3 N y7 (Sl.of [y1,y2,y3]:Sl Qz) (Sl.of [y8,y9]:Sl Qz)).bind fun b=>(CS N ).bind fun f=>(Ex N f (Sl.of [y4,y5,y6]:Sl Qz) (Sl.of [y4,y5,y6]:Sl Qz)).bind fun a=>(CS N ).bind fun g=>(Ez N ).bind fun i=>(FV N ).bind fun j=>(Cv N g (Sl.of [y1,y2,y3]:Sl Qz) (Sl.of [i,j]:Sl Qz)).bind fun c=>(CS N ).bind fun l=>(Ez N ).bind fun m=>(QW N ).bind fun n=>(Cu N l (Sl.of [y1,y2,y3]:Sl Qz) (Sl.of [m,n]:Sl Qz)).bind fun d=>lt (fun (z1:Bool)=>some z1) fun k1=>if (b.2==0) then (EW N b.1 (Sl.of [1]:Sl Int)).bind fun o=>if o then if (a.2.2==0) then if a.2.1 then if (((a.1.First==0)&&(a.1.Last==2)) != false) then if (c.2==0) then (EW N c.1 (Sl.of [0]:Sl Int)).bind fun q=>if q then if (d.2==0) then k1 d.1 else k1 false else k1 false else k1 false else k1 false else k1 false else k1 false else k1 false else k1 false
theorem Dz    {y:Bool}(h:S7 N  = some y) :FunO S JB [] [] (pB y) ([]) []:=by
 unfold S7 at h;refine A4 Z func15 ?_;refine kC Z h (HB Z Y) (fun y1 h=>?_);refine kC Z h (Kd Z Y) (fun y2 h=>?_);refine kC Z h (HB Z Y) (fun y3 h=>?_);obtain⟨y4,e4,h⟩:=D8 h;refine E5 Z [] Q8 (Kd Z Y e4) ?_;refine kC Z h (HB Z Y) (fun y5 h=>?_);refine kC Z h (Kd Z Y) (fun y6 h=>?_);obtain⟨y7,e7,h⟩:=D8 h;refine E5 Z [] Q8 (GS Z Y e7) ?_;refine kC Z h (HB Z Y) (fun y8 h=>?_);refine kC Z h (Kd Z Y) (fun y9 h=>?_);refine W0 Z Q8 ⟨[(25,.vec 26000),(22,.vec 16000),(21,.vec 22000),(2,.vec 20000),(1,.vec 16000)],[(26000,.vec B1 2 (Sl.of [y8,y9]:Sl Qz).n (fun i=>A0 ((Sl.of [y8,y9]:Sl Qz).g i)) false),(22000,.vec N7 18 y7.n (fun i=>A5 (y7.g i)) true),(20000,.vec B1 2 (Sl.of [y4,y5,y6]:Sl Qz).n (fun i=>A0 ((Sl.of [y4,y5,y6]:Sl Qz).g i)) false),(16000,.vec B1 2 (Sl.of [y1,y2,y3]:Sl Qz).n (fun i=>A0 ((Sl.of [y1,y2,y3]:Sl Qz).g i)) false)]⟩ (ids:=[(16000,16000),(20000,20000),(22000,22000),(26000,26000)]) ?_ (hle:=klR [(0,.fn 2 (Sl.of [y8,y9]:Sl Qz).n (G7 [pI .u32 0,pI .u32 0] [(0,A0 y8),(1,A0 y9)]) (fun i=>A0 ((Sl.of [y8,y9]:Sl Qz).g i))),(2,.fn 3 (Sl.of [y4,y5,y6]:Sl Qz).n (G7 [pI .u32 0,pI .u32 0] [(0,A0 y4),(1,A0 y5),(2,A0 y6)]) (fun i=>A0 ((Sl.of [y4,y5,y6]:Sl Qz).g i))),(3,.fn 3 (Sl.of [y1,y2,y3]:Sl Qz).n (G7 [pI .u32 0,pI .u32 0] [(0,A0 y1),(1,A0 y2),(2,A0 y3)]) (fun i=>A0 ((Sl.of [y1,y2,y3]:Sl Qz).g i)))] (al1 ⟨rfl,(fun i c=>match i,c with|0,_=>rfl|1,_=>rfl|_+2,c=>Ng c (by omega))⟩ (al1 ⟨rfl,(fun i c=>match i,c with|0,_=>rfl|1,_=>rfl|2,_=>rfl|_+3,c=>Ng c (by omega))⟩ (al1 ⟨rfl,(fun i c=>match i,c with|0,_=>rfl|1,_=>rfl|2,_=>rfl|_+3,c=>Ng c (by omega))⟩ al0))));refine kC Z h (FB Z Y) (fun f h=>?_);refine kC Z h (GS Z Y) (fun u h=>?_);refine kC Z h (Pe Z Y) (fun a h=>?_);refine kC Z h (GS Z Y) (fun s h=>?_);refine kC Z h (HB Z Y) (fun l h=>?_);refine kC Z h (Kd Z Y) (fun m h=>?_);refine W0 Z Q8 ⟨[(42,.vec 43000),(39,.vec 16000),(38,.vec 39000),(7,pN a.2.2),(6,pB a.2.1),(5,.reg 6000 0),(4,pN f.2),(3,.vec 27000),(1,.vec 16000)],[(43000,.vec B1 2 (Sl.of [l,m]:Sl Qz).n (fun i=>A0 ((Sl.of [l,m]:Sl Qz).g i)) false),(39000,.vec N7 18 s.n (fun i=>A5 (s.g i)) true),(27000,.vec M9 1 f.1.n (fun i=>cI .i64 (f.1.g i)) true),(16000,.vec B1 2 (Sl.of [y1,y2,y3]:Sl Qz).n (fun i=>A0 ((Sl.of [y1,y2,y3]:Sl Qz).g i)) true),(6000,.cells [pN a.1.First,pN a.1.Last])]⟩ (ids:=[(6000,6000),(16000,16000),(27000,27000),(39000,39000),(43000,43000)]) ?_ (hle:=klR [(3,.fn 2 (Sl.of [l,m]:Sl Qz).n (G7 [pI .u32 0,pI .u32 0] [(0,A0 l),(1,A0 m)]) (fun i=>A0 ((Sl.of [l,m]:Sl Qz).g i)))] (al1 ⟨rfl,(fun i c=>match i,c with|0,_=>rfl|1,_=>rfl|_+2,c=>Ng c (by omega))⟩ al0));refine kC Z h (Lg Z Y) (fun j h=>?_);refine kC Z h (GS Z Y) (fun t h=>?_);refine kC Z h (HB Z Y) (fun o h=>?_);refine kC Z h (Ad7 Z Y) (fun q h=>?_);refine W0 Z Q8 ⟨[(51,.vec 52000),(48,.vec 16000),(47,.vec 48000),(9,pN j.2),(8,.vec 44000),(7,pN a.2.2),(6,pB a.2.1),(5,.reg 6000 0),(4,pN f.2),(3,.vec 27000)],[(52000,.vec B1 2 (Sl.of [o,q]:Sl Qz).n (fun i=>A0 ((Sl.of [o,q]:Sl Qz).g i)) false),(48000,.vec N7 18 t.n (fun i=>A5 (t.g i)) true),(44000,.vec M9 1 j.1.n (fun i=>cI .i64 (j.1.g i)) true),(27000,.vec M9 1 f.1.n (fun i=>cI .i64 (f.1.g i)) true),(16000,.vec B1 2 (Sl.of [y1,y2,y3]:Sl Qz).n (fun i=>A0 ((Sl.of [y1,y2,y3]:Sl Qz).g i)) true),(6000,.cells [pN a.1.First,pN a.1.Last])]⟩ (ids:=[(6000,6000),(16000,16000),(27000,27000),(44000,44000),(48000,48000),(52000,52000)]) ?_ (hle:=klR [(4,.fn 2 (Sl.of [o,q]:Sl Qz).n (G7 [pI .u32 0,pI .u32 0] [(0,A0 o),(1,A0 q)]) (fun i=>A0 ((Sl.of [o,q]:Sl Qz).g i)))] (al1 ⟨rfl,(fun i c=>match i,c with|0,_=>rfl|1,_=>rfl|_+2,c=>Ng c (by omega))⟩ al0));refine kC Z h (Lf Z Y) (fun r h=>?_);refine Se Z Nk (C6 Z) h 0 (fun z1=>⟨[(0,pB z1)],[]⟩) (fun M1 k1 d h=>?_) (fun z1 h=>?_)
 .refine kG Z h (fun h=>?_) (fun h=>?_)
  .refine W0 Z Q8 ⟨[(59,.vec 60000),(58,.vec 27000),(57,.p (.v (.bool true))),(11,pN r.2),(10,pB r.1),(9,pN j.2),(8,.vec 44000),(7,pN a.2.2),(6,pB a.2.1),(5,.reg 6000 0)],[(60000,.vec M9 1 (Sl.of [1]:Sl Int).n (fun i=>cI .i64 ((Sl.of [1]:Sl Int).g i)) false),(44000,.vec M9 1 j.1.n (fun i=>cI .i64 (j.1.g i)) true),(27000,.vec M9 1 f.1.n (fun i=>cI .i64 (f.1.g i)) true),(6000,.cells [pN a.1.First,pN a.1.Last])]⟩ (ids:=[(6000,6000),(27000,27000),(44000,44000),(60000,60000)]) ?_ (hle:=klR [(6,.fn 1 (Sl.of [1]:Sl Int).n (G7 [pI .i64 0] [(0,cI .i64 1)]) (fun i=>cI .i64 ((Sl.of [1]:Sl Int).g i)))] (al1 ⟨rfl,(fun i c=>match i,c with|0,_=>rfl|_+1,c=>Ng c (by omega))⟩ al0));refine kC Z h (Mb Z Y) (fun w h=>?_);refine kG Z h (fun h=>?_) (fun h=>?_)
   .refine kG Z h (fun h=>?_) (fun h=>?_)
    .refine kG Z h (fun h=>?_) (fun h=>?_)
     .refine FR Z (by decide +kernel:YL Tryz.prog OT=true) (b:=((a.1.First==0)&&(a.1.Last==2)) != false) (fun c14=>?_) (fun c14=>?_)
      .replace h:=itT c14 h;refine kG Z h (fun h=>?_) (fun h=>?_)
       .refine W0 Z Q8 ⟨[(80,.vec 81000),(79,.vec 44000),(78,.p (.v (.bool true))),(11,pN r.2),(10,pB r.1)],[(81000,.vec M9 1 (Sl.of [0]:Sl Int).n (fun i=>cI .i64 ((Sl.of [0]:Sl Int).g i)) false),(44000,.vec M9 1 j.1.n (fun i=>cI .i64 (j.1.g i)) true)]⟩ (ids:=[(44000,44000),(81000,81000)]) ?_ (hle:=klR [(3,.fn 1 (Sl.of [0]:Sl Int).n (G7 [pI .i64 0] [(0,cI .i64 0)]) (fun i=>cI .i64 ((Sl.of [0]:Sl Int).g i)))] (al1 ⟨rfl,(fun i c=>match i,c with|0,_=>rfl|_+1,c=>Ng c (by omega))⟩ al0));refine kC Z h (Mb Z Y) (fun x h=>?_);refine kG Z h (fun h=>?_) (fun h=>?_)
        .refine kG Z h (fun h=>?_) (fun h=>?_)
         .exact d _ [] _ r.1 Nk h
         exact d _ [] _ false Nk h
        exact d _ [] _ false Nk h
       exact d _ [] _ false Nk h
      replace h:=itF c14 h;exact d _ [] _ false Nk h
     exact d _ [] _ false Nk h
    exact d _ [] _ false Nk h
   exact d _ [] _ false Nk h
  exact d _ [] _ false Nk h
 cases h;exact kR Z
end Go.AM
namespace Go.AM
open IntKind (wrap)
open Go.Proofs
set_option maxRecDepth 10000
set_option maxHeartbeats 2000000
variable {S:U6}(Z:G6 S Tryz.prog) (Y:LibE S)
include Z Y
def X3 (N:Nat)(p_laws:Sl Law)(p_w:Sl Qz):Option ((Sl MW)×Int):= (O3 N p_laws p_w).bind fun y1=>if (y1.2 != 0) then some ((Sl.nil:Sl MW),y1.2) else N6 N (fun a (x1:Sl MW) (x2:Int)=>if (decide (x2<(p_laws.n:Int))) then if (((0:Int)<=x2/\x2<(y1.1.n:Int))/\((0:Int)<=(wrap .i64 (x2+1))/\(wrap .i64 (x2+1))<(y1.1.n:Int)))then (Y9 N (y1.1.g x2.toNat) (y1.1.g (wrap .i64 (x2+1)).toNat)).bind fun y8=>if (!y8) then if ((0:Int)<=x2/\x2<(y1.1.n:Int))then (A2 N (y1.1.g x2.toNat)).bind fun y9=>if ((0:Int)<=(wrap .i64 (x2+1))/\(wrap .i64 (x2+1))<(y1.1.n:Int))then (A2 N (y1.1.g (wrap .i64 (x2+1)).toNat)).bind fun b=>if ((x1.n+(Sl.of [(⟨x2,y9,b⟩:MW)]:Sl MW).n)*56<=140737488355328/\x1.n+(Sl.of [(⟨x2,y9,b⟩:MW)]:Sl MW).n<=140737488355328)then a (x1.push (⟨x2,y9,b⟩:MW)) (wrap .i64 (x2+1)) else none else none else none else a x1 (wrap .i64 (x2+1)) else none else some (x1,0)) (Sl.nil:Sl MW) 0
theorem Lh {N:Nat}{p_laws:Sl Law}{p_w:Sl Qz}{y:(Sl MW)×Int}(h:X3 N p_laws p_w=some y) :FunO S Fo [.p (vSl 18 A5 p_laws),.p (vSl 2 A0 p_w)] [] (.tup [.vec 0,pN y.2]) ([.vec EP 3 y.1.n (fun i=>Gy (y.1.g i)) true]) []:=by
 unfold X3 at h;refine A4 Z Tryz.func30 ?_;refine kC Z h (Lc Z Y) (fun y1 h=>?_);apply kI Z h<;>intro h
 .obtain rfl:=D0 h;exact A8 Z Nk ⟨[(5,pN y1.2),(4,.vec 5700)],[(5700,.vec EP 3 (Sl.nil:Sl MW).n (fun i=>Gy ((Sl.nil:Sl MW).g i)) true)]⟩ [5700] (ids:=[]) ⟨rfl,rfl,rfl⟩
 refine W1 Z Nk h (fun x1 x2=>⟨[(21,pN x2),(20,pN (p_laws.n:Int)),(8,.vec 9500),(6,.p (vSl 1 (cL 2 A0) y1.1))],[(9500,.vec EP 3 x1.n (fun i=>Gy (x1.g i)) false)]⟩) (ids:=[]) (fun _ _ _ _ _ d x1 x2 b h=>?_);apply kI Z h<;>intro h
 .refine T3 Z Nk [2,3,7,8,9] ?_;obtain⟨c15,h⟩:=P1 h;obtain⟨y8,e8,h⟩:=D8 h;refine CK c15 (Im Z Y.1 e8) ?_;refine X9 Nk ?_;apply kI Z h<;>intro h
  .refine T3 Z Nk [4,5,6,10,11,12] ?_;obtain⟨c17,h⟩:=P1 h;obtain⟨y9,e9,h⟩:=D8 h;refine CK c17 (F1 Z Y.1 e9) ?_;obtain⟨c18,h⟩:=P1 h;obtain⟨a,e10,h⟩:=D8 h;refine CK c18 (F1 Z Y.1 e10) ?_;refine Dk Nk (x:=.sl true 3 1 (G7 [pI .i64 0,P4,P4] [(0,Gy (⟨x2,y9,a⟩:MW))])) ?_;obtain⟨c19,h⟩:=P1 h;refine X9 c19 ?_;exact b _ [(9500,51000)] _ (x1.push (⟨x2,y9,a⟩:MW)) (wrap .i64 (x2+1)) Nk h (hle:=klR [(3,.fn (x1.n+1) (x1.push (⟨x2,y9,a⟩:MW)).n (BP x1.n (fun i=>Gy (x1.g i)) (G7 [pI .i64 0,P4,P4] [(0,Gy (⟨x2,y9,a⟩:MW))])) (fun i=>Gy ((x1.push (⟨x2,y9,a⟩:MW)).g i)))] (al1 ⟨rfl,Uh (c:=Gy) (v:=x1) (x:=(⟨x2,y9,a⟩:MW)) (z:=[(pI .i64 0),P4,P4]) same rfl rfl⟩ al0))
  exact b _ [(9500,9500)] _ x1 (wrap .i64 (x2+1)) Nk h
 obtain rfl:=D0 h;exact A8 Z Nk ⟨[(5,pN 0),(4,.vec 9500)],[(9500,.vec EP 3 x1.n (fun i=>Gy (x1.g i)) true)]⟩ [9500] (ids:=[(9500,9500)]) ⟨rfl,rfl,rfl⟩
def X7 (N:Nat)(p_laws:Sl Law)(a:Sl Qz):Option Bool:= (Bq N p_laws).bind fun y1=>if (decide (4<y1)) then (S7 N ).bind fun y2=>some y2 else (Q3 N p_laws a a).bind fun y3=>(X3 N p_laws a).bind fun y4=>if (((decide (8<(p_laws.n:Int)))||(y3.2 != 0))||(y4.2 != 0)) then (S7 N ).bind fun y5=>some y5 else (EA N y3.1 (p_laws.n:Int)).bind fun y6=>if (!y6) then some false else if ((y4.1.n:Int)==0) then lt (fun (z1:Bool)=>some z1) fun k1=>if ((y3.1.n:Int)==(wrap .i64 ((p_laws.n:Int)+1))) then (S7 N ).bind fun y8=>k1 y8 else k1 false else (S7 N ).bind fun y9=>some y9
theorem Iu {N:Nat}{p_laws:Sl Law}{b:Sl Qz}{y:Bool}(h:X7 N p_laws b=some y) :FunO S AW [.p (vSl 18 A5 p_laws),.p (vSl 2 A0 b)] [] (pB y) ([]) []:=by
 unfold X7 at h;refine A4 Z Tryz.func9 ?_;refine kC Z h (TI Z Y.1) (fun y1 h=>?_);apply kI Z h<;>intro h
 .refine kC Z h (Dz Z Y.1) (fun y2 h=>?_);cases h;exact kR Z
 refine kC Z h (FB Z Y.1) (fun y3 h=>?_);refine kC Z h (Lh Z Y) (fun y4 h=>?_);refine kB Z (C6 Z) Nk Nk 7 (.o (.o (.a (decide (8<(p_laws.n:Int)))) (.a (y3.2 != 0))) (.a (y4.2 != 0))) ?_;apply kI Z h<;>intro h
 .refine kC Z h (Dz Z Y.1) (fun y5 h=>?_);cases h;exact kR Z
 refine kC Z h (VQ Z Y.1) (fun y6 h=>?_);apply kI Z h<;>intro h
 .cases h;exact kR Z
 apply kI Z h<;>intro h
 .refine Se Z Nk (C6 Z) h 0 (fun z1=>⟨[(4,pB z1)],[]⟩) (fun M1 k1 c h=>?_) (fun z1 h=>?_)
  .refine kG Z h (fun h=>?_) (fun h=>?_)
   .refine kC Z h (Dz Z Y.1) (fun y8 h=>?_);exact c _ [] _ y8 Nk h
   exact c _ [] _ false Nk h
  cases h;exact kR Z
 refine kC Z h (Dz Z Y.1) (fun y9 h=>?_);cases h;exact kR Z
end Go.AM
namespace Go.AM
open IntKind (wrap)
open Go.Proofs
set_option maxRecDepth 10000
set_option maxHeartbeats 2000000
variable {S:U6}(Z:G6 S Tryz.prog) (Y:Kt S)
include Z Y
def FX (N:Nat)(p_laws:Sl Law)(a:Sl Qz)(b:Sl Qz):Option Int:= (BI N p_laws).bind fun y1=>if (y1 != 0) then some y1 else (Az N a).bind fun y2=>if (y2 != 0) then some y2 else (Az N b).bind fun y3=>some y3
def BN (N:Nat)(p_laws:Sl Law)(a:Sl Qz)(b:Sl Qz):Option Bool:= (Es N p_laws a).bind fun y1=>lt (fun (z1:Bool)=>some z1) fun k1=>if (y1.2==0) then (Du N y1.1 b).bind fun y3=>k1 y3 else k1 false
def EB (N:Nat)(p_laws:Sl Law)(b:Sl Qz)(a:Sl Qz):Option (Sl Int):= N6 N (fun c (x1:Sl Int) (x2:Int)=>if (decide (x2<=(p_laws.n:Int))) then if ((0:Int)<=x2/\x2<=(p_laws.n:Int))then (BN N (p_laws.drop x2.toNat) b a).bind fun y3=>if y3 then if ((x1.n+(Sl.of [x2]:Sl Int).n)*8<=140737488355328/\x1.n+(Sl.of [x2]:Sl Int).n<=140737488355328)then c (x1.push x2) (wrap .i64 (x2+1)) else none else c x1 (wrap .i64 (x2+1)) else none else some x1) Qv 0
def Ip (N:Nat)(p_laws:Sl Law)(b:Sl Qz)(a:Sl Qz):Option ((Sl Int)×Int):= (FX N p_laws b a).bind fun y1=>if (y1 != 0) then some (Qv,y1) else (EB N p_laws b a).bind fun y2=>some (y2,0)
end Go.AM
namespace Go.AM
open Go.Proofs
set_option maxRecDepth 10000
set_option maxHeartbeats 2000000
variable {S:U6}(Z:G6 S Tryz.prog) (Y:Kt S)
include Z Y
end Go.AM
namespace Go.AM
open Go.Proofs
set_option maxRecDepth 10000
set_option maxHeartbeats 2000000
variable {S:U6}(Z:G6 S Tryz.prog) (Y:Kt S)
include Z Y
end Go.AM
namespace Go.AM
open Go.Proofs
set_option maxRecDepth 10000
set_option maxHeartbeats 2000000
variable {S:U6}(Z:G6 S Tryz.prog) (Y:Kt S)
include Z Y
end Go.AM
namespace Go.AM
open Go.Proofs
set_option maxRecDepth 10000
set_option maxHeartbeats 2000000
variable {S:U6}(Z:G6 S Tryz.prog) (Y:Kt S)
include Z Y
end Go.AM
namespace Go.AM
open IntKind (wrap)
open Go.Proofs
def Ye {A R:Type}{body:(A->Option R)->A->Option R}(I:Nat->A->Prop)(n:Nat)(H5:R->Prop)
 (b:∀self i a,i<=n->I i a->(i<n->∀a',I (i+1) a' -> ∃r,self a' = some r/\H5 r)->∃r,body self a=some r/\H5 r) :
 ∀(N i:Nat) (a:A),i<=n->I i a->n-i<N->∃r,Ao N body a=some r/\H5 r
 |0,_,_,_,_,h=>by omega
 |N+1,i,a,hi,hI,h=>by rw[P5];exact b _ i a hi hI fun c a' d=>Ye I n H5 b N (i+1) a' c d (by omega)
def Fb {A R:Type}{body:(A->Option R)->A->Option R}(I:Nat->A->Prop)(n:Nat)(H5:R->Prop){N:Nat}(c:n<N){a:A}(d:I 0 a)
 (b:∀self i a,i<=n->I i a->(i<n->∀a',I (i+1) a' -> ∃r,self a' = some r/\H5 r)->∃r,body self a=some r/\H5 r):∃r,Ao N body a=some r/\H5 r:=
 Ye I n H5 b N 0 a (Az6 _) d c
def Ai {A B R:Type}{body:(A->B->Option R)->A->B->Option R}(I:Nat->A->B->Prop)(n:Nat)(H5:R->Prop){N:Nat}(g:n<N){a:A}{b:B}(j:I 0 a b)
 (d:∀c i a b,i<=n->I i a b->(i<n->∀a' b',I (i+1) a' b' -> ∃r,c a' b' = some r/\H5 r)->∃r,body c a b=some r/\H5 r):∃r,N6 N body a b=some r/\H5 r:=
 Ye (fun i x=>I i x.1 x.2) n H5 (fun c i x l m h=>d (fun a b=>c (a,b)) i x.1 x.2 l m fun hl a' b' f=>h hl (a',b') f) N 0 (a,b) (Az6 _) j g
def Yf {A B C R:Type}{body:(A->B->C->Option R)->A->B->C->Option R}(I:Nat->A->B->C->Prop)(n:Nat)(H5:R->Prop){N:Nat}(j:n<N){a:A}{b:B}{c:C}(l:I 0 a b c)
 (f:∀d i a b c,i<=n->I i a b c->(i<n->∀a' b' c',I (i+1) a' b' c' -> ∃r,d a' b' c' = some r/\H5 r)->∃r,body d a b c=some r/\H5 r):∃r,Ag9 N body a b c=some r/\H5 r:=
 Ye (fun i x=>I i x.1 x.2.1 x.2.2) n H5 (fun d i x m o h=>f (fun a b c=>d (a,b,c)) i x.1 x.2.1 x.2.2 m o fun hl a' b' c' g=>h hl (a',b',c') g) N 0 (a,b,c) (Az6 _) l j
def B0 {X R:Type}{Q:R->Prop}{o:Option X}{f:X->Option R}{x:X}(h:o=some x)(a:∃r,f x=some r/\Q r):∃r,o.bind f=some r/\Q r:=by subst h;exact a
def ltX {R A:Type}{Q:R->Prop}{k:A->Option R}{f:(A->Option R)->Option R}(h:∃r,f k=some r/\Q r):∃r,lt k f=some r/\Q r:=h
def ifT {R:Type}{Q:R->Prop}{p:Prop}[Decidable p]{a b:Option R}(h:p)(c:∃r,a=some r/\Q r):∃r,(if p then a else b)=some r/\Q r:=by rw[Nd h];exact c
def Ej{R:Type}{Q:R->Prop}{p:Prop}[Decidable p]{a b:Option R}(h2:∃ r,a=some r/\Q r)(h:p:=by decide):∃ r,(if p then a else b)=some r/\Q r:=ifT h h2
def Bh{R:Type}{Q:R->Prop}{p:Prop}[Decidable p]{a b:Option R}(h2:∃ r,a=some r/\Q r)(h:p:=by simp):∃ r,(if p then a else b)=some r/\Q r:=ifT h h2
def Ba{R:Type}{Q:R->Prop}{p:Prop}[Decidable p]{a b:Option R}(h2:∃ r,a=some r/\Q r)(h:p:=by simp;omega):∃ r,(if p then a else b)=some r/\Q r:=ifT h h2
def Al{R:Type}{Q:R->Prop}{p:Prop}[Decidable p]{a b:Option R}(h2:∃ r,a=some r/\Q r)(h:p:=by omega):∃ r,(if p then a else b)=some r/\Q r:=ifT h h2
def ifF {R:Type}{Q:R->Prop}{p:Prop}[Decidable p]{a b:Option R}(h:¬p)(c:∃r,b=some r/\Q r):∃r,(if p then a else b)=some r/\Q r:=by rw[Nf h];exact c
def Iy{R:Type}{Q:R->Prop}{p:Prop}[Decidable p]{a b:Option R}(h2:∃ r,b=some r/\Q r)(h:¬p:=by decide):∃ r,(if p then a else b)=some r/\Q r:=ifF h h2
def Hs{R:Type}{Q:R->Prop}{p:Prop}[Decidable p]{a b:Option R}(h2:∃ r,b=some r/\Q r)(h:¬p:=by simp):∃ r,(if p then a else b)=some r/\Q r:=ifF h h2
def Ft{R:Type}{Q:R->Prop}{p:Prop}[Decidable p]{a b:Option R}(h2:∃ r,b=some r/\Q r)(h:¬p:=by simp;omega):∃ r,(if p then a else b)=some r/\Q r:=ifF h h2
def El{R:Type}{Q:R->Prop}{p:Prop}[Decidable p]{a b:Option R}(h2:∃ r,b=some r/\Q r)(h:¬p:=by omega):∃ r,(if p then a else b)=some r/\Q r:=ifF h h2
def E8 {n:Int}(h : -9223372036854775808<=n)(h' : n<=9223372036854775807):IntKind.i64.wrap n=n:=by
 by_cases a:0<=n
 .have h1:n % (2 ^ 64:Int)=n:=AA1 a (by omega);unfold wrap;simp only[IntKind.bits,IntKind.signed,h1];rw[Nf];simp;omega
 have h1:n % (2 ^ 64:Int)=n+2 ^ 64:=by rw[<- Int.add_emod_right];exact AA1 (by omega) (by omega)
 unfold wrap;simp only[IntKind.bits,IntKind.signed,h1];rw[Nd]
 .omega
 simp;omega
def C4 {i:Nat}(h:i<1000000000000000000):IntKind.i64.wrap ((i:Int)+1)=((i+1:Nat):Int):=by rw[E8 (by omega) (by omega)];rfl
def Iz{i:Nat}(h:i<1000000000000000000:=by omega):IntKind.i64.wrap ((i:Int)+1)=((i+1:Nat):Int):=C4 h
def wrapP {i:Nat}(a:1<=i)(h:i<1000000000000000000):IntKind.i64.wrap ((i:Int)-1)=((i-1:Nat):Int):=by rw[E8 (by omega) (by omega)];omega
def BQ {i j:Nat}(h:i+j<1000000000000000000):IntKind.i64.wrap ((i:Int)+(j:Int))=((i+j:Nat):Int):=by rw[E8 (by omega) (by omega)];rfl
def So {N n:Nat}(hn:n<=32)(f:1000<=N):∃s,ER N (n:Int)=some s/\s.n=n+1/\TabR n (fun a b=>a=b) s.g:=by
 unfold ER;rw[Iz];refine Al ?_;refine Ai (fun i x1 x2=>x2=(i:Int)/\x1.n=n+1/\∀a,a<i->x1.g a=U (1#64 <<< a)) (n+1) _ (by omega) ⟨rfl,by show ((n+1:Nat):Int).toNat=n+1;omega,fun a ha=>Ng ha (by omega)⟩ ?_;rintro c i x1 x2 j ⟨rfl,h1,d⟩ hs;by_cases hl:i<=n
 .refine Ba (ifT ⟨⟨by omega,by omega,by omega⟩,by omega⟩ (hs (by omega) _ _ ⟨Iz,h1,fun a ha=>?_⟩));show (if a=(i:Int).toNat then shI .shl .u64 1 (i:Int)else x1.g a)=_;by_cases e:a=i
  .subst e;rw[J4,OU _ (by omega)]
  rw[Na];exact d a (by omega)
 refine Ft ⟨x1,rfl,h1,fun a ha=>⟨1#64 <<< a,d a (by omega),fun b hb=>?_⟩⟩;rw[Eo (by omega) hb,Nj];omega
def Yg {n:Nat}{f:Nat->Int}(h:∀a,a<=n->f a=0):TabR n (fun _ _=>False) f:=fun a ha=>⟨0#64,h a ha,fun b hb=>by simp⟩
def Sp {N n:Nat}{R S:Nat->Nat->Prop}{x y:Sl Int}(hn:n<=32)(f:1000<=N)(hx:x.n=n+1)(hy:y.n=n+1)(hR:TabR n R x.g)(Z:TabR n S y.g) :∃s,ES N x y=some s/\s.n=n+1/\TabR n (fun a b=>R a b \/ S a b) s.g:=by
 unfold ES;refine Al ?_;refine Ai (fun i x1 x2=>x2=(i:Int)/\x1.n=n+1/\∀a,a<i->x1.g a=E9 .or .u64 (x.g a) (y.g a)) (n+1) _ (by omega) ⟨rfl,by show (x.n:Int).toNat=n+1;omega,fun a ha=>Ng ha (by omega)⟩ ?_;rintro d i x1 x2 j ⟨rfl,h1,c⟩ hs;by_cases hl:i<=n
 .refine Ba (Al (hs (by omega) _ _ ⟨Iz,h1,fun a ha=>?_⟩));show (if a=(i:Int).toNat then _ else x1.g a)=_;by_cases e:a=i
  .subst e;rw[J4,Aq6]
  rw[Na];exact c a (by omega)
 refine Ft ⟨x1,rfl,h1,fun a ha=>?_⟩;obtain⟨u,e1,g1⟩:=hR a ha;obtain⟨v,e2,g2⟩:=Z a ha;refine⟨u ||| v,by rw[c a (by omega),e1,e2,Ap8],fun b hb=>?_⟩;rw[As0,At0,g1 b hb,g2 b hb];constructor
 .rintro (⟨h1,c⟩ | ⟨h1,c⟩)
  .exact⟨h1,.inl c⟩
  exact⟨h1,.inr c⟩
 rintro⟨h1,c|c⟩
 .exact .inl ⟨h1,c⟩
 exact .inr ⟨h1,c⟩
def VR {N n:Nat}{x y:Sl Int}(hn:n<=32)(f:1000<=N)(hx:x.n=n+1)(hy:y.n=n+1) :∃b,FS N x y=some b/\(b=true ↔ ∀a,a<=n->x.g a=y.g a):=by
 unfold FS;refine Fb (fun i x1=>x1=(i:Int)/\∀a,a<i->x.g a=y.g a) (n+1) _ (by omega) ⟨rfl,fun a ha=>Ng ha (by omega)⟩ ?_;rintro c i x1 j ⟨rfl,d⟩ hs;by_cases hl:i<=n
 .refine Ba (Al ?_);rw[Aq6];by_cases e:x.g i=y.g i
  .refine ifF (by simp[e]) (hs (by omega) _ ⟨Iz,fun a ha=>?_⟩);by_cases h:a=i
   .subst h;exact e
   exact d a (by omega)
  refine ifT (by simp[e]) ⟨false,rfl,by simp;exact⟨i,hl,e⟩⟩
 exact Ft ⟨true,rfl,by simp;exact fun a ha=>d a (by omega)⟩
def Mc {N n:Nat}{R S:Nat->Nat->Prop}{x y:Sl Int}(hn:n<=32)(w:1000<=N)(hx:x.n=n+1)(hy:y.n=n+1)(hR:TabR n R x.g)(Z:TabR n S y.g) :∃s,AN N x y=some s/\s.n=n+1/\TabR n (fun a b=>∃c,c<=n/\R a c/\S c b) s.g:=by
 unfold AN;refine Al ?_
 let Row (z:BitVec 64) (a j:Nat):Prop:=∀b,b<64->(z.getLsbD b=true↔b<=n/\∃c,c<j/\c<=n/\R a c/\S c b)
 refine Ai (fun i x1 x2=>x2=(i:Int)/\x1.n=n+1/\(∀a,a<i->∃z,x1.g a=U z/\Row z a (n+1))/\∀a,i<=a->x1.g a=0) (n+1) _ (by omega) ⟨rfl,by show (x.n:Int).toNat=n+1;omega,fun a ha=>Ng ha (by omega),fun a _=>rfl⟩ ?_;rintro q i x1 x2 hi ⟨rfl,h1,r,t⟩ hs;by_cases hl:i<=n
 .refine Ba ?_;refine Ai (fun j x7 x8=>x8=(j:Int)/\x7.n=n+1/\(∀a,a<i->∃z,x7.g a=U z/\Row z a (n+1))/\(∃z,x7.g i=U z/\Row z i j)/\∀a,i<a->x7.g a=0) (n+1) _ (by omega)
   ⟨rfl,h1,r,⟨0#64,t i (Aq9 _),fun b hb=>by simp⟩,fun a ha=>t a (by omega)⟩ ?_
  rintro m j x7 x8 hj ⟨rfl,g1,g2,⟨z,g3,g4⟩,g5⟩ l;by_cases f:j<=n
  .refine Ba (Al ?_);rw[Aq6,Aq6];have d:=hR.bit hl (b:=j) (by omega);by_cases hc:R i j
   .refine ifT (d.2 ⟨f,hc⟩) (Al (l (by omega) _ _ ⟨Iz,g1,fun a ha=>?_,?_,fun a ha=>?_⟩))
    .obtain⟨z',e,o⟩:=g2 a ha;exact⟨z',by show (if a=i then _ else x7.g a)=_;rw[Na];exact e,o⟩
    .obtain⟨v,e,u⟩:=Z j f;refine⟨z ||| v,by show (if i=i then _ else _)=_;rw[Nd rfl,g3,e,Ap8],fun b hb=>?_⟩;rw[As0,At0,g4 b hb,u b hb];constructor
     .rintro (⟨k1,c,k2,k3⟩ | ⟨k1,k2⟩)
      .exact⟨k1,c,by omega,k3⟩
      exact⟨k1,j,by omega,f,hc,k2⟩
     rintro⟨k1,c,k2,k3,k4,k5⟩;by_cases e:c=j
     .subst e;exact .inr ⟨k1,k5⟩
     exact .inl ⟨k1,c,by omega,k3,k4,k5⟩
    show (if a=i then _ else x7.g a)=_;rw[Na];exact g5 a ha
   refine ifF (fun h=>hc (d.1 h).2) (l (by omega) _ _ ⟨Iz,g1,g2,⟨z,g3,fun b hb=>?_⟩,g5⟩);rw[g4 b hb];constructor
   .rintro⟨k1,c,k2,k3⟩;exact⟨k1,c,by omega,k3⟩
   rintro⟨k1,c,k2,k3,k4,k5⟩;by_cases e:c=j
   .subst e;exact Ng k4 hc
   exact⟨k1,c,by omega,k3,k4,k5⟩
  refine Ft (hs (by omega) _ _ ⟨Iz,g1,fun a ha=>?_,fun a ha=>g5 a (by omega)⟩);by_cases e:a=i
  .subst e;obtain rfl:j=n+1:=by omega
   exact⟨z,g3,g4⟩
  exact g2 a (by omega)
 refine Ft ⟨x1,rfl,h1,fun a ha=>?_⟩;obtain⟨z,e,o⟩:=r a (by omega);refine⟨z,e,fun b hb=>(o b hb).trans ⟨fun⟨k1,c,_,k3⟩=>⟨k1,c,k3⟩,fun⟨k1,c,k3⟩=>⟨k1,c,by omega,k3⟩⟩⟩
end Go.AM
namespace Go.AM
open Go.Proofs
def okP:Nat->Pat->Prop
 |0,_=>False
 |d+1,p=>p.L.n<=40/\(p.Kind=5->p.L.n=1/\0<=p.Min/\p.Min<=32/\(p.Max = -1 \/ (p.Min<=p.Max/\p.Max<=32)))/\∀i,i<p.L.n->okP d (p.L.g i)
def IE (w:Sl Qz)(p:Pat)(a b:Nat):PR w p a b↔(if p.Kind=0 then a=b
 else if p.Kind=1 then a<w.n/\b=a+1/\(QK (w.g a) p.Is != p.Not)=true
 else if p.Kind=2 then a=0/\b=0
 else if p.Kind=6 then a=w.n/\b=w.n
 else if p.Kind=3 then TF w.n (fun i=>PR w (p.L.g i)) p.L.n a b
 else if p.Kind=4 then ∃i,i<p.L.n/\PR w (p.L.g i) a b
 else if p.Kind=5 then ∃k:Nat,p.Min<=k/\(p.Max = -1 \/ (k:Int)<=p.Max)/\Fz w.n (PR w (p.L.g 0)) k a b
 else False):=by
 cases p with
 |nil=>simp[PR,Pat.Kind]
 |mk kind is no mn mx m g=>exact Az9
def R0 (w:Sl Qz)(p:Pat)(a b:Nat):Prop:=if p.Kind=0 then a=b else if p.Kind=1 then a<w.n/\b=a+1/\(QK (w.g a) p.Is != p.Not)=true else if p.Kind=2 then a=0/\b=0 else if p.Kind=6 then a=w.n/\b=w.n else False
def Zm {n:Nat}{R:Nat->Nat->Prop}(hR:Fwd n R){mn k:Nat}(hk:mn<k)(h:∀a b,a<=n->b<=n->Fz n R k a b->∃j,mn<=j/\j<k/\Fz n R j a b){a:Nat}(ha:a<=n) :∀m b,mn<=m->Fz n R m a b->∃j,mn<=j/\j<k/\Fz n R j a b
 |0,b,hm,hp=>⟨0,hm,by omega,hp⟩
 |m+1,b,hm,hp=>by
  by_cases d:m+1<k
  .exact⟨m+1,hm,d,hp⟩
  obtain⟨c,hc,h1,f⟩:=hp;have hb:=(hR c b hc f).2;obtain⟨j,g1,g2,g3⟩:=Zm hR hk h ha m c (by omega) h1;by_cases e:j+1<k
  .exact⟨j+1,by omega,e,c,hc,g3,f⟩
  obtain rfl:k=j+1:=by omega
  exact h a b ha hb ⟨c,hc,g3,f⟩
def Ke {N:Nat}(hN:1000<=N){w:Sl Qz}(hw:w.n<=32):∀(d:Nat) (p:Pat),okP d p->∀M,N+d<=M->∃t,BJ M p w=some t/\t.n=w.n+1/\TabR w.n (PR w p) t.g
 |0,p,h,M,hM=>h.elim
 |d+1,p,⟨hc,h5,hch⟩,0,hM=>by omega
 |d+1,p,⟨hc,h5,hch⟩,M+1,hM=>by
  have ih:=fun i hi=>Ke hN hw d (p.L.g i) (hch i hi) M (by omega);show ∃t,Dv (BJ M) M p w=some t/\_;unfold Dv;rw[Iz];refine Al ?_;refine Ai (fun i x1 x2=>x2=(i:Int)/\x1.n=w.n+1/\(∀a,a<i->∃z:BitVec 64,x1.g a=U z/\∀b,b<64->(z.getLsbD b=true↔b<=w.n/\R0 w p a b))/\∀a,i<=a->x1.g a=0) (w.n+1) _ (by omega)
   ⟨rfl,by show ((w.n+1:Nat):Int).toNat=w.n+1;omega,fun a ha=>Ng ha (by omega),fun _ _=>rfl⟩ ?_
  rintro self i x1 x2 hi ⟨rfl,h1,l,c⟩ hs;have keep:(∀b,b<=w.n->¬R0 w p i b)->(∀a,a<i+1->∃z:BitVec 64,x1.g a=U z/\∀b,b<64->(z.getLsbD b=true↔b<=w.n/\R0 w p a b)):=by
   intro h a ha;by_cases e:a=i
   .subst e;exact⟨0#64,c a (Aq9 _),fun b hb=>by simp;exact h b⟩
   exact l a (by omega)
  have put:∀(z:BitVec 64) (v:Int),v=U z->(∀b,b<64->(z.getLsbD b=true↔b<=w.n/\R0 w p i b)) ->
   (∀a,a<i+1->∃z:BitVec 64,(x1.upd (i:Int).toNat v).g a=U z/\∀b,b<64->(z.getLsbD b=true↔b<=w.n/\R0 w p a b))/\∀a,i+1<=a->(x1.upd (i:Int).toNat v).g a=0:=by
   intro z v hv hz;refine⟨fun a ha=>?_,fun a ha=>?_⟩
   .by_cases e:a=i
    .subst e;exact⟨z,by show (if a=(a:Int).toNat then v else _)=_;rw[J4,hv],hz⟩
    obtain⟨z',e1,e2⟩:=l a (by omega);exact⟨z',by show (if a=(i:Int).toNat then v else x1.g a)=_;rw[Na];exact e1,e2⟩
   show (if a=(i:Int).toNat then v else x1.g a)=0;rw[Na];exact c a (by omega)
  by_cases hl:i<=w.n
  .refine Ba ?_;by_cases k0:p.Kind=0
   .refine ifT (by simp[k0]) (Al ?_);obtain⟨p1,p2⟩:=put (1#64 <<< i) _ (OU i (by omega)) (fun b hb=>by rw[Eo (by omega) hb,Nj];simp only[R0,k0,Nh];omega);exact hs (by omega) _ _ ⟨Iz,h1,p1,p2⟩
   refine ifF (by simp[k0]) ?_;by_cases k1:p.Kind=1
   .refine ifT (by simp[k1]) ?_;have e0:∀b,R0 w p i b↔i<w.n/\b=i+1/\(QK (w.g i) p.Is != p.Not)=true:=fun b=>by simp only[R0,k1];simp
    by_cases hlt:i<w.n
    .refine Ba (Al ?_);refine B0 (x:=QK (w.g i) p.Is) (by rw[Aq6];rfl) ?_;by_cases hb:QK (w.g i) p.Is=p.Not
     .refine ifF (by simp[hb]) (hs (by omega) _ _ ⟨Iz,h1,keep fun b _=>?_,fun a ha=>c a (by omega)⟩);rw[e0];simp[hb]
     refine ifT (by simp[hb]) ?_;rw[Iz];refine Al ?_;obtain⟨p1,p2⟩:=put (1#64 <<< (i+1)) _ (OU (i+1) (by omega)) (fun b a0=>by
      rw[Eo (by omega) a0,Nj,e0]
      have:(QK (w.g i) p.Is != p.Not)=true:=by simp[hb]
      simp only[this,and_true];omega)
     exact hs (by omega) _ _ ⟨rfl,h1,p1,p2⟩
    refine Ft (hs (by omega) _ _ ⟨Iz,h1,keep fun b _=>?_,fun a ha=>c a (by omega)⟩);rw[e0];omega
   refine ifF (by simp[k1]) ?_;by_cases k2:p.Kind=2
   .refine ifT (by simp[k2]) ?_;have e0:∀b,R0 w p i b↔i=0/\b=0:=fun b=>by simp only[R0,k2];simp
    by_cases hz:i=0
    .refine Ba (Al ?_);obtain⟨p1,p2⟩:=put 1#64 _ An3 (fun b a0=>by rw[QJ,Nj,e0];omega);exact hs (by omega) _ _ ⟨Iz,h1,p1,p2⟩
    refine Ft (hs (by omega) _ _ ⟨Iz,h1,keep fun b _=>?_,fun a ha=>c a (by omega)⟩);rw[e0];omega
   refine ifF (by simp[k2]) ?_;by_cases k6:p.Kind=6
   .refine ifT (by simp[k6]) ?_;have e0:∀b,R0 w p i b↔i=w.n/\b=w.n:=fun b=>by simp only[R0,k6];simp
    by_cases hz:i=w.n
    .refine Ba (Al ?_);obtain⟨p1,p2⟩:=put (1#64 <<< i) _ (OU i (by omega)) (fun b hb=>by rw[Eo (by omega) hb,Nj,e0];omega);exact hs (by omega) _ _ ⟨Iz,h1,p1,p2⟩
    refine Ft (hs (by omega) _ _ ⟨Iz,h1,keep fun b _=>?_,fun a ha=>c a (by omega)⟩);rw[e0];omega
   refine ifF (by simp[k6]) (hs (by omega) _ _ ⟨Iz,h1,keep fun b _=>?_,fun a ha=>c a (by omega)⟩);simp[R0,k0,k1,k2,k6]
  refine Ft ?_;have t0:TabR w.n (R0 w p) x1.g:=fun a ha=>l a (by omega);by_cases k3:p.Kind=3
  .refine ifT (by simp[k3]) ?_;obtain⟨s,es,a8,a9⟩:=So (N:=M) hw (by omega);refine B0 es ?_;refine Ai (fun i (x3:Sl Int) x4=>x4=(i:Int)/\x3.n=w.n+1/\TabR w.n (TF w.n (fun i=>PR w (p.L.g i)) i) x3.g) p.L.n _ (by omega) ⟨rfl,a8,a9.congr fun a b _ _=>Az9⟩ ?_;rintro a2 j x3 x4 hj ⟨rfl,g1,g2⟩ m;by_cases a3:j<p.L.n
   .obtain⟨t,et,b0,b1⟩:=ih j a3;refine Ba (Al (B0 (by rw[Aq6];exact et) ?_));obtain⟨f,ef,o,a4⟩:=Mc (N:=M) hw (by omega) g1 b0 g2 b1;exact B0 ef (m a3 _ _ ⟨Iz,o,a4⟩)
   obtain rfl:j=p.L.n:=by omega
   exact Hs ⟨x3,rfl,g1,g2.congr fun a b _ _=>by rw[IE];simp[k3]⟩
  refine ifF (by simp[k3]) ?_;by_cases k4:p.Kind=4
  .refine ifT (by simp[k4]) ?_;refine Ai (fun i x3 x4=>x4=(i:Int)/\x3.n=w.n+1/\TabR w.n (fun a b=>∃q,q<i/\PR w (p.L.g q) a b) x3.g) p.L.n _ (by omega) ⟨rfl,h1,t0.congr fun a b _ _=>by simp[R0,k4]⟩ ?_;rintro a2 j x3 x4 hj ⟨rfl,g1,g2⟩ m;by_cases a3:j<p.L.n
   .obtain⟨t,et,b0,b1⟩:=ih j a3;refine Ba (Al (B0 (by rw[Aq6];exact et) ?_));obtain⟨f,ef,o,a4⟩:=Sp (N:=M) hw (by omega) g1 b0 g2 b1;refine B0 ef (m a3 _ _ ⟨Iz,o,a4.congr fun a b _ _=>⟨?_,?_⟩⟩)
    .rintro (⟨q,h1,l⟩ | h)
     .exact⟨q,by omega,l⟩
     exact⟨j,by omega,h⟩
    rintro⟨q,h1,l⟩;by_cases e:q=j
    .subst e;exact .inr l
    exact .inl ⟨q,by omega,l⟩
   obtain rfl:j=p.L.n:=by omega
   exact Hs ⟨x3,rfl,g1,g2.congr fun a b _ _=>by rw[IE];simp[k4]⟩
  refine ifF (by simp[k4]) ?_;by_cases k5:p.Kind=5
  .obtain⟨hn1,hm0,hm1,hmx⟩:=h5 k5;refine ifT (by simp[k5]) (Al ?_);obtain⟨one,eo,ho1,ho2⟩:=ih 0 (by omega);obtain⟨s,es,a8,a9⟩:=So (N:=M) hw (by omega);refine B0 eo (B0 es ?_);have hF:=OX w (p.L.g 0);have fin:∀(t:Sl Int) (k:Nat),t.n=w.n+1->TabR w.n (fun a b=>∃j:Nat,p.Min<=j/\j<k/\Fz w.n (PR w (p.L.g 0)) j a b) t.g ->
    (∀a b,a<=w.n->b<=w.n->((∃j:Nat,p.Min<=j/\j<k/\Fz w.n (PR w (p.L.g 0)) j a b) ↔ ∃j:Nat,p.Min<=j/\(p.Max = -1 \/ (j:Int)<=p.Max)/\Fz w.n (PR w (p.L.g 0)) j a b)) ->
    ∃r,some t=some r/\r.n=w.n+1/\TabR w.n (PR w p) r.g:=by
    intro t k e1 e2 e3;exact⟨t,rfl,e1,e2.congr fun a b ha hb=>(e3 a b ha hb).trans (by rw[IE];simp[k5])⟩
   refine Yf (fun k (x8 x9:Sl Int) b2=>b2=(k:Int)/\x8.n=w.n+1/\x9.n=w.n+1/\TabR w.n (fun a b=>∃j:Nat,p.Min<=j/\j<k/\Fz w.n (PR w (p.L.g 0)) j a b) x8.g/\TabR w.n (Fz w.n (PR w (p.L.g 0)) k) x9.g/\(p.Max = -1 \/ (k:Int)<=p.Max)) 33 _ (by omega)
    ⟨rfl,h1,a8,t0.congr fun a b _ _=>by simp[R0,k5],a9.congr fun a b _ _=>Az9,by omega⟩ ?_
   rintro a2 k x8 x9 b2 hk ⟨rfl,g1,g2,g3,g4,g5⟩ m;obtain⟨f,ef,o,a4⟩:=Mc (N:=M) hw (by omega) g2 ho1 g4 ho2;have next:TabR w.n (Fz w.n (PR w (p.L.g 0)) (k+1)) f.g:=a4
   by_cases u:p.Min<=(k:Int)
   .refine ifT (by simpa using u) ?_;obtain⟨j,ej,a5,hj2⟩:=Sp (N:=M) hw (by omega) g1 g2 g3 g4;have a1:TabR w.n (fun a b=>∃j:Nat,p.Min<=j/\j<k+1/\Fz w.n (PR w (p.L.g 0)) j a b) j.g:=hj2.congr fun a b _ _=>by
     constructor
     .rintro (⟨q,h1,l,c⟩ | h)
      .exact⟨q,h1,by omega,c⟩
      exact⟨k,u,by omega,h⟩
     rintro⟨q,h1,l,c⟩;by_cases e:q=k
     .subst e;exact .inr c
     exact .inl ⟨q,h1,by omega,c⟩
    refine B0 ej (ltX ?_);by_cases a6:(k:Int)=p.Max
    .refine ifT (by simp[a6]) (ifT rfl (fin j (k+1) a5 a1 fun a b _ _=>⟨?_,?_⟩))
     .rintro⟨q,h1,l,c⟩;exact⟨q,h1,.inr (by omega),c⟩
     rintro⟨q,h1,l,c⟩;exact⟨q,h1,by omega,c⟩
    refine ifF (by simp[a6]) ?_;by_cases b3:p.Min<(k:Int)
    .refine ifT (by simpa using b3) ?_;obtain⟨b,eb,hb⟩:=VR (N:=M) (x:=x8) (y:=j) hw (by omega) g1 a5;refine B0 eb ?_;by_cases a7:b=true
     .refine ifT a7 (fin j (k+1) a5 a1 fun a b ha a0=>⟨?_,?_⟩)
      .rintro⟨q,h1,l,c⟩;exact⟨q,h1,by omega,c⟩
      rintro⟨q,h1,l,c⟩;have heq:=hb.1 a7;obtain⟨q',k1,k2,k3⟩:=Zm hF (mn:=p.Min.toNat) (k:=k) (by omega) (fun a b ha a0 hp=>by have e1:=a1.bit ha (b:=b) (by omega);have e2:=g3.bit ha (b:=b) (by omega);rw[<- heq a ha]at e1;obtain⟨_,q,k1,k2,k3⟩:=e2.1 (e1.2 ⟨a0,k,u,by omega,hp⟩);exact⟨q,by omega,k2,k3⟩) ha q b (by omega) c
      exact⟨q',by omega,by omega,k3⟩
     refine ifF a7 (B0 ef ?_);have b4:k<33:=by
      refine Nat.lt_of_le_of_ne hk fun e=>a7 (hb.2 fun a ha=>?_);subst e;refine g3.uniq (a1.congr fun a b ha a0=>⟨?_,?_⟩) ha
      .rintro⟨q,h1,l,c⟩;by_cases e:q=33
       .subst e;exact⟨32,by omega,by omega,OV hF ha hw c⟩
       exact⟨q,h1,by omega,c⟩
      rintro⟨q,h1,l,c⟩;exact⟨q,h1,by omega,c⟩
     exact m b4 _ _ _ ⟨Iz,a5,o,a1,next,by omega⟩
    refine ifF (by simpa using b3) (Hs (B0 ef (m (by omega) _ _ _ ⟨Iz,a5,o,a1,next,by omega⟩)))
   refine ifF (by simpa using u) (B0 ef (m (by omega) _ _ _ ⟨Iz,g1,o,g3.congr fun a b _ _=>⟨?_,?_⟩,next,by omega⟩))
   .rintro⟨q,h1,l,c⟩;omega
   rintro⟨q,h1,l,c⟩;omega
  refine ifF (by simp[k5]) ⟨x1,rfl,h1,t0.congr fun a b _ _=>?_⟩;rw[IE];simp[R0,k3,k4,k5]
end Go.AM
namespace Go.AM
variable {N:Nat}
open IntKind (wrap)
open Go.Proofs
abbrev sOf (x y:BitVec 32):Qz:=⟨(x.toNat:Int),(y.toNat:Int)⟩
def okS (s:Qz):Prop:=∃p m:BitVec 32,s=sOf p m
def eq0 (x:BitVec 32):((x.toNat:Int)==0)=decide (x=0#32):=by
 rw[At9];simp only[beq_iff_eq,Nj];constructor
 .intro h;apply Au3;show x.toNat=0;omega
 rintro rfl;rfl
def z32 (x:BitVec 32):x=0#32 ↔ ∀i,i<32->x.getLsbD i=false:=by
 constructor
 .rintro rfl i a;simp
 intro h;apply Av9;intro i a;rw[h i a];simp
def GT {x y:BitVec 32}(h:∀b,b<32->x.getLsbD b=y.getLsbD b):x=y:=Av9 h
def Sq (x:BitVec 32)(i:Nat):(E9 .and .u32 (shI .shr .u32 (x.toNat:Int) (i:Int)) 1==1)=x.getLsbD i:=by
 rw[Zd,show (1:Int)=((1#32).toNat:Int) from rfl,Dg];have h:(x >>> i &&& 1#32)=(BitVec.ofBool (x.getLsbD i)).setWidth 32:=by
  apply Av9;intro j b;simp only[As2,AE9,AF9,AH1];by_cases a:j=0
  .subst a;simp
  have:(1#32).getLsbD j=false:=by rw[AF0];simp[a]
  simp[this,a]
 rw[h];cases x.getLsbD i<;>rfl
def Ad8 (i:Nat):shI .shl .u32 1 (i:Int)=((1#32 <<< i).toNat:Int):=by rw[show (1:Int)=((1#32).toNat:Int) from rfl,Ak1]
def VT {i j:Nat}(a:j<32):(1#32 <<< i).getLsbD j=decide (j=i):=by
 rw[AF6,AF0];by_cases h:j=i
 .subst h;simp[a]
 by_cases b:j<i
 .simp[h,b]
 have:j-i≠0:=by omega
 simp[h,this]
def EC (x:BitVec 32):x.toNat<16777216 ↔ ∀i,24<=i->i<32->x.getLsbD i=false:=by
 constructor
 .intro h i a b;exact AG3 (As7 h (Az7 (n:=2) (i:=24) (by omega) a))
 intro h;refine Nat.lt_pow_two_of_testBit (n:=24) _ fun i a=>?_;by_cases c:i<32
 .exact h i a c
 exact AG3 (As7 x.isLt (Az7 (by omega) (by omega)))
def vB (p m:BitVec 32):Bool:=decide (∀i:Fin 32,¬(p.getLsbD i=true/\m.getLsbD i=true)/\(24<=i.1->p.getLsbD i=false/\m.getLsbD i=false))
def DS (p m:BitVec 32):vB p m=true ↔ ∀i,i<32->¬(p.getLsbD i=true/\m.getLsbD i=true)/\(24<=i->p.getLsbD i=false/\m.getLsbD i=false):=by rw[vB,Nj];exact⟨fun h i a=>h ⟨i,a⟩,fun h i=>h i.1 i.2⟩
def Sr (p m:BitVec 32):p &&& m=0#32 ↔ ∀i,i<32->¬(p.getLsbD i=true/\m.getLsbD i=true):=by rw[z32];refine forall_congr' fun i=>forall_congr' fun a=>?_;rw[As2,Bool.and_eq_false_iff];cases p.getLsbD i<;>cases m.getLsbD i<;>simp
def An9 (p m:BitVec 32):vB p m=true↔p &&& m=0#32/\(p ||| m).toNat<16777216:=by
 rw[DS,Sr,EC];constructor
 .intro h;refine⟨fun i a=>(h i a).1,fun i h1 b=>?_⟩
  have:=(h i b).2 h1
  rw[As0,this.1,this.2];rfl
 rintro⟨h1,b⟩ i a;refine⟨h1 i a,fun c=>?_⟩
 have:=b i c a
 rw[As0,Az8]at this;exact this
def Ao0 (p m:BitVec 32):vB p m=true↔p &&& m=0#32/\p.toNat<16777216/\m.toNat<16777216:=by rw[DS,Sr,EC,EC];exact⟨fun h=>⟨fun i a=>(h i a).1,fun i h1 b=>((h i b).2 h1).1,fun i h1 b=>((h i b).2 h1).2⟩,fun⟨h1,b,d⟩ i a=>⟨h1 i a,fun c=>⟨b i c a,d i c a⟩⟩⟩
def Aj (p m:BitVec 32):F2 N (sOf p m)=some (vB p m):=by unfold F2;rw[Dg,HW,eq0];congr 1;rw[At9,An9];simp only[Aq7,Nj];exact⟨fun h=>⟨h.1,by have:=h.2;omega⟩,fun h=>⟨h.1,by have:=h.2;omega⟩⟩
def shr24 (x:BitVec 32):(shI .shr .u32 (x.toNat:Int) 24==0)=decide (x.toNat<16777216):=by
 rw[show (24:Int)=((24:Nat):Int) from rfl,Zd,At9];simp only[beq_iff_eq,Nj,AC1,AC0]
 have:=AI2 (a:=x.toNat) (b:=2 ^ 24)
 omega
def Pf (p m:BitVec 32):Y8 N (sOf p m)=some (vB p m):=by unfold Y8;rw[Dg,HW,eq0,shr24];congr 1;rw[At9,An9];simp only[Aq7,Nj]
def Pg (p m:BitVec 32):L0 N (sOf p m)=some (vB p m):=Pf (N:=N) p m
def Md (p m:BitVec 32):R9 N (sOf p m)=some (vB p m):=by unfold R9;rw[Dg,eq0];congr 1;rw[At9,Ao0];simp only[Aq7,Nj];exact⟨fun h=>⟨h.1.1,by have:=h.1.2;omega,by have:=h.2;omega⟩,fun h=>⟨⟨h.1,by have:=h.2.1;omega⟩,by have:=h.2.2;omega⟩⟩
def U4 (p m:BitVec 32)(n:1000<=N):I1 N (sOf p m)=some (vB p m):=by
 suffices h:∃r,I1 N (sOf p m)=some r/\r=vB p m by obtain⟨r,h,rfl⟩:=h;exact h
 unfold I1;refine Fb (fun i x1=>x1=(i:Int)/\∀j,j<i->¬(p.getLsbD j=true/\m.getLsbD j=true)/\(24<=j->p.getLsbD j=false/\m.getLsbD j=false)) 32 _ (by omega) ⟨rfl,fun j d=>Ng d (by omega)⟩ ?_;rintro g i x1 o ⟨rfl,h1⟩ hs;by_cases hl:i<32
 .refine Ba (Al ?_);simp only[Sq];have e24:decide ((24:Int)<=(i:Int))=decide (24<=i):=decide_eq_decide.2 (by omega);rw[e24];by_cases hb:¬(p.getLsbD i=true/\m.getLsbD i=true)/\(24<=i->p.getLsbD i=false/\m.getLsbD i=false)
  .refine ifF ?_ (hs hl _ ⟨Iz,fun j d=>?_⟩)
   .intro h;obtain⟨l,f⟩:=hb;revert h l f;by_cases c:24<=i
    .intro h l f;obtain⟨a,b⟩:=f c;simp[a,b]at h
    cases p.getLsbD i<;>cases m.getLsbD i<;>simp[c]
   by_cases e:j=i
   .subst e;exact hb
   exact h1 j (by omega)
  refine ifT ?_ ⟨false,rfl,?_⟩
  .revert hb;by_cases c:24<=i
   .cases p.getLsbD i<;>cases m.getLsbD i<;>simp[c]
   cases p.getLsbD i<;>cases m.getLsbD i<;>simp[c]
  symm;rw[<- AD7,DS];exact fun h=>hb (h i hl)
 refine Ft ⟨true,rfl,?_⟩;symm;rw[DS];exact fun j d=>h1 j (by omega)
def gB (p m:BitVec 32)(f:Nat):Int:=if p.getLsbD f then 1 else if m.getLsbD f then -1 else 0
def Ss (p m:BitVec 32)(a:vB p m=true)(f:Nat)(c:f<24)(b:1000<=N):Z9 N (sOf p m) (f:Int)=some (gB p m f):=by
 unfold Z9;rw[U4 p m b];simp only[Aq5,lt,GM,Sq,gB,a];rw[Nd (by omega:(0:Int)<=(f:Int)),Nd (by omega:(0:Int)<=(f:Int))];have e:(decide ((0:Int)<=(f:Int))&&decide ((f:Int)<24))=true:=by simp;omega
 rw[e];cases h1:p.getLsbD f<;>cases d:m.getLsbD f<;>simp
def gB_eq {p m a b:BitVec 32}(g:vB p m=true)(c : vB a b=true)(f:Nat)(d:f<32):(gB a b f≠0->gB p m f=gB a b f)↔((a.getLsbD f=true->p.getLsbD f=true)/\(b.getLsbD f=true->m.getLsbD f=true)):=by have h1:=((DS p m).1 g f d).1;have i:=((DS a b).1 c f d).1;revert h1 i;simp only[gB];cases a.getLsbD f<;>cases b.getLsbD f<;>cases p.getLsbD f<;>cases m.getLsbD f<;>simp
def Uk (p m a b:BitVec 32):Bool:=vB p m&&(vB a b&&decide (∀i:Fin 32,(a.getLsbD i=true->p.getLsbD i=true)/\(b.getLsbD i=true->m.getLsbD i=true)))
def Ad9 (a p:BitVec 32):a &&& ~~~ p=0#32 ↔ ∀i,i<32->(a.getLsbD i=true->p.getLsbD i=true):=by rw[z32];refine forall_congr' fun i=>forall_congr' fun b=>?_;rw[As2,Av5];cases a.getLsbD i<;>cases p.getLsbD i<;>simp[b]
def Ae0 (p m a b:BitVec 32):I0 N (sOf p m) (sOf a b)=some (Uk p m a b):=by
 unfold I0;rw[Aj];simp only[Aq5,lt,Aj,CH,eq0,Uk];cases h1:vB p m
 .simp
 cases d:vB a b
 .simp
 simp only[Nh,AC6];have key:(decide (∀i:Fin 32,(a.getLsbD i=true->p.getLsbD i=true)/\(b.getLsbD i=true->m.getLsbD i=true)))=(decide (a &&& ~~~ p=0#32)&&decide (b &&& ~~~ m=0#32)):=by rw[At9];simp only[Aq7,Nj,Ad9];exact⟨fun h=>⟨fun i c=>(h ⟨i,c⟩).1,fun i c=>(h ⟨i,c⟩).2⟩,fun h i=>⟨h.1 i.1 i.2,h.2 i.1 i.2⟩⟩
 rw[key];by_cases h:a &&& ~~~ p=0#32
 .simp[h]
 simp[h]
def Ae1 (p m a b:BitVec 32)(f:1000<=N):R7 N (sOf p m) (sOf a b)=some (Uk p m a b):=by
 suffices h:∃r,R7 N (sOf p m) (sOf a b)=some r/\r=Uk p m a b by obtain⟨r,h,rfl⟩:=h;exact h
 unfold R7;rw[U4 p m f];refine B0 rfl (ltX ?_);cases h1:vB p m
 .exact Bh (ifT rfl ⟨false,rfl,by simp[Uk,h1]⟩)
 refine Hs ?_;rw[U4 a b f];refine B0 rfl ?_;cases c:vB a b
 .exact Bh ⟨false,rfl,by simp[Uk,c]⟩
 refine Hs ?_;refine Fb (fun i x3=>x3=(i:Int)/\∀j,j<i->((a.getLsbD j=true->p.getLsbD j=true)/\(b.getLsbD j=true->m.getLsbD j=true))) 24 _ (by omega) ⟨rfl,fun j n=>Ng n (by omega)⟩ ?_;rintro d i x3 q ⟨rfl,o⟩ hs;by_cases hl:i<24
 .refine Ba (B0 (Ss a b c i hl f) (ltX ?_));have key:=gB_eq h1 c i (by omega);have fin:(¬(gB a b i≠0->gB p m i=gB a b i))->false=Uk p m a b:=fun hn=>by symm;simp only[Uk,h1,c,AC6];rw[<- AD7,Nj];intro h;exact hn (key.2 (h ⟨i,by omega⟩))
  have go:(gB a b i≠0->gB p m i=gB a b i)->∃r,d (wrap .i64 ((i:Int)+1))=some r/\r=Uk p m a b:=fun hp=>hs hl _ ⟨Iz,fun j n=>by
   by_cases e:j=i
   .subst e;exact key.1 hp
   exact o j (by omega)⟩
  by_cases g:gB a b i=0
  .exact ifF (by simp[g]) (Hs (go fun h=>Ng g h))
  refine ifT (by simp[g]) (B0 (Ss p m h1 i hl f) ?_);by_cases l:gB p m i=gB a b i
  .exact ifF (by simp[l]) (go fun _=>l)
  exact ifT (by simp[l]) ⟨false,rfl,fin fun h=>l (h g)⟩
 refine Ft ⟨true,rfl,?_⟩;symm;simp only[Uk,h1,c,AC6,Nj];intro j;by_cases n:j.1<24
 .exact o j.1 (by omega)
 have:=((DS a b).1 c j.1 j.2).2 (by omega)
 exact⟨fun h=>by rw[this.1]at h;exact Ng h (by simp),fun h=>by rw[this.2]at h;exact Ng h (by simp)⟩
def ND (x y s:BitVec 32):BitVec 32:=(x &&& ~~~ s) ||| (y &&& s)
def Zn (p m a b s:BitVec 32):Ax N (sOf p m) (sOf a b) (s.toNat:Int)=some (sOf (ND p a s) (ND m b s)):=by unfold Ax;simp only[CH,Dg,HW,ND]
def Ao1 (x:BitVec 32)(f:Nat)(on:Bool):BitVec 32:=if on then (x &&& ~~~ (1#32 <<< f)) ||| (1#32 <<< f)else x &&& ~~~ (1#32 <<< f)
def EX (x:BitVec 32)(f:Nat)(on:Bool){j:Nat}(a:j<32):(Ao1 x f on).getLsbD j=if j=f then on else x.getLsbD j:=by
 unfold Ao1;cases on
 .rw[Nf (by simp),As2,Av5,VT a];by_cases e:j=f<;>simp[e,a]
 rw[Nd rfl,As0,As2,Av5,VT a];by_cases e:j=f<;>simp[e,a]
def VU (p m:BitVec 32)(f:Nat)(v:Int):CO N (sOf p m) (f:Int) v=some (sOf (Ao1 p f (v==1)) (Ao1 m f (v == -1))):=by unfold CO;rw[J4];simp only[Ad8,CH,HW];cases h1:v==1<;>cases a:v == -1<;>simp[Ao1]
def Yh (p m c a b:BitVec 32):Qz×Int:=if vB p m=true/\vB a b then (if c.toNat<16777216/\c &&& (a ||| b)=0#32 then (sOf (ND p a (c ||| (a ||| b))) (ND m b (c ||| (a ||| b))),0)else (⟨0,0⟩,2))else (⟨0,0⟩,14)
def TL (p m c a b:BitVec 32):K9 N (sOf p m) (c.toNat:Int) (sOf a b)=some (Yh p m c a b):=by
 unfold K9 Yh;rw[Aj];simp only[Aq5,lt,Aj,BD,HW,Dg,Zn];cases h1:vB p m
 .simp
 cases g:vB a b
 .simp
 by_cases d:c.toNat<16777216
 .have e:((c &&& (a ||| b)).toNat:Int) != 0 ↔ ¬(c &&& (a ||| b)=0#32):=by
   have:=eq0 (c &&& (a ||| b))
   simp only[bne_iff_ne,ne_eq];rw[<- Nj (p:=c &&& (a ||| b)=0#32),<- this];simp
  by_cases f:c &&& (a ||| b)=0#32
  .simp[d,f];omega
  have e':=e.2 f;rw[Nf (by simp<;>omega),e'];simp[d,f]
 simp[d];omega
def TM (p m c a b:BitVec 32)(t:1000<=N):R8 N (sOf p m) (c.toNat:Int) (sOf a b)=some (Yh p m c a b):=by
 suffices h:∃r,R8 N (sOf p m) (c.toNat:Int) (sOf a b)=some r/\r=Yh p m c a b by obtain⟨r,h,rfl⟩:=h;exact h
 unfold R8;rw[U4 p m t];refine B0 rfl (ltX ?_);cases h1:vB p m
 .exact Bh (ifT rfl ⟨_,rfl,by simp[Yh,h1]⟩)
 refine Hs ?_;rw[U4 a b t];refine B0 rfl ?_;cases o:vB a b
 .exact Bh ⟨_,rfl,by simp[Yh,o]⟩
 refine Hs ?_;rw[HW,Dg];by_cases hc:c.toNat<16777216/\c &&& (a ||| b)=0#32
 .obtain⟨q,n⟩:=hc;refine ifF (by rw[n];simp;omega) ?_;have y:∀j,j<32->¬(c.getLsbD j=true/\(a.getLsbD j=true \/ b.getLsbD j=true)):=fun j d=>by
   have:=(z32 _).1 n j d
   rw[As2,As0]at this;revert this;cases c.getLsbD j<;>cases a.getLsbD j<;>cases b.getLsbD j<;>simp
  refine Yf (fun i x2 x3 x4=>x4=(i:Int)/\∃P M:BitVec 32,x2=(P.toNat:Int)/\x3=(M.toNat:Int)/\∀j,j<32 ->
   P.getLsbD j=(if j<i/\(c.getLsbD j=true \/ a.getLsbD j=true \/ b.getLsbD j=true)then a.getLsbD j else p.getLsbD j)/\M.getLsbD j=(if j<i/\(c.getLsbD j=true \/ a.getLsbD j=true \/ b.getLsbD j=true)then b.getLsbD j else m.getLsbD j)) 24 _ (by omega)
   ⟨rfl,p,m,rfl,rfl,fun j d=>by simp⟩ ?_
  rintro w i x2 x3 x4 hi ⟨rfl,P,M,rfl,rfl,f⟩ hs;by_cases hl:i<24
  .refine Ba (Al ?_);rw[Sq];have u:=Ss (N:=N) a b o i hl t;have v:=((DS a b).1 o i (by omega)).1;have z:=y i (by omega);by_cases l:c.getLsbD i=true
   .refine ifT l (B0 (VU P M i 0) (B0 u ?_));have ea:a.getLsbD i=false:=by cases e:a.getLsbD i<;>simp_all
    have eb:b.getLsbD i=false:=by cases e:b.getLsbD i<;>simp_all
    refine ifF (by simp[gB,ea,eb]) (hs hl _ _ _ ⟨Iz,_,_,rfl,rfl,fun j d=>?_⟩);rw[EX _ _ _ d,EX _ _ _ d];by_cases e:j=i
    .subst e;simp[l,ea,eb]
    have:=f j d
    have e2:j<i+1↔j<i:=by omega
    simp only[e,Ni,e2];exact this
   refine ifF l (B0 u ?_);by_cases s:gB a b i=0
   .have ea:a.getLsbD i=false:=by revert s;simp only[gB];cases a.getLsbD i<;>simp
    have eb:b.getLsbD i=false:=by revert s;simp only[gB,ea];cases b.getLsbD i<;>simp
    refine ifF (by simp[s]) (hs hl _ _ _ ⟨Iz,P,M,rfl,rfl,fun j d=>?_⟩);by_cases e:j=i
    .subst e;have:=f j d;simpa[l,ea,eb]using this
    have:=f j d
    have e2:j<i+1↔j<i:=by omega
    simp only[e2];exact this
   refine ifT (by simp[s]) (B0 u (B0 (VU P M i _) (hs hl _ _ _ ⟨Iz,_,_,rfl,rfl,fun j d=>?_⟩)));rw[EX _ _ _ d,EX _ _ _ d];by_cases e:j=i
   .subst e;revert s v;simp only[gB];cases a.getLsbD j<;>cases b.getLsbD j<;>simp
   have:=f j d
   have e2:j<i+1↔j<i:=by omega
   simp only[e,Ni,e2];exact this
  obtain rfl:i=24:=by omega
  refine Hs ⟨_,rfl,?_⟩;simp only[Yh,h1,o,q,n,and_self,Nh];have hp:=(DS p m).1 h1;have x:=(DS a b).1 o;have a0:=(EC c).1 q;have eP:P=ND p a (c ||| (a ||| b)):=GT fun j d=>by
   rw[(f j d).1,ND,As0,As2,As2,Av5,As0,As0];by_cases g:j<24
   .cases c.getLsbD j<;>cases a.getLsbD j<;>cases b.getLsbD j<;>cases p.getLsbD j<;>simp[g,d]
   have g1:=(hp j d).2 (by omega);have g2:=(x j d).2 (by omega);simp[g,g1.1,g2.1]
  have eM:M=ND m b (c ||| (a ||| b)):=GT fun j d=>by
   rw[(f j d).2,ND,As0,As2,As2,Av5,As0,As0];by_cases g:j<24
   .cases c.getLsbD j<;>cases a.getLsbD j<;>cases b.getLsbD j<;>cases m.getLsbD j<;>simp[g,d]
   have g1:=(hp j d).2 (by omega);have g2:=(x j d).2 (by omega);simp[g,g1.2,g2.2]
  rw[eP,eM]
 refine ifT ?_ ⟨_,rfl,?_⟩
 .rw[At0,Nj,bne_iff_ne];by_cases h:c.toNat<16777216
  .right
   intro h0;exact hc ⟨h,Au3 (by show _=0;omega)⟩
  left;omega
 simp only[Yh,h1,o,and_self,Nh];rw[Nf hc]
def Yi (p m a b s:BitVec 32):Qz×Int:=if vB p m=true/\vB a b then (if s.toNat<16777216 then (sOf (ND p a s) (ND m b s),0)else (⟨0,0⟩,2))else (⟨0,0⟩,14)
def Yj (p m a b s:BitVec 32):P2 N (sOf p m) (sOf a b) (s.toNat:Int)=some (Yi p m a b s):=by
 unfold P2 Yi;rw[Aj];simp only[Aq5,lt,Aj,Zn];cases h1:vB p m
 .simp
 cases d:vB a b
 .simp
 by_cases c:s.toNat<16777216
 .simp[c];omega
 simp[c];omega
def Yk (p m a b s:BitVec 32)(o:1000<=N):Ay N (sOf p m) (sOf a b) (s.toNat:Int)=some (Yi p m a b s):=by
 suffices h:∃r,Ay N (sOf p m) (sOf a b) (s.toNat:Int)=some r/\r=Yi p m a b s by obtain⟨r,h,rfl⟩:=h;exact h
 unfold Ay;rw[U4 p m o];refine B0 rfl (ltX ?_);cases h1:vB p m
 .exact Bh (ifT rfl ⟨_,rfl,by simp[Yi,h1]⟩)
 refine Hs ?_;rw[U4 a b o];refine B0 rfl ?_;cases l:vB a b
 .exact Bh ⟨_,rfl,by simp[Yi,l]⟩
 refine Hs ?_;by_cases hc:s.toNat<16777216
 .refine Ft ?_;refine Yf (fun i x2 x3 x4=>x4=(i:Int)/\∃P M:BitVec 32,x2=(P.toNat:Int)/\x3=(M.toNat:Int)/\∀j,j<32 ->
   P.getLsbD j=(if j<i/\s.getLsbD j then a.getLsbD j else p.getLsbD j)/\M.getLsbD j=(if j<i/\s.getLsbD j then b.getLsbD j else m.getLsbD j)) 24 _ (by omega)
   ⟨rfl,p,m,rfl,rfl,fun j c=>by simp⟩ ?_
  rintro t i x2 x3 x4 u ⟨rfl,P,M,rfl,rfl,d⟩ hs;by_cases hl:i<24
  .refine Ba (Al ?_);rw[Sq];have q:=((DS a b).1 l i (by omega)).1;by_cases g:s.getLsbD i=true
   .refine ifT g (B0 (Ss (N:=N) a b l i hl o) (B0 (VU P M i _) (hs hl _ _ _ ⟨Iz,_,_,rfl,rfl,fun j c=>?_⟩)));rw[EX _ _ _ c,EX _ _ _ c];by_cases e:j=i
    .subst e;revert q;simp only[gB,g];cases a.getLsbD j<;>cases b.getLsbD j<;>simp
    have:=d j c
    have e2:j<i+1↔j<i:=by omega
    simp only[e,Ni,e2];exact this
   refine ifF g (hs hl _ _ _ ⟨Iz,P,M,rfl,rfl,fun j c=>?_⟩);by_cases e:j=i
   .subst e;have:=d j c;simpa[g]using this
   have:=d j c
   have e2:j<i+1↔j<i:=by omega
   simp only[e2];exact this
  obtain rfl:i=24:=by omega
  refine Hs ⟨_,rfl,?_⟩;simp only[Yi,h1,l,hc,and_self,Nh];have n:=(EC s).1 hc;have eP:P=ND p a s:=GT fun j c=>by
   rw[(d j c).1,ND,As0,As2,As2,Av5];by_cases f:j<24
   .cases s.getLsbD j<;>cases a.getLsbD j<;>cases p.getLsbD j<;>simp[f,c]
   rw[Nf (by simp[f]),n j (by omega) c];simp[c]
  have eM:M=ND m b s:=GT fun j c=>by
   rw[(d j c).2,ND,As0,As2,As2,Av5];by_cases f:j<24
   .cases s.getLsbD j<;>cases b.getLsbD j<;>cases m.getLsbD j<;>simp[f,c]
   rw[Nf (by simp[f]),n j (by omega) c];simp[c]
  rw[eP,eM]
 exact Ba ⟨_,rfl,by simp[Yi,h1,l,hc]⟩
end Go.AM
namespace Go.AM
open Go.Proofs
def vS (s:Qz):Prop:=∃p m:BitVec 32,s=sOf p m/\vB p m=true
def Fc (p:Pat):Prop:= (0<=p.Kind/\p.Kind<=6)/\(p.Kind≠1->(p.Is.Plus=0/\p.Is.Minus=0)/\p.Not=false)/\(p.Kind≠3->p.Kind≠4->p.Kind≠5->p.L.n=0)/\(p.Kind≠5->p.Min=0/\p.Max=0) /\ (p.Kind=5->p.L.n=1/\0<=p.Min/\p.Min<=32/\(p.Max = -1 \/ (p.Min<=p.Max/\p.Max<=32)))/\vS p.Is
def QX {s:Qz}{p m:BitVec 32}(h:s=sOf p m):vS s↔vB p m=true:=by
 constructor
 .rintro⟨q,r,e,a⟩;rw[h]at e;have e1:(p.toNat:Int)=q.toNat:=congrArg Qz.Plus e;have e2:(m.toNat:Int)=r.toNat:=congrArg Qz.Minus e;rw[Au3 (show p.toNat=q.toNat by omega),Au3 (show m.toNat=r.toNat by omega)];exact a
 exact fun a=>⟨p,m,h,a⟩
def okPS:Pat->Prop
 |.nil=>True
 |.mk _ is _ _ _ n g=>okS is/\∀i,i<n->okPS (g i)
def okPS.is {p:Pat}(h:okPS p):okS p.Is:=by
 cases p with
 |nil=>exact⟨0#32,0#32,rfl⟩
 |mk _ is _ _ _ n g=>exact h.1
def okPS.L {p:Pat}(h:okPS p){i:Nat}(a:i<p.L.n):okPS (p.L.g i):=by
 cases p with
 |nil=>exact Ng a (by show ¬i<0;omega)
 |mk _ is _ _ _ n g=>exact h.2 i a
def chk:Nat->List Pat->Prop
 |0,l=>l=[]
 |_+1,[]=>True
 |k+1,p::l=>Fc p/\chk k (p.L.toList++l)
def VV:∀k,chk k []
 |0=>rfl
 |_+1=>trivial
def Kf:∀(k:Nat) (l:List Pat),chk k l->l.length<=k
 |0,l,h=>by rw[show l=[] from h];exact Aq9 _
 |k+1,[],_=>Az6 _
 |k+1,p::l,⟨_,h⟩=>by
  have:=Kf k _ h
  rw[Au6]at this;simp only[As6];omega
def Su:∀(d:Nat) (p:Pat),okP d p->okP (d+1) p
 |0,_,h=>h.elim
 |d+1,p,⟨h1,h2,h3⟩=>⟨h1,h2,fun i a=>Su d _ (h3 i a)⟩
def HC {α : Type}{s:Sl α}{i:Nat}(h:i<s.n):s.g i∈s.toList:=Ax4.2 ⟨i,Aw8.2 h,rfl⟩
def U5 {α : Type}(s:Sl α):s.toList.length=s.n:=by simp[Sl.toList]
def Ph:∀(k:Nat) (l:List Pat),k<=40->chk k l->∀p∈l,okP k p
 |0,l,_,h,p,hp=>by rw[show l=[] from h]at hp;cases hp
 |k+1,[],_,_,p,hp=>by cases hp
 |k+1,q::l,hk,⟨hn,h⟩,p,hp=>by
  have ih:=Ph k _ (by omega) h;rcases At6.1 hp with rfl|hp
  .have hl:=Kf k _ h;rw[Au6,U5]at hl;exact⟨by omega,fun a=>hn.2.2.2.2.1 a,fun i b=>ih _ (At2 _ (HC b))⟩
  exact Su k p (ih p (Ar9 _ hp))
def Yl {N:Nat}{p:Pat}(hp:okS p.Is):∃e,Hv N p=some e/\(e=0↔Fc p):=by
 obtain⟨a,b,f⟩:=hp;have i:=QX f;unfold Hv Fc;by_cases h1:0<=p.Kind/\p.Kind<=6
 case neg=>exact Ba ⟨2,rfl,by simp;omega⟩
 refine Ft ?_;have e0:((p.Is.Plus==0)&&(p.Is.Minus==0))=decide (p.Is.Plus=0/\p.Is.Minus=0):=by rw[At9];simp
 rw[e0];by_cases c:p.Kind≠1->(p.Is.Plus=0/\p.Is.Minus=0)/\p.Not=false
 case neg=>
  refine ifT ?_ ⟨2,rfl,by simp[c]⟩;simp only[Aq7,At0,bne_iff_ne,ne_eq,AD7,decide_eq_false_iff_not];rw[Classical.not_imp]at c;refine⟨c.1,?_⟩;by_cases h:p.Is.Plus=0/\p.Is.Minus=0
  .right
   cases hn:p.Not
   .exact Ng ⟨h,hn⟩ c.2
   rfl
  exact .inl h
 refine ifF ?_ (ltX ?_)
 .simp only[Aq7,At0,bne_iff_ne,ne_eq,AD7,decide_eq_false_iff_not];rintro⟨g1,g2⟩;obtain⟨g3,g4⟩:=c g1;rcases g2 with g2|g2
  .exact g2 g3
  rw[g4]at g2;cases g2
 have rest:(p.Kind≠3->p.Kind≠4->p.Kind≠5->p.L.n=0)->∃e,(if ((p.Kind != 5)&&((p.Min != 0)||(p.Max != 0))) then some (2:Int)else
  lt (fun (z2:Bool)=>if z2 then some 2 else (R9 N p.Is).bind fun y1=>if (!y1) then some 14 else some 0) fun k2=>
   if (p.Kind==5) then if (((p.L.n:Nat):Int) != 1) then k2 true else if (decide (p.Min<0)) then k2 true else if (decide (32<p.Min)) then k2 true else
    if (p.Max != (-1)) then if (decide (p.Max<p.Min)) then k2 true else k2 (decide (32<p.Max))else k2 false else k2 false)=some e /\
  (e=0↔(0<=p.Kind/\p.Kind<=6)/\(p.Kind≠1->(p.Is.Plus=0/\p.Is.Minus=0)/\p.Not=false)/\(p.Kind≠3->p.Kind≠4->p.Kind≠5->p.L.n=0)/\(p.Kind≠5->p.Min=0/\p.Max=0) /\
   (p.Kind=5->p.L.n=1/\0<=p.Min/\p.Min<=32/\(p.Max = -1 \/ (p.Min<=p.Max/\p.Max<=32)))/\vS p.Is):=by
  intro j;by_cases d:p.Kind≠5->p.Min=0/\p.Max=0
  case neg=>refine ifT ?_ ⟨2,rfl,by simp[d]⟩;rw[Classical.not_imp]at d;simp only[Aq7,At0,bne_iff_ne,ne_eq];omega
  refine ifF ?_ (ltX ?_)
  .simp only[Aq7,At0,bne_iff_ne,ne_eq];rintro⟨g1,g2⟩
   have:=d g1
   omega
  have last:(p.Kind=5->p.L.n=1/\0<=p.Min/\p.Min<=32/\(p.Max = -1 \/ (p.Min<=p.Max/\p.Max<=32)))->∃e,(if false then some (2:Int)else (R9 N p.Is).bind fun y1=>if (!y1) then some 14 else some 0)=some e /\
   (e=0↔(0<=p.Kind/\p.Kind<=6)/\(p.Kind≠1->(p.Is.Plus=0/\p.Is.Minus=0)/\p.Not=false)/\(p.Kind≠3->p.Kind≠4->p.Kind≠5->p.L.n=0)/\(p.Kind≠5->p.Min=0/\p.Max=0) /\
    (p.Kind=5->p.L.n=1/\0<=p.Min/\p.Min<=32/\(p.Max = -1 \/ (p.Min<=p.Max/\p.Max<=32)))/\vS p.Is):=by
   intro g;refine Hs ?_;rw[i,f,Md];refine B0 rfl ?_;cases l:vB a b
   .exact ifT rfl ⟨14,rfl,by simp⟩
   exact Hs ⟨0,rfl,by rw[<- f];exact⟨fun _=>⟨h1,c,j,d,g,rfl⟩,fun _=>rfl⟩⟩
  have bad:¬(p.Kind=5->p.L.n=1/\0<=p.Min/\p.Min<=32/\(p.Max = -1 \/ (p.Min<=p.Max/\p.Max<=32)))->∃e,(if true then some (2:Int)else (R9 N p.Is).bind fun y1=>if (!y1) then some 14 else some 0)=some e /\
   (e=0↔(0<=p.Kind/\p.Kind<=6)/\(p.Kind≠1->(p.Is.Plus=0/\p.Is.Minus=0)/\p.Not=false)/\(p.Kind≠3->p.Kind≠4->p.Kind≠5->p.L.n=0)/\(p.Kind≠5->p.Min=0/\p.Max=0) /\
    (p.Kind=5->p.L.n=1/\0<=p.Min/\p.Min<=32/\(p.Max = -1 \/ (p.Min<=p.Max/\p.Max<=32)))/\vS p.Is):=fun g=>ifT rfl ⟨2,rfl,⟨fun h=>Ng h (by decide),fun h=>Ng h.2.2.2.2.1 g⟩⟩
  by_cases k5:p.Kind=5
  .refine ifT (by simp[k5]) ?_;by_cases g1:p.L.n=1
   case neg=>exact Ba (bad fun h=>g1 (h k5).1)
   refine Ft ?_;by_cases g2:p.Min<0
   .exact ifT (by simpa using g2) (bad fun h=>by have:=h k5;omega)
   refine ifF (by simpa using g2) ?_;by_cases g3:32<p.Min
   .exact ifT (by simpa using g3) (bad fun h=>by have:=h k5;omega)
   refine ifF (by simpa using g3) ?_;by_cases g4:p.Max = -1
   .exact ifF (by simp[g4]) (last fun _=>⟨g1,by omega,by omega,.inl g4⟩)
   refine ifT (by simp[g4]) ?_;by_cases g5:p.Max<p.Min
   .exact ifT (by simpa using g5) (bad fun h=>by have:=h k5;omega)
   refine ifF (by simpa using g5) ?_;by_cases g6:32<p.Max
   .rw[decide_eq_true g6];exact bad fun h=>by have:=h k5;omega
   rw[decide_eq_false g6];exact last fun _=>⟨g1,by omega,by omega,.inr ⟨by omega,by omega⟩⟩
  exact ifF (by simp[k5]) (last fun h=>Ng h k5)
 by_cases k3:p.Kind=3
 .exact ifF (by simp[k3]) (Hs (rest fun h=>Ng k3 h))
 refine ifT (by simp[k3]) ?_;by_cases k4:p.Kind=4
 .exact ifF (by simp[k4]) (Hs (rest fun _ h=>Ng k4 h))
 refine ifT (by simp[k4]) ?_;by_cases k5:p.Kind=5
 .exact ifF (by simp[k5]) (Hs (rest fun _ _ h=>Ng k5 h))
 refine ifT (by simp[k5]) ?_;by_cases hn:p.L.n=0
 .exact Ft (rest fun _ _ _=>hn)
 exact Ba ⟨2,rfl,⟨fun h=>Ng h (by decide),fun h=>Ng (h.2.2.1 k3 k4 k5) hn⟩⟩
def BO {α : Type}(s:Sl α){i:Nat}(h:i<s.n):s.toList.drop i=s.g i::s.toList.drop (i+1):=by
 have hl:i<s.toList.length:=by rw[U5];exact h
 rw[Ax6 hl];simp[Sl.toList]
def Ak {α : Type}(s:Sl α):s.toList.drop s.n=[]:=Aw7 (by rw[U5];exact Aq9 _)
def VW {N:Nat}(o:1000<=N):∀(d:Nat),d<=40->∀(p:Pat),okPS p->∀M,N+d+1<=M->∃r,CQ M p ((40-d:Nat):Int)=some r /\
 ∃k:Nat,r.1=(k:Int)/\40-d<=k/\k<=40/\(r.2=0->40-d<k/\∀l,chk d (p::l)↔chk (40-k) l)/\(r.2≠0->∀l,¬chk d (p::l))
 |d,hd,p,hp,0,hM=>by omega
 |0,hd,p,hp,M+1,hM=>by show ∃r,AO (CQ M) M p _=some r/\_;unfold AO;exact Bh ⟨_,rfl,40,rfl,by omega,by omega,fun h=>Ng h (by decide),fun _ l h=>by cases h⟩
 |d+1,hd,p,hp,M+1,hM=>by
  show ∃r,AO (CQ M) M p _=some r/\_;unfold AO;refine Ft ?_;obtain⟨e,q,hn⟩:=Yl (N:=M) hp.is;refine B0 q ?_;by_cases c:e=0
  case neg=>exact ifT (by simp[c]) ⟨_,rfl,40-(d+1),rfl,Aq9 _,by omega,fun h=>Ng h c,fun _ l h=>c (hn.2 h.1)⟩
  refine ifF (by simp[c]) ?_;have a:=hn.1 c;rw[Iz];refine Ai (fun i x1 x2=>x2=(i:Int)/\∃k:Nat,x1=(k:Int)/\40-(d+1)+1+i<=k/\k<=40/\i<=p.L.n/\∀l,chk (d+1) (p::l)↔chk (40-k) (p.L.toList.drop i++l)) 41 _ (by omega)
   ⟨rfl,40-(d+1)+1,rfl,by omega,by omega,by omega,fun l=>by rw[show 40-(40-(d+1)+1)=d by omega];exact⟨fun h=>h.2,fun h=>⟨a,h⟩⟩⟩ ?_
  rintro j i x1 x2 t ⟨rfl,k,rfl,h1,s,u,f⟩ hs;by_cases hl:i<p.L.n
  .refine Ba (Al ?_);obtain⟨r,m,k',r1,r2,r3,r4,r5⟩:=VW o (40-k) (by omega) (p.L.g i) (hp.L hl) M (by omega);rw[show ((40-(40-k):Nat):Int)=(k:Int) by omega]at m;refine B0 (by rw[Aq6];exact m) ?_;by_cases b:r.2=0
   .refine ifF (by simp[b]) (hs (by omega) _ _ ⟨Iz,k',r1,by have:=(r4 b).1;omega,r3,by omega,fun l=>?_⟩);rw[f,BO _ hl,Au5];exact (r4 b).2 _
   refine ifT (by simp[b]) ⟨_,rfl,k',r1,by omega,r3,fun h=>Ng h b,fun _ l hc=>?_⟩;rw[f,BO _ hl,Au5]at hc;exact r5 b _ hc
  obtain rfl:i=p.L.n:=by omega
  refine Hs ⟨_,rfl,k,rfl,by omega,s,fun _=>⟨by omega,fun l=>?_⟩,fun h=>Ng rfl h⟩;rw[f,Ak];rfl
def Kg {N:Nat}(f:2000<=N){p:Pat}(hp:okPS p):∃e,BG N p=some e/\(e=0↔chk 40 [p]):=by
 obtain⟨r,b,k,h1,g,i,c,d⟩:=VW (N:=1500) (by omega) 40 (Aq9 _) p hp N (by omega);unfold BG;refine B0 b ⟨_,rfl,fun h=>?_,fun h=>?_⟩
 .exact ((c h).2 []).2 (VV _)
 by_cases a:r.2=0
 .exact a
 exact Ng h (d a [])
end Go.AM
namespace Go.AM
open Go.Proofs
def VX (x:BitVec 64)(h:x≠0#64):Lib.ctz 64 x.toNat<64/\x.getLsbD (Lib.ctz 64 x.toNat)=true/\∀j,j<Lib.ctz 64 x.toNat->x.getLsbD j=false:=by
 have b:x.toNat≠0:=fun e=>h (Au3 (by simpa using e));obtain⟨m,hm,a⟩:=Lib.ctzFrom_spec 64 x.toNat (by omega) x.isLt;have e:Lib.ctz 64 x.toNat=Lib.ctzFrom 64 x.toNat:=by unfold Lib.ctz;rw[Nf b]
 rw[e];refine⟨a,?_,fun j c=>?_⟩
 .show x.toNat.testBit _=true;rw[hm,AG0];simp[<- hm,Nat.testBit_zero]
 show x.toNat.testBit _=false;rw[hm,AG0];simp[<- hm];omega
def DA (x:BitVec 64)(i:Nat):List Int:=((List.range' i (64-i)).filter fun j=>x.getLsbD j).map fun (j:Nat)=>(j:Int)
def HD {x:BitVec 64}{i:Nat}(h:∀j,j<64->x.getLsbD j=false):DA x i=[]:=by
 unfold DA;rw[AG4.2 fun j a=>by
  have:=List.mem_range'.1 a
  simp;exact h j (by omega)]
 rfl
def Me {x:BitVec 64}{t:Nat}:∀(k i:Nat),t=i+k->t<64->x.getLsbD t=true->(∀j,j<t->x.getLsbD j=false)->DA x i=(t:Int)::DA x (t+1)
 |0,i,h,ht,hb,hl=>by
  obtain rfl:t=i:=by omega
  unfold DA;rw[show 64-t=(64-(t+1))+1 by omega,Az3,AC8 hb];rfl
 |k+1,i,h,ht,hb,hl=>by rw[<- Me k (i+1) (by omega) ht hb hl];unfold DA;rw[show 64-i=(64-(i+1))+1 by omega,Az3,AC9 (by simp;exact hl i (by omega))]
def QY {x y:BitVec 64}{i:Nat}(h:∀j,i<=j->x.getLsbD j=y.getLsbD j):DA x i=DA y i:=by unfold DA;rw[List.filter_congr fun j a=>h j (by have:=List.mem_range'.1 a;omega)]
def Ap9 (M:Nat)(a:Int->Option (List Int))(x1:Int):Option (List Int):= if (x1 != 0) then (E7 M x1).bind fun y3=>if (0:Int)<=y3 then P7 y3 (a (E9 .andNot .u64 x1 (shI .shl .u64 1 y3))) else none else some []
def VY {x:BitVec 64}{M:Nat}{a:Int->Option (List Int)}(hx:x≠0#64):Ap9 M a (U x)=P7 ((Lib.ctz 64 x.toNat:Nat):Int) (a (U (x &&& ~~~(1#64 <<< Lib.ctz 64 x.toNat)))):=by
 have c:x.toNat≠0:=fun e=>hx (Au3 (by simpa using e));have b:=x.isLt;unfold Ap9;rw[Nd (by simp;omega)]
 have:E7 M (U x)=some ((Lib.ctz 64 x.toNat:Nat):Int):=by unfold E7;rw[Nd ⟨show (0:Int)<=(x.toNat:Int) by omega,show (x.toNat:Int)<18446744073709551616 by omega⟩];rfl
 rw[this,Aq5,J4,OU _ (VX x hx).1,XZ]
def Pj {M:Nat}{a:Int->Option (List Int)}:Ap9 M a (U 0#64)=some []:=rfl
def Ae2 (M:Nat):∀(k i:Nat) (x:BitVec 64),64-i<=k->(∀j,j<i->x.getLsbD j=false)->∀N,k<N->Ao N (Ap9 M) (U x)=some (DA x i):=by
 intro k
 induction k with
 |zero=>
  intro i x hk hl N b;have g:x=0#64:=Av9 fun j a=>by simp;exact hl j (by omega)
  subst g
  match N,b with
  |N+1,_=>rw[HD fun j a=>by simp,P5,Pj]
 |succ k ih=>
  intro i x hk hl N b
  match N,b with
  |N+1,b=>
   by_cases hx:x=0#64
   .subst hx;rw[HD fun j a=>by simp,P5,Pj]
   obtain⟨h1,c,d⟩:=VX x hx;have l:i<=Lib.ctz 64 x.toNat:=by
    by_cases m:Lib.ctz 64 x.toNat<i
    .rw[hl _ m]at c;cases c
    omega
   rw[Me (Lib.ctz 64 x.toNat-i) i (by omega) h1 c d,P5,VY hx];generalize Lib.ctz 64 x.toNat=t at h1 c d l;have hb:∀j,j<64->(x &&& ~~~(1#64 <<< t)).getLsbD j=(x.getLsbD j && !decide (j=t)):=fun j a=>by rw[As2,Av5,Eo h1 a];simp[a]
   have hc:DA x (t+1)=DA (x &&& ~~~(1#64 <<< t)) (t+1):=QY fun j a=>by
    by_cases f:j<64
    .rw[hb j f];have:¬j=t:=by omega
     simp[this]
    rw[AH6 _ _ (by omega),AH6 _ _ (by omega)]
   rw[ih (t+1) (x &&& ~~~(1#64 <<< t)) (by omega) (fun j a=>by
    rw[hb j (by omega)];by_cases e:j=t
    .simp[e]
    rw[d j (by omega)];rfl) N (by omega),<- hc]
   rfl
def FY (x:BitVec 64){N:Nat}(b:100<=N):N4 N (U x)=some (DA x 0):=
 Ae2 N 64 0 x (by omega) (fun j a=>Ng a (by omega)) N (by omega)
def mem_bitsF {x:BitVec 64}{i:Nat}{y:Int}:y∈DA x i ↔ ∃j:Nat,y=(j:Int)/\i<=j/\j<64/\x.getLsbD j=true:=by
 unfold DA;simp only[Ax4,AA3,Az0];constructor
 .rintro⟨j,⟨h1,a⟩,rfl⟩;exact⟨j,rfl,h1.1,by omega,a⟩
 rintro⟨j,rfl,h1,a,b⟩;exact⟨j,⟨⟨h1,by omega⟩,b⟩,rfl⟩
def Ym {T A R:Type}{body:(A->Option R)->T->A->Option R}{k:A->Option R}{H5:R->Prop}(J:List T->A->Prop)(c:∀a,J [] a->∃r,k a=some r/\H5 r)
 (b:∀t L a self,J (t::L) a->(∀a',J L a' -> ∃r,self a' = some r/\H5 r)->∃r,body self t a=some r/\H5 r):∀(L:List T) (a:A),J L a->∃r,K5 L body k a=some r/\H5 r
 |[],a,h=>c a h
 |t::L,a,h=>b t L a _ h fun a' h'=>Ym J c b L a' h'
def TabA (n:Nat)(R:Nat->Nat->Prop)(f:Nat->Int):Prop:=TabR n R f/\∀a,n<a->f a=0
def TabA.congr {n:Nat}{R R' : Nat->Nat->Prop}{f:Nat->Int}(h:TabA n R f)(c:∀a b,a<=n->b<=n->(R a b↔R' a b)):TabA n R' f:=⟨h.1.congr c,h.2⟩
def zeroA (n:Nat):TabA n (fun _ _=>False) (fun _=>0):=⟨Yg fun _ _=>rfl,fun _ _=>rfl⟩
def Cf (f:Nat->Int)(i:Nat)(v:Int)(a:Nat):Jx f i v a=if a=i then v else f a:=rfl
def Zo {N n:Nat}{R S:Nat->Nat->Prop}{x y:Nat->Int}(hn:n<=32)(f:1000<=N)(hR:TabA n R x)(Z:TabA n S y) :∃s,J2 N x y=some s/\TabA n (fun a b=>R a b \/ S a b) s:=by
 unfold J2;refine Ai (fun i x1 x2=>x2=(i:Int)/\∀a,x1 a=if a<i then E9 .or .u64 (x a) (y a)else x a) 33 _ (by omega) ⟨rfl,fun a=>by rw[Na]⟩ ?_;rintro d i x1 x2 g ⟨rfl,c⟩ hs;by_cases hl:i<33
 .refine Ba (Al (Al (hs (by omega) _ _ ⟨Iz,fun a=>?_⟩)));rw[Cf,Aq6,At5,Av4];by_cases e:a=i
  .subst e;rw[Nd rfl,J4,c a,Na]
  rw[Nf e,c a];by_cases e2:a<i
  .rw[Nd e2,J4]
  rw[Nf e2,Na]
 refine Ft ⟨x1,rfl,fun a ha=>?_,fun a ha=>?_⟩
 .obtain⟨u,e1,g1⟩:=hR.1 a ha;obtain⟨v,e2,g2⟩:=Z.1 a ha;refine⟨u ||| v,by rw[c a,J4,e1,e2,Ap8],fun b hb=>?_⟩;rw[As0,At0,g1 b hb,g2 b hb];constructor
  .rintro (⟨h1,c⟩ | ⟨h1,c⟩)
   .exact⟨h1,.inl c⟩
   exact⟨h1,.inr c⟩
  rintro⟨h1,c|c⟩
  .exact .inl ⟨h1,c⟩
  exact .inr ⟨h1,c⟩
 rw[c a];split
 .rw[hR.2 a ha,Z.2 a ha];rfl
 exact hR.2 a ha
def ED {N n:Nat}(hn:n<=32)(f:1000<=N):∃s,N2 N (n:Int)=some s/\TabA n (fun a b=>a=b) s:=by
 unfold N2;rw[Iz];refine Ai (fun i x1 x2=>x2=(i:Int)/\∀a,x1 a=if a<i then U (1#64 <<< a)else 0) (n+1) _ (by omega) ⟨rfl,fun a=>rfl⟩ ?_;rintro d i x1 x2 g ⟨rfl,c⟩ hs;by_cases hl:i<=n
 .refine Ba (Al (hs (by omega) _ _ ⟨Iz,fun a=>?_⟩));rw[Cf,Aq6,At5,Av4];by_cases e:a=i
  .subst e;rw[Nd rfl,J4,OU _ (by omega)]
  rw[Nf e,c a];by_cases e2:a<i
  .rw[Nd e2,J4]
  rw[Nf e2,Na]
 refine Ft ⟨x1,rfl,fun a ha=>⟨1#64 <<< a,by rw[c a,J4],fun b hb=>?_⟩,fun a ha=>by rw[c a,Na]⟩;rw[Eo (by omega) hb,Nj];omega
def IO {N n:Nat}{R S:Nat->Nat->Prop}{x y:Nat->Int}(hn:n<=32)(hN:1000<=N)(hR:TabA n R x)(Z:TabA n S y) :∃s,C5 N x y=some s/\TabA n (fun a b=>∃c,c<=n/\R a c/\S c b) s:=by
 unfold C5;refine Ai (fun i x3 x4=>x4=(i:Int)/\(∀a,a<i->a<=n->∃z:BitVec 64,x3 a=U z/\∀b,b<64->(z.getLsbD b=true↔b<=n/\∃c,c<=n/\R a c/\S c b))/\∀a,i<=a \/ n<a->x3 a=0) 33 _ (by omega)
  ⟨rfl,fun a ha=>Ng ha (by omega),fun a _=>rfl⟩ ?_
 rintro a1 i x3 x4 hi ⟨rfl,q,m⟩ hs;by_cases hl:i<33
 .refine Ba (Al ?_);rw[Aq6,At5,Av4];refine B0 (x:=x i) rfl ?_;by_cases r:i<=n
  .obtain⟨u,e1,g1⟩:=hR.1 i r;refine B0 (x:=DA u 0) (by rw[e1];exact FY u (by omega)) ?_;refine Ym (fun L z=>(∀a,a≠i->z a=x3 a)/\(∀t∈L,∃c:Nat,t=(c:Int)/\c<=n/\R i c)/\∃v:BitVec 64,z i=U v/\∀b,b<64->((v.getLsbD b=true \/ ∃c:Nat,(c:Int)∈L/\b<=n/\S c b)↔(b<=n/\∃c,c<=n/\R i c/\S c b))) ?_ ?_ _ _ ?_
   .rintro z ⟨k1,k2,v,k3,k4⟩;refine hs (by omega) _ _ ⟨Iz,fun a ha f=>?_,fun a ha=>?_⟩
    .by_cases e:a=i
     .subst e;exact⟨v,k3,fun b hb=>by rw[<- k4 b hb];simp⟩
     obtain⟨z',p1,p2⟩:=q a (by omega) f;exact⟨z',by rw[k1 a e];exact p1,p2⟩
    rw[k1 a (by omega)];exact m a (by omega)
   .rintro t L z w ⟨k1,k2,v,k3,k4⟩ a0;obtain⟨c,rfl,hc,a2⟩:=k2 t (by simp);refine Al (a0 _ ⟨fun a ha=>?_,fun t ht=>k2 t (by simp[ht]),?_⟩)
    .rw[Cf,Na];exact k1 a ha
    obtain⟨yc,e2,g2⟩:=Z.1 c hc;refine⟨v ||| yc,?_,fun b hb=>?_⟩
    .rw[Cf,J4];simp only[Aq6,At5,Av4];rw[k3,e2,Ap8]
    rw[<- k4 b hb,As0,At0,g2 b hb];constructor
    .rintro ((h|⟨h,h'⟩)|⟨c',h,h'⟩)
     .exact .inl h
     .exact .inr ⟨c,by simp,h,h'⟩
     exact .inr ⟨c',by simp[h],h'⟩
    rintro (h|⟨c',h,h',d⟩)
    .exact .inl (.inl h)
    rcases At6.1 h with h|h
    .have:c' = c:=by omega
     subst this;exact .inl (.inr ⟨h',d⟩)
    exact .inr ⟨c',h,h',d⟩
   refine⟨fun _ _=>rfl,fun t ht=>?_,0#64,m i (.inl (Aq9 _)),fun b hb=>?_⟩
   .obtain⟨j,rfl,_,o,hb⟩:=mem_bitsF.1 ht;exact⟨j,rfl,((g1 j o).1 hb).1,((g1 j o).1 hb).2⟩
   simp only[AE5,Ar1,false_or];constructor
   .rintro⟨c,hc,h,h'⟩;obtain⟨j,o,_,g,l⟩:=mem_bitsF.1 hc;obtain rfl:c=j:=by omega
    exact⟨h,c,((g1 c g).1 l).1,((g1 c g).1 l).2,h'⟩
   rintro⟨h,c,hc,h',d⟩;exact⟨c,mem_bitsF.2 ⟨c,rfl,by omega,by omega,(g1 c (by omega)).2 ⟨hc,h'⟩⟩,h,d⟩
  refine B0 (x:=[]) (by rw[hR.2 i (by omega)];exact (FY 0#64 (by omega)).trans (by rw[HD fun j o=>by simp])) ?_;exact hs (by omega) _ _ ⟨Iz,fun a ha f=>q a (by omega) f,fun a ha=>m a (by omega)⟩
 exact Ft ⟨x3,rfl,fun a ha=>q a (by omega) ha,fun a ha=>m a (.inr ha)⟩
def Yn (N:Nat)(x:Nat->Int):G9 N x=C5 N x x:=rfl
end Go.AM
