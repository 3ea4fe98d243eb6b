/- Part 8. -/
import Derived.Test.YtnpknmmlpjnpeaaDoorKG
import Derived.Test.YtnpknmmlpjnpeaaDoorKD
import Derived.Test.YtnpknmmlpjnpeaaDoorCards
import Derived.Test.YtnpknmmlpjnpeaaDoorTie
import Derived.WalkKit
import Derived.ProofKit
import Derived.OpenShut
import Derived.Deep.DeepHandedRow
import Derived.Lib.LaidTab
set_option linter.defProp false
set_option linter.unusedSimpArgs false
set_option linter.unusedVariables false
set_option linter.unusedSectionVars false
namespace Go.AM
variable {N:Nat}
def Bz:=@decide_eq_true_eq
theorem Bf{c:Prop}{i:Decidable c}{α:Sort _}{a b:α}(h:¬c:=by omega):(if c then a else b)=b:=Bv h
theorem Ai{c:Prop}{i:Decidable c}{α:Sort _}{a b:α}(h:c:=by omega):(if c then a else b)=a:=Bh h
open IntKind (wrap)
open Go.Proofs
set_option maxRecDepth 10000
set_option maxHeartbeats 2000000
variable {S:T3}(Z:H4 S Tryd.prog) (Y:Kb S)
include Z Y
def N2 (N:Nat)(q0:Str)(q1:Str)(q2:Int):Option (List (Str)):= if (((q0.length:Nat):Int)==0) then BW N (fun b (x1:Unit)=>if (decide (0<((q1.length:Nat):Int))) then none else some []) () else BW N (fun a (x2:Str)=>(X6 N x2 q0).bind fun y3=>if (decide (y3<0)) then MZ x2 (some []) else if ((0:Int)<=(wrap .i64 (y3+q2))/\(wrap .i64 (y3+q2))<=((x2.length:Nat):Int))then MZ (x2.take (wrap .i64 (y3+q2)).toNat) (if ((0:Int)<=(wrap .i64 (y3+((q0.length:Nat):Int)))/\(wrap .i64 (y3+((q0.length:Nat):Int)))<=((x2.length:Nat):Int))then a (x2.drop (wrap .i64 (y3+((q0.length:Nat):Int))).toNat) else none) else none) q1
theorem BC {q0:Str}{q1:Str}{q2:Int}{L:List (Str)}(h:N2 N q0 q1 q2=some L) :JS S F8 [] [.reg 0 0,.reg 1 0,.reg 2 0] [.cells [.p (.str q0)],.cells [.p (.str q1)],.cells [.p (pI .i64 q2)]] (L.map (fun (x:Str)=>[PV.str x])):=by
 unfold N2 at h;refine Na Z Tryd.func87 ?_;refine A9 Z Cb (b:=((q0.length:Nat):Int)==0) (fun c1=>?_) (fun c1=>?_)
 .replace h:=itT c1 h;refine Ly Z Cb h (fun x1 L1=>⟨[(2,.reg 1 0),(0,.yf 3)],[(3,.yld (L1.map (fun (x:Str)=>[PV.str x])) true),(2,.cells [.p (pI .i64 q2)]),(1,.cells [.p (.str q1)]),(0,.cells [.p (.str q0)])]⟩) (ids:=[(0,0),(1,1),(2,2),(3,3)]) (fun _ _ _ _ _ f x1 L1 j h=>?_);refine A9 Z Cb (b:=decide (0<((q1.length:Nat):Int))) (fun c3=>?_) (fun c3=>?_)
  .replace h:=itT c3 h;cases h
  replace h:=itF c3 h;obtain rfl:=B5 h;exact B6 Z Cb (a:=.tup []) (objs:=[(.cells [.p (.str q0)]),.cells [.p (.str q1)],.cells [.p (pI .i64 q2)],.yld [] true]) ⟨[],[(3,.yld [] true),(2,.cells [.p (pI .i64 q2)]),(1,.cells [.p (.str q1)]),(0,.cells [.p (.str q0)])]⟩ [0,1,2,3] (ids:=[(0,0),(1,1),(2,2),(3,3)]) ⟨true,rfl,rfl,_,rfl⟩
 replace h:=itF c1 h;refine Ly Z Cb h (fun x2 L2=>⟨[(3,.reg 2 0),(2,.reg 1 0),(1,.reg 0 0),(0,.yf 3)],[(3,.yld (L2.map (fun (x:Str)=>[PV.str x])) true),(2,.cells [.p (pI .i64 q2)]),(1,.cells [.p (.str x2)]),(0,.cells [.p (.str q0)])]⟩) (ids:=[(0,0),(1,1),(2,2),(3,3)]) (fun _ _ _ _ _ g x2 L2 i h=>?_);obtain⟨y3,e3,h⟩:=D7 h;refine B2 Z [] Cb (EC Z Y e3) ?_;refine A9 Z Cb (b:=decide (y3<0)) (fun c12=>?_) (fun c12=>?_)
 .replace h:=itT c12 h;obtain⟨L5,rfl,c⟩:=QA h;replace h:=c;refine Lx Z Cb (ys:=(fun (x:Str)=>[PV.str x]) x2) (rest:=L5.map (fun (x:Str)=>[PV.str x])) ?_ ?_
  .obtain rfl:=B5 h;exact B6 Z Cb (a:=.tup []) (objs:=[(.cells [.p (.str q0)]),.cells [.p (.str x2)],.cells [.p (pI .i64 q2)],.yld [] true]) ⟨[],[(3,.yld [] true),(2,.cells [.p (pI .i64 q2)]),(1,.cells [.p (.str x2)]),(0,.cells [.p (.str q0)])]⟩ [0,1,2,3] (ids:=[(0,0),(1,1),(2,2),(3,3)]) ⟨true,rfl,rfl,_,rfl⟩
  exact B6 Z Cb (a:=.tup []) (objs:=[(.cells [.p (.str q0)]),.cells [.p (.str x2)],.cells [.p (pI .i64 q2)],.yld [] false]) ⟨[],[(3,.yld [] false),(2,.cells [.p (pI .i64 q2)]),(1,.cells [.p (.str x2)]),(0,.cells [.p (.str q0)])]⟩ [0,1,2,3] (ids:=[(0,0),(1,1),(2,2),(3,3)]) ⟨false,rfl,rfl,_,rfl⟩
 replace h:=itF c12 h;obtain⟨c13,h⟩:=V4 h;obtain⟨L6,rfl,d⟩:=QA h;replace h:=d;refine Lx Z c13 (ys:=(fun (x:Str)=>[PV.str x]) (x2.take (wrap .i64 (y3+q2)).toNat)) (rest:=L6.map (fun (x:Str)=>[PV.str x])) ?_ ?_
 .refine A9 Z Cb (b:=false) (fun c14=>?_) (fun c14=>?_)
  .exact Bool.noConfusion ((rfl:false=false).symm.trans c14)
  obtain⟨c15,h⟩:=V4 h;exact i _ [(0,0),(1,1),(2,2),(3,3)] _ (x2.drop (wrap .i64 (y3+((q0.length:Nat):Int))).toNat) L6 c15 h
 refine A9 Z Cb (b:=true) (fun c16=>?_) (fun c16=>?_)
 .exact B6 Z Cb (a:=.tup []) (objs:=[(.cells [.p (.str q0)]),.cells [.p (.str x2)],.cells [.p (pI .i64 q2)],.yld [] false]) ⟨[],[(3,.yld [] false),(2,.cells [.p (pI .i64 q2)]),(1,.cells [.p (.str x2)]),(0,.cells [.p (.str q0)])]⟩ [0,1,2,3] (ids:=[(0,0),(1,1),(2,2),(3,3)]) ⟨false,rfl,rfl,_,rfl⟩
 exact Bool.noConfusion (Ce.symm.trans c16)
def Q2 (N:Nat)(c:Str)(b:Str)(a:Int):Option (Str×Str×Int):= some (b,c,a)
theorem CR {c:Str}{b:Str}{a:Int}{y:Str×Str×Int}(h:Q2 N c b a=some y) :N5 S Y8 [.p (.str c),.p (.str b),.p (pI .i64 a)] [] (.clo F8 [] [.reg 0 0,.reg 1 0,.reg 2 0]) ([.cells [.p (.str y.1)],.cells [.p (.str y.2.1)],.cells [.p (pI .i64 y.2.2)]]) []:=by unfold Q2 at h;refine D8 Z Tryd.func74 ?_;obtain rfl:=B5 h;exact B6 Z Cb ⟨[(6,.clo F8 [] [.reg 5000 0,.reg 4000 0,.reg 6000 0])],[(6000,.cells [.p (pI .i64 a)]),(5000,.cells [.p (.str b)]),(4000,.cells [.p (.str c)])]⟩ [5000,4000,6000] (ids:=[(4000,4000),(5000,5000),(6000,6000)]) ⟨rfl,rfl,rfl⟩
def Q3 (N:Nat)(b:Str)(a:Str):Option (Str×Str×Int):= (Q2 N b a 0).bind fun y1=>some (y1.1,y1.2.1,y1.2.2)
theorem CS {b:Str}{a:Str}{y:Str×Str×Int}(h:Q3 N b a=some y) :N5 S Y6 [.p (.str b),.p (.str a)] [] (.clo F8 [] [.reg 0 0,.reg 1 0,.reg 2 0]) ([.cells [.p (.str y.1)],.cells [.p (.str y.2.1)],.cells [.p (pI .i64 y.2.2)]]) []:=by unfold Q3 at h;refine D8 Z Tryd.func49 ?_;obtain⟨y1,e1,h⟩:=D7 h;refine B2 Z [] Cb (CR Z Y e1) ?_;obtain rfl:=B5 h;exact B6 Z Cb ⟨[(4,.clo F8 [] [.reg 8000 0,.reg 8001 0,.reg 8002 0])],[(8002,.cells [.p (pI .i64 y1.2.2)]),(8001,.cells [.p (.str y1.2.1)]),(8000,.cells [.p (.str y1.1)])]⟩ [8000,8001,8002] (ids:=[(8000,8000),(8001,8001),(8002,8002)]) ⟨rfl,rfl,rfl⟩
def K3 (N:Nat)(c:A2)(a:Str):Option (Cf×Int):= (B0 N c).bind fun y1=>if (!y1) then some ((⟨0,0⟩:Cf),1) else if ((a==[]) != false) then some ((⟨0,0⟩:Cf),0) else (Q3 N a [32]).bind fun y2=>(N2 N y2.1 y2.2.1 y2.2.2).bind fun L1=>Ic L1 (fun b (x1:Str) (z3:Int×Int)=>(N9 N x1 [45]).bind fun y9=>lt (fun (z4:Str)=>Cq (Q4 eqS z4 c.number) (some ((⟨0,0⟩:Cf),10)) fun v3=>if (0:Int)<=v3 then if ((K8 .and .u32 (shI .shr .u32 (K8 .or .u32 z3.1 z3.2) v3) 1)==1) then some ((⟨0,0⟩:Cf),10) else if y9.2 then if (0:Int)<=v3 then b (z3.1,K8 .or .u32 z3.2 (shI .shl .u32 1 v3)) else none else if (0:Int)<=v3 then b (K8 .or .u32 z3.1 (shI .shl .u32 1 v3),z3.2) else none else none) fun k3=>if (!y9.2) then (N9 N x1 [43]).bind fun d=>if (!d.2) then some ((⟨0,0⟩:Cf),10) else k3 d.1 else k3 y9.1) (fun (z3:Int×Int)=>some ((⟨z3.1,z3.2⟩:Cf),0)) (0,0)
theorem AR {a:A2}{c:Str}{y:Cf×Int}(h:K3 N a c=some y) :N5 S Q6 [.reg 0 0,.p (.str c)] [.cells [.p (vSl 1 cS a.feats),.mref 1,.vec 2,.mref 3,.mref 4],.map (A8 PV.str (pI .i64) a.number),.vec A0 3 a.sounds.n (fun i=>A3 (a.sounds.g i)) true,.map (A8 PV.str (pI .i64) a.symbols),.map (A8 (fun x=>.agg (A5 x)) (pI .i64) a.values)] (.tup [.p (.agg (A5 y.1)),.p (pI .i64 y.2)]) ([.cells [.p (vSl 1 cS a.feats),.mref 1,.vec 2,.mref 3,.mref 4],.map (A8 PV.str (pI .i64) a.number),.vec A0 3 a.sounds.n (fun i=>A3 (a.sounds.g i)) true,.map (A8 PV.str (pI .i64) a.symbols),.map (A8 (fun x=>.agg (A5 x)) (pI .i64) a.values)]) [true,true,true,true,true]:=by
 unfold K3 at h;refine D8 Z Tryd.func17 ?_;obtain⟨y1,e1,h⟩:=D7 h;refine B2 Z [0,1,2,3,4] Cb (E2 Z Y e1) ?_;refine A9 Z Cb (b:=!y1) (fun c1=>?_) (fun c1=>?_)
 .replace h:=itT c1 h;obtain rfl:=B5 h;exact B6 Z Cb ⟨[(5,.reg 6000 0),(4,.reg 5000 0)],[(6000,.cells [.p (pI .i64 1)]),(5000,.cells [.p (pI .u32 0),.p (pI .u32 0)]),(4,.map (A8 (fun x=>.agg (A5 x)) (pI .i64) a.values)),(3,.map (A8 PV.str (pI .i64) a.symbols)),(2,.vec A0 3 a.sounds.n (fun i=>A3 (a.sounds.g i)) true),(1,.map (A8 PV.str (pI .i64) a.number)),(0,.cells [.p (vSl 1 cS a.feats),.mref 1,.vec 2,.mref 3,.mref 4])]⟩ [0,1,2,3,4] (ids:=[(0,0),(1,1),(2,2),(3,3),(4,4),(5000,5000),(6000,6000)]) ⟨rfl,rfl,rfl⟩
 replace h:=itF c1 h;refine A9 Z Cb (b:=(c==[]) != false) (fun c2=>?_) (fun c2=>?_)
 .replace h:=itT c2 h;obtain rfl:=B5 h;exact B6 Z Cb ⟨[(5,.reg 6000 0),(4,.reg 5000 0)],[(6000,.cells [.p (pI .i64 0)]),(5000,.cells [.p (pI .u32 0),.p (pI .u32 0)]),(4,.map (A8 (fun x=>.agg (A5 x)) (pI .i64) a.values)),(3,.map (A8 PV.str (pI .i64) a.symbols)),(2,.vec A0 3 a.sounds.n (fun i=>A3 (a.sounds.g i)) true),(1,.map (A8 PV.str (pI .i64) a.number)),(0,.cells [.p (vSl 1 cS a.feats),.mref 1,.vec 2,.mref 3,.mref 4])]⟩ [0,1,2,3,4] (ids:=[(0,0),(1,1),(2,2),(3,3),(4,4),(5000,5000),(6000,6000)]) ⟨rfl,rfl,rfl⟩
 replace h:=itF c2 h;obtain⟨y2,e2,h⟩:=D7 h;refine B2 Z [] Cb (CS Z Y e2) ?_;obtain⟨L1,e3,h⟩:=D7 h;refine Pp Z Cb [22000,22001,22002] [6,5,4,2] 901 (fun z3=>⟨[(6,.reg 7000 0),(5,.reg 6000 0),(4,.reg 5000 0),(2,.reg 3000 0)],[(7000,.cells [.p (pI .u32 z3.1),.p (pI .u32 z3.2)]),(6000,.cells [.p (pI .i64 0)]),(5000,.cells [.p (pI .u32 0),.p (pI .u32 0)]),(3000,.cells [.reg 0 0]),(4,.map (A8 (fun x=>.agg (A5 x)) (pI .i64) a.values)),(3,.map (A8 PV.str (pI .i64) a.symbols)),(2,.vec A0 3 a.sounds.n (fun i=>A3 (a.sounds.g i)) true),(1,.map (A8 PV.str (pI .i64) a.number)),(0,.cells [.p (vSl 1 cS a.feats),.mref 1,.vec 2,.mref 3,.mref 4])]⟩) (idl:=[(0,0),(1,1),(2,2),(3,3),(4,4),(3000,3000),(5000,5000),(6000,6000),(7000,7000)]) h (BC Z Y e3) (fun _=>by kernel_rfl) (fun _=>by kernel_rfl) (fun _=>by kernel_rfl) (fun _=>by kernel_rfl) (fun x1 _ l z3 d h=>?_) (fun z3 h=>?_)
 .refine K_asg Z Cb ?_;obtain⟨y9,e10,h⟩:=D7 h;refine B2 Z [] Cb (X5 Z Y e10) ?_;refine Pm Z Cb (Nf Z) h 0 (fun z4=>⟨[(9,.p (.bb y9.2)),(8,.p (.str z4)),(6,.reg 7000 0),(5,.reg 6000 0),(4,.reg 5000 0),(2,.reg 3000 0)],[(7000,.cells [.p (pI .u32 z3.1),.p (pI .u32 z3.2)]),(6000,.cells [.p (pI .i64 0)]),(5000,.cells [.p (pI .u32 0),.p (pI .u32 0)]),(3000,.cells [.reg 0 0]),(901,.ghost [.reg 7000 0,.reg 6000 0,.reg 5000 0,.reg 3000 0]),(4,.map (A8 (fun x=>.agg (A5 x)) (pI .i64) a.values)),(3,.map (A8 PV.str (pI .i64) a.symbols)),(2,.vec A0 3 a.sounds.n (fun i=>A3 (a.sounds.g i)) true),(1,.map (A8 PV.str (pI .i64) a.number)),(0,.cells [.p (vSl 1 cS a.feats),.mref 1,.vec 2,.mref 3,.mref 4])]⟩) (fun M3 k3 f h=>?_) (fun z4 h=>?_)
  .refine A9 Z Cb (b:=!y9.2) (fun c38=>?_) (fun c38=>?_)
   .replace h:=itT c38 h;obtain⟨j,e12,h⟩:=D7 h;refine B2 Z [] Cb (X5 Z Y e12) ?_;refine A9 Z Cb (b:=!j.2) (fun c39=>?_) (fun c39=>?_)
    .replace h:=itT c39 h;refine Gj Z Cb ⟨[(6,.reg 7000 0),(5,.reg 6000 0),(4,.reg 5000 0),(2,.reg 3000 0)],[(7000,.cells [.p (pI .u32 z3.1),.p (pI .u32 z3.2)]),(6000,.cells [.p (pI .i64 10)]),(5000,.cells [.p (pI .u32 0),.p (pI .u32 0)]),(3000,.cells [.reg 0 0]),(4,.map (A8 (fun x=>.agg (A5 x)) (pI .i64) a.values)),(3,.map (A8 PV.str (pI .i64) a.symbols)),(2,.vec A0 3 a.sounds.n (fun i=>A3 (a.sounds.g i)) true),(1,.map (A8 PV.str (pI .i64) a.number)),(0,.cells [.p (vSl 1 cS a.feats),.mref 1,.vec 2,.mref 3,.mref 4])]⟩ (ids:=[(0,0),(1,1),(2,2),(3,3),(4,4),(901,901),(3000,3000),(5000,5000),(6000,6000),(7000,7000)]) ?_;obtain rfl:=B5 h;exact B6 Z Cb ⟨[(5,.reg 6000 0),(4,.reg 5000 0)],[(6000,.cells [.p (pI .i64 10)]),(5000,.cells [.p (pI .u32 0),.p (pI .u32 0)]),(4,.map (A8 (fun x=>.agg (A5 x)) (pI .i64) a.values)),(3,.map (A8 PV.str (pI .i64) a.symbols)),(2,.vec A0 3 a.sounds.n (fun i=>A3 (a.sounds.g i)) true),(1,.map (A8 PV.str (pI .i64) a.number)),(0,.cells [.p (vSl 1 cS a.feats),.mref 1,.vec 2,.mref 3,.mref 4])]⟩ [0,1,2,3,4] (ids:=[(0,0),(1,1),(2,2),(3,3),(4,4),(5000,5000),(6000,6000)]) ⟨rfl,rfl,rfl⟩
    replace h:=itF c39 h;exact f _ [(0,0),(1,1),(2,2),(3,3),(4,4),(901,901),(3000,3000),(5000,5000),(6000,6000),(7000,7000)] _ j.1 Cb h
   replace h:=itF c38 h;exact f _ [(0,0),(1,1),(2,2),(3,3),(4,4),(901,901),(3000,3000),(5000,5000),(6000,6000),(7000,7000)] _ y9.1 Cb h
  rcases o3:Q4 eqS z4 a.number with _|v3
  .replace h:=JV o3 h;refine Y5 Z Cb (kt:=B1) (e:=CP) (key:=PV.str z4) (es:=A8 PV.str (pI .i64) a.number) (x:=pI .i64 0) (b:=false) (fd:=none) ((H5 (kP:=PV.str) (vP:=pI .i64) (eq:=eqS) (fun _ _=>by kernel_rfl) z4 a.number).trans (by rw[o3];rfl)) Cb ?_;refine C4 Z Cb (b:=true) (fun c42=>?_) (fun c42=>?_)
   .refine Gj Z Cb ⟨[(6,.reg 7000 0),(5,.reg 6000 0),(4,.reg 5000 0),(2,.reg 3000 0)],[(7000,.cells [.p (pI .u32 z3.1),.p (pI .u32 z3.2)]),(6000,.cells [.p (pI .i64 10)]),(5000,.cells [.p (pI .u32 0),.p (pI .u32 0)]),(3000,.cells [.reg 0 0]),(4,.map (A8 (fun x=>.agg (A5 x)) (pI .i64) a.values)),(3,.map (A8 PV.str (pI .i64) a.symbols)),(2,.vec A0 3 a.sounds.n (fun i=>A3 (a.sounds.g i)) true),(1,.map (A8 PV.str (pI .i64) a.number)),(0,.cells [.p (vSl 1 cS a.feats),.mref 1,.vec 2,.mref 3,.mref 4])]⟩ (ids:=[(0,0),(1,1),(2,2),(3,3),(4,4),(901,901),(3000,3000),(5000,5000),(6000,6000),(7000,7000)]) ?_;obtain rfl:=B5 h;exact B6 Z Cb ⟨[(5,.reg 6000 0),(4,.reg 5000 0)],[(6000,.cells [.p (pI .i64 10)]),(5000,.cells [.p (pI .u32 0),.p (pI .u32 0)]),(4,.map (A8 (fun x=>.agg (A5 x)) (pI .i64) a.values)),(3,.map (A8 PV.str (pI .i64) a.symbols)),(2,.vec A0 3 a.sounds.n (fun i=>A3 (a.sounds.g i)) true),(1,.map (A8 PV.str (pI .i64) a.number)),(0,.cells [.p (vSl 1 cS a.feats),.mref 1,.vec 2,.mref 3,.mref 4])]⟩ [0,1,2,3,4] (ids:=[(0,0),(1,1),(2,2),(3,3),(4,4),(5000,5000),(6000,6000)]) ⟨rfl,rfl,rfl⟩
   exact Bool.noConfusion (Ce.symm.trans c42)
  replace h:=JW o3 h;refine Y5 Z Cb (kt:=B1) (e:=CP) (key:=PV.str z4) (es:=A8 PV.str (pI .i64) a.number) (x:=pI .i64 v3) (b:=true) (fd:=some (pI .i64 v3)) ((H5 (kP:=PV.str) (vP:=pI .i64) (eq:=eqS) (fun _ _=>by kernel_rfl) z4 a.number).trans (by rw[o3];rfl)) Cb ?_;refine C4 Z Cb (b:=false) (fun c45=>?_) (fun c45=>?_)
  .exact Bool.noConfusion ((rfl:false=false).symm.trans c45)
  obtain⟨c46,h⟩:=V4 h;refine A9 Z c46 (b:=(K8 .and .u32 (shI .shr .u32 (K8 .or .u32 z3.1 z3.2) v3) 1)==1) (fun c47=>?_) (fun c47=>?_)
  .replace h:=itT c47 h;refine Gj Z Cb ⟨[(6,.reg 7000 0),(5,.reg 6000 0),(4,.reg 5000 0),(2,.reg 3000 0)],[(7000,.cells [.p (pI .u32 z3.1),.p (pI .u32 z3.2)]),(6000,.cells [.p (pI .i64 10)]),(5000,.cells [.p (pI .u32 0),.p (pI .u32 0)]),(3000,.cells [.reg 0 0]),(4,.map (A8 (fun x=>.agg (A5 x)) (pI .i64) a.values)),(3,.map (A8 PV.str (pI .i64) a.symbols)),(2,.vec A0 3 a.sounds.n (fun i=>A3 (a.sounds.g i)) true),(1,.map (A8 PV.str (pI .i64) a.number)),(0,.cells [.p (vSl 1 cS a.feats),.mref 1,.vec 2,.mref 3,.mref 4])]⟩ (ids:=[(0,0),(1,1),(2,2),(3,3),(4,4),(901,901),(3000,3000),(5000,5000),(6000,6000),(7000,7000)]) ?_;obtain rfl:=B5 h;exact B6 Z Cb ⟨[(5,.reg 6000 0),(4,.reg 5000 0)],[(6000,.cells [.p (pI .i64 10)]),(5000,.cells [.p (pI .u32 0),.p (pI .u32 0)]),(4,.map (A8 (fun x=>.agg (A5 x)) (pI .i64) a.values)),(3,.map (A8 PV.str (pI .i64) a.symbols)),(2,.vec A0 3 a.sounds.n (fun i=>A3 (a.sounds.g i)) true),(1,.map (A8 PV.str (pI .i64) a.number)),(0,.cells [.p (vSl 1 cS a.feats),.mref 1,.vec 2,.mref 3,.mref 4])]⟩ [0,1,2,3,4] (ids:=[(0,0),(1,1),(2,2),(3,3),(4,4),(5000,5000),(6000,6000)]) ⟨rfl,rfl,rfl⟩
  replace h:=itF c47 h;refine A9 Z Cb (b:=y9.2) (fun c48=>?_) (fun c48=>?_)
  .replace h:=itT c48 h;refine W3 Z Cb ?_;obtain⟨c49,h⟩:=V4 h;refine Bu c49 ?_;exact d _ [(0,0),(1,1),(2,2),(3,3),(4,4),(901,901),(3000,3000),(5000,5000),(6000,6000),(7000,7000)] _ (z3.1,K8 .or .u32 z3.2 (shI .shl .u32 1 v3)) Cb h
  replace h:=itF c48 h;refine W3 Z Cb ?_;obtain⟨c50,h⟩:=V4 h;refine Bu c50 ?_;exact d _ [(0,0),(1,1),(2,2),(3,3),(4,4),(901,901),(3000,3000),(5000,5000),(6000,6000),(7000,7000)] _ (K8 .or .u32 z3.1 (shI .shl .u32 1 v3),z3.2) Cb h
 obtain rfl:=B5 h;exact B6 Z Cb ⟨[(5,.reg 6000 0),(4,.reg 5000 0)],[(6000,.cells [.p (pI .i64 0)]),(5000,.cells [.p (pI .u32 z3.1),.p (pI .u32 z3.2)]),(4,.map (A8 (fun x=>.agg (A5 x)) (pI .i64) a.values)),(3,.map (A8 PV.str (pI .i64) a.symbols)),(2,.vec A0 3 a.sounds.n (fun i=>A3 (a.sounds.g i)) true),(1,.map (A8 PV.str (pI .i64) a.number)),(0,.cells [.p (vSl 1 cS a.feats),.mref 1,.vec 2,.mref 3,.mref 4])]⟩ [0,1,2,3,4] (ids:=[(0,0),(1,1),(2,2),(3,3),(4,4),(5000,5000),(6000,6000)]) ⟨rfl,rfl,rfl⟩
end Go.AM
namespace Go.AM
open Go.Proofs
set_option maxRecDepth 10000
set_option maxHeartbeats 2000000
variable {S:T3}(Z:H4 S Tryd.prog) (Y:Kb S)
include Z Y
def J3 (N:Nat)  : Option Bool:= some false
theorem Al {N:Nat}    {y:Bool}(h:J3 N  = some y) :N5 S M7 [.p Gd] [] (.p (.bb y)) ([]) []:=by unfold J3 at h;refine D8 Z Tryd.func48 ?_;obtain rfl:=B5 h;exact I1 Z Cb [] ⟨rfl,rfl,rfl⟩
end Go.AM
namespace Go.AM
open Go.Proofs
set_option maxRecDepth 10000
set_option maxHeartbeats 2000000
variable {S:T3}(Z:H4 S Tryd.prog) (Y:Kb S)
include Z Y
def F4 (N:Nat)  : Option Bool:= (J2 N (Sl.of [[118,111,105,99,101],[115,116,111,112],[118,111,119,101,108]]:Sl Str)).bind fun y1=>Cq y1.1 (some false) fun z1=>if ((y1.2 != 0)||false) then some false else (K3 N z1 [43,118,111,119,101,108,32,45,115,116,111,112]).bind fun y2=>(N1 N z1 y2.1).bind fun y3=>(C9 N z1 [112] (⟨2,5⟩:Cf)).bind fun y4=>(C9 N y4.2 [112,104] (⟨2,1⟩:Cf)).bind fun y5=>(J6 N y5.2 [112,104,97,116]).bind fun y6=>some ((((((((y2.2==0)&&(((y2.1.Plus==4)&&(y2.1.Minus==2)) != false))&&(y3.2==0))&&((y3.1==[45,115,116,111,112,32,43,118,111,119,101,108]) != false))&&(y4.1==0))&&(y5.1==0))&&((y6.1==[112,104]) != false))&&y6.2)
theorem Cl {N:Nat}    {y:Bool}(h:F4 N  = some y) :N5 S W4 [] [] (.p (.bb y)) ([]) []:=by
 unfold F4 at h;refine D8 Z Tryd.func15 ?_;refine Lw Z Ce ⟨[(12,.vec 13000)],[(13000,.vec B1 1 (Sl.of [[118,111,105,99,101],[115,116,111,112],[118,111,119,101,108]]:Sl Str).n (fun i=>cS ((Sl.of [[118,111,105,99,101],[115,116,111,112],[118,111,119,101,108]]:Sl Str).g i)) false)]⟩ (ids:=[(13000,13000)]) ?_ (hle:=klR [(0,.fn 3 (Sl.of [[118,111,105,99,101],[115,116,111,112],[118,111,119,101,108]]:Sl Str).n (S7 [.str []] [(0,cS [118,111,105,99,101]),(1,cS [115,116,111,112]),(2,cS [118,111,119,101,108])]) (fun i=>cS ((Sl.of [[118,111,105,99,101],[115,116,111,112],[118,111,119,101,108]]:Sl Str).g i)))] (al1 ⟨rfl,(fun i j=>match i,j with|0,_=>rfl|1,_=>rfl|2,_=>rfl|_+3,j=>Bw j (by omega))⟩ al0));obtain⟨y1,e1,h⟩:=D7 h;rcases o1:y1.1 with _|z1
 .replace h:=JV o1 h;have w1:=(Q1 Z Y e1);simp only[o1,H9,G6,List.append_nil,List.cons_append,List.nil_append]at w1;refine B2 Z [] Cb w1 ?_;refine Dg Z Cb (F6 Z) 0 ⟨[(21,.p (.v (.bool true))),(1,.p Gd)],[]⟩ (fun M1 d=>?_) ?_
  .refine C4 Z Cb (b:=y1.2 != 0) (fun c2=>?_) (fun c2=>?_)
   .exact d _ [] _ Cb
   exact d _ [] _ Cb
  obtain rfl:=B5 h;exact I1 Z Cb [] ⟨rfl,rfl,rfl⟩
 replace h:=JW o1 h;have w2:=(Q1 Z Y e1);simp only[o1,H9,G6,List.append_nil,List.cons_append,List.nil_append]at w2;refine B2 Z [] Cb w2 ?_;refine Dg Z Cb (F6 Z) 0 ⟨[(21,.p (.bb ((y1.2 != 0)||false))),(1,.reg 14000 0)],[(14004,.map (A8 (fun x=>.agg (A5 x)) (pI .i64) z1.values)),(14003,.map (A8 PV.str (pI .i64) z1.symbols)),(14002,.vec A0 3 z1.sounds.n (fun i=>A3 (z1.sounds.g i)) true),(14001,.map (A8 PV.str (pI .i64) z1.number)),(14000,.cells [.p (vSl 1 cS z1.feats),.mref 14001,.vec 14002,.mref 14003,.mref 14004])]⟩ (fun M2 f=>?_) ?_
 .refine C4 Z Cb (b:=y1.2 != 0) (fun c4=>?_) (fun c4=>?_)
  .exact f _ [(14000,14000),(14001,14001),(14002,14002),(14003,14003),(14004,14004)] _ Cb (by kernel_rfl) (by kernel_rfl) (klR [(0,.eq (.bb true) (.bb ((y1.2 != 0)||false)))] (al1 (by simp only[c4,Leaf.ok,pm,Bx,By]) al0))
  exact f _ [(14000,14000),(14001,14001),(14002,14002),(14003,14003),(14004,14004)] _ Cb (by kernel_rfl) (by kernel_rfl) (klR [(0,.eq (.bb false) (.bb ((y1.2 != 0)||false)))] (al1 (by simp only[c4,Leaf.ok,pm,Bx,By]) al0))
 refine A9 Z Cb (b:=(y1.2 != 0)||false) (fun c5=>?_) (fun c5=>?_)
 .replace h:=itT c5 h;obtain rfl:=B5 h;exact I1 Z Cb [] ⟨rfl,rfl,rfl⟩
 replace h:=itF c5 h;obtain⟨y2,e2,h⟩:=D7 h;refine B2 Z [14000,14001,14002,14003,14004] Cb (AR Z Y e2) ?_;obtain⟨y3,e3,h⟩:=D7 h;refine B2 Z [14000,14001,14002,14003,14004] Cb (BB Z Y e3) ?_;obtain⟨y4,e4,h⟩:=D7 h;refine B2 Z [14000,14001,14002,14003,14004] Cb (H6 Z Y e4) ?_;obtain⟨y5,e5,h⟩:=D7 h;refine B2 Z [14000,14001,36002,14003,14004] Cb (H6 Z Y e5) ?_;obtain⟨y6,e6,h⟩:=D7 h;refine B2 Z [14000,14001,39002,14003,14004] Cb (AE Z Y e6) ?_;obtain⟨t1,a⟩:∃x:Bool,x=((((((((y2.2==0)&&(((y2.1.Plus==4)&&(y2.1.Minus==2)) != false))&&(y3.2==0))&&((y3.1==[45,115,116,111,112,32,43,118,111,119,101,108]) != false))&&(y4.1==0))&&(y5.1==0))&&((y6.1==[112,104]) != false))&&y6.2):=⟨_,rfl⟩;refine Dg Z Cb (F6 Z) 0 ⟨[(0,.p (.bb t1))],[]⟩ (fun M3 c=>?_) ?_
 .refine C4 Z Cb (b:=y2.2==0) (fun c13=>?_) (fun c13=>?_)
  .refine C4 Z (by decide +kernel:Kr Tryd.prog F3=true) (b:=((y2.1.Plus==4)&&(y2.1.Minus==2)) != false) (fun c14=>?_) (fun c14=>?_)
   .refine C4 Z Cb (b:=y3.2==0) (fun c15=>?_) (fun c15=>?_)
    .refine C4 Z Cb (b:=(y3.1==[45,115,116,111,112,32,43,118,111,119,101,108]) != false) (fun c16=>?_) (fun c16=>?_)
     .refine C4 Z Cb (b:=y4.1==0) (fun c17=>?_) (fun c17=>?_)
      .refine C4 Z Cb (b:=y5.1==0) (fun c18=>?_) (fun c18=>?_)
       .refine C4 Z Cb (b:=(y6.1==[112,104]) != false) (fun c19=>?_) (fun c19=>?_)
        .exact c _ [] _ Cb (by kernel_rfl) (by kernel_rfl) (klR [(0,.eq (.bb y6.2) (.bb t1))] (al1 (by simp only[a,c13,c14,c15,c16,c17,c18,c19,Leaf.ok,pm,Bx,By]) al0))
        exact c _ [] _ Cb (by kernel_rfl) (by kernel_rfl) (klR [(0,.eq (.bb false) (.bb t1))] (al1 (by simp only[a,c13,c14,c15,c16,c17,c18,c19,Leaf.ok,pm,Bx,By]) al0))
       exact c _ [] _ Cb (by kernel_rfl) (by kernel_rfl) (klR [(0,.eq (.bb false) (.bb t1))] (al1 (by simp only[a,c13,c14,c15,c16,c17,c18,Leaf.ok,pm,Bx,By]) al0))
      exact c _ [] _ Cb (by kernel_rfl) (by kernel_rfl) (klR [(0,.eq (.bb false) (.bb t1))] (al1 (by simp only[a,c13,c14,c15,c16,c17,Leaf.ok,pm,Bx,By]) al0))
     exact c _ [] _ Cb (by kernel_rfl) (by kernel_rfl) (klR [(0,.eq (.bb false) (.bb t1))] (al1 (by simp only[a,c13,c14,c15,c16,Leaf.ok,pm,Bx,By]) al0))
    exact c _ [] _ Cb (by kernel_rfl) (by kernel_rfl) (klR [(0,.eq (.bb false) (.bb t1))] (al1 (by simp only[a,c13,c14,c15,Leaf.ok,pm,Bx,By]) al0))
   exact c _ [] _ Cb (by kernel_rfl) (by kernel_rfl) (klR [(0,.eq (.bb false) (.bb t1))] (al1 (by simp only[a,c13,c14,Leaf.ok,pm,Bx,By]) al0))
  exact c _ [] _ Cb (by kernel_rfl) (by kernel_rfl) (klR [(0,.eq (.bb false) (.bb t1))] (al1 (by simp only[a,c13,Leaf.ok,pm,Bx,By]) al0))
 subst a;obtain rfl:=B5 h;exact I1 Z Cb [] ⟨rfl,rfl,rfl⟩
end Go.AM
namespace Go.AM
open Go.Proofs
set_option maxRecDepth 100000
abbrev NN:Nat:=4194304
def LD:F4 NN=some true:=by kernel_rfl
end Go.AM
namespace Go.AM
open IntKind (wrap)
open Go.Proofs
def LE {A R:Type}{body:(A->Option R)->A->Option R}(st:Nat->A)(p:Nat->Bool)(n:Nat)(Hv:Option R)(bad:Nat->Option R)
 (hb:∀self i,i<=n->(∀j,j<i->p j=true)->body self (st i)=if i<n then (if p i then self (st (i+1))else bad i)else Hv) :
 ∀(N i:Nat),i<=n->(∀j,j<i->p j=true)->n-i<N->BW N body (st i)=match (List.range n).find? (fun i=>!p i)with|some i=>bad i|none=>Hv
 |0,_,_,_,h=>by omega
 |N+1,i,hi,hp,h=>by
  rw[Lq,hb _ i hi hp];by_cases h1:i<n
  .rw[Bh h1];by_cases a:p i=true
   .rw[Bh a];exact LE st p n Hv bad hb N (i+1) h1 (fun j b=>by
     by_cases e:j=i
     .subst e;exact a
     exact hp j (by omega)) (by omega)
   rw[Bv a]
   have:(List.range n).find? (fun i=>!p i)=some i:=by rw[List.find?_range_eq_some];simp only[Bool.not_eq_true',Bool.not_not];exact⟨by simpa using a,List.mem_range.2 h1,fun j b=>by simpa using hp j b⟩
   rw[this]
  rw[Bv h1]
  have:(List.range n).find? (fun i=>!p i)=none:=by
   rw[List.find?_eq_none];intro j b
   have:=hp j (by have:=List.mem_range.1 b;omega)
   simp[this]
  rw[this]
def Nl {R:Type}(p:Nat->Bool)(n:Nat)(Hv bad:Option R):(match (List.range n).find? (fun i=>!p i)with|some i=>bad|none=>Hv)=if (List.range n).all p then Hv else bad:=by
 by_cases h:(List.range n).all p=true
 .rw[Bh h]
  have:(List.range n).find? (fun i=>!p i)=none:=by
   rw[List.find?_eq_none];intro j a
   have:=List.all_eq_true.1 h j a
   simp[this]
  rw[this]
 rw[Bv h];cases e:(List.range n).find? (fun i=>!p i)with
 |none=>rw[List.find?_eq_none]at e;exact Bw (List.all_eq_true.2 fun j a=>by simpa using e j a) h
 |some i=>rfl
def U9 {A R:Type}{body:(A->Option R)->A->Option R}(st:Nat->A)(p:Nat->Bool)(n:Nat)(Hv bad:Option R){N:Nat}(a:n<N)
 (hb:∀self i,i<=n->(∀j,j<i->p j=true)->body self (st i)=if i<n then (if p i then self (st (i+1))else bad)else Hv) :
 BW N body (st 0)=if (List.range n).all p then Hv else bad:=by
 rw[LE st p n Hv (fun _=>bad) hb N 0 (by omega) (fun j b=>by omega) (by omega),Nl]
def Bq {A R:Type}{body:(A->Option R)->A->Option R}(st:Nat->A)(n:Nat)(Hv:Option R){N:Nat}(b:n<N)
 (hb:∀a i,i<=n->body a (st i)=if i<n then a (st (i+1))else Hv) :
 BW N body (st 0)=Hv:=by
 rw[U9 st (fun _=>true) n Hv none b (fun a i c _=>by rw[hb a i c];simp)];simp
def LF {n:Int}(h : -9223372036854775808<=n)(h' : n<=9223372036854775807):IntKind.i64.wrap n=n:=by
 by_cases a:0<=n
 .have h1:n % (2 ^ 64:Int)=n:=Int.emod_eq_of_lt a (by omega);unfold wrap;simp only[IntKind.bits,IntKind.signed,h1];rw[Bv];simp;omega
 have h1:n % (2 ^ 64:Int)=n+2 ^ 64:=by rw[<- Int.add_emod_right];exact Int.emod_eq_of_lt (by omega) (by omega)
 unfold wrap;simp only[IntKind.bits,IntKind.signed,h1];rw[Bh]
 .omega
 simp;omega
def F5 {i:Nat}(h:i<1000000000000000000):IntKind.i64.wrap ((i:Int)+1)=((i+1:Nat):Int):=by rw[LF (by omega) (by omega)];rfl
def Af{i:Nat}(h:i<1000000000000000000:=by omega):IntKind.i64.wrap ((i:Int)+1)=((i+1:Nat):Int):=F5 h
def T7 (c:Int):Bool:=decide (97<=c)&&decide (c<=122)||decide (48<=c)&&decide (c<=57)
def AF (s:Str):Bool:=decide (1<=s.length)&&decide (s.length<=16)&&decide (97<=D6 s 0)&&decide (D6 s 0<=122)&&(List.range s.length).all fun i=>T7 (D6 s i)
def LG {N:Nat}(s:Str)(hs:s.length<N)(b:s.length<1000000000):M9 N s=some (AF s):=by
 unfold M9;rw[Bh ⟨by simp only[decide_eq_false_iff_not];omega,by simp only[decide_eq_false_iff_not];omega⟩];by_cases hc:((((decide (((s.length:Nat):Int)<1))||(decide (16<((s.length:Nat):Int))))||(decide ((D6 s 0)<97)))||(decide (122<(D6 s 0))))=true
 .rw[Bh hc];simp only[Bool.or_eq_true,Bz]at hc;simp only[AF,Option.some.injEq];symm;rw[<- Bool.not_eq_true];simp only[Bool.and_eq_true,Bz];omega
 rw[Bv hc];simp only[Bool.or_eq_true,Bz]at hc;refine (U9 (fun i:Nat=>(i:Int)) (fun i=>T7 (D6 s i)) s.length (some true) (some false) hs fun a i g _=>?_).trans ?_
 .simp only[Bz];by_cases h:i<s.length
  .rw[Ai,Ai,Bh h,Af];simp only[I4,Option.bind_some];show (if (!T7 (D6 s i)) then _ else _)=_;cases T7 (D6 s i)<;>simp
  rw[Bf,Bv h]
 have h1:decide (1<=s.length)=true:=by simp;omega
 have c:decide (s.length<=16)=true:=by simp;omega
 have d:decide (97<=D6 s 0)=true:=by simp only[Bz];omega
 have f:decide (D6 s 0<=122)=true:=by simp only[Bz];omega
 simp only[AF,h1,c,d,f,Bool.true_and];cases (List.range s.length).all fun i=>T7 (D6 s i)<;>rfl
end Go.AM
namespace Go.AM
variable {N:Nat}
open Go.Proofs
def DK (p:Int->Bool)(s:Str)(most:Int):Bool:=decide (1<=s.length)&&decide ((s.length:Int)<=most)&&(List.range s.length).all fun i=>p (D6 s i)
def Ik (s:Str)(most:Int)(p:Int->Bool)(f:Int->Option Bool)(b:∀c,f c=some (p c))(hs:s.length<N)(d:s.length<1000000000):D4 N s most f=some (DK p s most):=by
 unfold D4;by_cases hc:((decide (((s.length:Nat):Int)<1))||(decide (most<((s.length:Nat):Int))))=true
 .rw[Bh hc];simp only[Bool.or_eq_true,Bz]at hc;simp only[DK,Option.some.injEq];symm;rw[<- Bool.not_eq_true];simp only[Bool.and_eq_true,Bz];omega
 rw[Bv hc];simp only[Bool.or_eq_true,Bz]at hc;refine (U9 (fun i:Nat=>(i:Int)) (fun i=>p (D6 s i)) s.length (some true) (some false) hs fun a i j _=>?_).trans ?_
 .simp only[Bz];by_cases h:i<s.length
  .rw[Ai,Ai,Bh h,Af,b];simp only[Option.bind_some];cases p (D6 s i)<;>simp
  rw[Bf,Bv h]
 have h1:decide (1<=s.length)=true:=by simp;omega
 have g:decide ((s.length:Int)<=most)=true:=by simp;omega
 simp only[DK,h1,g,Bool.true_and];cases (List.range s.length).all fun i=>p (D6 s i)<;>rfl
def Il (s:Str):Bool:=DK T7 s 16&&decide (57<D6 s 0)
def LH (s:Str):Il s=AF s:=by
 rw[Bool.eq_iff_iff];simp only[Il,AF,DK,Bool.and_eq_true,Bz,List.all_eq_true,List.mem_range];constructor
 .rintro⟨⟨⟨h1,d⟩,a⟩,b⟩;have c:=a 0 (by omega);have ez:((0:Nat):Int).toNat=(0:Int).toNat:=rfl;simp only[T7,Bool.or_eq_true,Bool.and_eq_true,Bz]at c;exact⟨⟨⟨⟨h1,by omega⟩,by simp only[D6,ez]at b c⊢;omega⟩,by simp only[D6,ez]at b c⊢;omega⟩,a⟩
 rintro⟨⟨⟨⟨h1,d⟩,a⟩,b⟩,f⟩;exact⟨⟨⟨h1,by omega⟩,f⟩,by omega⟩
def LI (s:Sl Str):Bool:=(List.range s.n).all fun i=>(List.range i).all fun j=>!(s.g i==s.g j)
def ED (s:Sl Str):Bool:=(List.range s.n).all fun i=>AF (s.g i)
def NX (s:Sl Str):Int:=if 24<s.n then 12 else if ED s then (if LI s then 0 else 6)else 15
def rNew_eq (s:Sl Str)(d:1000000<=N)(hs:∀i,i<s.n->(s.g i).length<1000000) :Ak N s=some (if NX s=0 then some ⟨true,(Sl.of []:Sl Str).app s,Sl.nil⟩else none,NX s):=by
 unfold Ak NX;by_cases b:24<s.n
 .rw[Bh (by simp;omega),Bh b];simp
 rw[Bv (by simp;omega),Bv b];refine (U9 (fun i:Nat=>(i:Int)) (fun i=>AF (s.g i)) s.n (if LI s then some (some ⟨true,(Sl.of []:Sl Str).app s,Sl.nil⟩,0)else some (none,6)) (some (none,15)) (by omega) fun a i c _=>?_).trans ?_
 .simp only[Bz];by_cases h:i<s.n
  .rw[Ai,Ai,Bh h,Af];rw[show (i:Int).toNat=i from rfl,LG _ (by have:=hs i h;omega) (by have:=hs i h;omega)];simp only[Option.bind_some];cases AF (s.g i)<;>simp
  rw[Bf,Bv h];refine (U9 (fun i:Nat=>(i:Int)) (fun i=>(List.range i).all fun j=>!(s.g i==s.g j)) s.n (some (some ⟨true,(Sl.of []:Sl Str).app s,Sl.nil⟩,0)) (some (none,6)) (by omega) fun a i c _=>?_).trans ?_
  .skip
   by_cases h:i<s.n
   .rw[Ai,Bh h];refine (U9 (fun j:Nat=>(j:Int)) (fun j=>!(s.g i==s.g j)) i (a ((i+1:Nat):Int)) (some (none,6)) (by omega) fun self' j f _=>?_).trans ?_
    .skip
     by_cases h' : j<i
     .rw[Ai,Ai,Bh h',Af];simp only[Int.toNat_natCast];by_cases e:s.g i=s.g j<;>simp[e]
     rw[Bf,Bv h',Af]
    rfl
   rw[Bf,Bv h,Bh (by simp[Sl.of];omega)]
  rfl
 show (if ED s then _ else _)=_;cases ED s<;>cases LI s<;>simp
def Fz {κ ν : Type}{eq : κ -> κ -> Bool}{k : κ}:∀{es:List (κ × ν)},(∀p,p∈es->eq k p.1=false)->Q4 eq k es=none
 |[],_=>rfl
 |(a,v)::es,h=>by have h1:=h (a,v) (by simp);simp only[Q4,h1,Bool.false_eq_true,By];exact Fz fun p hp=>h p (List.mem_cons_of_mem _ hp)
def FA {κ ν : Type}{eq : κ -> κ -> Bool}{k : κ}:∀{es:List (κ × ν)}{p : κ × ν},p∈es->eq k p.1=true->∃v,Q4 eq k es=some v
 |(a,v)::es,p,hp,h=>by
  by_cases e:eq k a=true
  .exact⟨v,by simp[Q4,e]⟩
  rcases List.mem_cons.1 hp with rfl|hp
  .exact Bw h e
  obtain⟨v',b⟩:=FA hp h;exact⟨v',by simp[Q4,e,b]⟩
def X9 {κ ν : Type}{eq : κ -> κ -> Bool}{k : κ}{v : ν}:∀{es:List (κ × ν)},(∀p,p∈es->eq k p.1=false)->DR eq k v es=es++[(k,v)]
 |[],_=>rfl
 |(a,x)::es,h=>by have h1:=h (a,x) (by simp);simp only[DR,h1,Bool.false_eq_true,By,List.cons_append,List.cons.injEq,true_and];exact X9 fun p hp=>h p (List.mem_cons_of_mem _ hp)
def Gs (s:Sl Str)(k:Nat):List (Str×Int):=(List.range k).map fun i=>(s.g i,(i:Int))
def Hs (s:Sl Str)(k:Nat):Gs s (k+1)=Gs s k++[(s.g k,(k:Int))]:=by simp[Gs,List.range_succ]
def Pw (s:Sl Str)(r:1000000<=N)(hs:∀i,i<s.n->(s.g i).length<1000000) :J2 N s=some (if NX s=0 then some ⟨s,Gs s s.n,Sl.nil,[],[]⟩else none,NX s):=by
 unfold J2 NX;by_cases a:24<s.n
 .rw[Bh (by simp;omega),Bh a];simp
 rw[Bv (by simp;omega),Bv a];refine (U9 (fun i:Nat=>(i:Int)) (fun i=>AF (s.g i)) s.n (if LI s then some (some ⟨s,Gs s s.n,Sl.nil,[],[]⟩,0)else some (none,6)) (some (none,15)) (by omega) fun b i m _=>?_).trans ?_
 .simp only[Bz];by_cases h:i<s.n
  .rw[Ai,Ai,Bh h,Af];rw[show (i:Int).toNat=i from rfl,Ik (s.g i) 16 T7 (fun (u3:Int)=>G3 N u3) (fun c=>rfl) (by have:=hs i h;omega) (by have:=hs i h;omega),<- LH];simp only[Option.bind_some,Il];by_cases hc:DK T7 (s.g i) 16=true
   .have hl:1<=(s.g i).length:=by have hc:=hc;simp only[DK,Bool.and_eq_true,Bz]at hc;omega
    rw[Bh (fun _=>⟨by omega,by omega⟩)];simp only[hc,Bool.not_true,Bool.false_or,Bool.true_and,Bz];by_cases l:D6 (s.g i) 0<=57
    .rw[Bh l,Bf]
    rw[Bv l,Ai]
   rw[Bool.not_eq_true]at hc;simp[hc]
  rw[Bf,Bv h];unfold MM;refine (U9 (fun i:Nat=>(Gs s i,(i:Int))) (fun i=>(List.range i).all fun j=>!(s.g i==s.g j)) s.n (some (some ⟨s,Gs s s.n,Sl.nil,[],[]⟩,0)) (some (none,6)) (by omega) fun b i m _=>?_).trans ?_
  .dsimp only;by_cases h:i<s.n
   .rw[Ai,Ai,Bh h,Af,show (i:Int).toNat=i from rfl];by_cases d:((List.range i).all fun j=>!(s.g i==s.g j))=true
    .have hk:∀p,p∈Gs s i->eqS (s.g i) p.1=false:=by
      intro p hp;simp only[Gs,List.mem_map,List.mem_range]at hp;obtain⟨j,f,rfl⟩:=hp
      have:=List.all_eq_true.1 d j (List.mem_range.2 f)
      simpa using this
     rw[Fz hk,H9,X9 hk,<- Hs,Bh d]
    obtain⟨v,o⟩:∃v,Q4 eqS (s.g i) (Gs s i)=some v:=by
     rw[Bool.not_eq_true]at d;obtain⟨j,f,q⟩:=List.all_eq_false.1 d;refine FA (p:=(s.g j,(j:Int))) ?_ ?_
     .simp only[Gs,List.mem_map];exact⟨j,f,rfl⟩
     simpa using q
    rw[o,G6,Bv d]
   rw[Bf,Bv h]
   have:i=s.n:=by omega
   subst this;simp only[B7];rw[Ai];rfl
  rfl
 show (if ED s then _ else _)=_;cases ED s<;>cases LI s<;>simp
end Go.AM
namespace Go.AM
open Go.Proofs
end Go.AM
namespace Go.AM
open IntKind (wrap)
open Go.Proofs
abbrev sOf (x y:BitVec 32):Cf:=⟨(x.toNat:Int),(y.toNat:Int)⟩
def badB (p m:BitVec 32)(i:Nat):Bool:=(p.getLsbD i&&m.getLsbD i)||((p.getLsbD i||m.getLsbD i)&&decide (24<=i))
def Ht (p m:BitVec 32):Bool:=(List.range 32).all fun i=>!badB p m i
def getB (p m:BitVec 32)(f:Nat):Int:=if Ht p m=true/\f<24 then (if p.getLsbD f then 1 else if m.getLsbD f then -1 else 0)else 0
def QU (n:Nat)(p m:BitVec 32):Bool:=Ht p m&&(List.range (24-n)).all fun i=>!(getB p m (n+i) != 0)
def belG (n:Nat)(p m:BitVec 32):Bool:=decide (p &&& m=0#32)&&decide ((p ||| m) &&& ~~~(BitVec.ofNat 32 (2 ^ n-1))=0#32)
def Px {n:Nat}(hn:n<=24):wrap .u32 ((shI .shl .u32 1 ((n:Nat):Int))-1)=((BitVec.ofNat 32 (2 ^ n-1)).toNat:Int):=by
 have hp:2 ^ n<=2 ^ 24:=Nat.pow_le_pow_right (by omega) hn;have a:0<2 ^ n:=Nat.pow_pos (by omega);rw[show (1:Int)=((1#32).toNat:Int) from rfl,Qi,BitVec.toNat_shiftLeft,Nat.shiftLeft_eq];have e:(1#32).toNat*2 ^ n % 2 ^ 32=2 ^ n:=by show 1*2 ^ n % 2 ^ 32=2 ^ n;rw[Nat.one_mul];exact Nat.mod_eq_of_lt (by omega)
 rw[e,show ((2 ^ n:Nat):Int)-((1#32).toNat:Int)=((2 ^ n-1:Nat):Int) by show ((2 ^ n:Nat):Int)-1=_;omega,DP (by omega),BitVec.toNat_ofNat,Nat.mod_eq_of_lt (by omega)]
def eq0 (x:BitVec 32):((x.toNat:Int)==0)=decide (x=0#32):=by
 rw[Bool.eq_iff_iff];simp only[beq_iff_eq,Bz];constructor
 .intro h;apply BitVec.eq_of_toNat_eq;show x.toNat=0;omega
 rintro rfl;rfl
def Im {N:Nat}(v:A2)(p m:BitVec 32)(hn:v.feats.n<=24):E7 N v (sOf p m)=some (belG v.feats.n p m):=by unfold E7;rw[Ai,Px hn,Qh,JT,OQ,eq0,eq0];rfl
def QI {n:Nat}(hn:n<=24)(p m:BitVec 32):belG n p m=QU n p m:=by
 have b:∀i,i<32->(BitVec.ofNat 32 (2 ^ n-1)).getLsbD i=decide (i<n):=fun i a=>by rw[BitVec.getLsbD_ofNat,Nat.testBit_two_pow_sub_one];simp[a]
 have z:∀x:BitVec 32,x=0#32 ↔ ∀i,i<32->x.getLsbD i=false:=fun x=>by
  constructor
  .rintro rfl i a;simp
  intro h;apply BitVec.eq_of_getLsbD_eq;intro i a;rw[h i a];simp
 rw[Bool.eq_iff_iff];simp only[belG,QU,Ht,badB,Bool.and_eq_true,Bz,z,List.all_eq_true,List.mem_range,BitVec.getLsbD_and,BitVec.getLsbD_or,BitVec.getLsbD_not];constructor
 .rintro⟨h1,g⟩;have d : ∀i,i<32->n<=i->p.getLsbD i=false/\m.getLsbD i=false:=fun i a f=>by
   have:=g i a
   rw[b i a]at this;have e:decide (i<n)=false:=by simp;omega
   simp only[e,a,decide_true,Bool.not_false,Bool.and_true,Bool.true_and]at this;simpa using this
  refine⟨fun i a=>?_,fun i a=>?_⟩
  .have ha:=h1 i a;by_cases c:24<=i
   .have:=d i a (by omega)
    simp[this.1,this.2]
   simp[ha,c]
  have:=d (n+i) (by omega) (by omega)
  simp[getB,this.1,this.2]
 rintro⟨h1,g⟩;have j:Ht p m=true:=by simpa only[Ht,badB,List.all_eq_true,List.mem_range]using h1
 refine⟨fun i a=>?_,fun i a=>?_⟩
 .have h:=h1 i a;rw[Bool.not_eq_true']at h;cases hp:p.getLsbD i<;>cases hm:m.getLsbD i
  .rfl
  .rfl
  .rfl
  rw[hp,hm]at h;exact Bw h (by simp)
 rw[b i a];by_cases f:i<n
 .simp[f]
 by_cases c:i<24
 .have:=g (i-n) (by omega)
  rw[show n+(i-n)=i by omega]at this;simp only[getB,j,c,and_self,Bx]at this;cases hp:p.getLsbD i<;>cases hm:m.getLsbD i<;>simp_all
 have:=h1 i a
 cases hp:p.getLsbD i<;>cases hm:m.getLsbD i<;>simp_all<;>omega
end Go.AM
namespace Go.AM
open Go.Proofs
section
variable (s:Sl Str) (p m:BitVec 32)
end
end Go.AM
namespace Go.AM
open Go.Proofs
end Go.AM
namespace Go.AM
open Go.Proofs
end Go.AM
namespace Go.AM
open Go.Proofs
end Go.AM
namespace Go.AM
open Go.Proofs
def QV (s:Sl Str)(z:Str):Option Nat:=(List.range s.n).find? fun i=>s.g i==z
end Go.AM
namespace Go.AM
open Go.Proofs
def setB (x:BitVec 32)(i:Nat):BitVec 32:=x ||| (1#32 <<< i)
end Go.AM
namespace Go.AM
open Go.Proofs
def stepB (s:Sl Str)(x:Str)(p m:BitVec 32):Option (BitVec 32×BitVec 32):=match x with
 |[]=>none
 |c::z=>if c=45 then (match QV s z with
  |some i=>if (p.getLsbD i||m.getLsbD i) then none else some (p,setB m i)
  |none=>none)
  else if c=43 then (match QV s z with
   |some i=>if (p.getLsbD i||m.getLsbD i) then none else some (setB p i,m)
   |none=>none)
  else none
end Go.AM
namespace Go.AM
open Go.Proofs
end Go.AM
namespace Go.AM
open Go.Proofs
end Go.AM
namespace Go.AM
open Go.Proofs
end Go.AM
namespace Go.AM
open Go.RowKit Go.ChangeShapes Go.WideShapes Go.ChangeAt Go.Deep Go.Proofs Go.Proofs.YtnpknmmlpjnpeaaDoor
theorem Ob:Kids Tryd.prog (· < Tryd.prog.types.size):=kids_rows (by kernel_rfl) (by kernel_rfl)
theorem Gl {H:Type}:∀es:List (DataW H),Hy (es.map Rows.uptoBulk)=Rows.uptoBulkAll es
 |[]=>rfl
 |d::r=>by simp only[List.map_cons,He,Rows.uptoBulkAll,Gl r]
theorem Oc {H:Type}:Bulk (H:=H) Rows.uptoBulk where
 int k n:=by simp[Rows.uptoBulk]
 bool b:=by simp[Rows.uptoBulk]
 str l:=by simp[Rows.uptoBulk]
 nil:=by simp[Rows.uptoBulk]
 slice es sp:=by simp only[Rows.uptoBulk,Gl];omega
 agg ps:=by simp only[Rows.uptoBulk,Gl];omega
section
variable {H:Type}{enc:TypeId×Value->H}{P:Program}{W:World}
theorem Km {v:Value}{x:PV}(a:v.cells.toList=[v])(h:CRep W v.cells.toList [x]):RepP W (fun _ _=>False) v x:=by
 have:=(h.2 0 (by simp)).1
 rw[a]at this;exact this
theorem Od {cs:Array Value}{pvs:List PV}(h:CRep W (Value.agg cs).cells.toList pvs):RepP W (fun _ _=>False) (.agg cs) (.agg pvs):=by
 obtain⟨h1,a⟩:=h;have hc:(Value.agg cs).cells.toList=cs.toList:=rfl;rw[hc]at h1 a;have e:∀i,cs.toList.getD i undef=cs.getD i undef:=fun i=>by simp[List.getD_eq_getElem?_getD,Array.getD_eq_getD_getElem?]
 exact .agg cs pvs (by simpa using h1) (fun i b=>by rw[<- e];exact (a i b).2) fun i b=>by rw[<- e];exact (a i b).1
end
end Go.AM
