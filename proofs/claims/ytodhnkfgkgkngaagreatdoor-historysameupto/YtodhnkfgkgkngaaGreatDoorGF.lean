/- What a law's walk and its plain proof need, part 6: no condition of its own. -/
import Derived.Test.YtodhnkfgkgkngaaGreatDoorGE
import Derived.Test.YtodhnkfgkgkngaaGreatDoorGD
set_option linter.unusedSimpArgs false
set_option linter.unusedVariables false
set_option linter.unusedSectionVars false
namespace Go.AM
open IntKind (wrap)
open Go.Proofs
set_option maxRecDepth 10000
set_option maxHeartbeats 2000000
variable {S:Ay}(hS:H2 S Tryz.prog) (hL:OF S)
include hS hL
def X1 (N:Nat)(p_x:Aa5)(b:Sl Sound):Option (Nat->Int):=
 Q2 N (fun a (x1:Nat->Int) (x2:Int)=>
  if (decide (x2<(b.n:Int))) then
   if ((0:Int)<=x2/\x2<(b.n:Int))then
    if ((((E5 .or .u32 (E5 .andNot .u32 p_x.is.Plus (b.g x2.toNat).Plus) (E5 .andNot .u32 p_x.is.Minus (b.g x2.toNat).Minus))==0)==p_x.not) != true) then
     if (((0:Int)<=(wrap .i64 (x2+1))/\((0:Int)<=x2/\x2<33))/\(0+x2.toNat*1)<33)then
      a (Lh x1 (0+x2.toNat*1) (shI .shl .u64 1 (wrap .i64 (x2+1)))) (wrap .i64 (x2+1))
     else none
    else
     a x1 (wrap .i64 (x2+1))
   else none
  else
   some x1
  ) (fun _=>0) 0
theorem Ml {N:Nat}{p_x:Aa5}{a:Sl Sound}{y:Nat->Int}(h:X1 N p_x a=some y) :FunO S CL [.p (.agg (WA p_x)),.p (vSl 2 A0 a)] [] (.p (.agg (cA 33 (pI .u64) y))) ([]) []:=by
 unfold X1 at h;refine A3 hS Tryz.func228 ?_;refine F9 hS trivial h (fun x1 x2=>⟨[(9,pN x2),(8,pN (a.n:Int)),(7,.p (vSl 2 A0 a)),(4,.reg 5000 0),(2,.reg 3000 0)],[(5000,.arr 33 (fun i=>pI .u64 (x1 i))),(3000,.cells ((WA p_x).map .p))]⟩) (ids:=[(3000,3000),(5000,5000)]) (fun _ _ _ _ _ f x1 x2 d h=>?_) (hle:=klR [(3,.fn 33 33 (fun i=>[(fun i=>(List.replicate 33 (pI .u64 0)).getD i default) i]) (fun i=>[pI .u64 ((fun _=>0) i)]))] (al1 ⟨rfl,Br (z:=pI .u64 0) rfl⟩ al0));refine kI hS h ?_ ?_<;>intro h
 ·obtain⟨c8,h⟩:=D3 h;refine D0 hS (And.intro c8 (by decide:(2:Nat)<=2)) (b:=(((E5 .or .u32 (E5 .andNot .u32 p_x.is.Plus (a.g x2.toNat).Plus) (E5 .andNot .u32 p_x.is.Minus (a.g x2.toNat).Minus))==0)==p_x.not) != true) (fun c9=>?_) (fun c9=>?_)
  ·replace h:=itT c9 h;obtain⟨c10,h⟩:=D3 h;exact d _ [(3000,3000),(5000,5000)] _ (Lh x1 (0+x2.toNat*1) (shI .shl .u64 1 (wrap .i64 (x2+1)))) (wrap .i64 (x2+1)) c10 h (hle:=klR [(3,.fn 33 33 (fun i=>[(fun i=>if i=(0+x2.toNat*1)then (pI .u64 (shI .shl .u64 1 (wrap .i64 (x2+1))))else (fun i=>pI .u64 (x1 i)) i) i]) (fun i=>[pI .u64 (Lh x1 (0+x2.toNat*1) (shI .shl .u64 1 (wrap .i64 (x2+1))) i)]))] (al1 ⟨rfl,AB0 (c:=pI .u64) (v:=x1) (x:=shI .shl .u64 1 (wrap .i64 (x2+1))) (fun _ _=>rfl) rfl⟩ al0))
  ·replace h:=itF c9 h;exact d _ [(3000,3000),(5000,5000)] _ x1 (wrap .i64 (x2+1)) trivial h
 ·obtain rfl:=B8 h;exact A9 hS (And.intro rfl (F3 _ _):(0:Nat)=0/\(BW 33 (fun i=>pI .u64 (x1 i))).length=33) ⟨[(4,.reg 5000 0)],[(5000,.arr 33 (fun i=>pI .u64 (x1 i)))]⟩ [] (ids:=[(5000,5000)]) ⟨rfl,rfl,rfl⟩ (hle:=klR [(0,.fn 33 33 (fun i=>[(fun i=>(cA 33 (pI .u64) x1).getD i default) i]) (fun i=>[pI .u64 (x1 i)]))] (al1 ⟨rfl,E2 33 (fun i=>pI .u64 (x1 i))⟩ al0))
def Aq (N:Nat)(p_x:AB8)(a:Sl Sound):Option (Nat->Int):=
 if p_x.end_ then
  if (((0:Int)<=(a.n:Int)/\((0:Int)<=(a.n:Int)/\(a.n:Int)<33))/\(0+(a.n:Int).toNat*1)<33)then
   some (Lh (fun _=>0) (0+(a.n:Int).toNat*1) (shI .shl .u64 1 (a.n:Int)))
  else none
 else
  if (((0:Int)<=0/\(0:Int)<33)/\(0+0*1)<33)then
   some (Lh (fun _=>0) (0+0*1) (shI .shl .u64 1 0))
  else none
theorem Np {N:Nat}{p_x:AB8}{a:Sl Sound}{y:Nat->Int}(h:Aq N p_x a=some y) :FunO S Dx [.p (.agg (AB9 p_x)),.p (vSl 2 A0 a)] [] (.p (.agg (cA 33 (pI .u64) y))) ([]) []:=by
 unfold Aq at h;refine A3 hS Tryz.func229 ?_;refine kI hS h ?_ ?_<;>intro h
 ·obtain⟨c2,h⟩:=D3 h;obtain rfl:=B8 h;exact A9 hS (And.intro (And.intro (And.intro c2.1.1 c2.1.2) c2.2) (And.intro rfl (F3 _ _):(0:Nat)=0/\(BW 33 (fun i=>if i=(0+(a.n:Int).toNat*1)then (pI .u64 (shI .shl .u64 1 (a.n:Int)))else (fun i=>(List.replicate 33 (pI .u64 0)).getD i default) i)).length=33)) ⟨[(4,.reg 5000 0)],[(5000,.arr 33 (fun i=>pI .u64 (Lh (fun _=>0) (0+(a.n:Int).toNat*1) (shI .shl .u64 1 (a.n:Int)) i)))]⟩ [] (ids:=[(5000,5000)]) ⟨rfl,rfl,rfl⟩ (hle:=klR [(0,.fn 33 33 (fun i=>[(fun i=>(BW 33 (fun i=>if i=(0+(a.n:Int).toNat*1)then (pI .u64 (shI .shl .u64 1 (a.n:Int)))else (fun i=>(List.replicate 33 (pI .u64 0)).getD i default) i)).getD i default) i]) (fun i=>[pI .u64 (Lh (fun _=>0) (0+(a.n:Int).toNat*1) (shI .shl .u64 1 (a.n:Int)) i)]))] (al1 ⟨rfl,fun i b=>(E2 33 (fun i=>if i=(0+(a.n:Int).toNat*1)then (pI .u64 (shI .shl .u64 1 (a.n:Int)))else (fun i=>(List.replicate 33 (pI .u64 0)).getD i default) i) i b).trans (AB0 (c:=pI .u64) (v:=fun _=>0) (x:=shI .shl .u64 1 (a.n:Int)) (Br (z:=pI .u64 0) rfl) rfl i b)⟩ al0))
 ·obtain⟨c3,h⟩:=D3 h;obtain rfl:=B8 h;exact A9 hS (And.intro (And.intro (And.intro (by decide:(0:Int)<=0) c3.1) c3.2) (And.intro rfl (F3 _ _):(0:Nat)=0/\(BW 33 (fun i=>if i=(0+0*1)then (pI .u64 (shI .shl .u64 1 0))else (fun i=>(List.replicate 33 (pI .u64 0)).getD i default) i)).length=33)) ⟨[(4,.reg 5000 0)],[(5000,.arr 33 (fun i=>pI .u64 (Lh (fun _=>0) (0+0*1) (shI .shl .u64 1 0) i)))]⟩ [] (ids:=[(5000,5000)]) ⟨rfl,rfl,rfl⟩ (hle:=klR [(0,.fn 33 33 (fun i=>[(fun i=>(BW 33 (fun i=>if i=(0+0*1)then (pI .u64 (shI .shl .u64 1 0))else (fun i=>(List.replicate 33 (pI .u64 0)).getD i default) i)).getD i default) i]) (fun i=>[pI .u64 (Lh (fun _=>0) (0+0*1) (shI .shl .u64 1 0) i)]))] (al1 ⟨rfl,fun i b=>(E2 33 (fun i=>if i=(0+0*1)then (pI .u64 (shI .shl .u64 1 0))else (fun i=>(List.replicate 33 (pI .u64 0)).getD i default) i) i b).trans (AB0 (c:=pI .u64) (v:=fun _=>0) (x:=shI .shl .u64 1 0) (Br (z:=pI .u64 0) rfl) rfl i b)⟩ al0))
def Be (rec:Part->(Sl Sound)->Option (Nat->Int))(N:Nat)(p_x:Pseq)(b:Sl Sound):Option (Nat->Int):=
 (O3 N (b.n:Int)).bind fun y1=>
 Q2 N (fun a (x1:Nat->Int) (x2:Int)=>
  if (decide (x2<(p_x.l.n:Int))) then
   if ((0:Int)<=x2/\x2<(p_x.l.n:Int))then
    (rec (p_x.l.g x2.toNat) b).bind fun y6=>
    (D9 N x1 y6).bind fun y7=>
    a y7 (wrap .i64 (x2+1))
   else none
  else
   some x1
  ) y1 0
theorem Qp {N:Nat}{rec:Part->(Sl Sound)->Option ((Nat->Int))}(b:∀{x:Part}{b0:(Sl Sound)}{y:(Nat->Int)},rec x b0=some y->AL2 S Tryz.prog (FA x) "ablaut/pats.in" [(.p (vSl 2 A0 b0))] (.p (.agg (cA 33 (pI .u64) y)))){p_x:Pseq}{a:(Sl Sound)}{y:(Nat->Int)}(h:Be rec N p_x a=some y) :FunO S EH [(.p (.agg (AM2 p_x))),(.p (vSl 2 A0 a))] [] (.p (.agg (cA 33 (pI .u64) y))) ([]) []:=by
 unfold Be at h;refine A3 hS Tryz.func235 ?_;refine kC hS h (CP hS hL) (fun y1 h=>?_);refine F9 hS (And.intro rfl (F3 _ _):(0:Nat)=0/\(BW 33 (fun i=>pI .u64 (y1 i))).length=33) h (fun x1 x2=>⟨[(15,(pN x2)),(14,(pN (p_x.l.n:Int))),(13,(.p (vSl 1 DY p_x.l))),(5,(.reg 6000 0)),(4,(.reg 5000 0)),(1,(.p (vSl 2 A0 a)))],[(6000,(.arr 33 (fun i=>pI .u64 (x1 i)))),(5000,(.arr 33 (fun i=>pI .u64 ((fun _=>0) i))))]⟩) (ids:=[(5000,5000),(6000,6000)]) (fun _ _ _ _ _ c x1 x2 d h=>?_) (hle:=(klR [(4,.fn 33 33 (fun i=>[(fun i=>(cA 33 (pI .u64) y1).getD i default) i]) (fun i=>[pI .u64 (y1 i)])),(5,.fn 33 33 (fun i=>[(fun i=>(List.replicate 33 (pI .u64 0)).getD i default) i]) (fun i=>[pI .u64 ((fun _=>0) i)]))] (al1 ⟨rfl,(E2 33 (fun i=>pI .u64 (y1 i)))⟩ (al1 ⟨rfl,(Br (z:=pI .u64 0) rfl)⟩ al0))));refine kI hS h ?_ ?_<;>intro h
 ·obtain⟨c6,h⟩:=D3 h;obtain⟨y6,e6,h⟩:=B7 h;refine Kt hS c6 (b e6) ?_;refine Df hS (And.intro rfl (F3 _ _):(0:Nat)=0/\(BW 33 (fun i=>pI .u64 (y6 i))).length=33) ⟨[(15,(pN x2)),(14,(pN (p_x.l.n:Int))),(13,(.p (vSl 1 DY p_x.l))),(8,(.reg 9000 0)),(5,(.reg 6000 0)),(4,(.reg 5000 0)),(1,(.p (vSl 2 A0 a)))],[(9000,(.arr 33 (fun i=>pI .u64 (y6 i)))),(6000,(.arr 33 (fun i=>pI .u64 (x1 i)))),(5000,(.arr 33 (fun i=>pI .u64 ((fun _=>0) i))))]⟩ (ids:=[(5000,5000),(6000,6000),(9000,9000)]) ?_ (hle:=(klR [(4,.fn 33 33 (fun i=>[(fun i=>(cA 33 (pI .u64) y6).getD i default) i]) (fun i=>[pI .u64 (y6 i)]))] (al1 ⟨rfl,(E2 33 (fun i=>pI .u64 (y6 i)))⟩ al0)));obtain⟨y7,e7,h⟩:=B7 h;refine B9 hS [6000,9000] trivial (R7 hS hL e7) ?_;exact d _ [(5000,5000),(6000,6000)] _ y7 (wrap .i64 (x2+1)) (And.intro rfl (F3 _ _):(0:Nat)=0/\(BW 33 (fun i=>pI .u64 (y7 i))).length=33) h (hle:=klR [(4,.fn 33 33 (fun i=>[(fun i=>(cA 33 (pI .u64) y7).getD i default) i]) (fun i=>[pI .u64 (y7 i)]))] (al1 ⟨rfl,(E2 33 (fun i=>pI .u64 (y7 i)))⟩ al0))
 ·obtain rfl:=B8 h;exact A9 hS (And.intro rfl (F3 _ _):(0:Nat)=0/\(BW 33 (fun i=>pI .u64 (x1 i))).length=33) ⟨[(4,(.reg 5000 0))],[(5000,(.arr 33 (fun i=>pI .u64 (x1 i))))]⟩ [] (ids:=[(5000,5000)]) ⟨rfl,rfl,rfl⟩ (hle:=(klR [(0,.fn 33 33 (fun i=>[(fun i=>(cA 33 (pI .u64) x1).getD i default) i]) (fun i=>[pI .u64 (x1 i)]))] (al1 ⟨rfl,(E2 33 (fun i=>pI .u64 (x1 i)))⟩ al0)))
def Bf (rec:Part->(Sl Sound)->Option (Nat->Int))(N:Nat)(p_x:Palt)(b:Sl Sound):Option (Nat->Int):=
 Q2 N (fun a (x1:Nat->Int) (x2:Int)=>
  if (decide (x2<(p_x.l.n:Int))) then
   if ((0:Int)<=x2/\x2<(p_x.l.n:Int))then
    (rec (p_x.l.g x2.toNat) b).bind fun y5=>
    (K9 N x1 y5).bind fun y6=>
    a y6 (wrap .i64 (x2+1))
   else none
  else
   some x1
  ) (fun _=>0) 0
theorem Qq {N:Nat}{rec:Part->(Sl Sound)->Option ((Nat->Int))}(b:∀{x:Part}{b0:(Sl Sound)}{y:(Nat->Int)},rec x b0=some y->AL2 S Tryz.prog (FA x) "ablaut/pats.in" [(.p (vSl 2 A0 b0))] (.p (.agg (cA 33 (pI .u64) y)))){p_x:Palt}{a:(Sl Sound)}{y:(Nat->Int)}(h:Bf rec N p_x a=some y) :FunO S EF [(.p (.agg (AL9 p_x))),(.p (vSl 2 A0 a))] [] (.p (.agg (cA 33 (pI .u64) y))) ([]) []:=by
 unfold Bf at h;refine A3 hS Tryz.func230 ?_;refine F9 hS trivial h (fun x1 x2=>⟨[(11,(pN x2)),(10,(pN (p_x.l.n:Int))),(9,(.p (vSl 1 DY p_x.l))),(4,(.reg 5000 0)),(1,(.p (vSl 2 A0 a)))],[(5000,(.arr 33 (fun i=>pI .u64 (x1 i))))]⟩) (ids:=[(5000,5000)]) (fun _ _ _ _ _ c x1 x2 d h=>?_) (hle:=(klR [(4,.fn 33 33 (fun i=>[(fun i=>(List.replicate 33 (pI .u64 0)).getD i default) i]) (fun i=>[pI .u64 ((fun _=>0) i)]))] (al1 ⟨rfl,(Br (z:=pI .u64 0) rfl)⟩ al0)));refine kI hS h ?_ ?_<;>intro h
 ·obtain⟨c6,h⟩:=D3 h;obtain⟨y5,e5,h⟩:=B7 h;refine Kt hS c6 (b e5) ?_;refine Df hS (And.intro rfl (F3 _ _):(0:Nat)=0/\(BW 33 (fun i=>pI .u64 (y5 i))).length=33) ⟨[(11,(pN x2)),(10,(pN (p_x.l.n:Int))),(9,(.p (vSl 1 DY p_x.l))),(7,(.reg 8000 0)),(4,(.reg 5000 0)),(1,(.p (vSl 2 A0 a)))],[(8000,(.arr 33 (fun i=>pI .u64 (y5 i)))),(5000,(.arr 33 (fun i=>pI .u64 (x1 i))))]⟩ (ids:=[(5000,5000),(8000,8000)]) ?_ (hle:=(klR [(4,.fn 33 33 (fun i=>[(fun i=>(cA 33 (pI .u64) y5).getD i default) i]) (fun i=>[pI .u64 (y5 i)]))] (al1 ⟨rfl,(E2 33 (fun i=>pI .u64 (y5 i)))⟩ al0)));obtain⟨y6,e6,h⟩:=B7 h;refine B9 hS [5000,8000] trivial (Dm hS hL e6) ?_;exact d _ [(5000,5000)] _ y6 (wrap .i64 (x2+1)) trivial h
 ·obtain rfl:=B8 h;exact A9 hS (And.intro rfl (F3 _ _):(0:Nat)=0/\(BW 33 (fun i=>pI .u64 (x1 i))).length=33) ⟨[(4,(.reg 5000 0))],[(5000,(.arr 33 (fun i=>pI .u64 (x1 i))))]⟩ [] (ids:=[(5000,5000)]) ⟨rfl,rfl,rfl⟩ (hle:=(klR [(0,.fn 33 33 (fun i=>[(fun i=>(cA 33 (pI .u64) x1).getD i default) i]) (fun i=>[pI .u64 (x1 i)]))] (al1 ⟨rfl,(E2 33 (fun i=>pI .u64 (x1 i)))⟩ al0)))
def Bg (rec:Part->(Sl Sound)->Option (Nat->Int))(N:Nat)(p_x:AM0)(a:Sl Sound):Option (Nat->Int):=
 (rec p_x.of a).bind fun y1=>
 (F1 N y1 p_x.min (a.n:Int)).bind fun y2=>
 (O3 N (a.n:Int)).bind fun y3=>
 (K9 N y1 y3).bind fun y4=>
 if (decide (p_x.max<0)) then
  (F1 N y4 (a.n:Int) (a.n:Int)).bind fun y5=>
  (D9 N y2 y5).bind fun y6=>
  some y6
 else
  (F1 N y4 (wrap .i64 (p_x.max-p_x.min)) (a.n:Int)).bind fun y7=>
  (D9 N y2 y7).bind fun y8=>
  some y8
theorem Qr {N:Nat}{rec:Part->(Sl Sound)->Option ((Nat->Int))}(b:∀{x:Part}{b0:(Sl Sound)}{y:(Nat->Int)},rec x b0=some y->AL2 S Tryz.prog (FA x) "ablaut/pats.in" [(.p (vSl 2 A0 b0))] (.p (.agg (cA 33 (pI .u64) y)))){p_x:AM0}{a:(Sl Sound)}{y:(Nat->Int)}(h:Bg rec N p_x a=some y) :FunO S EG [(.p (.agg (AM1 p_x))),(.p (vSl 2 A0 a))] [] (.p (.agg (cA 33 (pI .u64) y))) ([]) []:=by
 unfold Bg at h;refine A3 hS Tryz.func232 ?_;obtain⟨y1,e1,h⟩:=B7 h;refine Kt hS trivial (b e1) ?_;refine Df hS (And.intro rfl (F3 _ _):(0:Nat)=0/\(BW 33 (fun i=>pI .u64 (y1 i))).length=33) ⟨[(18,(pN (a.n:Int))),(16,(pN p_x.min)),(14,(.p (.agg (cA 33 (pI .u64) y1)))),(5,(.reg 6000 0)),(4,(.reg 5000 0)),(2,(.reg 3000 0)),(1,(.p (vSl 2 A0 a)))],[(6000,(.arr 33 (fun i=>pI .u64 (y1 i)))),(5000,(.arr 33 (fun i=>pI .u64 ((fun _=>0) i)))),(3000,(.cells [(.p (FA p_x.of)),(pN p_x.min),(pN p_x.max)]))]⟩ (ids:=[(3000,3000),(5000,5000),(6000,6000)]) ?_ (hle:=(klR [(2,.eq (.agg (BW 33 (fun i=>(cA 33 (pI .u64) y1).getD i default))) (.agg (cA 33 (pI .u64) y1))),(4,.fn 33 33 (fun i=>[(fun i=>(cA 33 (pI .u64) y1).getD i default) i]) (fun i=>[pI .u64 (y1 i)])),(5,.fn 33 33 (fun i=>[(fun i=>(List.replicate 33 (pI .u64 0)).getD i default) i]) (fun i=>[pI .u64 ((fun _=>0) i)]))] (al1 (congrArg PV.agg (XM (E2 33 (fun i=>pI .u64 (y1 i))))) (al1 ⟨rfl,(E2 33 (fun i=>pI .u64 (y1 i)))⟩ (al1 ⟨rfl,(Br (z:=pI .u64 0) rfl)⟩ al0)))));refine kC hS h (X0 hS hL) (fun y2 h=>?_);obtain⟨y3,e3,h⟩:=B7 h;refine B9 hS [] (And.intro (And.intro rfl (F3 _ _):(0:Nat)=0/\(BW 33 (fun i=>pI .u64 (y2 i))).length=33) (And.intro rfl (F3 _ _):(0:Nat)=0/\(BW 33 (fun i=>pI .u64 (y1 i))).length=33)) (CP hS hL e3) ?_;refine Df hS (And.intro rfl (F3 _ _):(0:Nat)=0/\(BW 33 (fun i=>pI .u64 (y3 i))).length=33) ⟨[(8,(.reg 9000 0)),(7,(.reg 8000 0)),(6,(.reg 7000 0)),(4,(.reg 5000 0)),(2,(.reg 3000 0)),(1,(.p (vSl 2 A0 a)))],[(9000,(.arr 33 (fun i=>pI .u64 (y3 i)))),(8000,(.arr 33 (fun i=>pI .u64 (y1 i)))),(7000,(.arr 33 (fun i=>pI .u64 (y2 i)))),(5000,(.arr 33 (fun i=>pI .u64 ((fun _=>0) i)))),(3000,(.cells [(.p (FA p_x.of)),(pN p_x.min),(pN p_x.max)]))]⟩ (ids:=[(3000,3000),(5000,5000),(7000,7000),(8000,8000),(9000,9000)]) ?_ (hle:=(klR [(1,.fn 33 33 (fun i=>[(fun i=>(cA 33 (pI .u64) y3).getD i default) i]) (fun i=>[pI .u64 (y3 i)])),(2,.fn 33 33 (fun i=>[(fun i=>(cA 33 (pI .u64) y1).getD i default) i]) (fun i=>[pI .u64 (y1 i)])),(3,.fn 33 33 (fun i=>[(fun i=>(cA 33 (pI .u64) y2).getD i default) i]) (fun i=>[pI .u64 (y2 i)]))] (al1 ⟨rfl,(E2 33 (fun i=>pI .u64 (y3 i)))⟩ (al1 ⟨rfl,(E2 33 (fun i=>pI .u64 (y1 i)))⟩ (al1 ⟨rfl,(E2 33 (fun i=>pI .u64 (y2 i)))⟩ al0)))));obtain⟨y4,e4,h⟩:=B7 h;refine B9 hS [8000,9000] trivial (Dm hS hL e4) ?_;refine kI hS h ?_ ?_<;>intro h
 ·refine kC hS h (X0 hS hL) (fun y5 h=>?_);refine Df hS (And.intro rfl (F3 _ _):(0:Nat)=0/\(BW 33 (fun i=>pI .u64 (y5 i))).length=33) ⟨[(7,(.reg 8000 0)),(6,(.reg 7000 0)),(4,(.reg 5000 0))],[(8000,(.arr 33 (fun i=>pI .u64 (y5 i)))),(7000,(.arr 33 (fun i=>pI .u64 (y2 i)))),(5000,(.arr 33 (fun i=>pI .u64 ((fun _=>0) i))))]⟩ (ids:=[(5000,5000),(7000,7000),(8000,8000)]) ?_ (hle:=(klR [(0,.fn 33 33 (fun i=>[(fun i=>(cA 33 (pI .u64) y5).getD i default) i]) (fun i=>[pI .u64 (y5 i)]))] (al1 ⟨rfl,(E2 33 (fun i=>pI .u64 (y5 i)))⟩ al0)));obtain⟨y6,e6,h⟩:=B7 h;refine B9 hS [7000,8000] trivial (R7 hS hL e6) ?_;obtain rfl:=B8 h;exact A9 hS (And.intro rfl (F3 _ _):(0:Nat)=0/\(BW 33 (fun i=>pI .u64 (y6 i))).length=33) ⟨[(4,(.reg 5000 0))],[(5000,(.arr 33 (fun i=>pI .u64 (y6 i))))]⟩ [] (ids:=[(5000,5000)]) ⟨rfl,rfl,rfl⟩ (hle:=(klR [(0,.fn 33 33 (fun i=>[(fun i=>(cA 33 (pI .u64) y6).getD i default) i]) (fun i=>[pI .u64 (y6 i)]))] (al1 ⟨rfl,(E2 33 (fun i=>pI .u64 (y6 i)))⟩ al0)))
 ·refine kC hS h (X0 hS hL) (fun y7 h=>?_);refine Df hS (And.intro rfl (F3 _ _):(0:Nat)=0/\(BW 33 (fun i=>pI .u64 (y7 i))).length=33) ⟨[(7,(.reg 8000 0)),(6,(.reg 7000 0)),(4,(.reg 5000 0))],[(8000,(.arr 33 (fun i=>pI .u64 (y7 i)))),(7000,(.arr 33 (fun i=>pI .u64 (y2 i)))),(5000,(.arr 33 (fun i=>pI .u64 ((fun _=>0) i))))]⟩ (ids:=[(5000,5000),(7000,7000),(8000,8000)]) ?_ (hle:=(klR [(0,.fn 33 33 (fun i=>[(fun i=>(cA 33 (pI .u64) y7).getD i default) i]) (fun i=>[pI .u64 (y7 i)]))] (al1 ⟨rfl,(E2 33 (fun i=>pI .u64 (y7 i)))⟩ al0)));obtain⟨y8,e8,h⟩:=B7 h;refine B9 hS [7000,8000] trivial (R7 hS hL e8) ?_;obtain rfl:=B8 h;exact A9 hS (And.intro rfl (F3 _ _):(0:Nat)=0/\(BW 33 (fun i=>pI .u64 (y8 i))).length=33) ⟨[(4,(.reg 5000 0))],[(5000,(.arr 33 (fun i=>pI .u64 (y8 i))))]⟩ [] (ids:=[(5000,5000)]) ⟨rfl,rfl,rfl⟩ (hle:=(klR [(0,.fn 33 33 (fun i=>[(fun i=>(cA 33 (pI .u64) y8).getD i default) i]) (fun i=>[pI .u64 (y8 i)]))] (al1 ⟨rfl,(E2 33 (fun i=>pI .u64 (y8 i)))⟩ al0)))
def T9 (rec:Pat->Option Part)(N:Nat)(a:Pat):Option Part:=
 Q2 N (fun b (x1:Sl Part) (x2:Int)=>
  if (decide (x2<(a.L.n:Int))) then
   if ((0:Int)<=x2/\x2<(a.L.n:Int))then
    (rec (a.L.g x2.toNat)).bind fun y3=>
    if ((x1.n+(Sl.of [y3]:Sl Part).n)*16<=140737488355328/\x1.n+(Sl.of [y3]:Sl Part).n<=140737488355328)then
     b (x1.push y3) (wrap .i64 (x2+1))
    else none
   else none
  else
   if (a.Kind==1) then
    some (Part.sound a.Is a.Not)
   else
    if (a.Kind==2) then
     some (Part.edge false)
    else
     if (a.Kind==6) then
      some (Part.edge true)
     else
      if (a.Kind==4) then
       some (Part.alt x1.n x1.g)
      else
       if (a.Kind==5) then
        if (((0:Int)<=0/\0<(x1.n:Int))/\0<x1.n)then
         some (Part.rep (x1.g 0) a.Min a.Max)
        else none
       else
        some (Part.seq x1.n x1.g)
  ) (Sl.nil:Sl Part) 0
def Ar:Nat->Pat->Option Part
 |0=>fun _=>none
 |N+1=>T9 (Ar N) N
theorem Mm {N:Nat}{rec:Pat->Option Part}(b:∀{a:Pat}{y:Part},rec a=some y->FunO S BJ [.p (.agg (B3 a))] [] (.p (FA y)) ([]) []){a:Pat}{y:Part}(h:T9 rec N a=some y) :FunO S BJ [.p (.agg (B3 a))] [] (.p (FA y)) ([]) []:=by
 unfold T9 at h;refine A3 hS Tryz.func208 ?_;refine H3 hS trivial 2 2000 (B3 a) ?_;refine I1 hS trivial 8 ⟨[(7,.p (vSl 7 B3 a.L)),(3,.p F8),(1,.p (.ptr (B3 a)))],[]⟩ (ids:=[]) ?_ (hle:=klR [(0,.fn a.L.n a.L.n (AQ a) (fun i=>B3 (a.L.g i)))] (al1 ⟨rfl,K7 a⟩ al0));refine F9 hS trivial h (fun x1 x2=>⟨[(9,pN x2),(8,pN (a.L.n:Int)),(7,.p (vSl 7 B3 a.L)),(3,.vec 4500),(1,.p (.ptr (B3 a)))],[(4500,.vec UP 1 x1.n (fun i=>DY (x1.g i)) false)]⟩) (ids:=[]) (fun _ _ _ _ _ d x1 x2 f h=>?_);refine kI hS h ?_ ?_<;>intro h
 ·obtain⟨c6,h⟩:=D3 h;refine H3 hS (And.intro c6 (by decide:(7:Nat)<=7)) 13 6000 (B3 (a.L.g x2.toNat)) ?_;obtain⟨y3,e3,h⟩:=B7 h;refine B9 hS [] (by decide:(7:Nat)<=7) (b e3) ?_;obtain⟨c7,h⟩:=D3 h;exact f _ [(4500,18000)] _ (x1.push y3) (wrap .i64 (x2+1)) (And.intro (rfl:true=true) c7) h (hle:=klR [(4,.fn (x1.n+1) (x1.push y3).n (Q0 x1.n (fun i=>DY (x1.g i)) (D5 [.v .nilIface] [(0,DY y3)])) (fun i=>DY ((x1.push y3).g i)))] (al1 ⟨rfl,Et (c:=DY) (v:=x1) (x:=y3) (z:=[(.v .nilIface)]) same rfl rfl⟩ al0))
 ·refine kI hS h ?_ ?_<;>intro h
  ·obtain rfl:=B8 h;exact An0 hS (by decide:(2:Nat)<=6) [] ⟨rfl,rfl,rfl⟩
  ·refine kI hS h ?_ ?_<;>intro h
   ·cases h;exact kR hS
   ·refine kI hS h ?_ ?_<;>intro h
    ·cases h;exact kR hS
    ·refine kI hS h ?_ ?_<;>intro h
     ·refine I1 hS trivial 40 ⟨[(39,.p (vSl 1 DY x1))],[]⟩ (ids:=[]) ?_;cases h;exact kR hS
     ·refine kI hS h ?_ ?_<;>intro h
      ·refine D4 hS trivial [4,6] ?_;obtain⟨c13,h⟩:=D3 h;refine I7 c13 ?_;cases h;exact kR hS
      ·refine I1 hS trivial 54 ⟨[(53,.p (vSl 1 DY x1))],[]⟩ (ids:=[]) ?_;cases h;exact kR hS
theorem Nq {N:Nat}{a:Pat}{y:Part}(h:Ar N a=some y) :FunO S BJ [.p (.agg (B3 a))] [] (.p (FA y)) ([]) []:=by
 induction N generalizing a y with
 |zero=>cases (show (none:Option Part)=some y from h)
 |succ N ih=>exact Mm hS hL (fun e=>ih e) h
end Go.AM
namespace Go.AM
open Go.Proofs
variable {S:Ay}(hS:H2 S Tryz.prog) (hL:OF S)
include hS hL
def At:Nat->Part->Sl Sound->Option (Nat->Int)
 |0=>fun _ _=>none
 |N+1=>fun p w=>match p with
  |.nil=>none
  |.sound x no=>X1 N ⟨x,no⟩ w
  |.edge e=>Aq N ⟨e⟩ w
  |.seq n g=>Be (At N) N ⟨⟨n,g⟩⟩ w
  |.alt n g=>Bf (At N) N ⟨⟨n,g⟩⟩ w
  |.rep o mn mx=>Bg (At N) N ⟨o,mn,mx⟩ w
theorem Ac0 {N:Nat}{x:Part}{w:Sl Sound}{y:Nat->Int}(h:At N x w=some y):AL2 S Tryz.prog (FA x) "ablaut/pats.in" [(.p (vSl 2 A0 w))] (.p (.agg (cA 33 (pI .u64) y))):=by
 induction N generalizing x w y with
 |zero=>cases h
 |succ N ih=>
  cases x with
  |nil=>cases h
  |sound s no=>exact⟨_,_,CL,rfl,by kernel_rfl,Ml hS hL (p_x:=⟨s,no⟩) h⟩
  |edge e=>exact⟨_,_,Dx,rfl,by kernel_rfl,Np hS hL (N:=N) (p_x:=⟨e⟩) h⟩
  |seq n g=>exact⟨_,_,EH,rfl,by kernel_rfl,Qp hS hL (fun e=>ih e) (p_x:=⟨⟨n,g⟩⟩) h⟩
  |alt n g=>exact⟨_,_,EF,rfl,by kernel_rfl,Qq hS hL (fun e=>ih e) (p_x:=⟨⟨n,g⟩⟩) h⟩
  |rep o mn mx=>exact⟨_,_,EG,rfl,by kernel_rfl,Qr hS hL (fun e=>ih e) (p_x:=⟨o,mn,mx⟩) h⟩
end Go.AM
namespace Go.AM
open IntKind (wrap)
open Go.Proofs
set_option maxRecDepth 10000
set_option maxHeartbeats 2000000
variable {S:Ay}(hS:H2 S Tryz.prog) (hL:OF S)
include hS hL
def S2 (N:Nat)(a:Sound):Option Bool:=
 (N8 N a).bind fun y1=>
 some (!y1)
theorem Mn {N:Nat}{a:Sound}{y:Bool}(h:S2 N a=some y) :FunO S FL [.p (.agg (A0 a))] [] (pB y) ([]) []:=by unfold S2 at h;refine A3 hS Tryz.func207 ?_;refine kC hS h (Dl hS hL) (fun y1 h=>?_);cases h;exact kR hS
def D8 (N:Nat)(a:Sl Sound)(c:Sound->Option Bool):Option Int:=
 R6 N (fun b (x1:Int)=>
  if (decide (x1<(a.n:Int))) then
   if ((0:Int)<=x1/\x1<(a.n:Int))then
    (c (a.g x1.toNat)).bind fun y3=>
    if y3 then
     some x1
    else
     b (wrap .i64 (x1+1))
   else none
  else
   some (-1)
  ) 0
theorem U8 {N:Nat}{a:Sl Sound}{c:Sound->Option Bool}{kp_f:Nat}(d:∀{a0:Sound}{b:Bool},c a0=some b->FunO S kp_f [.p (.agg (A0 a0))] [] (pB b) [] []){y:Int}(h:D8 N a c=some y) :FunO S J3 [.p (vSl 2 A0 a),.clo kp_f [] []] [] (pN y) ([]) []:=by
 unfold D8 at h;refine A3 hS Tryz.func123 ?_;refine I4 hS trivial h (fun x1=>⟨[(8,pN x1),(7,pN (a.n:Int)),(1,.clo kp_f [] []),(0,.p (vSl 2 A0 a))],[]⟩) (ids:=[]) (fun _ _ _ _ _ f x1 g h=>?_);refine kI hS h ?_ ?_<;>intro h
 ·obtain⟨c8,h⟩:=D3 h;obtain⟨y3,e3,h⟩:=B7 h;refine B9 hS [] (And.intro c8 (by decide:(2:Nat)<=2)) (d e3) ?_;refine kI hS h ?_ ?_<;>intro h
  ·cases h;exact kR hS
  ·exact g _ [] _ (wrap .i64 (x1+1)) trivial h
 ·cases h;exact kR hS
def B5 (N:Nat)(a:Sl Sound)(b:Sound->Option Bool):Option Bool:=
 (D8 N a b).bind fun y1=>
 some (decide (0<=y1))
theorem I9 {N:Nat}{a:Sl Sound}{c:Sound->Option Bool}{kp_f:Nat}(d:∀{a0:Sound}{b:Bool},c a0=some b->FunO S kp_f [.p (.agg (A0 a0))] [] (pB b) [] []){y:Bool}(h:B5 N a c=some y) :FunO S I8 [.p (vSl 2 A0 a),.clo kp_f [] []] [] (pB y) ([]) []:=by unfold B5 at h;refine A3 hS Tryz.func104 ?_;refine kC hS h (U8 hS hL (fun e=>d e)) (fun y1 h=>?_);cases h;exact kR hS
def C9 (N:Nat)(q0:Sl Pat):Option (List (Int×Pat)):=
 R6 N (fun a (x1:Int)=>
  if (decide (0<=x1)) then
   if ((0:Int)<=x1/\x1<(q0.n:Int))then
    AB (x1,q0.g x1.toNat) (
     a (wrap .i64 (x1-1))
     )
   else none
  else
   some []
  ) (wrap .i64 ((q0.n:Int)-1))
theorem Z0 {N:Nat}{q0:Sl Pat}{L:List (Int×Pat)}(h:C9 N q0=some L) :Hd S E4 [] [.reg 0 0] [.cells [.p (vSl 7 B3 q0)]] (L.map (fun (x:Int×Pat)=>[pI .i64 x.1,(fun x=>.agg (B3 x)) x.2])):=by
 unfold C9 at h;refine HP hS Tryz.func142 ?_;refine IW hS trivial h (fun x1 L1=>⟨[(3,pN x1),(1,.reg 0 0),(0,.yf 1)],[(1,.yld (L1.map (fun (x:Int×Pat)=>[pI .i64 x.1,(fun x=>.agg (B3 x)) x.2])) true),(0,.cells [.p (vSl 7 B3 q0)])]⟩) (ids:=[(0,0),(1,1)]) (fun _ _ _ _ _ d x1 L1 f h=>?_);refine kI hS h ?_ ?_<;>intro h
 ·obtain⟨c10,h⟩:=D3 h;obtain⟨L4,rfl,c⟩:=PK h;replace h:=c;refine Ez hS (And.intro c10 (by decide:(7:Nat)<=7)) (ys:=(fun (x:Int×Pat)=>[pI .i64 x.1,(fun x=>.agg (B3 x)) x.2]) (x1,q0.g x1.toNat)) (rest:=L4.map (fun (x:Int×Pat)=>[pI .i64 x.1,(fun x=>.agg (B3 x)) x.2])) ?_ ?_
  ·refine D0 hS trivial (b:=false) (fun c11=>?_) (fun c11=>?_)
   ·exact Bool.noConfusion ((rfl:false=false).symm.trans c11)
   ·exact f _ [(0,0),(1,1)] _ (wrap .i64 (x1-1)) L4 trivial h
  ·refine D0 hS trivial (b:=true) (fun c12=>?_) (fun c12=>?_)
   ·exact A9 hS trivial (a:=.tup []) (objs:=[(.cells [.p (vSl 7 B3 q0)]),.yld [] false]) ⟨[],[(1,.yld [] false),(0,.cells [.p (vSl 7 B3 q0)])]⟩ [0,1] (ids:=[(0,0),(1,1)]) ⟨false,rfl,rfl,_,rfl⟩
   ·exact Bool.noConfusion ((rfl:true=true).symm.trans c12)
 ·obtain rfl:=B8 h;exact A9 hS trivial (a:=.tup []) (objs:=[(.cells [.p (vSl 7 B3 q0)]),.yld [] true]) ⟨[],[(1,.yld [] true),(0,.cells [.p (vSl 7 B3 q0)])]⟩ [0,1] (ids:=[(0,0),(1,1)]) ⟨true,rfl,rfl,_,rfl⟩
def H6 (N:Nat)(a:Sl Pat):Option (Sl Pat):=
 some a
theorem Au {N:Nat}{a:Sl Pat}{y:Sl Pat}(h:H6 N a=some y) :FunO S N5 [.p (vSl 7 B3 a)] [] (.clo E4 [] [.reg 0 0]) ([.cells [.p (vSl 7 B3 y)]]) []:=by unfold H6 at h;refine A3 hS Tryz.func122 ?_;obtain rfl:=B8 h;exact A9 hS trivial ⟨[(2,.clo E4 [] [.reg 2000 0])],[(2000,.cells [.p (vSl 7 B3 a)])]⟩ [2000] (ids:=[(2000,2000)]) ⟨rfl,rfl,rfl⟩
def X2 (N:Nat)(c:Pat):Option Int:=
 Q2 N (fun a (x3:Sl Pat) (x4:Int)=>
  if (decide (0<(x3.n:Int))) then
   if (x4==40) then
    some 12
   else
    if (((0:Int)<=(wrap .i64 ((x3.n:Int)-1))/\(wrap .i64 ((x3.n:Int)-1))<(x3.n:Int))/\(wrap .i64 ((x3.n:Int)-1)).toNat<x3.n)then
     if ((0:Int)<=(wrap .i64 ((x3.n:Int)-1))/\(wrap .i64 ((x3.n:Int)-1))<=(x3.n:Int))then
      (An N (x3.g (wrap .i64 ((x3.n:Int)-1)).toNat)).bind fun y5=>
      if (y5 != 0) then
       some y5
      else
       if ((0:Int)<=(if 41<((x3.g (wrap .i64 ((x3.n:Int)-1)).toNat).L.n:Int)then 41 else ((x3.g (wrap .i64 ((x3.n:Int)-1)).toNat).L.n:Int))/\(if 41<((x3.g (wrap .i64 ((x3.n:Int)-1)).toNat).L.n:Int)then 41 else ((x3.g (wrap .i64 ((x3.n:Int)-1)).toNat).L.n:Int))<=((x3.g (wrap .i64 ((x3.n:Int)-1)).toNat).L.n:Int))then
        (H6 N ((x3.g (wrap .i64 ((x3.n:Int)-1)).toNat).L.take (if 41<((x3.g (wrap .i64 ((x3.n:Int)-1)).toNat).L.n:Int)then 41 else ((x3.g (wrap .i64 ((x3.n:Int)-1)).toNat).L.n:Int)).toNat)).bind fun y6=>
        (C9 N y6).bind fun L3=>
        O6 L3 (fun b (x7:Int×Pat) (z3:Sl Pat)=>
         if ((((z3.n+(Sl.of [Pat.nil]:Sl Pat).n)*64<=140737488355328/\z3.n+(Sl.of [Pat.nil]:Sl Pat).n<=140737488355328)/\((0:Int)<=(z3.n:Int)/\(z3.n:Int)<((z3.push Pat.nil).n:Int)))/\(z3.n:Int).toNat<(z3.push Pat.nil).n)then
          b ((z3.push Pat.nil).upd (z3.n:Int).toNat x7.2)
         else none
         ) (fun (z3:Sl Pat)=>
          a z3 (wrap .i64 (x4+1))
         ) (x3.take (wrap .i64 ((x3.n:Int)-1)).toNat)
       else none
     else none
    else none
  else
   some 0
  ) (Sl.of [c]:Sl Pat) 0
theorem FR {N:Nat}{b:Pat}{y:Int}(h:X2 N b=some y) :FunO S JH [.p (.agg (B3 b))] [] (pN y) ([]) []:=by
 unfold X2 at h;refine A3 hS Tryz.func103 ?_;refine H3 hS trivial 2 2000 (B3 b) ?_;refine F9 hS (And.intro (by decide:(7:Nat)<=7) (rfl:true=true)) h (fun x3 x4=>⟨[(4,pN x4),(3,.reg 4000 0)],[(4501,.vec Ea 7 x3.n (fun i=>B3 (x3.g i)) false),(4000,.cells [.vec 4501])]⟩) (ids:=[(4000,4000),(4501,12000)]) (fun _ _ _ _ _ d x3 x4 j h=>?_) (hle:=klR [(1,.fn 1 (Sl.of [b]:Sl Pat).n (D5 [pI .i64 0,pI .u32 0,pI .u32 0,.v (.bool false),pI .i64 0,pI .i64 0,F8] [(0,B3 b)]) (fun i=>B3 ((Sl.of [b]:Sl Pat).g i)))] (al1 ⟨rfl,(fun i m=>match i,m with|0,_=>rfl|_+1,m=>absurd m (by omega))⟩ al0));refine kI hS h ?_ ?_<;>intro h
 ·refine kI hS h ?_ ?_<;>intro h
  ·cases h;exact kR hS
  ·obtain⟨c21,h⟩:=D3 h;refine H3 hS (And.intro (And.intro c21.1 (by decide:(7:Nat)<=7)) c21.2) 25 6000 (B3 (x3.g (wrap .i64 ((x3.n:Int)-1)).toNat)) ?_;obtain⟨c22,h⟩:=D3 h;refine AL3 hS c22 30 4501 (wrap .i64 ((x3.n:Int)-1)).toNat 4508 (e:=Ea) (k:=7) (N:=x3.n) (f:=fun i=>B3 (x3.g i)) (by have r:=c22;omega) ?_;obtain⟨y5,e7,h⟩:=B7 h;refine B9 hS [] (by decide:(7:Nat)<=7) (Nn hS hL e7) ?_;refine kI hS h ?_ ?_<;>intro h
   ·cases h;exact kR hS
   ·refine I1 hS trivial 39 ⟨[(38,.p (vSl 7 B3 (x3.g (wrap .i64 ((x3.n:Int)-1)).toNat).L)),(36,.p (vSl 7 B3 (x3.g (wrap .i64 ((x3.n:Int)-1)).toNat).L)),(4,pN x4),(3,.reg 4000 0)],[(4508,.vec Ea 7 (x3.take (wrap .i64 ((x3.n:Int)-1)).toNat).n (fun i=>B3 ((x3.take (wrap .i64 ((x3.n:Int)-1)).toNat).g i)) false),(4000,.cells [.vec 4508])]⟩ (ids:=[(4000,4000),(4508,4508)]) ?_ (hle:=klR [(0,.fn (x3.g (wrap .i64 ((x3.n:Int)-1)).toNat).L.n (x3.g (wrap .i64 ((x3.n:Int)-1)).toNat).L.n (AQ (x3.g (wrap .i64 ((x3.n:Int)-1)).toNat)) (fun i=>B3 ((x3.g (wrap .i64 ((x3.n:Int)-1)).toNat).L.g i))),(1,.fn (x3.g (wrap .i64 ((x3.n:Int)-1)).toNat).L.n (x3.g (wrap .i64 ((x3.n:Int)-1)).toNat).L.n (AQ (x3.g (wrap .i64 ((x3.n:Int)-1)).toNat)) (fun i=>B3 ((x3.g (wrap .i64 ((x3.n:Int)-1)).toNat).L.g i)))] (al1 ⟨rfl,K7 (x3.g (wrap .i64 ((x3.n:Int)-1)).toNat)⟩ (al1 ⟨rfl,K7 (x3.g (wrap .i64 ((x3.n:Int)-1)).toNat)⟩ al0)));obtain⟨c24,h⟩:=D3 h;obtain⟨y6,e8,h⟩:=B7 h;refine B9 hS [] c24 (Au hS hL e8) ?_;obtain⟨L3,e9,h⟩:=B7 h;refine Hi hS trivial [44000] [4,3] 905 (fun z3=>⟨[(4,pN x4),(3,.reg 4000 0)],[(4500,.vec Ea 7 z3.n (fun i=>B3 (z3.g i)) false),(4000,.cells [.vec 4500])]⟩) (idl:=[(4000,4000),(4500,4508)]) h (Z0 hS hL e9) (fun _=>by kernel_rfl) (fun _=>by kernel_rfl) (fun _=>by kernel_rfl) (fun _=>by kernel_rfl) (fun x7 _ o z3 q h=>?_) (fun z3 h=>?_)
    ·refine Lg hS trivial ?_;refine AA9 hS trivial 10000 (B3 x7.2) ?_;refine P3 hS trivial [(0,.l [4000]),(1,.n),(2,.l [4500]),(4,.a [51000,4500]),(5,.l [51000]),(6,.a [51000]),(7,.a [4000])] ?_;refine Ey (by decide:(7:Nat)<=7) (x:=.sl true 7 1 (D5 [pI .i64 0,pI .u32 0,pI .u32 0,.v (.bool false),pI .i64 0,pI .i64 0,F8] [(0,[pI .i64 0,pI .u32 0,pI .u32 0,.v (.bool false),pI .i64 0,pI .i64 0,F8])])) ?_;obtain⟨c27,h⟩:=D3 h;refine I7 (And.intro (And.intro c27.1.1 c27.1.2) (And.intro (rfl:(7:Nat)=7) (And.intro c27.2 (by decide:(7:Nat)<=7)))) ?_;exact q _ [(905,905),(4000,4000),(4500,51000)] _ ((z3.push Pat.nil).upd (z3.n:Int).toNat x7.2) trivial h (hle:=klR [(0,.fn (z3.n+1) ((z3.push Pat.nil).upd (z3.n:Int).toNat x7.2).n (fun l=>if l=(z3.n:Int).toNat then splice (Q0 z3.n (fun i=>B3 (z3.g i)) (D5 [pI .i64 0,pI .u32 0,pI .u32 0,.v (.bool false),pI .i64 0,pI .i64 0,F8] [(0,[pI .i64 0,pI .u32 0,pI .u32 0,.v (.bool false),pI .i64 0,pI .i64 0,F8])]) l) 0 [pI .i64 x7.2.Kind,pI .u32 x7.2.Is.Plus,pI .u32 x7.2.Is.Minus,.bb x7.2.Not,pI .i64 x7.2.Min,pI .i64 x7.2.Max,.sl false 7 x7.2.L.n (AQ x7.2)]else (Q0 z3.n (fun i=>B3 (z3.g i)) (D5 [pI .i64 0,pI .u32 0,pI .u32 0,.v (.bool false),pI .i64 0,pI .i64 0,F8] [(0,[pI .i64 0,pI .u32 0,pI .u32 0,.v (.bool false),pI .i64 0,pI .i64 0,F8])])) l) (fun i=>B3 (((z3.push Pat.nil).upd (z3.n:Int).toNat x7.2).g i)))] (al1 ⟨rfl,setH (c:=B3) (v:=z3.push Pat.nil) (x:=x7.2) (app1H (c:=B3) (v:=z3) (z:=Pat.nil) same rfl) (fun _=>by simp[Q0,D5,splice])⟩ al0))
    ·exact j _ [(4000,4000),(4501,4500)] _ z3 (wrap .i64 (x4+1)) trivial h
 ·cases h;exact kR hS
def Z1 (N:Nat)(b:Pat)(a:Sl Sound):Option ((Nat->Int)×Int):=
 (X2 N b).bind fun y1=>
 if (y1 != 0) then
  some (fun _=>0,y1)
 else
  if (decide (32<(a.n:Int))) then
   some (fun _=>0,11)
  else
   (B5 N a (fun (u1:Sound)=>S2 N u1)).bind fun y2=>
   if y2 then
    some (fun _=>0,14)
   else
    (Ar N b).bind fun y3=>
    (At N y3 a).bind fun y4=>
    some (y4,0)
theorem Ip {N:Nat}{a:Pat}{b:Sl Sound}{y:(Nat->Int)×Int}(h:Z1 N a b=some y) :FunO S Ig [.p (.agg (B3 a)),.p (vSl 2 A0 b)] [] (.tup [.p (.agg (cA 33 (pI .u64) y.1)),pN y.2]) ([]) []:=by
 unfold Z1 at h;refine A3 hS Tryz.func203 ?_;refine kC hS h (FR hS hL) (fun y1 h=>?_);refine kI hS h ?_ ?_<;>intro h
 ·obtain rfl:=B8 h;exact A9 hS (And.intro rfl (F3 _ _):(0:Nat)=0/\(BW 33 (fun i=>pI .u64 ((fun _=>0) i))).length=33) ⟨[(5,pN y1),(4,.reg 5000 0)],[(5000,.arr 33 (fun i=>pI .u64 ((fun _=>0) i)))]⟩ [] (ids:=[(5000,5000)]) ⟨rfl,rfl,rfl⟩ (hle:=klR [(1,.fn 33 33 (fun i=>[(fun i=>(cA 33 (pI .u64) (fun _=>0)).getD i default) i]) (fun i=>[pI .u64 ((fun _=>0) i)]))] (al1 ⟨rfl,E2 33 (fun i=>pI .u64 ((fun _=>0) i))⟩ al0))
 ·refine kI hS h ?_ ?_<;>intro h
  ·obtain rfl:=B8 h;exact A9 hS (And.intro rfl (F3 _ _):(0:Nat)=0/\(BW 33 (fun i=>pI .u64 ((fun _=>0) i))).length=33) ⟨[(5,pN 11),(4,.reg 5000 0)],[(5000,.arr 33 (fun i=>pI .u64 ((fun _=>0) i)))]⟩ [] (ids:=[(5000,5000)]) ⟨rfl,rfl,rfl⟩ (hle:=klR [(1,.fn 33 33 (fun i=>[(fun i=>(cA 33 (pI .u64) (fun _=>0)).getD i default) i]) (fun i=>[pI .u64 ((fun _=>0) i)]))] (al1 ⟨rfl,E2 33 (fun i=>pI .u64 ((fun _=>0) i))⟩ al0))
  ·refine kC hS h (I9 hS hL (fun e=>Mn hS hL e)) (fun y2 h=>?_);refine kI hS h ?_ ?_<;>intro h
   ·obtain rfl:=B8 h;exact A9 hS (And.intro rfl (F3 _ _):(0:Nat)=0/\(BW 33 (fun i=>pI .u64 ((fun _=>0) i))).length=33) ⟨[(5,pN 14),(4,.reg 5000 0)],[(5000,.arr 33 (fun i=>pI .u64 ((fun _=>0) i)))]⟩ [] (ids:=[(5000,5000)]) ⟨rfl,rfl,rfl⟩ (hle:=klR [(1,.fn 33 33 (fun i=>[(fun i=>(cA 33 (pI .u64) (fun _=>0)).getD i default) i]) (fun i=>[pI .u64 ((fun _=>0) i)]))] (al1 ⟨rfl,E2 33 (fun i=>pI .u64 ((fun _=>0) i))⟩ al0))
   ·refine kC hS h (Nq hS hL) (fun y3 h=>?_);obtain⟨y4,e4,h⟩:=B7 h;refine Kt hS trivial (Ac0 hS hL e4) ?_;obtain rfl:=B8 h;exact A9 hS (And.intro rfl (F3 _ _):(0:Nat)=0/\(BW 33 (fun i=>pI .u64 (y4 i))).length=33) ⟨[(5,pN 0),(4,.reg 5000 0)],[(5000,.arr 33 (fun i=>pI .u64 (y4 i)))]⟩ [] (ids:=[(5000,5000)]) ⟨rfl,rfl,rfl⟩ (hle:=klR [(1,.fn 33 33 (fun i=>[(fun i=>(cA 33 (pI .u64) y4).getD i default) i]) (fun i=>[pI .u64 (y4 i)]))] (al1 ⟨rfl,E2 33 (fun i=>pI .u64 (y4 i))⟩ al0))
def Bh (N:Nat)(d:Pat)(c:Sl Sound)(a:Int):Option ((Sl Int)×Int):=
 (Z1 N d c).bind fun y1=>
 lt (fun (z1:Int)=>
  if (z1 != 0) then
   some ((Sl.nil:Sl Int),z1)
  else
   Q2 N (fun b (x2:Sl Int) (x3:Int)=>
    if (decide (x3<(wrap .i64 ((c.n:Int)+1)))) then
     if ((((0:Int)<=x3/\x3<33)/\(0+x3.toNat*1)<33)/\(0:Int)<=a)then
      if ((E5 .and .u64 (shI .shr .u64 (y1.1 (0+x3.toNat*1)) a) 1)==1) then
       if ((x2.n+(Sl.of [x3]:Sl Int).n)*8<=140737488355328/\x2.n+(Sl.of [x3]:Sl Int).n<=140737488355328)then
        b (x2.push x3) (wrap .i64 (x3+1))
       else none
      else
       b x2 (wrap .i64 (x3+1))
     else none
    else
     some (x2,0)
    ) (Sl.nil:Sl Int) 0
  ) fun k1=>
  if (y1.2==0) then
   (Y8 N c a).bind fun y3=>
   k1 y3
  else
   k1 y1.2
theorem Qs {N:Nat}{f:Pat}{d:Sl Sound}{a:Int}{y:(Sl Int)×Int}(h:Bh N f d a=some y) :FunO S Id [.p (.agg (B3 f)),.p (vSl 2 A0 d),pN a] [] (.tup [.vec 0,pN y.2]) ([.vec B6 1 y.1.n (fun i=>cI .i64 (y.1.g i)) true]) []:=by
 unfold Bh at h;refine A3 hS Tryz.func193 ?_;refine kC hS h (Ip hS hL) (fun y1 h=>?_);refine Fy hS (And.intro rfl (F3 _ _):(0:Nat)=0/\(BW 33 (fun i=>pI .u64 (y1.1 i))).length=33) (A7 hS) h 0 (fun z1=>⟨[(9,pN z1),(8,.reg 9000 0),(2,pN a),(1,.p (vSl 2 A0 d))],[(9000,.arr 33 (fun i=>pI .u64 (y1.1 i)))]⟩) (fun M1 k1 j h=>?_) (fun z1 h=>?_)
 ·refine kI hS h ?_ ?_<;>intro h
  ·refine kC hS h (Im hS hL) (fun y3 h=>?_);exact j _ [(9000,9000)] _ y3 trivial h (hle:=klR [(3,.fn 33 33 (fun i=>[(fun i=>(cA 33 (pI .u64) y1.1).getD i default) i]) (fun i=>[pI .u64 (y1.1 i)]))] (al1 ⟨rfl,E2 33 (fun i=>pI .u64 (y1.1 i))⟩ al0))
  ·exact j _ [(9000,9000)] _ y1.2 trivial h (hle:=klR [(3,.fn 33 33 (fun i=>[(fun i=>(cA 33 (pI .u64) y1.1).getD i default) i]) (fun i=>[pI .u64 (y1.1 i)]))] (al1 ⟨rfl,E2 33 (fun i=>pI .u64 (y1.1 i))⟩ al0))
 ·refine kI hS h ?_ ?_<;>intro h
  ·obtain rfl:=B8 h;exact A9 hS trivial ⟨[(7,pN z1),(6,.vec 7700)],[(7700,.vec B6 1 (Sl.nil:Sl Int).n (fun i=>cI .i64 ((Sl.nil:Sl Int).g i)) true)]⟩ [7700] (ids:=[]) ⟨rfl,rfl,rfl⟩
  ·refine F9 hS trivial h (fun x2 x3=>⟨[(29,pN x3),(28,pN (wrap .i64 ((d.n:Int)+1))),(10,.vec 11500),(8,.reg 9000 0),(2,pN a)],[(11500,.vec B6 1 x2.n (fun i=>cI .i64 (x2.g i)) false),(9000,.arr 33 (fun i=>pI .u64 (y1.1 i)))]⟩) (ids:=[(9000,9000)]) (fun _ _ _ _ _ m x2 x3 l h=>?_);refine kI hS h ?_ ?_<;>intro h
   ·obtain⟨c12,h⟩:=D3 h;refine D0 hS c12 (b:=(E5 .and .u64 (shI .shr .u64 (y1.1 (0+x3.toNat*1)) a) 1)==1) (fun c13=>?_) (fun c13=>?_)
    ·replace h:=itT c13 h;obtain⟨c14,h⟩:=D3 h;exact l _ [(9000,9000),(11500,43000)] _ (x2.push x3) (wrap .i64 (x3+1)) (And.intro (rfl:true=true) c14) h (hle:=klR [(3,.fn (x2.n+1) (x2.push x3).n (Q0 x2.n (fun i=>cI .i64 (x2.g i)) (D5 [pI .i64 0] [(0,cI .i64 x3)])) (fun i=>cI .i64 ((x2.push x3).g i)))] (al1 ⟨rfl,Et (c:=cI .i64) (v:=x2) (x:=x3) (z:=[(pI .i64 0)]) same rfl rfl⟩ al0))
    ·replace h:=itF c13 h;exact l _ [(9000,9000),(11500,11500)] _ x2 (wrap .i64 (x3+1)) trivial h
   ·obtain rfl:=B8 h;exact A9 hS trivial ⟨[(7,pN 0),(6,.vec 11500)],[(11500,.vec B6 1 x2.n (fun i=>cI .i64 (x2.g i)) true)]⟩ [11500] (ids:=[(11500,11500)]) ⟨rfl,rfl,rfl⟩
def H1 (N:Nat)(a:List (Int)):Option (Sl Int):=
 O6 a (fun b (x1:Int) (z1:Sl Int)=>
  if ((z1.n+(Sl.of [x1]:Sl Int).n)*8<=140737488355328/\z1.n+(Sl.of [x1]:Sl Int).n<=140737488355328)then
   b (z1.push x1)
  else none
  ) (fun (z1:Sl Int)=>
   some z1
  ) (Sl.nil:Sl Int)
theorem BR {N:Nat}{b:List (Int)}{a:Int}{kp_seq:Nat}(fp_seq:∃fn,AP0[kp_seq]? = some fn/\fn.body.isSome=true/\(fn.name == "runtime.NumGoroutine")=false)(d:Hd S kp_seq [] [.reg 0 0] [(.cells [(.p (pI .u64 a))])] (b.map (fun (x:Int)=>[(pI .i64) x]))){y:(Sl Int)}(h:H1 N b=some y) :FunO S T8 [(.p F8),(.clo kp_seq [] [(.reg 0 0)])] [(.cells [(.p (pI .u64 a))])] (.vec 0) ([(.vec B6 1 y.n (fun i=>(cI .i64) (y.g i)) true)]) [false]:=by
 unfold H1 at h;refine A3 hS Tryz.func209 ?_;refine Wu hS trivial fp_seq [0] [2] 901 (fun z1=>⟨[(2,(.reg 3000 0))],[(3500,(.vec B6 1 z1.n (fun i=>(cI .i64) (z1.g i)) false)),(3000,(.cells [(.vec 3500)]))]⟩) (idl:=[(3000,3000)]) h d (fun _=>by kernel_rfl) (fun _=>by kernel_rfl) (fun _=>by kernel_rfl) (fun _=>by kernel_rfl) (fun x1 _ f z1 j h=>?_) (fun z1 h=>?_)
 ·refine Lg hS trivial ?_;obtain⟨c1,h⟩:=D3 h;exact j _ [(901,901),(3000,3000),(3500,12000)] _ (z1.push x1) (And.intro (rfl:true=true) c1) h (hle:=klR [(0,.fn (z1.n+1) (z1.push x1).n (Q0 z1.n (fun i=>(cI .i64) (z1.g i)) (D5 [(pI .i64 0)] [(0,(cI .i64) x1)])) (fun i=>(cI .i64) ((z1.push x1).g i)))] (al1 ⟨rfl,(Et (c:=(cI .i64)) (v:=z1) (x:=x1) (z:=[(pI .i64 0)]) same rfl rfl)⟩ al0))
 ·obtain rfl:=B8 h;exact A9 hS trivial ⟨[(4,(.vec 3500))],[(3500,(.vec B6 1 z1.n (fun i=>(cI .i64) (z1.g i)) true))]⟩ [3500] (ids:=[(3500,3500)]) ⟨rfl,rfl,rfl⟩
def K4 (N:Nat)(a:List (Int)):Option (Sl Int):=
 (H1 N a).bind fun y1=>
 some y1
theorem FS {N:Nat}{b:List (Int)}{a:Int}{kp_seq:Nat}(fp_seq:∃fn,AP0[kp_seq]? = some fn/\fn.body.isSome=true/\(fn.name == "runtime.NumGoroutine")=false)(c:Hd S kp_seq [] [.reg 0 0] [(.cells [(.p (pI .u64 a))])] (b.map (fun (x:Int)=>[(pI .i64) x]))){y:(Sl Int)}(h:K4 N b=some y) :FunO S Ce [(.clo kp_seq [] [(.reg 0 0)])] [(.cells [(.p (pI .u64 a))])] (.vec 0) ([(.vec B6 1 y.n (fun i=>(cI .i64) (y.g i)) true)]) [false]:=by unfold K4 at h;refine A3 hS Tryz.func205 ?_;obtain⟨y1,e1,h⟩:=B7 h;refine B9 hS [0] trivial (BR hS hL fp_seq c e1) ?_;obtain rfl:=B8 h;exact A9 hS trivial ⟨[(2,(.vec 5000))],[(5000,(.vec B6 1 y1.n (fun i=>(cI .i64) (y1.g i)) true))]⟩ [5000] (ids:=[(5000,5000)]) ⟨rfl,rfl,rfl⟩
def CU (N:Nat)(c:Pat)(b:Sl Sound)(a:Int):Option ((Sl Int)×Int):=
 (Z1 N c b).bind fun y1=>
 lt (fun (z1:Int)=>
  if (z1 != 0) then
   some ((Sl.nil:Sl Int),z1)
  else
   if (((0:Int)<=a/\a<33)/\(0+a.toNat*1)<33)then
    (Ap N (y1.1 (0+a.toNat*1))).bind fun y4=>
    (P0 N y4).bind fun L1=>
    (K4 N L1).bind fun y5=>
    some (y5,0)
   else none
  ) fun k1=>
  if (y1.2==0) then
   (Y8 N b a).bind fun y3=>
   k1 y3
  else
   k1 y1.2
theorem Vf {N:Nat}{b:Pat}{c:Sl Sound}{a:Int}{y:(Sl Int)×Int}(h:CU N b c a=some y) :FunO S LT [.p (.agg (B3 b)),.p (vSl 2 A0 c),pN a] [] (.tup [.vec 0,pN y.2]) ([.vec B6 1 y.1.n (fun i=>cI .i64 (y.1.g i)) true]) []:=by
 unfold CU at h;refine A3 hS Tryz.func194 ?_;refine kC hS h (Ip hS hL) (fun y1 h=>?_);refine Fy hS (And.intro rfl (F3 _ _):(0:Nat)=0/\(BW 33 (fun i=>pI .u64 (y1.1 i))).length=33) (A7 hS) h 0 (fun z1=>⟨[(9,pN z1),(8,.reg 9000 0),(2,pN a)],[(9000,.arr 33 (fun i=>pI .u64 (y1.1 i)))]⟩) (fun M1 k1 d h=>?_) (fun z1 h=>?_)
 ·refine kI hS h ?_ ?_<;>intro h
  ·refine kC hS h (Im hS hL) (fun y3 h=>?_);exact d _ [(9000,9000)] _ y3 trivial h (hle:=klR [(2,.fn 33 33 (fun i=>[(fun i=>(cA 33 (pI .u64) y1.1).getD i default) i]) (fun i=>[pI .u64 (y1.1 i)]))] (al1 ⟨rfl,E2 33 (fun i=>pI .u64 (y1.1 i))⟩ al0))
  ·exact d _ [(9000,9000)] _ y1.2 trivial h (hle:=klR [(2,.fn 33 33 (fun i=>[(fun i=>(cA 33 (pI .u64) y1.1).getD i default) i]) (fun i=>[pI .u64 (y1.1 i)]))] (al1 ⟨rfl,E2 33 (fun i=>pI .u64 (y1.1 i))⟩ al0))
 ·refine kI hS h ?_ ?_<;>intro h
  ·obtain rfl:=B8 h;exact A9 hS trivial ⟨[(7,pN z1),(6,.vec 7700)],[(7700,.vec B6 1 (Sl.nil:Sl Int).n (fun i=>cI .i64 ((Sl.nil:Sl Int).g i)) true)]⟩ [7700] (ids:=[]) ⟨rfl,rfl,rfl⟩
  ·obtain⟨c5,h⟩:=D3 h;obtain⟨y4,e4,h⟩:=B7 h;refine B9 hS [] c5 (Dz hS hL e4) ?_;obtain⟨L1,e5,h⟩:=B7 h;obtain⟨y5,e6,h⟩:=B7 h;refine B9 hS [28000] trivial (FS hS hL ⟨_,Tryz.func210,by decide +kernel,by decide +kernel⟩ (Ca hS hL e5) e6) ?_;obtain rfl:=B8 h;exact A9 hS trivial ⟨[(7,pN 0),(6,.vec 29000)],[(29000,.vec B6 1 y5.n (fun i=>cI .i64 (y5.g i)) true)]⟩ [29000] (ids:=[(29000,29000)]) ⟨rfl,rfl,rfl⟩
end Go.AM
namespace Go.AM
open IntKind (wrap)
open Go.Proofs
set_option maxRecDepth 10000
set_option maxHeartbeats 2000000
variable {S:Ay}(hS:H2 S Tryz.prog) (hL:OF S)
include hS hL
def By (N:Nat)(a:Str):Option Bool:=
 lt (fun (z1:Bool)=>
  some z1
  ) fun k1=>
  if ((a==[]) != true) then
   if (decide ((a.length:Int)<=24)) then
    (Dy N a [97,98,99,100,101,102,103,104,105,106,107,108,109,110,111,112,113,114,115,116,117,118,119,120,121,122,65,66,67,68,69,70,71,72,73,74,75,76,77,78,79,80,81,82,83,84,85,86,87,88,89,90,48,49,50,51,52,53,54,55,56,57,45]).bind fun y2=>
    k1 ((y2==[]) != false)
   else
    k1 false
  else
   k1 false
theorem Vg {N:Nat}{b:Str}{y:Bool}(h:By N b=some y) :FunO S LD [.p (.str b)] [] (pB y) ([]) []:=by
 unfold By at h;refine A3 hS Tryz.func102 ?_;refine Fy hS trivial (A7 hS) h 0 (fun z1=>⟨[(2,pB z1)],[]⟩) (fun M1 k1 a h=>?_) (fun z1 h=>?_)
 ·refine kG hS h (fun h=>?_) (fun h=>?_)
  ·refine kG hS h (fun h=>?_) (fun h=>?_)
   ·refine kC hS h (Nl hS hL) (fun y2 h=>?_);exact a _ [] _ ((y2==[]) != false) trivial h
   ·exact a _ [] _ false trivial h
  ·exact a _ [] _ false trivial h
 ·cases h;exact kR hS
def U2 (N:Nat)(p_x:Bn)(a:Int):Option Bool:=
 lt (fun (z1:Bool)=>
  if z1 then
   some false
  else
   if ((((E5 .andNot .u32 (E5 .or .u32 p_x.Clear p_x.Take) 16777215) != 0)||((E5 .and .u32 p_x.Clear (E5 .or .u32 p_x.Set.Plus p_x.Set.Minus)) != 0))||((E5 .and .u32 p_x.Take (E5 .or .u32 (E5 .or .u32 p_x.Set.Plus p_x.Set.Minus) p_x.Clear)) != 0)) then
    some false
   else
    if (p_x.Take==0) then
     some (p_x.Of==0)
    else
     some ((decide (0<=p_x.Of))&&(decide (p_x.Of<a)))
  ) fun k1=>
  if (decide (p_x.From<(-1))) then
   k1 true
  else
   if (decide (a<=p_x.From)) then
    k1 true
   else
    (G3 N p_x.Set).bind fun y2=>
    k1 (!y2)
theorem Yw {N:Nat}{p_x:Bn}{b:Int}{y:Bool}(h:U2 N p_x b=some y) :FunO S Oq [.p (.agg (O5 p_x)),pN b] [] (pB y) ([]) []:=by
 unfold U2 at h;refine A3 hS Tryz.func99 ?_;refine Fy hS trivial (A7 hS) h 0 (fun z1=>⟨[(13,pB z1),(5,pU (E5 .or .u32 p_x.Set.Plus p_x.Set.Minus)),(2,.reg 3000 0),(1,pN b)],[(3000,.cells ((O5 p_x).map .p))]⟩) (fun M1 k1 c h=>?_) (fun z1 h=>?_)
 ·refine kG hS h (fun h=>?_) (fun h=>?_)
  ·exact c _ [(3000,3000)] _ true trivial h
  ·refine kG hS h (fun h=>?_) (fun h=>?_)
   ·exact c _ [(3000,3000)] _ true trivial h
   ·refine kC hS h (P5 hS hL) (fun y2 h=>?_);exact c _ [(3000,3000)] _ (!y2) trivial h
 ·refine kI hS h ?_ ?_<;>intro h
  ·cases h;exact kR hS
  ·refine kB hS (A7 hS) trivial trivial 16 (.o (.o (.a ((E5 .andNot .u32 (E5 .or .u32 p_x.Clear p_x.Take) 16777215) != 0)) (.a ((E5 .and .u32 p_x.Clear (E5 .or .u32 p_x.Set.Plus p_x.Set.Minus)) != 0))) (.a ((E5 .and .u32 p_x.Take (E5 .or .u32 (E5 .or .u32 p_x.Set.Plus p_x.Set.Minus) p_x.Clear)) != 0))) ?_;refine kI hS h ?_ ?_<;>intro h
   ·cases h;exact kR hS
   ·refine kI hS h ?_ ?_<;>intro h
    ·cases h;exact kR hS
    ·refine kB hS (A7 hS) trivial trivial 5 (.n (.a (decide (0<=p_x.Of))) (.a (decide (p_x.Of<b)))) ?_;cases h;exact kR hS
def Z2 (N:Nat)(p_x:Bn)(q0:Int):Option Bool:=
 (U2 N p_x q0).bind fun y1=>
 some (!y1)
theorem Qt {N:Nat}{p_x:Bn}{q0:Int}{y:Bool}(h:Z2 N p_x q0=some y) :FunO S HX [.p (.agg (O5 p_x)),.reg 0 0] [.cells [pN q0]] (pB y) ([.cells [pN q0]]) [true]:=by unfold Z2 at h;refine A3 hS Tryz.func98 ?_;refine kC hS h (Yw hS hL) (fun y1 h=>?_);obtain rfl:=B8 h;exact A9 hS trivial ⟨[(3,pB (!y1))],[(0,.cells [pN q0])]⟩ [0] (ids:=[(0,0)]) ⟨rfl,rfl,rfl⟩
def Z3 (N:Nat)(a:Sound):Option Bool:=
 (G3 N a).bind fun y1=>
 some (!y1)
theorem Qu {N:Nat}{a:Sound}{y:Bool}(h:Z3 N a=some y) :FunO S HY [.p (.agg (A0 a))] [] (pB y) ([]) []:=by unfold Z3 at h;refine A3 hS Tryz.func100 ?_;refine kC hS h (P5 hS hL) (fun y1 h=>?_);cases h;exact kR hS
def E8 (N:Nat)(a:Sl Bn)(c:Bn->Option Bool):Option Int:=
 R6 N (fun b (x1:Int)=>
  if (decide (x1<(a.n:Int))) then
   if ((0:Int)<=x1/\x1<(a.n:Int))then
    (c (a.g x1.toNat)).bind fun y3=>
    if y3 then
     some x1
    else
     b (wrap .i64 (x1+1))
   else none
  else
   some (-1)
  ) 0
theorem Ac {N:Nat}{c:Sl Bn}{d:Bn->Option Bool}{a:Int}{kp_f:Nat}(f:∀{a0:Bn}{b:Bool},d a0=some b->FunO S kp_f [.p (.agg (O5 a0)),.reg 0 0] [.cells [pN a]] (pB b) [.cells [pN a]] [true]){y:Int}(h:E8 N c d=some y) :FunO S M8 [.p (vSl 6 O5 c),.clo kp_f [] [.reg 0 0]] [.cells [pN a]] (pN y) ([.cells [pN a]]) [true]:=by
 unfold E8 at h;refine A3 hS Tryz.func124 ?_;refine I4 hS trivial h (fun x1=>⟨[(8,pN x1),(7,pN (c.n:Int)),(1,.clo kp_f [] [.reg 0 0]),(0,.p (vSl 6 O5 c))],[(0,.cells [pN a])]⟩) (ids:=[(0,0)]) (fun _ _ _ _ _ g x1 i h=>?_);refine kI hS h ?_ ?_<;>intro h
 ·obtain⟨c8,h⟩:=D3 h;obtain⟨y3,e3,h⟩:=B7 h;refine B9 hS [0] (And.intro c8 (by decide:(6:Nat)<=6)) (f e3) ?_;refine kI hS h ?_ ?_<;>intro h
  ·obtain rfl:=B8 h;exact A9 hS trivial ⟨[(4,pN x1)],[(0,.cells [pN a])]⟩ [0] (ids:=[(0,0)]) ⟨rfl,rfl,rfl⟩
  ·exact i _ [(0,0)] _ (wrap .i64 (x1+1)) trivial h
 ·obtain rfl:=B8 h;exact A9 hS trivial ⟨[(4,pN (-1))],[(0,.cells [pN a])]⟩ [0] (ids:=[(0,0)]) ⟨rfl,rfl,rfl⟩
def C6 (N:Nat)(a:Sl Bn)(b:Bn->Option Bool):Option Bool:=
 (E8 N a b).bind fun y1=>
 some (decide (0<=y1))
theorem V7 {N:Nat}{c:Sl Bn}{d:Bn->Option Bool}{a:Int}{kp_f:Nat}(f:∀{a0:Bn}{b:Bool},d a0=some b->FunO S kp_f [.p (.agg (O5 a0)),.reg 0 0] [.cells [pN a]] (pB b) [.cells [pN a]] [true]){y:Bool}(h:C6 N c d=some y) :FunO S J6 [.p (vSl 6 O5 c),.clo kp_f [] [.reg 0 0]] [.cells [pN a]] (pB y) ([.cells [pN a]]) [true]:=by unfold C6 at h;refine A3 hS Tryz.func105 ?_;obtain⟨y1,e1,h⟩:=B7 h;refine B9 hS [0] trivial (Ac hS hL (fun e=>f e) e1) ?_;obtain rfl:=B8 h;exact A9 hS trivial ⟨[(4,pB (decide (0<=y1)))],[(0,.cells [pN a])]⟩ [0] (ids:=[(0,0)]) ⟨rfl,rfl,rfl⟩
def X3 (N:Nat)(a:Law):Option Int:=
 (By N a.Name).bind fun y1=>
 if (!y1) then
  some 17
 else
  (X2 N a.Left).bind fun y2=>
  if (y2 != 0) then
   some 17
  else
   (X2 N a.Right).bind fun y3=>
   if (y3 != 0) then
    some 17
   else
    if (decide (4<(a.If.n:Int))) then
     some 17
    else
     if (decide (6<(a.Out.n:Int))) then
      some 17
     else
      if ((wrap .i64 ((a.If.n:Int)+(a.Out.n:Int)))==0) then
       some 17
      else
       if ((decide (a.Mode<1))||(decide (3<a.Mode))) then
        some 17
       else
        (B5 N a.If (fun (u1:Sound)=>Z3 N u1)).bind fun y4=>
        if y4 then
         some 17
        else
         (C6 N a.Out (fun (u2:Bn)=>Z2 N u2 (a.If.n:Int))).bind fun y5=>
         if y5 then
          some 17
         else
          some 0
theorem Hl {N:Nat}{c:Law}{y:Int}(h:X3 N c=some y) :FunO S Lx [.p (.agg (B2 c))] [] (pN y) ([]) []:=by
 unfold X3 at h;refine A3 hS Tryz.func76 ?_;refine kC hS h (Vg hS hL) (fun y1 h=>?_);refine D0 hS trivial (b:=!y1) (fun c1=>?_) (fun c1=>?_)
 ·replace h:=itT c1 h;refine D0 hS trivial (b:=!y1) (fun c2=>?_) (fun c2=>?_)
  ·cases h;exact kR hS
  ·exact Bool.noConfusion (c1.symm.trans c2)
 ·replace h:=itF c1 h;refine kC hS h (FR hS hL) (fun y2 h=>?_);refine D0 hS trivial (b:=y2 != 0) (fun c3=>?_) (fun c3=>?_)
  ·replace h:=itT c3 h;refine D0 hS trivial (b:=y2 != 0) (fun c4=>?_) (fun c4=>?_)
   ·cases h;exact kR hS
   ·exact Bool.noConfusion (c3.symm.trans c4)
  ·replace h:=itF c3 h;refine kC hS h (FR hS hL) (fun y3 h=>?_);refine D0 hS trivial (b:=y3 != 0) (fun c5=>?_) (fun c5=>?_)
   ·replace h:=itT c5 h;refine D0 hS trivial (b:=y3 != 0) (fun c6=>?_) (fun c6=>?_)
    ·cases h;exact kR hS
    ·exact Bool.noConfusion (c5.symm.trans c6)
   ·replace h:=itF c5 h;refine D0 hS trivial (b:=decide (4<(c.If.n:Int))) (fun c7=>?_) (fun c7=>?_)
    ·replace h:=itT c7 h;refine D0 hS trivial (b:=decide (4<(c.If.n:Int))) (fun c8=>?_) (fun c8=>?_)
     ·cases h;exact kR hS
     ·exact Bool.noConfusion (c7.symm.trans c8)
    ·replace h:=itF c7 h;refine D0 hS trivial (b:=decide (6<(c.Out.n:Int))) (fun c9=>?_) (fun c9=>?_)
     ·replace h:=itT c9 h;refine D0 hS trivial (b:=decide (6<(c.Out.n:Int))) (fun c10=>?_) (fun c10=>?_)
      ·cases h;exact kR hS
      ·exact Bool.noConfusion (c9.symm.trans c10)
     ·replace h:=itF c9 h;refine D0 hS trivial (b:=(wrap .i64 ((c.If.n:Int)+(c.Out.n:Int)))==0) (fun c11=>?_) (fun c11=>?_)
      ·replace h:=itT c11 h;refine D0 hS trivial (b:=(wrap .i64 ((c.If.n:Int)+(c.Out.n:Int)))==0) (fun c12=>?_) (fun c12=>?_)
       ·cases h;exact kR hS
       ·exact Bool.noConfusion (c11.symm.trans c12)
      ·replace h:=itF c11 h;refine kB hS (A7 hS) trivial trivial 4 (.o (.a (decide (c.Mode<1))) (.a (decide (3<c.Mode)))) ?_;refine D0 hS trivial (b:=(decide (c.Mode<1))||(decide (3<c.Mode))) (fun c13=>?_) (fun c13=>?_)
       ·replace h:=itT c13 h;refine D0 hS trivial (b:=(decide (c.Mode<1))||(decide (3<c.Mode))) (fun c14=>?_) (fun c14=>?_)
        ·cases h;exact kR hS
        ·exact Bool.noConfusion (c13.symm.trans c14)
       ·replace h:=itF c13 h;refine kC hS h (I9 hS hL (fun e=>Qu hS hL e)) (fun y4 h=>?_);refine D0 hS trivial (b:=y4) (fun c15=>?_) (fun c15=>?_)
        ·replace h:=itT c15 h;refine D0 hS trivial (b:=y4) (fun c16=>?_) (fun c16=>?_)
         ·cases h;exact kR hS
         ·exact Bool.noConfusion (c15.symm.trans c16)
        ·replace h:=itF c15 h;obtain⟨y5,e5,h⟩:=B7 h;refine B9 hS [4000] trivial (V7 hS hL (fun e=>Qt hS hL e) e5) ?_;refine kI hS h ?_ ?_<;>intro h
         ·cases h;exact kR hS
         ·cases h;exact kR hS
def EN (N:Nat)(a:Law)(b:Sl Sound):Option Int:=
 (X3 N a).bind fun y1=>
 if (y1 != 0) then
  some y1
 else
  (K3 N b).bind fun y2=>
  some y2
theorem Vh {N:Nat}{a:Law}{b:Sl Sound}{y:Int}(h:EN N a b=some y) :FunO S LQ [.p (.agg (B2 a)),.p (vSl 2 A0 b)] [] (pN y) ([]) []:=by
 unfold EN at h;refine A3 hS Tryz.func160 ?_;refine kC hS h (Hl hS hL) (fun y1 h=>?_);refine kI hS h ?_ ?_<;>intro h
 ·cases h;exact kR hS
 ·refine kC hS h (Dk hS hL) (fun y2 h=>?_);cases h;exact kR hS
def U3 (N:Nat)(a:Int)(q0:Law)(q1:Sl Sound):Option Bool:=
 (Bh N q0.Left q1 a).bind fun y1=>
 if ((y1.1.n:Int)==0) then
  some false
 else
  (CU N q0.Right q1 (wrap .i64 (a+(q0.If.n:Int)))).bind fun y2=>
  some (decide (0<(y2.1.n:Int)))
theorem Nr {N:Nat}{a:Int}{q0:Law}{q1:Sl Sound}{y:Bool}(h:U3 N a q0 q1=some y) :FunO S U1 [pN a,.reg 0 0,.reg 1 0] [.cells ((B2 q0).map .p),.cells [.p (vSl 2 A0 q1)]] (pB y) ([.cells ((B2 q0).map .p),.cells [.p (vSl 2 A0 q1)]]) [true,true]:=by
 unfold U3 at h;refine A3 hS Tryz.func192 ?_;refine kC hS h (Qs hS hL) (fun y1 h=>?_);refine kI hS h ?_ ?_<;>intro h
 ·obtain rfl:=B8 h;exact A9 hS trivial ⟨[(4,pB false)],[(1,.cells [.p (vSl 2 A0 q1)]),(0,.cells ((B2 q0).map .p))]⟩ [0,1] (ids:=[(0,0),(1,1)]) ⟨rfl,rfl,rfl⟩
 ·refine kC hS h (Vf hS hL) (fun y2 h=>?_);obtain rfl:=B8 h;exact A9 hS trivial ⟨[(4,pB (decide (0<(y2.1.n:Int))))],[(1,.cells [.p (vSl 2 A0 q1)]),(0,.cells ((B2 q0).map .p))]⟩ [0,1] (ids:=[(0,0),(1,1)]) ⟨rfl,rfl,rfl⟩
def FT (N:Nat)(a:Law)(b:Sl Sound):Option (Law×(Sl Sound)):=
 some (a,b)
theorem ST {N:Nat}{a:Law}{b:Sl Sound}{y:Law×(Sl Sound)}(h:FT N a b=some y) :FunO S JN [.p (.agg (B2 a)),.p (vSl 2 A0 b)] [] (.clo U1 [] [.reg 0 0,.reg 1 0]) ([.cells ((B2 y.1).map .p),.cells [.p (vSl 2 A0 y.2)]]) []:=by unfold FT at h;refine A3 hS Tryz.func182 ?_;obtain rfl:=B8 h;exact A9 hS trivial ⟨[(4,.clo U1 [] [.reg 3000 0,.reg 4000 0])],[(4000,.cells [.p (vSl 2 A0 b)]),(3000,.cells ((B2 a).map .p))]⟩ [3000,4000] (ids:=[(3000,3000),(4000,4000)]) ⟨rfl,rfl,rfl⟩
def N1 (N:Nat)(a:Law)(b:Sl Sound):Option (Sl Sound):=
 Q2 N (fun c (x1:Sl Sound) (x2:Int)=>
  if (decide (x2<(a.Out.n:Int))) then
   if ((0:Int)<=x2/\x2<(a.Out.n:Int))then
    if ((decide (0<=(a.Out.g x2.toNat).From))=true->((0:Int)<=(a.Out.g x2.toNat).From/\(a.Out.g x2.toNat).From<(b.n:Int)))then
     (N6 N (⟨(if (decide (0<=(a.Out.g x2.toNat).From)) then (b.g (a.Out.g x2.toNat).From.toNat).Plus else 0),(if (decide (0<=(a.Out.g x2.toNat).From)) then (b.g (a.Out.g x2.toNat).From.toNat).Minus else 0)⟩:Sound) (a.Out.g x2.toNat).Clear (a.Out.g x2.toNat).Set).bind fun y5=>
     if ((a.Out.g x2.toNat).Take != 0) then
      if ((0:Int)<=(a.Out.g x2.toNat).Of/\(a.Out.g x2.toNat).Of<(b.n:Int))then
       (S9 N y5.1 (b.g (a.Out.g x2.toNat).Of.toNat) (a.Out.g x2.toNat).Take).bind fun y6=>
       if ((x1.n+(Sl.of [y6.1]:Sl Sound).n)*8<=140737488355328/\x1.n+(Sl.of [y6.1]:Sl Sound).n<=140737488355328)then
        c (x1.push y6.1) (wrap .i64 (x2+1))
       else none
      else none
     else
      if ((x1.n+(Sl.of [y5.1]:Sl Sound).n)*8<=140737488355328/\x1.n+(Sl.of [y5.1]:Sl Sound).n<=140737488355328)then
       c (x1.push y5.1) (wrap .i64 (x2+1))
      else none
    else none
   else none
  else
   some x1
  ) (Sl.nil:Sl Sound) 0
theorem SU {N:Nat}{d:Law}{a:Sl Sound}{y:Sl Sound}(h:N1 N d a=some y) :FunO S Ss [.p (.agg (B2 d)),.p (vSl 2 A0 a)] [] (.p (vSl 2 A0 y)) ([]) []:=by
 unfold N1 at h;refine A3 hS Tryz.func172 ?_;refine H3 hS trivial 4 3000 (B2 d) ?_;refine F9 hS trivial h (fun x1 x2=>⟨[(12,pN x2),(11,pN (d.Out.n:Int)),(10,.p (vSl 6 O5 d.Out)),(5,.vec 6500),(1,.p (vSl 2 A0 a))],[(6500,.vec B0 2 x1.n (fun i=>A0 (x1.g i)) false)]⟩) (ids:=[]) (fun _ _ _ _ _ o x1 x2 l h=>?_);refine kI hS h ?_ ?_<;>intro h
 ·obtain⟨c16,h⟩:=D3 h;refine H3 hS (And.intro c16 (by decide:(6:Nat)<=6)) 8 8000 (O5 (d.Out.g x2.toNat)) ?_;obtain⟨c18,h⟩:=D3 h;obtain⟨t5,f⟩:∃x:Int,x=(if (decide (0<=(d.Out.g x2.toNat).From)) then (a.g (d.Out.g x2.toNat).From.toNat).Plus else 0):=⟨_,rfl⟩;obtain⟨t6,j⟩:∃x:Int,x=(if (decide (0<=(d.Out.g x2.toNat).From)) then (a.g (d.Out.g x2.toNat).From.toNat).Minus else 0):=⟨_,rfl⟩;refine PI hS trivial (A7 hS) 0 ⟨[(12,pN x2),(11,pN (d.Out.n:Int)),(10,.p (vSl 6 O5 d.Out)),(8,.reg 9000 0),(7,.p (.ptr (O5 (d.Out.g x2.toNat)))),(5,.vec 6500),(1,.p (vSl 2 A0 a))],[(9000,.cells [pU t5,pU t6]),(6500,.vec B0 2 x1.n (fun i=>A0 (x1.g i)) false)]⟩ (fun M3 m=>?_) ?_
  ·refine D0 hS trivial (b:=decide (0<=(d.Out.g x2.toNat).From)) (fun c19=>?_) (fun c19=>?_)
   ·exact m _ [(6500,6500),(9000,9000)] _ (And.intro (c18 c19) (by decide:(2:Nat)<=2)) (hle:=klR [(5,.eq (pI .u32 (a.g (d.Out.g x2.toNat).From.toNat).Plus) (pI .u32 t5)),(6,.eq (pI .u32 (a.g (d.Out.g x2.toNat).From.toNat).Minus) (pI .u32 t6))] (al1 (by simp only[f,j,c19,Leaf.ok,pm,if_true,if_false]) (al1 (by simp only[f,j,c19,Leaf.ok,pm,if_true,if_false]) al0)))
   ·exact m _ [(6500,6500),(9000,9000)] _ trivial (hle:=klR [(5,.eq (pI .u32 0) (pI .u32 t5)),(6,.eq (pI .u32 0) (pI .u32 t6))] (al1 (by simp only[f,j,c19,Leaf.ok,pm,if_true,if_false]) (al1 (by simp only[f,j,c19,Leaf.ok,pm,if_true,if_false]) al0)))
  ·subst j;subst f;obtain⟨y5,e5,h⟩:=B7 h;refine B9 hS [] (by decide:(2:Nat)<=4) (Nm hS hL e5) ?_;refine kI hS h ?_ ?_<;>intro h
   ·refine D4 hS trivial [3,4,5,7,8] ?_;obtain⟨c21,h⟩:=D3 h;obtain⟨y6,e6,h⟩:=B7 h;refine R5 (And.intro c21 (by decide:(2:Nat)<=2)) (SK hS hL e6) ?_;refine I7 trivial ?_;obtain⟨c22,h⟩:=D3 h;exact l _ [(6500,52000)] _ (x1.push y6.1) (wrap .i64 (x2+1)) (And.intro (rfl:true=true) c22) h (hle:=klR [(4,.fn (x1.n+1) (x1.push y6.1).n (Q0 x1.n (fun i=>A0 (x1.g i)) (D5 [pI .u32 0,pI .u32 0] [(0,A0 y6.1)])) (fun i=>A0 ((x1.push y6.1).g i)))] (al1 ⟨rfl,Et (c:=A0) (v:=x1) (x:=y6.1) (z:=[(pI .u32 0),pI .u32 0]) same rfl rfl⟩ al0))
   ·obtain⟨c23,h⟩:=D3 h;exact l _ [(6500,52000)] _ (x1.push y5.1) (wrap .i64 (x2+1)) (And.intro (rfl:true=true) c23) h (hle:=klR [(4,.fn (x1.n+1) (x1.push y5.1).n (Q0 x1.n (fun i=>A0 (x1.g i)) (D5 [pI .u32 0,pI .u32 0] [(0,A0 y5.1)])) (fun i=>A0 ((x1.push y5.1).g i)))] (al1 ⟨rfl,Et (c:=A0) (v:=x1) (x:=y5.1) (z:=[(pI .u32 0),pI .u32 0]) same rfl rfl⟩ al0))
 ·obtain rfl:=B8 h;exact A9 hS trivial ⟨[(4,.p (vSl 2 A0 x1))],[]⟩ [] (ids:=[]) ⟨rfl,rfl,rfl⟩
def B1 (N:Nat)(a:Sl (Sl Sound)):Option (Sl Sound):=
 Q2 N (fun b (x1:Int) (x2:Int)=>
  if (decide (x2<(a.n:Int))) then
   if ((0:Int)<=x2/\x2<(a.n:Int))then
    if (decide ((wrap .i64 (x1+((a.g x2.toNat).n:Int)))<0)) then
     none
    else
     b (wrap .i64 (x1+((a.g x2.toNat).n:Int))) (wrap .i64 (x2+1))
   else none
  else
   (H5 N x1).bind fun y1=>
   Q2 N (fun c (x3:Sl Sound) (x4:Int)=>
    if (decide (x4<(a.n:Int))) then
     if (((0:Int)<=x4/\x4<(a.n:Int))/\((x3.n+(a.g x4.toNat).n)*8<=140737488355328/\x3.n+(a.g x4.toNat).n<=140737488355328))then
      c (x3.app (a.g x4.toNat)) (wrap .i64 (x4+1))
     else none
    else
     some x3
    ) y1 0
  ) 0 0
theorem L0 {N:Nat}{a:Sl (Sl Sound)}{y:Sl Sound}(h:B1 N a=some y) :FunO S K8 [.p (vSl 1 (cL 2 A0) a)] [] (.vec 0) ([.vec B0 2 y.n (fun i=>A0 (y.g i)) true]) []:=by
 unfold B1 at h;refine A3 hS Tryz.func171 ?_;refine F9 hS trivial h (fun x1 x2=>⟨[(11,pN x2),(10,pN (a.n:Int)),(9,.p (vSl 1 (cL 2 A0) a)),(3,pN x1),(0,.p (vSl 1 (cL 2 A0) a))],[]⟩) (ids:=[]) (fun _ _ _ _ _ d x1 x2 f h=>?_);refine kI hS h ?_ ?_<;>intro h
 ·obtain⟨c8,h⟩:=D3 h;refine D0 hS c8 (b:=decide ((wrap .i64 (x1+((a.g x2.toNat).n:Int)))<0)) (fun c9=>?_) (fun c9=>?_)
  ·replace h:=itT c9 h;cases h
  ·replace h:=itF c9 h;exact f _ [] _ (wrap .i64 (x1+((a.g x2.toNat).n:Int))) (wrap .i64 (x2+1)) trivial h
 ·refine kC hS h (Am hS hL) (fun y1 h=>?_);refine F9 hS trivial h (fun x3 x4=>⟨[(27,pN x4),(26,pN (a.n:Int)),(25,.p (vSl 1 (cL 2 A0) a)),(6,.vec 7500)],[(7500,.vec B0 2 x3.n (fun i=>A0 (x3.g i)) false)]⟩) (ids:=[(7500,25000)]) (fun _ _ _ _ _ j x3 x4 l h=>?_);refine kI hS h ?_ ?_<;>intro h
  ·obtain⟨c13,h⟩:=D3 h;exact l _ [(7500,34000)] _ (x3.app (a.g x4.toNat)) (wrap .i64 (x4+1)) c13 h (hle:=klR [(3,.fn (x3.n+(a.g x4.toNat).n) (x3.app (a.g x4.toNat)).n (Q0 x3.n (fun i=>A0 (x3.g i)) (fun i=>A0 ((a.g x4.toNat).g i))) (fun i=>A0 ((x3.app (a.g x4.toNat)).g i)))] (al1 ⟨rfl,YX (c:=A0) (v:=x3) (w:=a.g x4.toNat) same rfl same rfl⟩ al0))
  ·obtain rfl:=B8 h;exact A9 hS trivial ⟨[(2,.vec 7500)],[(7500,.vec B0 2 x3.n (fun i=>A0 (x3.g i)) true)]⟩ [7500] (ids:=[(7500,7500)]) ⟨rfl,rfl,rfl⟩
def P8 (N:Nat)(b:Law)(c:Sl Sound)(a:Int):Option (Sl Sound):=
 if (((0:Int)<=a/\a<=(c.n:Int))/\((0:Int)<=a/\a<=(wrap .i64 (a+(b.If.n:Int)))/\(wrap .i64 (a+(b.If.n:Int)))<=(c.n:Int)))then
  (N1 N b (c.sub a.toNat (wrap .i64 (a+(b.If.n:Int))).toNat)).bind fun y1=>
  if ((0:Int)<=(wrap .i64 (a+(b.If.n:Int)))/\(wrap .i64 (a+(b.If.n:Int)))<=(c.n:Int))then
   (B1 N (Sl.of [c.take a.toNat,y1,c.drop (wrap .i64 (a+(b.If.n:Int))).toNat]:Sl (Sl Sound))).bind fun y2=>
   some y2
  else none
 else none
theorem Iq {N:Nat}{c:Law}{b:Sl Sound}{a:Int}{y:Sl Sound}(h:P8 N c b a=some y) :FunO S Ic [.p (.agg (B2 c)),.p (vSl 2 A0 b),pN a] [] (.vec 0) ([.vec B0 2 y.n (fun i=>A0 (y.g i)) true]) []:=by unfold P8 at h;refine A3 hS Tryz.func174 ?_;refine H3 hS trivial 6 4000 (B2 c) ?_;refine D4 hS trivial [3,8] ?_;obtain⟨c1,h⟩:=D3 h;obtain⟨y1,e1,h⟩:=B7 h;refine R5 (And.intro (And.intro c1.1 (by decide:(18:Nat)<=18)) c1.2) (SU hS hL e1) ?_;obtain⟨c2,h⟩:=D3 h;refine Ey c2 (x:=.sl true 1 3 (D5 [F8] [(0,cL 2 A0 (b.take a.toNat)),(1,cL 2 A0 y1),(2,cL 2 A0 (b.drop (wrap .i64 (a+(c.If.n:Int))).toNat))])) ?_;obtain⟨y2,e2,h⟩:=B7 h;refine HO [] trivial (FunO.le hS (args:=[.p (.sl true 1 3 (D5 [F8] [(0,cL 2 A0 (b.take a.toNat)),(1,cL 2 A0 y1),(2,cL 2 A0 (b.drop (wrap .i64 (a+(c.If.n:Int))).toNat))]))]) (by exact⟨At2 rfl (fun i d=>match i,d with|0,_=>rfl|1,_=>rfl|2,_=>rfl|_+3,d=>absurd d (by omega)),trivial⟩) (L0 hS hL e2)) ?_;refine I7 trivial ?_;obtain rfl:=B8 h;exact A9 hS trivial ⟨[(6,.vec 27000)],[(27000,.vec B0 2 y2.n (fun i=>A0 (y2.g i)) true)]⟩ [27000] (ids:=[(27000,27000)]) ⟨rfl,rfl,rfl⟩
def X4 (N:Nat)(q0:Law)(q1:Sl Sound)(q2:Int):Option (List (Int)):=
 (FT N q0 q1).bind fun y1=>
 R6 N (fun a (x2:Int)=>
  if (decide ((wrap .i64 (x2+(q0.If.n:Int)))<=(q1.n:Int))) then
   R6 N (fun b (x4:Int)=>
    if (decide (x4<(q0.If.n:Int))) then
     if ((0:Int)<=x4/\x4<(q0.If.n:Int))then
      if ((0:Int)<=(wrap .i64 (x2+x4))/\(wrap .i64 (x2+x4))<(q1.n:Int))then
       (J5 N (q1.g (wrap .i64 (x2+x4)).toNat) (q0.If.g x4.toNat)).bind fun c=>
       if (!c) then
        a (wrap .i64 (x2+1))
       else
        b (wrap .i64 (x4+1))
      else none
     else none
    else
     (U3 N x2 y1.1 y1.2).bind fun d=>
     if d then
      AB x2 (
       a (wrap .i64 (x2+1))
       )
     else
      a (wrap .i64 (x2+1))
    ) 0
  else
   some []
  ) q2
theorem JQ {N:Nat}{q0:Law}{q1:Sl Sound}{q2:Int}{L:List (Int)}(h:X4 N q0 q1 q2=some L) :Hd S Dh [] [.reg 0 0,.reg 1 0,.reg 2 0] [.cells ((B2 q0).map .p),.cells [.p (vSl 2 A0 q1)],.cells [pN q2]] (L.map (fun (x:Int)=>[pI .i64 x])):=by
 unfold X4 at h;refine HP hS Tryz.func181 ?_;refine kC hS h (ST hS hL) (fun y1 h=>?_);refine IW hS trivial h (fun x2 L1=>⟨[(6,pN x2),(5,.clo U1 [] [.reg 12000 0,.reg 12001 0]),(2,.reg 1 0),(1,.reg 0 0),(0,.yf 3)],[(12001,.cells [.p (vSl 2 A0 y1.2)]),(12000,.cells ((B2 y1.1).map .p)),(3,.yld (L1.map (fun (x:Int)=>[pI .i64 x])) true),(2,.cells [pN q2]),(1,.cells [.p (vSl 2 A0 q1)]),(0,.cells ((B2 q0).map .p))]⟩) (ids:=[(0,0),(1,1),(2,2),(3,3),(12000,12000),(12001,12001)]) (fun _ _ _ _ _ f x2 L1 c h=>?_);refine kI hS h ?_ ?_<;>intro h
 ·refine IW hS trivial h (fun x4 L8=>⟨[(26,pN x4),(25,pN (q0.If.n:Int)),(24,.p (vSl 2 A0 q0.If)),(6,pN x2),(5,.clo U1 [] [.reg 12000 0,.reg 12001 0]),(2,.reg 1 0),(1,.reg 0 0),(0,.yf 3)],[(12001,.cells [.p (vSl 2 A0 y1.2)]),(12000,.cells ((B2 y1.1).map .p)),(3,.yld (L8.map (fun (x:Int)=>[pI .i64 x])) true),(2,.cells [pN q2]),(1,.cells [.p (vSl 2 A0 q1)]),(0,.cells ((B2 q0).map .p))]⟩) (ids:=[(0,0),(1,1),(2,2),(3,3),(12000,12000),(12001,12001)]) (fun _ _ _ _ _ i x4 L8 j h=>?_);refine kI hS h ?_ ?_<;>intro h
  ·obtain⟨c47,h⟩:=D3 h;refine AA9 hS (And.intro c47 (by decide:(2:Nat)<=2)) 9000 [pI .u32 (q0.If.g x4.toNat).Plus,pI .u32 (q0.If.g x4.toNat).Minus] ?_;refine D4 hS trivial [4,5,6,7] ?_;obtain⟨c48,h⟩:=D3 h;obtain⟨l,e12,h⟩:=B7 h;refine R5 (And.intro (And.intro c48 (by decide:(2:Nat)<=2)) (by decide:(2:Nat)<=2)) (IZ hS hL e12) ?_;refine I7 trivial ?_;refine kI hS h ?_ ?_<;>intro h
   ·exact c _ [(0,0),(1,1),(2,2),(3,3),(12000,12000),(12001,12001)] _ (wrap .i64 (x2+1)) L8 trivial h
   ·exact j _ [(0,0),(1,1),(2,2),(3,3),(12000,12000),(12001,12001)] _ (wrap .i64 (x4+1)) L8 trivial h
  ·obtain⟨m,e13,h⟩:=B7 h;refine B9 hS [12000,12001] trivial (Nr hS hL e13) ?_;refine kG hS h (fun h=>?_) (fun h=>?_)
   ·obtain⟨L10,rfl,d⟩:=PK h;replace h:=d;refine Ez hS trivial (ys:=(fun (x:Int)=>[pI .i64 x]) x2) (rest:=L10.map (fun (x:Int)=>[pI .i64 x])) ?_ ?_
    ·refine D0 hS trivial (b:=false) (fun c53=>?_) (fun c53=>?_)
     ·exact Bool.noConfusion ((rfl:false=false).symm.trans c53)
     ·exact c _ [(0,0),(1,1),(2,2),(3,3),(12000,12000),(12001,12001)] _ (wrap .i64 (x2+1)) L10 trivial h
    ·refine D0 hS trivial (b:=true) (fun c54=>?_) (fun c54=>?_)
     ·exact A9 hS trivial (a:=.tup []) (objs:=[(.cells ((B2 q0).map .p)),.cells [.p (vSl 2 A0 q1)],.cells [pN q2],.yld [] false]) ⟨[],[(3,.yld [] false),(2,.cells [pN q2]),(1,.cells [.p (vSl 2 A0 q1)]),(0,.cells ((B2 q0).map .p))]⟩ [0,1,2,3] (ids:=[(0,0),(1,1),(2,2),(3,3)]) ⟨false,rfl,rfl,_,rfl⟩
     ·exact Bool.noConfusion ((rfl:true=true).symm.trans c54)
   ·exact c _ [(0,0),(1,1),(2,2),(3,3),(12000,12000),(12001,12001)] _ (wrap .i64 (x2+1)) L8 trivial h
 ·obtain rfl:=B8 h;exact A9 hS trivial (a:=.tup []) (objs:=[(.cells ((B2 q0).map .p)),.cells [.p (vSl 2 A0 q1)],.cells [pN q2],.yld [] true]) ⟨[],[(3,.yld [] true),(2,.cells [pN q2]),(1,.cells [.p (vSl 2 A0 q1)]),(0,.cells ((B2 q0).map .p))]⟩ [0,1,2,3] (ids:=[(0,0),(1,1),(2,2),(3,3)]) ⟨true,rfl,rfl,_,rfl⟩
def Gq (N:Nat)(b:Law)(c:Sl Sound)(a:Int):Option (Law×(Sl Sound)×Int):=
 some (b,c,a)
theorem OJ {N:Nat}{b:Law}{c:Sl Sound}{a:Int}{y:Law×(Sl Sound)×Int}(h:Gq N b c a=some y) :FunO S Oy [.p (.agg (B2 b)),.p (vSl 2 A0 c),pN a] [] (.clo Dh [] [.reg 0 0,.reg 1 0,.reg 2 0]) ([.cells ((B2 y.1).map .p),.cells [.p (vSl 2 A0 y.2.1)],.cells [pN y.2.2]]) []:=by unfold Gq at h;refine A3 hS Tryz.func170 ?_;obtain rfl:=B8 h;exact A9 hS trivial ⟨[(6,.clo Dh [] [.reg 4000 0,.reg 5000 0,.reg 6000 0])],[(6000,.cells [pN a]),(5000,.cells [.p (vSl 2 A0 c)]),(4000,.cells ((B2 b).map .p))]⟩ [4000,5000,6000] (ids:=[(4000,4000),(5000,5000),(6000,6000)]) ⟨rfl,rfl,rfl⟩
def BS (N:Nat)(b:Law)(c:Sl Sound)(a:Int):Option Bool:=
 (Gq N b c a).bind fun y1=>
 (X4 N y1.1 y1.2.1 y1.2.2).bind fun L1=>
 O6 L1 (fun d (x1:Int) (_:Unit)=>
  some (x1==a)
  ) (fun (_:Unit)=>
   some false
  ) ()
theorem SV {N:Nat}{b:Law}{c:Sl Sound}{a:Int}{y:Bool}(h:BS N b c a=some y) :FunO S Su [.p (.agg (B2 b)),.p (vSl 2 A0 c),pN a] [] (pB y) ([]) []:=by
 unfold BS at h;refine A3 hS Tryz.func173 ?_;refine kC hS h (OJ hS hL) (fun y1 h=>?_);obtain⟨L1,e2,h⟩:=B7 h;refine Hi hS trivial [12000,12001,12002] [6,5] 901 (fun _=>⟨[(6,.reg 7000 0),(5,.reg 6000 0)],[(7000,.cells [.p (.v (.bool false))]),(6000,.cells [pN a])]⟩) (idl:=[(6000,6000),(7000,7000)]) h (JQ hS hL e2) (fun _=>by kernel_rfl) (fun _=>by kernel_rfl) (fun _=>by kernel_rfl) (fun _=>by kernel_rfl) (fun x1 _ d _ f h=>?_) (fun _ h=>?_)
 ·refine Lg hS trivial ?_;refine Ks hS trivial ⟨[(6,.reg 7000 0),(5,.reg 6000 0)],[(7000,.cells [pB (x1==a)]),(6000,.cells [pN a])]⟩ (ids:=[(901,901),(6000,6000),(7000,7000)]) ?_;cases h;exact kR hS
 ·cases h;exact kR hS
def Bz (N:Nat)(q0:Sl Sound)(q1:Law)(q2:Int)(q3:Int):Option (List (Int×(Sl Sound))):=
 if (q1.Mode==1) then
  (Gq N q1 q0 0).bind fun y1=>
  (X4 N y1.1 y1.2.1 y1.2.2).bind fun L1=>
  O6 L1 (fun b (x1:Int) (z1:(Sl Sound)×Int×Int)=>
   if (decide (x1<z1.2.1)) then
    b (z1.1,z1.2.1,z1.2.2)
   else
    if (((0:Int)<=(wrap .i64 (x1+z1.2.2))/\(wrap .i64 (x1+z1.2.2))<=(z1.1.n:Int))/\((0:Int)<=x1/\x1<=(wrap .i64 (x1+q2))/\(wrap .i64 (x1+q2))<=(q0.n:Int)))then
     (N1 N q1 (q0.sub x1.toNat (wrap .i64 (x1+q2)).toNat)).bind fun y6=>
     if ((0:Int)<=(wrap .i64 (x1+q2))/\(wrap .i64 (x1+q2))<=(q0.n:Int))then
      (B1 N (Sl.of [z1.1.take (wrap .i64 (x1+z1.2.2)).toNat,y6,q0.drop (wrap .i64 (x1+q2)).toNat]:Sl (Sl Sound))).bind fun y7=>
      AB (x1,y7) (
       b (y7,wrap .i64 (x1+(if q2<1 then 1 else q2)),wrap .i64 ((wrap .i64 (z1.2.2+q3))-q2))
       )
     else none
    else none
   ) (fun (z1:(Sl Sound)×Int×Int)=>
    some []
   ) (q0,0,0)
 else
  if (q1.Mode==2) then
   Q2 N (fun a (x5:Sl Sound) (x6:Int)=>
    if (decide ((wrap .i64 (x6+q2))<=(x5.n:Int))) then
     (BS N q1 x5 x6).bind fun g=>
     if (!g) then
      a x5 (wrap .i64 (x6+1))
     else
      (P8 N q1 x5 x6).bind fun d=>
      AB (x6,d) (
       if (q2==0) then
        a d (wrap .i64 ((wrap .i64 (x6+q3))+1))
       else
        a d (wrap .i64 (x6+q3))
       )
    else
     some []
    ) q0 0
  else
   if (q1.Mode==3) then
    Q2 N (fun c (x7:Sl Sound) (x8:Int)=>
     if (decide (0<=x8)) then
      (BS N q1 x7 x8).bind fun i=>
      if (!i) then
       c x7 (wrap .i64 (x8-1))
      else
       (P8 N q1 x7 x8).bind fun f=>
       AB (x8,f) (
        c f (wrap .i64 (x8-(if q2<1 then 1 else q2)))
        )
     else
      some []
     ) q0 (wrap .i64 ((q0.n:Int)-q2))
   else
    some []
theorem Vi {N:Nat}{q0:Sl Sound}{q1:Law}{q2:Int}{q3:Int}{L:List (Int×(Sl Sound))}(h:Bz N q0 q1 q2 q3=some L) :Hd S ED [] [.reg 0 0,.reg 1 0,.reg 2 0,.reg 3 0] [.cells [.p (vSl 2 A0 q0)],.cells ((B2 q1).map .p),.cells [pN q2],.cells [pN q3]] (L.map (fun (x:Int×(Sl Sound))=>[pI .i64 x.1,vSl 2 A0 x.2])):=by
 unfold Bz at h;refine HP hS Tryz.func169 ?_;refine kI hS h ?_ ?_<;>intro h
 ·refine kC hS h (OJ hS hL) (fun y1 h=>?_);obtain⟨L1,e2,h⟩:=B7 h;refine An1 hS trivial [20000,20001,20002] [8,7,6,5,4,3,2,1] 900 (fun z1 L2=>⟨[(8,.reg 9000 0),(7,.reg 8000 0),(6,.reg 7000 0),(5,.reg 6000 0),(4,.reg 3 0),(3,.reg 2 0),(2,.reg 1 0),(1,.reg 0 0)],[(9000,.cells [pN z1.2.2]),(8000,.cells [pN z1.2.1]),(7000,.cells [.p (vSl 2 A0 z1.1)]),(6000,.cells [.yf 4]),(4,.yld (L2.map (fun (x:Int×(Sl Sound))=>[pI .i64 x.1,vSl 2 A0 x.2])) true),(3,.cells [pN q3]),(2,.cells [pN q2]),(1,.cells ((B2 q1).map .p)),(0,.cells [.p (vSl 2 A0 q0)])]⟩) (idl:=[(0,0),(1,1),(2,2),(3,3),(4,4),(6000,6000),(7000,7000),(8000,8000),(9000,9000)]) h (JQ hS hL e2) (fun _=>by kernel_rfl) (fun _ _=>by kernel_rfl) (fun _ _=>by kernel_rfl) (fun _ _=>by kernel_rfl) (fun x1 _ s z1 L2 j h=>?_) (fun z1 L2 h=>?_)
  ·refine Lg hS trivial ?_;refine kI hS h ?_ ?_<;>intro h
   ·exact j _ [(0,0),(1,1),(2,2),(3,3),(4,4),(900,900),(6000,6000),(7000,7000),(8000,8000),(9000,9000)] _ (z1.1,z1.2.1,z1.2.2) L2 trivial h
   ·refine P3 hS trivial [(0,.l [7000]),(2,.l [9000]),(5,.l [1]),(6,.l [0]),(9,.l [2]),(12,.n),(13,.l [0]),(15,.l [2]),(20,.a [7000])] ?_;obtain⟨c13,h⟩:=D3 h;obtain⟨y6,e7,h⟩:=B7 h;refine R5 c13 (SU hS hL e7) ?_;obtain⟨c14,h⟩:=D3 h;refine Ey c14 (x:=.sl true 1 3 (D5 [F8] [(0,cL 2 A0 (z1.1.take (wrap .i64 (x1+z1.2.2)).toNat)),(1,cL 2 A0 y6),(2,cL 2 A0 (q0.drop (wrap .i64 (x1+q2)).toNat))])) ?_;obtain⟨y7,e8,h⟩:=B7 h;refine HO [] trivial (FunO.le hS (args:=[.p (.sl true 1 3 (D5 [F8] [(0,cL 2 A0 (z1.1.take (wrap .i64 (x1+z1.2.2)).toNat)),(1,cL 2 A0 y6),(2,cL 2 A0 (q0.drop (wrap .i64 (x1+q2)).toNat))]))]) (by exact⟨At2 rfl (fun i t=>match i,t with|0,_=>rfl|1,_=>rfl|2,_=>rfl|_+3,t=>absurd t (by omega)),trivial⟩) (L0 hS hL e8)) ?_;refine I7 trivial ?_;obtain⟨L5,rfl,m⟩:=PK h;replace h:=m;refine Ez hS trivial (ys:=(fun (x:Int×(Sl Sound))=>[pI .i64 x.1,vSl 2 A0 x.2]) (x1,y7)) (rest:=L5.map (fun (x:Int×(Sl Sound))=>[pI .i64 x.1,vSl 2 A0 x.2])) ?_ ?_
    ·refine D0 hS trivial (b:=false) (fun c15=>?_) (fun c15=>?_)
     ·exact Bool.noConfusion ((rfl:false=false).symm.trans c15)
     ·refine P3 hS trivial [(1,.l [2]),(4,.l [9000]),(5,.l [3]),(7,.l [2]),(9,.a [8000]),(10,.a [9000])] ?_;refine I7 trivial ?_;exact j _ [(0,0),(1,1),(2,2),(3,3),(4,4),(900,900),(6000,6000),(7000,7000),(8000,8000),(9000,9000)] _ (y7,wrap .i64 (x1+(if q2<1 then 1 else q2)),wrap .i64 ((wrap .i64 (z1.2.2+q3))-q2)) L5 trivial h
    ·refine D0 hS trivial (b:=true) (fun c16=>?_) (fun c16=>?_)
     ·refine Ks hS trivial ⟨[(8,.reg 9000 0),(7,.reg 8000 0),(6,.reg 7000 0),(5,.reg 6000 0),(4,.reg 3 0),(3,.reg 2 0),(2,.reg 1 0),(1,.reg 0 0)],[(44000,.vec B0 2 y7.n (fun i=>A0 (y7.g i)) true),(9000,.cells [pN z1.2.2]),(8000,.cells [pN z1.2.1]),(7000,.cells [.vec 44000]),(6000,.cells [.yf 4]),(4,.yld [] false),(3,.cells [pN q3]),(2,.cells [pN q2]),(1,.cells ((B2 q1).map .p)),(0,.cells [.p (vSl 2 A0 q0)])]⟩ (ids:=[(0,0),(1,1),(2,2),(3,3),(4,4),(900,900),(6000,6000),(7000,7000),(8000,8000),(9000,9000),(44000,44000)]) ?_;exact A9 hS trivial (a:=.tup []) (objs:=[(.cells [.p (vSl 2 A0 q0)]),.cells ((B2 q1).map .p),.cells [pN q2],.cells [pN q3],.yld [] false]) ⟨[],[(4,.yld [] false),(3,.cells [pN q3]),(2,.cells [pN q2]),(1,.cells ((B2 q1).map .p)),(0,.cells [.p (vSl 2 A0 q0)])]⟩ [0,1,2,3,4] (ids:=[(0,0),(1,1),(2,2),(3,3),(4,4)]) ⟨false,rfl,rfl,_,rfl⟩
     ·exact Bool.noConfusion ((rfl:true=true).symm.trans c16)
  ·obtain rfl:=B8 h;exact A9 hS trivial (a:=.tup []) (objs:=[(.cells [.p (vSl 2 A0 q0)]),.cells ((B2 q1).map .p),.cells [pN q2],.cells [pN q3],.yld [] true]) ⟨[],[(4,.yld [] true),(3,.cells [pN q3]),(2,.cells [pN q2]),(1,.cells ((B2 q1).map .p)),(0,.cells [.p (vSl 2 A0 q0)])]⟩ [0,1,2,3,4] (ids:=[(0,0),(1,1),(2,2),(3,3),(4,4)]) ⟨true,rfl,rfl,_,rfl⟩
 ·refine kI hS h ?_ ?_<;>intro h
  ·refine PL hS trivial h (fun x5 x6 L6=>⟨[(10,pN x6),(6,.reg 7000 0),(5,.reg 6000 0),(4,.reg 3 0),(3,.reg 2 0),(2,.reg 1 0)],[(7000,.cells [.p (vSl 2 A0 x5)]),(6000,.cells [.yf 4]),(4,.yld (L6.map (fun (x:Int×(Sl Sound))=>[pI .i64 x.1,vSl 2 A0 x.2])) true),(3,.cells [pN q3]),(2,.cells [pN q2]),(1,.cells ((B2 q1).map .p)),(0,.cells [.p (vSl 2 A0 q0)])]⟩) (ids:=[(0,0),(1,1),(2,2),(3,3),(4,4),(6000,6000),(7000,7000)]) (fun _ _ _ _ _ u x5 x6 L6 c h=>?_);refine kI hS h ?_ ?_<;>intro h
   ·refine kC hS h (SV hS hL) (fun w h=>?_);refine kI hS h ?_ ?_<;>intro h
    ·exact c _ [(0,0),(1,1),(2,2),(3,3),(4,4),(6000,6000),(7000,7000)] _ x5 (wrap .i64 (x6+1)) L6 trivial h
    ·refine kC hS h (Iq hS hL) (fun d h=>?_);obtain⟨L9,rfl,o⟩:=PK h;replace h:=o;refine Ez hS trivial (ys:=(fun (x:Int×(Sl Sound))=>[pI .i64 x.1,vSl 2 A0 x.2]) (x6,d)) (rest:=L9.map (fun (x:Int×(Sl Sound))=>[pI .i64 x.1,vSl 2 A0 x.2])) ?_ ?_
     ·refine D0 hS trivial (b:=false) (fun c30=>?_) (fun c30=>?_)
      ·exact Bool.noConfusion ((rfl:false=false).symm.trans c30)
      ·refine kI hS h ?_ ?_<;>intro h
       ·exact c _ [(0,0),(1,1),(2,2),(3,3),(4,4),(6000,6000),(7000,7000)] _ d (wrap .i64 ((wrap .i64 (x6+q3))+1)) L9 trivial h
       ·exact c _ [(0,0),(1,1),(2,2),(3,3),(4,4),(6000,6000),(7000,7000)] _ d (wrap .i64 (x6+q3)) L9 trivial h
     ·refine D0 hS trivial (b:=true) (fun c32=>?_) (fun c32=>?_)
      ·exact A9 hS trivial (a:=.tup []) (objs:=[(.cells [.p (vSl 2 A0 q0)]),.cells ((B2 q1).map .p),.cells [pN q2],.cells [pN q3],.yld [] false]) ⟨[],[(4,.yld [] false),(3,.cells [pN q3]),(2,.cells [pN q2]),(1,.cells ((B2 q1).map .p)),(0,.cells [.p (vSl 2 A0 q0)])]⟩ [0,1,2,3,4] (ids:=[(0,0),(1,1),(2,2),(3,3),(4,4)]) ⟨false,rfl,rfl,_,rfl⟩
      ·exact Bool.noConfusion ((rfl:true=true).symm.trans c32)
   ·obtain rfl:=B8 h;exact A9 hS trivial (a:=.tup []) (objs:=[(.cells [.p (vSl 2 A0 q0)]),.cells ((B2 q1).map .p),.cells [pN q2],.cells [pN q3],.yld [] true]) ⟨[],[(4,.yld [] true),(3,.cells [pN q3]),(2,.cells [pN q2]),(1,.cells ((B2 q1).map .p)),(0,.cells [.p (vSl 2 A0 q0)])]⟩ [0,1,2,3,4] (ids:=[(0,0),(1,1),(2,2),(3,3),(4,4)]) ⟨true,rfl,rfl,_,rfl⟩
  ·refine kI hS h ?_ ?_<;>intro h
   ·refine PL hS trivial h (fun x7 x8 L10=>⟨[(11,pN x8),(6,.reg 7000 0),(5,.reg 6000 0),(3,.reg 2 0),(2,.reg 1 0)],[(7000,.cells [.p (vSl 2 A0 x7)]),(6000,.cells [.yf 4]),(4,.yld (L10.map (fun (x:Int×(Sl Sound))=>[pI .i64 x.1,vSl 2 A0 x.2])) true),(3,.cells [pN q3]),(2,.cells [pN q2]),(1,.cells ((B2 q1).map .p)),(0,.cells [.p (vSl 2 A0 q0)])]⟩) (ids:=[(0,0),(1,1),(2,2),(3,3),(4,4),(6000,6000),(7000,7000)]) (fun _ _ _ _ _ v x7 x8 L10 q h=>?_);refine kI hS h ?_ ?_<;>intro h
    ·refine kC hS h (SV hS hL) (fun y h=>?_);refine kI hS h ?_ ?_<;>intro h
     ·exact q _ [(0,0),(1,1),(2,2),(3,3),(4,4),(6000,6000),(7000,7000)] _ x7 (wrap .i64 (x8-1)) L10 trivial h
     ·refine kC hS h (Iq hS hL) (fun r h=>?_);obtain⟨L13,rfl,f⟩:=PK h;replace h:=f;refine Ez hS trivial (ys:=(fun (x:Int×(Sl Sound))=>[pI .i64 x.1,vSl 2 A0 x.2]) (x8,r)) (rest:=L13.map (fun (x:Int×(Sl Sound))=>[pI .i64 x.1,vSl 2 A0 x.2])) ?_ ?_
      ·refine D0 hS trivial (b:=false) (fun c44=>?_) (fun c44=>?_)
       ·exact Bool.noConfusion ((rfl:false=false).symm.trans c44)
       ·exact q _ [(0,0),(1,1),(2,2),(3,3),(4,4),(6000,6000),(7000,7000)] _ r (wrap .i64 (x8-(if q2<1 then 1 else q2))) L13 trivial h
      ·refine D0 hS trivial (b:=true) (fun c45=>?_) (fun c45=>?_)
       ·exact A9 hS trivial (a:=.tup []) (objs:=[(.cells [.p (vSl 2 A0 q0)]),.cells ((B2 q1).map .p),.cells [pN q2],.cells [pN q3],.yld [] false]) ⟨[],[(4,.yld [] false),(3,.cells [pN q3]),(2,.cells [pN q2]),(1,.cells ((B2 q1).map .p)),(0,.cells [.p (vSl 2 A0 q0)])]⟩ [0,1,2,3,4] (ids:=[(0,0),(1,1),(2,2),(3,3),(4,4)]) ⟨false,rfl,rfl,_,rfl⟩
       ·exact Bool.noConfusion ((rfl:true=true).symm.trans c45)
    ·obtain rfl:=B8 h;exact A9 hS trivial (a:=.tup []) (objs:=[(.cells [.p (vSl 2 A0 q0)]),.cells ((B2 q1).map .p),.cells [pN q2],.cells [pN q3],.yld [] true]) ⟨[],[(4,.yld [] true),(3,.cells [pN q3]),(2,.cells [pN q2]),(1,.cells ((B2 q1).map .p)),(0,.cells [.p (vSl 2 A0 q0)])]⟩ [0,1,2,3,4] (ids:=[(0,0),(1,1),(2,2),(3,3),(4,4)]) ⟨true,rfl,rfl,_,rfl⟩
   ·obtain rfl:=B8 h;exact A9 hS trivial (a:=.tup []) (objs:=[(.cells [.p (vSl 2 A0 q0)]),.cells ((B2 q1).map .p),.cells [pN q2],.cells [pN q3],.yld [] true]) ⟨[],[(4,.yld [] true),(3,.cells [pN q3]),(2,.cells [pN q2]),(1,.cells ((B2 q1).map .p)),(0,.cells [.p (vSl 2 A0 q0)])]⟩ [0,1,2,3,4] (ids:=[(0,0),(1,1),(2,2),(3,3),(4,4)]) ⟨true,rfl,rfl,_,rfl⟩
def Ir (N:Nat)(a:Law)(b:Sl Sound):Option ((Sl Sound)×Law×Int×Int):=
 some (b,a,(a.If.n:Int),(a.Out.n:Int))
theorem Ac1 {N:Nat}{b:Law}{c:Sl Sound}{y:(Sl Sound)×Law×Int×Int}(h:Ir N b c=some y) :FunO S Sp [.p (.agg (B2 b)),.p (vSl 2 A0 c)] [] (.clo ED [] [.reg 0 0,.reg 1 0,.reg 2 0,.reg 3 0]) ([.cells [.p (vSl 2 A0 y.1)],.cells ((B2 y.2.1).map .p),.cells [pN y.2.2.1],.cells [pN y.2.2.2]]) []:=by unfold Ir at h;refine A3 hS Tryz.func161 ?_;refine P3 hS trivial [(1,.l [3000]),(2,.n),(4,.l [3000]),(5,.n),(6,.a [6000]),(7,.a [7000]),(8,.a [6000]),(9,.a [7000])] ?_;refine I7 trivial ?_;obtain rfl:=B8 h;exact A9 hS trivial ⟨[(4,.clo ED [] [.reg 4000 0,.reg 3000 0,.reg 6000 0,.reg 7000 0])],[(7000,.cells [pN (b.Out.n:Int)]),(6000,.cells [pN (b.If.n:Int)]),(4000,.cells [.p (vSl 2 A0 c)]),(3000,.cells ((B2 b).map .p))]⟩ [4000,3000,6000,7000] (ids:=[(3000,3000),(4000,4000),(6000,6000),(7000,7000)]) ⟨rfl,rfl,rfl⟩
def CV (N:Nat)(b:Law)(c:Sl Sound):Option ((Sl Int)×(Sl (Sl Sound))×Int):=
 (EN N b c).bind fun y1=>
 if (y1 != 0) then
  some ((Sl.nil:Sl Int),(Sl.nil:Sl (Sl Sound)),y1)
 else
  (Ir N b c).bind fun y2=>
  (Bz N y2.1 y2.2.1 y2.2.2.1 y2.2.2.2).bind fun L1=>
  O6 L1 (fun a (x1:Int×(Sl Sound)) (z1:(Sl Int)×(Sl (Sl Sound)))=>
   if (decide (32<(x1.2.n:Int))) then
    some ((Sl.nil:Sl Int),(Sl.nil:Sl (Sl Sound)),11)
   else
    if ((z1.1.n+(Sl.of [x1.1]:Sl Int).n)*8<=140737488355328/\z1.1.n+(Sl.of [x1.1]:Sl Int).n<=140737488355328)then
     if ((z1.2.n+(Sl.of [x1.2]:Sl (Sl Sound)).n)*24<=140737488355328/\z1.2.n+(Sl.of [x1.2]:Sl (Sl Sound)).n<=140737488355328)then
      a (z1.1.push x1.1,z1.2.push x1.2)
     else none
    else none
   ) (fun (z1:(Sl Int)×(Sl (Sl Sound)))=>
    some (z1.1,z1.2,0)
   ) ((Sl.nil:Sl Int),(Sl.nil:Sl (Sl Sound)))
theorem Vj {N:Nat}{b:Law}{d:Sl Sound}{y:(Sl Int)×(Sl (Sl Sound))×Int}(h:CV N b d=some y) :FunO S LN [.p (.agg (B2 b)),.p (vSl 2 A0 d)] [] (.tup [.vec 0,.vec 1,pN y.2.2]) ([.vec B6 1 y.1.n (fun i=>cI .i64 (y.1.g i)) true,.vec A4 1 y.2.1.n (fun i=>cL 2 A0 (y.2.1.g i)) true]) []:=by
 unfold CV at h;refine A3 hS Tryz.func152 ?_;refine H3 hS trivial 4 3000 (B2 b) ?_;obtain⟨y1,e1,h⟩:=B7 h;refine B9 hS [] (by decide:(18:Nat)<=18) (Vh hS hL e1) ?_;refine kI hS h ?_ ?_<;>intro h
 ·obtain rfl:=B8 h;exact A9 hS trivial ⟨[(6,.reg 7000 0),(5,.reg 6000 0),(4,.reg 5000 0)],[(7000,.cells [pN y1]),(6701,.vec A4 1 (Sl.nil:Sl (Sl Sound)).n (fun i=>cL 2 A0 ((Sl.nil:Sl (Sl Sound)).g i)) true),(6000,.cells [.vec 6701]),(5700,.vec B6 1 (Sl.nil:Sl Int).n (fun i=>cI .i64 ((Sl.nil:Sl Int).g i)) true),(5000,.cells [.vec 5700])]⟩ [5700,6701] (ids:=[(5000,5000),(6000,6000),(7000,7000)]) ⟨rfl,rfl,rfl⟩
 ·obtain⟨y2,e2,h⟩:=B7 h;refine B9 hS [] (by decide:(18:Nat)<=18) (Ac1 hS hL e2) ?_;obtain⟨L1,e3,h⟩:=B7 h;refine Hi hS trivial [21000,21001,21002,21003] [9,8,6,5,4] 901 (fun z1=>⟨[(9,.reg 10000 0),(8,.reg 9000 0),(6,.reg 7000 0),(5,.reg 6000 0),(4,.reg 5000 0)],[(10500,.vec A4 1 z1.2.n (fun i=>cL 2 A0 (z1.2.g i)) false),(10000,.cells [.vec 10500]),(9500,.vec B6 1 z1.1.n (fun i=>cI .i64 (z1.1.g i)) false),(9000,.cells [.vec 9500]),(7000,.cells [pN 0]),(6000,.cells [.p F8]),(5000,.cells [.p F8])]⟩) (idl:=[(5000,5000),(6000,6000),(7000,7000),(9000,9000),(10000,10000)]) h (Vi hS hL e3) (fun _=>by kernel_rfl) (fun _=>by kernel_rfl) (fun _=>by kernel_rfl) (fun _=>by kernel_rfl) (fun x1 _ f z1 j h=>?_) (fun z1 h=>?_)
  ·refine Lg hS trivial ?_;refine kI hS h ?_ ?_<;>intro h
   ·refine Ks hS trivial ⟨[(9,.reg 10000 0),(8,.reg 9000 0),(6,.reg 7000 0),(5,.reg 6000 0),(4,.reg 5000 0)],[(10500,.vec A4 1 z1.2.n (fun i=>cL 2 A0 (z1.2.g i)) false),(10000,.cells [.vec 10500]),(9500,.vec B6 1 z1.1.n (fun i=>cI .i64 (z1.1.g i)) false),(9000,.cells [.vec 9500]),(7000,.cells [pN 11]),(6000,.cells [.p F8]),(5000,.cells [.p F8])]⟩ (ids:=[(901,901),(5000,5000),(6000,6000),(7000,7000),(9000,9000),(9500,9500),(10000,10000),(10500,10500)]) ?_;obtain rfl:=B8 h;exact A9 hS trivial ⟨[(6,.reg 7000 0),(5,.reg 6000 0),(4,.reg 5000 0)],[(7000,.cells [pN 11]),(6701,.vec A4 1 (Sl.nil:Sl (Sl Sound)).n (fun i=>cL 2 A0 ((Sl.nil:Sl (Sl Sound)).g i)) true),(6000,.cells [.vec 6701]),(5700,.vec B6 1 (Sl.nil:Sl Int).n (fun i=>cI .i64 ((Sl.nil:Sl Int).g i)) true),(5000,.cells [.vec 5700])]⟩ [5700,6701] (ids:=[(5000,5000),(6000,6000),(7000,7000)]) ⟨rfl,rfl,rfl⟩
   ·refine P3 hS trivial [(0,.l [9000]),(3,.a [30000,9500]),(4,.l [10000]),(7,.a [34000,10500]),(8,.a [9000]),(9,.a [10000])] ?_;refine Ey trivial (x:=.sl true 1 1 (D5 [pI .i64 0] [(0,cI .i64 x1.1)])) ?_;obtain⟨c9,h⟩:=D3 h;refine Ey c9 (x:=.sl true 1 1 (D5 [F8] [(0,cL 2 A0 x1.2)])) ?_;obtain⟨c10,h⟩:=D3 h;refine I7 c10 ?_;exact j _ [(901,901),(5000,5000),(6000,6000),(7000,7000),(9000,9000),(9500,30000),(10000,10000),(10500,34000)] _ (z1.1.push x1.1,z1.2.push x1.2) trivial h (hle:=klR [(0,.fn (z1.2.n+1) (z1.2.push x1.2).n (Q0 z1.2.n (fun i=>cL 2 A0 (z1.2.g i)) (D5 [F8] [(0,cL 2 A0 x1.2)])) (fun i=>cL 2 A0 ((z1.2.push x1.2).g i))),(1,.fn (z1.1.n+1) (z1.1.push x1.1).n (Q0 z1.1.n (fun i=>cI .i64 (z1.1.g i)) (D5 [pI .i64 0] [(0,cI .i64 x1.1)])) (fun i=>cI .i64 ((z1.1.push x1.1).g i)))] (al1 ⟨rfl,Et (c:=cL 2 A0) (v:=z1.2) (x:=x1.2) (z:=[F8]) same rfl rfl⟩ (al1 ⟨rfl,Et (c:=cI .i64) (v:=z1.1) (x:=x1.1) (z:=[(pI .i64 0)]) same rfl rfl⟩ al0)))
  ·refine P3 hS trivial [(0,.l [9000]),(1,.l [10000]),(2,.a [5000]),(3,.a [6000]),(4,.a [7000])] ?_;refine I7 trivial ?_;obtain rfl:=B8 h;exact A9 hS trivial ⟨[(6,.reg 7000 0),(5,.reg 6000 0),(4,.reg 5000 0)],[(10500,.vec A4 1 z1.2.n (fun i=>cL 2 A0 (z1.2.g i)) true),(9500,.vec B6 1 z1.1.n (fun i=>cI .i64 (z1.1.g i)) true),(7000,.cells [pN 0]),(6000,.cells [.vec 10500]),(5000,.cells [.vec 9500])]⟩ [9500,10500] (ids:=[(5000,5000),(6000,6000),(7000,7000),(9500,9500),(10500,10500)]) ⟨rfl,rfl,rfl⟩
def Q4 (N:Nat)(b:Law)(a:Sl Sound):Option ((Sl Sound)×Int):=
 (CV N b a).bind fun y1=>
 if (y1.2.2 != 0) then
  some ((Sl.nil:Sl Sound),y1.2.2)
 else
  if (decide (0<(y1.2.1.n:Int))) then
   if (((0:Int)<=(wrap .i64 ((y1.2.1.n:Int)-1))/\(wrap .i64 ((y1.2.1.n:Int)-1))<(y1.2.1.n:Int))/\(wrap .i64 ((y1.2.1.n:Int)-1)).toNat<y1.2.1.n)then
    some (y1.2.1.g (wrap .i64 ((y1.2.1.n:Int)-1)).toNat,0)
   else none
  else
   (A6 N a).bind fun y2=>
   some (y2,0)
theorem Vk {N:Nat}{a:Law}{b:Sl Sound}{y:(Sl Sound)×Int}(h:Q4 N a b=some y) :FunO S LL [.p (.agg (B2 a)),.p (vSl 2 A0 b)] [] (.tup [.p (vSl 2 A0 y.1),pN y.2]) ([]) []:=by
 unfold Q4 at h;refine A3 hS Tryz.func145 ?_;refine kC hS h (Vj hS hL) (fun y1 h=>?_);refine kI hS h ?_ ?_<;>intro h
 ·obtain rfl:=B8 h;exact A9 hS trivial ⟨[(5,pN y1.2.2),(4,.p (vSl 2 A0 (Sl.nil:Sl Sound)))],[]⟩ [] (ids:=[]) ⟨rfl,rfl,rfl⟩
 ·refine kI hS h ?_ ?_<;>intro h
  ·obtain⟨c3,h⟩:=D3 h;obtain rfl:=B8 h;exact An0 hS c3 [] ⟨rfl,rfl,rfl⟩
  ·refine kC hS h (G9 hS hL) (fun y2 h=>?_);obtain rfl:=B8 h;exact A9 hS trivial ⟨[(5,pN 0),(4,.p (vSl 2 A0 y2))],[]⟩ [] (ids:=[]) ⟨rfl,rfl,rfl⟩
end Go.AM
namespace Go.AM
open IntKind (wrap)
open Go.Proofs
set_option maxRecDepth 10000
set_option maxHeartbeats 2000000
variable {S:Ay}(hS:H2 S Tryz.prog) (hL:OF S)
include hS hL
def P1 (N:Nat)(a:Law):Option Bool:=
 (X3 N a).bind fun y1=>
 some (y1 != 0)
theorem Kf {N:Nat}{a:Law}{y:Bool}(h:P1 N a=some y) :FunO S Fi [.p (.agg (B2 a))] [] (pB y) ([]) []:=by unfold P1 at h;refine A3 hS Tryz.func127 ?_;refine kC hS h (Hl hS hL) (fun y1 h=>?_);cases h;exact kR hS
def E9 (N:Nat)(a:Sl Law)(c:Law->Option Bool):Option Int:=
 R6 N (fun b (x1:Int)=>
  if (decide (x1<(a.n:Int))) then
   if ((0:Int)<=x1/\x1<(a.n:Int))then
    (c (a.g x1.toNat)).bind fun y3=>
    if y3 then
     some x1
    else
     b (wrap .i64 (x1+1))
   else none
  else
   some (-1)
  ) 0
theorem Ad {N:Nat}{a:Sl Law}{c:Law->Option Bool}{kp_f:Nat}(d:∀{a0:Law}{b:Bool},c a0=some b->FunO S kp_f [.p (.agg (B2 a0))] [] (pB b) [] []){y:Int}(h:E9 N a c=some y) :FunO S N0 [.p (vSl 18 B2 a),.clo kp_f [] []] [] (pN y) ([]) []:=by
 unfold E9 at h;refine A3 hS Tryz.func143 ?_;refine I4 hS trivial h (fun x1=>⟨[(8,pN x1),(7,pN (a.n:Int)),(1,.clo kp_f [] []),(0,.p (vSl 18 B2 a))],[]⟩) (ids:=[]) (fun _ _ _ _ _ f x1 g h=>?_);refine kI hS h ?_ ?_<;>intro h
 ·obtain⟨c8,h⟩:=D3 h;obtain⟨y3,e3,h⟩:=B7 h;refine B9 hS [] (And.intro c8 (by decide:(18:Nat)<=18)) (d e3) ?_;refine kI hS h ?_ ?_<;>intro h
  ·cases h;exact kR hS
  ·exact g _ [] _ (wrap .i64 (x1+1)) trivial h
 ·cases h;exact kR hS
def C7 (N:Nat)(a:Sl Law)(b:Law->Option Bool):Option Bool:=
 (E9 N a b).bind fun y1=>
 some (decide (0<=y1))
theorem V8 {N:Nat}{a:Sl Law}{c:Law->Option Bool}{kp_f:Nat}(d:∀{a0:Law}{b:Bool},c a0=some b->FunO S kp_f [.p (.agg (B2 a0))] [] (pB b) [] []){y:Bool}(h:C7 N a c=some y) :FunO S J7 [.p (vSl 18 B2 a),.clo kp_f [] []] [] (pB y) ([]) []:=by unfold C7 at h;refine A3 hS Tryz.func126 ?_;refine kC hS h (Ad hS hL (fun e=>d e)) (fun y1 h=>?_);cases h;exact kR hS
def U4 (N:Nat)(a:Sl Law):Option Int:=
 if (decide (64<(a.n:Int))) then
  some 12
 else
  (C7 N a (fun (u1:Law)=>P1 N u1)).bind fun y1=>
  if y1 then
   some 17
  else
   some 0
theorem Ns {N:Nat}{a:Sl Law}{y:Int}(h:U4 N a=some y) :FunO S GN [.p (vSl 18 B2 a)] [] (pN y) ([]) []:=by
 unfold U4 at h;refine A3 hS Tryz.func108 ?_;refine kI hS h ?_ ?_<;>intro h
 ·cases h;exact kR hS
 ·refine kC hS h (V8 hS hL (fun e=>Kf hS hL e)) (fun y1 h=>?_);refine kI hS h ?_ ?_<;>intro h
  ·cases h;exact kR hS
  ·cases h;exact kR hS
def Av (N:Nat)(b:Sl Law)(a:Sl (Sl Sound)):Option Int:=
 (U4 N b).bind fun y1=>
 if (y1 != 0) then
  some y1
 else
  if (decide (256<(a.n:Int))) then
   some 12
  else
   R6 N (fun c (x1:Int)=>
    if (decide (x1<(a.n:Int))) then
     if ((0:Int)<=x1/\x1<(a.n:Int))then
      (K3 N (a.g x1.toNat)).bind fun y4=>
      if (y4 != 0) then
       some y4
      else
       c (wrap .i64 (x1+1))
     else none
    else
     some 0
    ) 0
theorem Nt {N:Nat}{b:Sl Law}{a:Sl (Sl Sound)}{y:Int}(h:Av N b a=some y) :FunO S GL [.p (vSl 18 B2 b),.p (vSl 1 (cL 2 A0) a)] [] (pN y) ([]) []:=by
 unfold Av at h;refine A3 hS Tryz.func81 ?_;refine kC hS h (Ns hS hL) (fun y1 h=>?_);refine kI hS h ?_ ?_<;>intro h
 ·cases h;exact kR hS
 ·refine kI hS h ?_ ?_<;>intro h
  ·cases h;exact kR hS
  ·refine I4 hS trivial h (fun x1=>⟨[(19,pN x1),(18,pN (a.n:Int)),(17,.p (vSl 1 (cL 2 A0) a))],[]⟩) (ids:=[]) (fun _ _ _ _ _ c x1 d h=>?_);refine kI hS h ?_ ?_<;>intro h
   ·obtain⟨c10,h⟩:=D3 h;obtain⟨y4,e4,h⟩:=B7 h;refine B9 hS [] c10 (Dk hS hL e4) ?_;refine kI hS h ?_ ?_<;>intro h
    ·cases h;exact kR hS
    ·exact d _ [] _ (wrap .i64 (x1+1)) trivial h
   ·cases h;exact kR hS
end Go.AM
namespace Go.AM
open IntKind (wrap)
open Go.Proofs
set_option maxRecDepth 10000
set_option maxHeartbeats 2000000
variable {S:Ay}(hS:H2 S Tryz.prog) (hL:OF S)
include hS hL
def Ao7 (c:Int):Option PV:=if c=0 then none else some (.iface 149 (pI .i64 c))
def U0 (N:Nat)(c:Int)(q0:Sl Sound)(q1:Sl Law):Option (List (Int×(Sl Sound))):=
 (A6 N q0).bind fun y1=>
 AB (0,y1) (
  Q2 N (fun a (x1:Sl Sound) (x2:Int)=>
   if (decide (x2<(q1.n:Int))) then
    if ((0:Int)<=x2/\x2<(q1.n:Int))then
     (Q4 N (q1.g x2.toNat) x1).bind fun y4=>
     if (y4.2 != 0) then
      if y4.2=c then some []else none
     else
      AB (wrap .i64 (x2+1),y4.1) (
       a y4.1 (wrap .i64 (x2+1))
       )
    else none
   else
    if c=0 then some []else none
   ) y1 0
  )
theorem Fk {N:Nat}{q0:Sl Sound}{q1:Sl Law}{c:Int}{L:List (Int×(Sl Sound))}(h:U0 N c q0 q1=some L) :Li S O8 [] [.reg 0 0,.reg 1 0] [.cells [.p (vSl 2 A0 q0)],.cells [.p (vSl 18 B2 q1)]] (L.map (fun (x:Int×(Sl Sound))=>[pI .i64 x.1,vSl 2 A0 x.2])) (Ao7 c):=by
 unfold U0 at h;refine Aa3 hS Tryz.func144 ?_;refine kC hS h (G9 hS hL) (fun y1 h=>?_);obtain⟨L1,rfl,d⟩:=PK h;replace h:=d;refine Ez hS trivial (ys:=(fun (x:Int×(Sl Sound))=>[pI .i64 x.1,vSl 2 A0 x.2]) (0,y1)) (rest:=L1.map (fun (x:Int×(Sl Sound))=>[pI .i64 x.1,vSl 2 A0 x.2])) ?_ ?_
 ·refine D0 hS trivial (b:=false) (fun c1=>?_) (fun c1=>?_)
  ·exact Bool.noConfusion ((rfl:false=false).symm.trans c1)
  ·refine PL hS trivial h (fun x1 x2 L2=>⟨[(17,pN x2),(16,pN (q1.n:Int)),(15,.p (vSl 18 B2 q1)),(4,.p (vSl 2 A0 x1)),(0,.yf 2)],[(2,.yld (L2.map (fun (x:Int×(Sl Sound))=>[pI .i64 x.1,vSl 2 A0 x.2])) true),(1,.cells [.p (vSl 18 B2 q1)]),(0,.cells [.p (vSl 2 A0 q0)])]⟩) (ids:=[(0,0),(1,1),(2,2)]) (fun _ _ _ _ _ g x1 x2 L2 i h=>?_);refine kI hS h ?_ ?_<;>intro h
   ·obtain⟨c13,h⟩:=D3 h;obtain⟨y4,e4,h⟩:=B7 h;refine B9 hS [] (And.intro c13 (by decide:(18:Nat)<=18)) (Vk hS hL e4) ?_;refine D0 hS trivial (b:=y4.2 != 0) (fun c14=>?_) (fun c14=>?_)
    ·replace h:=itT c14 h;obtain⟨c0,h⟩:=D3 h;obtain rfl:=B8 h;have j:Ao7 c=some (.iface 149 (pI .i64 y4.2)):=by
      have:¬y4.2=0:=by simpa using c14
      rw[<- c0];simp[Ao7,this]
     refine AB4 hS trivial (x:=.iface 149 (pI .i64 y4.2)) ?_;exact Au6 hS trivial (x:=.iface 149 (pI .i64 y4.2)) (objs:=[(.cells [.p (vSl 2 A0 q0)]),.cells [.p (vSl 18 B2 q1)],.yld [] true]) [0,1,2] ⟨true,rfl,rfl,fun _=>by rw[j];rfl,fun e=>nomatch e⟩
    ·replace h:=itF c14 h;obtain⟨L5,rfl,f⟩:=PK h;replace h:=f;refine Ez hS trivial (ys:=(fun (x:Int×(Sl Sound))=>[pI .i64 x.1,vSl 2 A0 x.2]) (wrap .i64 (x2+1),y4.1)) (rest:=L5.map (fun (x:Int×(Sl Sound))=>[pI .i64 x.1,vSl 2 A0 x.2])) ?_ ?_
     ·refine D0 hS trivial (b:=false) (fun c15=>?_) (fun c15=>?_)
      ·exact Bool.noConfusion ((rfl:false=false).symm.trans c15)
      ·exact i _ [(0,0),(1,1),(2,2)] _ y4.1 (wrap .i64 (x2+1)) L5 trivial h
     ·refine D0 hS trivial (b:=true) (fun c16=>?_) (fun c16=>?_)
      ·exact A9 hS trivial (a:=.tup []) (objs:=[(.cells [.p (vSl 2 A0 q0)]),.cells [.p (vSl 18 B2 q1)],.yld [] false]) ⟨[],[(2,.yld [] false),(1,.cells [.p (vSl 18 B2 q1)]),(0,.cells [.p (vSl 2 A0 q0)])]⟩ [0,1,2] (ids:=[(0,0),(1,1),(2,2)]) ⟨false,rfl,rfl,fun e=>(nomatch e),fun _=>⟨_,rfl⟩⟩
      ·exact Bool.noConfusion ((rfl:true=true).symm.trans c16)
   ·obtain⟨c0,h⟩:=D3 h;obtain rfl:=B8 h;exact A9 hS trivial (a:=.tup []) (objs:=[(.cells [.p (vSl 2 A0 q0)]),.cells [.p (vSl 18 B2 q1)],.yld [] true]) ⟨[],[(2,.yld [] true),(1,.cells [.p (vSl 18 B2 q1)]),(0,.cells [.p (vSl 2 A0 q0)])]⟩ [0,1,2] (ids:=[(0,0),(1,1),(2,2)]) ⟨true,rfl,rfl,fun _=>by subst c0;exact⟨_,rfl⟩,fun e=>(nomatch e)⟩
 ·refine D0 hS trivial (b:=true) (fun c17=>?_) (fun c17=>?_)
  ·exact A9 hS trivial (a:=.tup []) (objs:=[(.cells [.p (vSl 2 A0 q0)]),.cells [.p (vSl 18 B2 q1)],.yld [] false]) ⟨[],[(2,.yld [] false),(1,.cells [.p (vSl 18 B2 q1)]),(0,.cells [.p (vSl 2 A0 q0)])]⟩ [0,1,2] (ids:=[(0,0),(1,1),(2,2)]) ⟨false,rfl,rfl,fun e=>(nomatch e),fun _=>⟨_,rfl⟩⟩
  ·exact Bool.noConfusion ((rfl:true=true).symm.trans c17)
def Aw (N:Nat)(a:Sl Law)(b:Sl Sound):Option ((Sl Sound)×(Sl Law)):=
 some (b,a)
theorem GT {N:Nat}{a:Sl Law}{b:Sl Sound}{y:(Sl Sound)×(Sl Law)}(h:Aw N a b=some y) :FunO S GP [.p (vSl 18 B2 a),.p (vSl 2 A0 b)] [] (.clo O8 [] [.reg 0 0,.reg 1 0]) ([.cells [.p (vSl 2 A0 y.1)],.cells [.p (vSl 18 B2 y.2)]]) []:=by unfold Aw at h;refine A3 hS Tryz.func128 ?_;obtain rfl:=B8 h;exact A9 hS trivial ⟨[(4,.clo O8 [] [.reg 4000 0,.reg 3000 0])],[(4000,.cells [.p (vSl 2 A0 b)]),(3000,.cells [.p (vSl 18 B2 a)])]⟩ [4000,3000] (ids:=[(3000,3000),(4000,4000)]) ⟨rfl,rfl,rfl⟩
def C0 (N:Nat)(c:Int)(a:Sl Law)(d:Sl Sound):Option (Sl Sound):=
 (Aw N a d).bind fun y1=>
 (U0 N c y1.1 y1.2).bind fun L1=>
 O6 L1 (fun b (x1:Int×(Sl Sound)) (z1:Sl Sound)=>
  b x1.2
  ) (fun (z1:Sl Sound)=>
   some z1
  ) (Sl.nil:Sl Sound)
theorem Jb {N:Nat}{a:Sl Law}{b:Sl Sound}{y:Sl Sound}(h:C0 N 0 a b=some y) :FunO S I0 [.p (vSl 18 B2 a),.p (vSl 2 A0 b)] [] (.p (vSl 2 A0 y)) ([]) []:=by
 unfold C0 at h;refine A3 hS Tryz.func111 ?_;refine kC hS h (GT hS hL) (fun y1 h=>?_);obtain⟨L1,e2,h⟩:=B7 h;have f:Li S O8 [] [.reg 0 0,.reg 1 0] [.cells [.p (vSl 2 A0 y1.1)],.cells [.p (vSl 18 B2 y1.2)]] (L1.map (fun (x:Int×(Sl Sound))=>[pI .i64 x.1,vSl 2 A0 x.2])) none:=Fk hS hL e2;refine Wz hS trivial [8000,8001] [4] 901 (fun z1=>⟨[(4,.reg 5000 0)],[(5000,.cells [.p (vSl 2 A0 z1)])]⟩) (idl:=[(5000,5000)]) h f (fun _=>by kernel_rfl) (fun _=>by kernel_rfl) (fun _=>by kernel_rfl) (fun _=>by kernel_rfl) (fun x1 _ c z1 d h=>?_) (fun z1 h=>?_)
 ·refine Lg hS trivial ?_;exact d _ [(901,901),(5000,5000)] _ x1.2 trivial h
 ·cases h;exact kR hS
theorem Jc {N:Nat}{c:Int}{a:Sl Law}{b:Sl Sound}{y:Sl Sound}(hc:c≠0)(h:C0 N c a b=some y) :S.F I0 [.p (vSl 18 B2 a),.p (vSl 2 A0 b)] [] fun res o k=>res=.panic (.iface 149 (pI .i64 c))/\o=[]/\k=[]:=by
 unfold C0 at h;refine Ao0 hS Tryz.func111 ?_;refine kC hS h (GT hS hL) (fun y1 h=>?_);obtain⟨L1,e2,h⟩:=B7 h;have g:Li S O8 [] [.reg 0 0,.reg 1 0] [.cells [.p (vSl 2 A0 y1.1)],.cells [.p (vSl 18 B2 y1.2)]] (L1.map (fun (x:Int×(Sl Sound))=>[pI .i64 x.1,vSl 2 A0 x.2])) (some (.iface 149 (pI .i64 c))):=by
  have:=Fk hS hL e2
  simpa[Ao7,hc]using this
 refine Wz hS trivial [8000,8001] [4] 901 (fun z1=>⟨[(4,.reg 5000 0)],[(5000,.cells [.p (vSl 2 A0 z1)])]⟩) (idl:=[(5000,5000)]) h g (fun _=>by kernel_rfl) (fun _=>by kernel_rfl) (fun _=>by kernel_rfl) (fun _=>by kernel_rfl) (fun x1 _ d z1 f h=>?_) (fun z1 h=>?_)
 ·refine Lg hS trivial ?_;exact f _ [(901,901),(5000,5000)] _ x1.2 trivial h
 ·exact Au6 hS trivial (x:=.iface 149 (pI .i64 c)) (objs:=[]) [] ⟨rfl,rfl,rfl⟩
def F4 (N:Nat)(a:Sl Law)(b:Sl Sound):Option ((Sl Sound)×Bool):=
 match C0 N 0 a b with
 |some y=>some (y,true)
 |none=>(C0 N 11 a b).bind fun _=>some ((Sl.nil:Sl Sound),false)
theorem Kg {N:Nat}{b:Sl Law}{c:Sl Sound}{y:(Sl Sound)×Bool}(h:F4 N b c=some y) :FunO S Fg [.p (vSl 18 B2 b),.p (vSl 2 A0 c)] [] (.tup [.p (vSl 2 A0 y.1),pB y.2]) ([]) []:=by
 unfold F4 at h;refine A3 hS Tryz.func82 ?_;rcases e:C0 N 0 b c with _|z
 ·rw[e]at h;obtain⟨z,e1,h⟩:=B7 h;obtain rfl:=B8 h;refine B9 hS [7000,3000,4000,5000] trivial (hL.attP (Jc hS hL (by decide) e1)) ?_;refine P3 hS trivial [(0,.l [5000]),(1,.l [7000]),(3,.a [5000])] ?_;refine I7 trivial ?_;exact A9 hS trivial ⟨[(5,pB false),(4,.reg 5000 0)],[(5000,.cells [.p (vSl 2 A0 Sl.nil)])]⟩ [] (ids:=[(5000,5000)]) ⟨rfl,rfl,rfl⟩
 ·rw[e]at h;obtain rfl:=B8 h;refine B9 hS [7000,3000,4000,5000] trivial (hL.attR (Jb hS hL e)) ?_;refine P3 hS trivial [(0,.l [5000]),(1,.l [7000]),(3,.a [5000])] ?_;refine I7 trivial ?_;exact A9 hS trivial ⟨[(5,pB true),(4,.reg 5000 0)],[(5000,.cells [.p (vSl 2 A0 z)])]⟩ [] (ids:=[(5000,5000)]) ⟨rfl,rfl,rfl⟩
end Go.AM
namespace Go.AM
open Go.Proofs
set_option maxRecDepth 10000
set_option maxHeartbeats 2000000
variable {S:Ay}(hS:H2 S Tryz.prog) (hL:OF S)
include hS hL
def G1 (N:Nat)(a:Sl Law)(b:Sl Sound):Option ((Sl Sound)×Int):=
 (Av N a (Sl.of [b]:Sl (Sl Sound))).bind fun y1=>
 if (y1 != 0) then
  some ((Sl.nil:Sl Sound),y1)
 else
  (F4 N a b).bind fun y2=>
  if (!y2.2) then
   some ((Sl.nil:Sl Sound),11)
  else
   some (y2.1,0)
theorem FU {N:Nat}{a:Sl Law}{b:Sl Sound}{y:(Sl Sound)×Int}(h:G1 N a b=some y) :FunO S FD [.p (vSl 18 B2 a),.p (vSl 2 A0 b)] [] (.tup [.p (vSl 2 A0 y.1),pN y.2]) ([]) []:=by
 unfold G1 at h;refine A3 hS Tryz.func32 ?_;refine Df hS (rfl:true=true) ⟨[(11,.vec 12000),(9,.p (vSl 18 B2 a)),(1,.p (vSl 2 A0 b)),(0,.p (vSl 18 B2 a))],[(12000,.vec A4 1 (Sl.of [b]:Sl (Sl Sound)).n (fun i=>cL 2 A0 ((Sl.of [b]:Sl (Sl Sound)).g i)) false)]⟩ (ids:=[(12000,12000)]) ?_ (hle:=klR [(3,.fn 1 (Sl.of [b]:Sl (Sl Sound)).n (D5 [F8] [(0,cL 2 A0 b)]) (fun i=>cL 2 A0 ((Sl.of [b]:Sl (Sl Sound)).g i)))] (al1 ⟨rfl,(fun i c=>match i,c with|0,_=>rfl|_+1,c=>absurd c (by omega))⟩ al0));refine kC hS h (Nt hS hL) (fun y1 h=>?_);refine kI hS h ?_ ?_<;>intro h
 ·obtain rfl:=B8 h;exact A9 hS trivial ⟨[(5,pN y1),(4,.p (vSl 2 A0 (Sl.nil:Sl Sound)))],[]⟩ [] (ids:=[]) ⟨rfl,rfl,rfl⟩
 ·refine kC hS h (Kg hS hL) (fun y2 h=>?_);refine kI hS h ?_ ?_<;>intro h
  ·obtain rfl:=B8 h;exact A9 hS trivial ⟨[(5,pN 11),(4,.p (vSl 2 A0 (Sl.nil:Sl Sound)))],[]⟩ [] (ids:=[]) ⟨rfl,rfl,rfl⟩
  ·cases h;exact kR hS
end Go.AM
namespace Go.AM
open IntKind (wrap)
open Go.Proofs
set_option maxRecDepth 10000
set_option maxHeartbeats 2000000
variable {S:Ay}(hS:H2 S Tryz.prog) (hL:OF S)
include hS hL
def FV (N:Nat)(a:Int):Option Bool:=
 some (((((decide (97<=a))&&(decide (a<=122)))||((decide (65<=a))&&(decide (a<=90))))||((decide (48<=a))&&(decide (a<=57))))||(a==45))
theorem SW {N:Nat}{b:Int}{y:Bool}(h:FV N b=some y) :FunO S JJ [.p (pI .u8 b)] [] (pB y) ([]) []:=by unfold FV at h;refine A3 hS Tryz.func129 ?_;refine kB hS (A7 hS) trivial trivial 23 (.o (.o (.o (.n (.a (decide (97<=b))) (.a (decide (b<=122)))) (.n (.a (decide (65<=b))) (.a (decide (b<=90))))) (.n (.a (decide (48<=b))) (.a (decide (b<=57))))) (.a (b==45))) ?_;cases h;exact kR hS
def Cy (N:Nat)(a:Str):Option Bool:=
 R6 N (fun b (x1:Int)=>
  if (decide (x1<(a.length:Int))) then
   if ((0:Int)<=x1/\x1<(a.length:Int))then
    (FV N (Z6 a x1)).bind fun y3=>
    if (!y3) then
     some false
    else
     b (wrap .i64 (x1+1))
   else none
  else
   some ((decide (1<=(a.length:Int)))&&(decide ((a.length:Int)<=24)))
  ) 0
theorem OK {N:Nat}{b:Str}{y:Bool}(h:Cy N b=some y) :FunO S Or [.p (.str b)] [] (pB y) ([]) []:=by
 unfold Cy at h;refine A3 hS Tryz.func113 ?_;refine I4 hS trivial h (fun x1=>⟨[(3,pN x1),(0,.p (.str b))],[]⟩) (ids:=[]) (fun _ _ _ _ _ c x1 d h=>?_);refine kI hS h ?_ ?_<;>intro h
 ·obtain⟨c8,h⟩:=D3 h;obtain⟨y3,e3,h⟩:=B7 h;refine B9 hS [] c8 (SW hS hL e3) ?_;refine kI hS h ?_ ?_<;>intro h
  ·cases h;exact kR hS
  ·exact d _ [] _ (wrap .i64 (x1+1)) trivial h
 ·refine kB hS (A7 hS) trivial trivial 4 (.n (.a (decide (1<=(b.length:Int)))) (.a (decide ((b.length:Int)<=24)))) ?_;cases h;exact kR hS
def AF (N:Nat)(a:Sl G7):Option Int:=
 if ((decide ((a.n:Int)<1))=false->((decide (63<(a.n:Int)))=false->((0:Int)<=0/\0<(a.n:Int))))then
  if (((decide ((a.n:Int)<1))||(decide (63<(a.n:Int))))||((a.g 0).Parent != (-1))) then
   some 16
  else
   R6 N (fun b (x3:Int)=>
    if (decide (x3<(a.n:Int))) then
     lt (fun (z3:Bool)=>
      if z3 then
       some 16
      else
       R6 N (fun c (x7:Int)=>
        if (decide (x7<x3)) then
         if (((0:Int)<=x7/\x7<(a.n:Int))/\((0:Int)<=x3/\x3<(a.n:Int)))then
          if (((a.g x7.toNat).Name==(a.g x3.toNat).Name) != false) then
           some 16
          else
           c (wrap .i64 (x7+1))
         else none
        else
         b (wrap .i64 (x3+1))
        ) 0
      ) fun k3=>
      if (decide (0<x3)) then
       if ((0:Int)<=x3/\x3<(a.n:Int))then
        if (decide ((a.g x3.toNat).Parent<0)) then
         k3 true
        else
         if ((0:Int)<=x3/\x3<(a.n:Int))then
          if (decide (x3<=(a.g x3.toNat).Parent)) then
           k3 true
          else
           if ((0:Int)<=x3/\x3<(a.n:Int))then
            (Cy N (a.g x3.toNat).Name).bind fun d=>
            k3 (!d)
           else none
         else none
       else none
      else
       if ((0:Int)<=x3/\x3<(a.n:Int))then
        (Cy N (a.g x3.toNat).Name).bind fun f=>
        k3 (!f)
       else none
    else
     some 0
    ) 0
 else none
theorem Mo {N:Nat}{c:Sl G7}{y:Int}(h:AF N c=some y) :FunO S Lz [.p (vSl 2 D2 c)] [] (pN y) ([]) []:=by
 unfold AF at h;refine A3 hS Tryz.func85 ?_;obtain⟨c1,h⟩:=D3 h;refine kB hS (A7 hS) trivial c1 11 (.o (.o (.a (decide ((c.n:Int)<1))) (.a (decide (63<(c.n:Int))))) (.a ((c.g 0).Parent != (-1)))) ?_;refine kI hS h ?_ ?_<;>intro h
 ·cases h;exact kR hS
 ·refine I4 hS trivial h (fun x3=>⟨[(3,pN x3),(0,.p (vSl 2 D2 c))],[]⟩) (ids:=[]) (fun _ _ _ _ _ f x3 i h=>?_);refine kI hS h ?_ ?_<;>intro h
  ·refine Fy hS trivial (A7 hS) h 0 (fun z3=>⟨[(53,pB z3),(3,pN x3),(0,.p (vSl 2 D2 c))],[]⟩) (fun M3 k3 d h=>?_) (fun z3 h=>?_)
   ·refine kG hS h (fun h=>?_) (fun h=>?_)
    ·obtain⟨c71,h⟩:=D3 h;refine Fx hS c71 (b:=decide ((c.g x3.toNat).Parent<0)) (fun c72=>?_) (fun c72=>?_)
     ·replace h:=itT c72 h;exact d _ [] _ true trivial h
     ·replace h:=itF c72 h;obtain⟨c73,h⟩:=D3 h;refine Fx hS c73 (b:=decide (x3<=(c.g x3.toNat).Parent)) (fun c74=>?_) (fun c74=>?_)
      ·replace h:=itT c74 h;exact d _ [] _ true trivial h
      ·replace h:=itF c74 h;obtain⟨c75,h⟩:=D3 h;obtain⟨j,e11,h⟩:=B7 h;refine B9 hS [] c75 (OK hS hL e11) ?_;exact d _ [] _ (!j) trivial h
    ·obtain⟨c76,h⟩:=D3 h;obtain⟨l,e12,h⟩:=B7 h;refine B9 hS [] c76 (OK hS hL e12) ?_;exact d _ [] _ (!l) trivial h
   ·refine kI hS h ?_ ?_<;>intro h
    ·cases h;exact kR hS
    ·refine I4 hS trivial h (fun x7=>⟨[(4,pN x7),(3,pN x3),(0,.p (vSl 2 D2 c))],[]⟩) (ids:=[]) (fun _ _ _ _ _ m x7 q h=>?_);refine kI hS h ?_ ?_<;>intro h
     ·refine D4 hS trivial [2,4,7,9] ?_;obtain⟨c85,h⟩:=D3 h;refine I7 c85 ?_;refine kI hS h ?_ ?_<;>intro h
      ·cases h;exact kR hS
      ·exact q _ [] _ (wrap .i64 (x7+1)) trivial h
     ·exact i _ [] _ (wrap .i64 (x3+1)) trivial h
  ·cases h;exact kR hS
def X5 (rec:A8->Int->Option (Sl Int))(N:Nat)(b:A8)(a:Int):Option (Sl Int):=
 if (decide (a<0)) then
  some (Sl.nil:Sl Int)
 else
  if ((0:Int)<=a/\a<(b.Tree.n:Int))then
   (rec b (b.Tree.g a.toNat).Parent).bind fun y1=>
   if (((0:Int)<=a/\a<(b.On.n:Int))/\((y1.n+(b.On.g a.toNat).n)*8<=140737488355328/\y1.n+(b.On.g a.toNat).n<=140737488355328))then
    some (y1.app (b.On.g a.toNat))
   else none
  else none
def AN:Nat->A8->Int->Option (Sl Int)
 |0=>fun _ _=>none
 |N+1=>X5 (AN N) N
theorem Vl {N:Nat}{rec:A8->Int->Option (Sl Int)}(d:∀{a:A8}{b:Int}{y:Sl Int},rec a b=some y->FunO S Gm [.p (.agg (A2 a)),pN b] [] (.vec 0) ([.vec B6 1 y.n (fun i=>cI .i64 (y.g i)) true]) []){a:A8}{b:Int}{y:Sl Int}(h:X5 rec N a b=some y) :FunO S Gm [.p (.agg (A2 a)),pN b] [] (.vec 0) ([.vec B6 1 y.n (fun i=>cI .i64 (y.g i)) true]) []:=by
 unfold X5 at h;refine A3 hS Tryz.func84 ?_;refine H3 hS trivial 4 3000 (A2 a) ?_;refine kI hS h ?_ ?_<;>intro h
 ·obtain rfl:=B8 h;exact A9 hS trivial ⟨[(4,.vec 5700)],[(5700,.vec B6 1 (Sl.nil:Sl Int).n (fun i=>cI .i64 ((Sl.nil:Sl Int).g i)) true)]⟩ [5700] (ids:=[]) ⟨rfl,rfl,rfl⟩
 ·refine D4 hS trivial [0,2,4,6,9,11,12] ?_;obtain⟨c2,h⟩:=D3 h;obtain⟨y1,e1,h⟩:=B7 h;refine HO [] (And.intro (by decide:(3:Nat)<=3) c2) (d e1) ?_;obtain⟨c3,h⟩:=D3 h;refine I7 c3 ?_;obtain rfl:=B8 h;exact A9 hS trivial ⟨[(4,.vec 21000)],[(21000,.vec B6 1 (y1.app (a.On.g b.toNat)).n (fun i=>cI .i64 ((y1.app (a.On.g b.toNat)).g i)) true)]⟩ [21000] (ids:=[(21000,21000)]) ⟨rfl,rfl,rfl⟩ (hle:=klR [(0,.fn (y1.n+(a.On.g b.toNat).n) (y1.app (a.On.g b.toNat)).n (Q0 y1.n (fun i=>cI .i64 (y1.g i)) (fun i=>cI .i64 ((a.On.g b.toNat).g i))) (fun i=>cI .i64 ((y1.app (a.On.g b.toNat)).g i)))] (al1 ⟨rfl,YX (c:=cI .i64) (v:=y1) (w:=a.On.g b.toNat) same rfl same rfl⟩ al0))
theorem OL {N:Nat}{a:A8}{b:Int}{y:Sl Int}(h:AN N a b=some y) :FunO S Gm [.p (.agg (A2 a)),pN b] [] (.vec 0) ([.vec B6 1 y.n (fun i=>cI .i64 (y.g i)) true]) []:=by
 induction N generalizing a b y with
 |zero=>cases (show (none:Option (Sl Int))=some y from h)
 |succ N ih=>exact Vl hS hL (fun e=>ih e) h
def Q5 (N:Nat)(a:A8):Option Int:=
 (AF N a.Tree).bind fun y1=>
 if (y1 != 0) then
  some 16
 else
  if (decide (64<(a.Laws.n:Int))) then
   some 12
  else
   R6 N (fun d (x1:Int)=>
    if (decide (x1<(a.Laws.n:Int))) then
     if ((0:Int)<=x1/\x1<(a.Laws.n:Int))then
      (W9 N (a.Laws.g x1.toNat)).bind fun y4=>
      if (y4 != 0) then
       some 17
      else
       d (wrap .i64 (x1+1))
     else none
    else
     R6 N (fun f (x3:Int)=>
      if (decide (x3<(a.Laws.n:Int))) then
       R6 N (fun i (x5:Int)=>
        if (decide (x5<x3)) then
         if (((0:Int)<=x3/\x3<(a.Laws.n:Int))/\((0:Int)<=x5/\x5<(a.Laws.n:Int)))then
          if (((a.Laws.g x3.toNat).Name==(a.Laws.g x5.toNat).Name) != false) then
           some 6
          else
           i (wrap .i64 (x5+1))
         else none
        else
         f (wrap .i64 (x3+1))
        ) 0
      else
       if ((a.On.n:Int) != (a.Tree.n:Int)) then
        some 2
       else
        R6 N (fun j (x6:Int)=>
         if (decide (x6<(a.On.n:Int))) then
          (AN N a x6).bind fun y7=>
          if (decide (64<(y7.n:Int))) then
           some 2
          else
           j (wrap .i64 (x6+1))
         else
          R6 N (fun l (x8:Int)=>
           if (decide (x8<(a.On.n:Int))) then
            R6 N (fun c (b:Int)=>
             if ((0:Int)<=x8/\x8<(a.On.n:Int))then
              if (decide (b<((a.On.g x8.toNat).n:Int))) then
               if (((0:Int)<=x8/\x8<(a.On.n:Int))/\((0:Int)<=b/\b<((a.On.g x8.toNat).n:Int)))then
                if (decide (((a.On.g x8.toNat).g b.toNat)<0)) then
                 some 3
                else
                 if (((0:Int)<=x8/\x8<(a.On.n:Int))/\((0:Int)<=b/\b<((a.On.g x8.toNat).n:Int)))then
                  if (decide ((a.Laws.n:Int)<=((a.On.g x8.toNat).g b.toNat))) then
                   some 3
                  else
                   c (wrap .i64 (b+1))
                 else none
               else none
              else
               l (wrap .i64 (x8+1))
             else none
             ) 0
           else
            some 0
           ) 0
         ) 0
      ) 0
    ) 0
theorem EO {N:Nat}{a:A8}{y:Int}(h:Q5 N a=some y) :FunO S Lt [.p (.agg (A2 a))] [] (pN y) ([]) []:=by
 unfold Q5 at h;refine A3 hS Tryz.func54 ?_;refine H3 hS trivial 2 2000 (A2 a) ?_;refine kC hS h (Mo hS hL) (fun y1 h=>?_);refine kI hS h ?_ ?_<;>intro h
 ·cases h;exact kR hS
 ·refine kI hS h ?_ ?_<;>intro h
  ·cases h;exact kR hS
  ·refine I4 hS trivial h (fun x1=>⟨[(3,pN x1),(1,.p (.ptr (A2 a)))],[]⟩) (ids:=[]) (fun _ _ _ _ _ i x1 j h=>?_);refine kI hS h ?_ ?_<;>intro h
   ·obtain⟨c10,h⟩:=D3 h;obtain⟨y4,e4,h⟩:=B7 h;refine B9 hS [] (And.intro c10 (by decide:(18:Nat)<=18)) (Hk hS hL e4) ?_;refine kI hS h ?_ ?_<;>intro h
    ·cases h;exact kR hS
    ·exact j _ [] _ (wrap .i64 (x1+1)) trivial h
   ·refine I4 hS trivial h (fun x3=>⟨[(4,pN x3),(1,.p (.ptr (A2 a)))],[]⟩) (ids:=[]) (fun _ _ _ _ _ l x3 m h=>?_);refine kI hS h ?_ ?_<;>intro h
    ·refine I4 hS trivial h (fun x5=>⟨[(5,pN x5),(4,pN x3),(1,.p (.ptr (A2 a)))],[]⟩) (ids:=[]) (fun _ _ _ _ _ o x5 q h=>?_);refine kI hS h ?_ ?_<;>intro h
     ·refine D4 hS trivial [1,3,5,7,9,11] ?_;obtain⟨c40,h⟩:=D3 h;refine I7 c40 ?_;refine kI hS h ?_ ?_<;>intro h
      ·cases h;exact kR hS
      ·exact q _ [] _ (wrap .i64 (x5+1)) trivial h
     ·exact m _ [] _ (wrap .i64 (x3+1)) trivial h
    ·refine kI hS h ?_ ?_<;>intro h
     ·cases h;exact kR hS
     ·refine I4 hS trivial h (fun x6=>⟨[(6,pN x6),(1,.p (.ptr (A2 a)))],[]⟩) (ids:=[]) (fun _ _ _ _ _ r x6 s h=>?_);refine kI hS h ?_ ?_<;>intro h
      ·obtain⟨y7,e7,h⟩:=B7 h;refine B9 hS [] (by decide:(3:Nat)<=3) (OL hS hL e7) ?_;refine kI hS h ?_ ?_<;>intro h
       ·cases h;exact kR hS
       ·exact s _ [] _ (wrap .i64 (x6+1)) trivial h
      ·refine I4 hS trivial h (fun x8=>⟨[(7,pN x8),(1,.p (.ptr (A2 a)))],[]⟩) (ids:=[]) (fun _ _ _ _ _ t x8 u h=>?_);refine kI hS h ?_ ?_<;>intro h
       ·refine I4 hS trivial h (fun c=>⟨[(8,pN c),(7,pN x8),(1,.p (.ptr (A2 a)))],[]⟩) (ids:=[]) (fun _ _ _ _ _ f c d h=>?_);obtain⟨c100,h⟩:=D3 h;refine D0 hS c100 (b:=decide (c<((a.On.g x8.toNat).n:Int))) (fun c101=>?_) (fun c101=>?_)
        ·replace h:=itT c101 h;refine D4 hS trivial [1,3,4,6,7,11,13,14,16,17,19] ?_;obtain⟨c102,h⟩:=D3 h;refine ZY c102 (b:=decide (((a.On.g x8.toNat).g c.toNat)<0)) (fun c103=>?_) (fun c103=>?_)
         ·replace h:=itT c103 h;refine I7 trivial ?_;cases h;exact kR hS
         ·replace h:=itF c103 h;obtain⟨c104,h⟩:=D3 h;refine I7 c104 ?_;refine kI hS h ?_ ?_<;>intro h
          ·cases h;exact kR hS
          ·exact d _ [] _ (wrap .i64 (c+1)) trivial h
        ·replace h:=itF c101 h;exact u _ [] _ (wrap .i64 (x8+1)) trivial h
       ·cases h;exact kR hS
def BA (N:Nat)(b:A8)(a:Int):Option Bool:=
 some ((decide (0<=a))&&(decide (a<(b.Tree.n:Int))))
theorem Yx {N:Nat}{c:A8}{b:Int}{y:Bool}(h:BA N c b=some y) :FunO S Oo [.p (.agg (A2 c)),pN b] [] (pB y) ([]) []:=by unfold BA at h;refine A3 hS Tryz.func63 ?_;refine kB hS (A7 hS) trivial trivial 6 (.n (.a (decide (0<=b))) (.a (decide (b<(c.Tree.n:Int))))) ?_;cases h;exact kR hS
def Ee (N:Nat)(a:A8)(b:Int):Option ((Sl Int)×Int):=
 (Q5 N a).bind fun y1=>
 if (y1 != 0) then
  some ((Sl.nil:Sl Int),y1)
 else
  (BA N a b).bind fun y2=>
  if (!y2) then
   some ((Sl.nil:Sl Int),3)
  else
   (AN N a b).bind fun y3=>
   some (y3,0)
theorem Yy {N:Nat}{a:A8}{b:Int}{y:(Sl Int)×Int}(h:Ee N a b=some y) :FunO S Oj [.p (.agg (A2 a)),pN b] [] (.tup [.vec 0,pN y.2]) ([.vec B6 1 y.1.n (fun i=>cI .i64 (y.1.g i)) true]) []:=by
 unfold Ee at h;refine A3 hS Tryz.func50 ?_;refine kC hS h (EO hS hL) (fun y1 h=>?_);refine kI hS h ?_ ?_<;>intro h
 ·obtain rfl:=B8 h;exact A9 hS trivial ⟨[(5,pN y1),(4,.vec 5700)],[(5700,.vec B6 1 (Sl.nil:Sl Int).n (fun i=>cI .i64 ((Sl.nil:Sl Int).g i)) true)]⟩ [5700] (ids:=[]) ⟨rfl,rfl,rfl⟩
 ·refine kC hS h (Yx hS hL) (fun y2 h=>?_);refine kI hS h ?_ ?_<;>intro h
  ·obtain rfl:=B8 h;exact A9 hS trivial ⟨[(5,pN 3),(4,.vec 5700)],[(5700,.vec B6 1 (Sl.nil:Sl Int).n (fun i=>cI .i64 ((Sl.nil:Sl Int).g i)) true)]⟩ [5700] (ids:=[]) ⟨rfl,rfl,rfl⟩
  ·refine kC hS h (OL hS hL) (fun y3 h=>?_);obtain rfl:=B8 h;exact A9 hS trivial ⟨[(5,pN 0),(4,.vec 19000)],[(19000,.vec B6 1 y3.n (fun i=>cI .i64 (y3.g i)) true)]⟩ [19000] (ids:=[(19000,19000)]) ⟨rfl,rfl,rfl⟩
def Ef (N:Nat)(a:A8)(c:Int):Option ((Sl Law)×Int):=
 (Ee N a c).bind fun y1=>
 Q2 N (fun b (x1:Sl Law) (x2:Int)=>
  if (decide (x2<(y1.1.n:Int))) then
   if ((((0:Int)<=x2/\x2<(y1.1.n:Int))/\x2.toNat<y1.1.n)/\((0:Int)<=(y1.1.g x2.toNat)/\(y1.1.g x2.toNat)<(a.Laws.n:Int)))then
    if ((x1.n+(Sl.of [a.Laws.g (y1.1.g x2.toNat).toNat]:Sl Law).n)*200<=140737488355328/\x1.n+(Sl.of [a.Laws.g (y1.1.g x2.toNat).toNat]:Sl Law).n<=140737488355328)then
     b (x1.push (a.Laws.g (y1.1.g x2.toNat).toNat)) (wrap .i64 (x2+1))
    else none
   else none
  else
   some (x1,y1.2)
  ) (Sl.nil:Sl Law) 0
theorem Yz {N:Nat}{a:A8}{b:Int}{y:(Sl Law)×Int}(h:Ef N a b=some y) :FunO S Ok [.p (.agg (A2 a)),pN b] [] (.tup [.vec 0,pN y.2]) ([.vec W3 18 y.1.n (fun i=>B2 (y.1.g i)) true]) []:=by
 unfold Ef at h;refine A3 hS Tryz.func52 ?_;refine H3 hS trivial 4 3000 (A2 a) ?_;obtain⟨y1,e1,h⟩:=B7 h;refine B9 hS [] (by decide:(3:Nat)<=3) (Yy hS hL e1) ?_;refine F9 hS trivial h (fun x1 x2=>⟨[(9,pN x2),(8,.vec 9500),(7,pN y1.2),(6,.vec 14000),(2,.p (.ptr (A2 a)))],[(14000,.vec B6 1 y1.1.n (fun i=>cI .i64 (y1.1.g i)) true),(9500,.vec W3 18 x1.n (fun i=>B2 (x1.g i)) false)]⟩) (ids:=[(14000,14000)]) (fun _ _ _ _ _ d x1 x2 f h=>?_);refine kI hS h ?_ ?_<;>intro h
 ·refine D4 hS trivial [2,7,8] ?_;obtain⟨c8,h⟩:=D3 h;refine Ey (And.intro (And.intro (And.intro c8.1.1 c8.1.2) c8.2) (by decide:(18:Nat)<=18)) (x:=.sl true 18 1 (D5 [.str [],pI .i64 0,pI .u32 0,pI .u32 0,.v (.bool false),pI .i64 0,pI .i64 0,F8,pI .i64 0,pI .u32 0,pI .u32 0,.v (.bool false),pI .i64 0,pI .i64 0,F8,F8,F8,pI .i64 0] [(0,B2 (a.Laws.g (y1.1.g x2.toNat).toNat))])) ?_;obtain⟨c9,h⟩:=D3 h;refine I7 c9 ?_;exact f _ [(9500,33000),(14000,14000)] _ (x1.push (a.Laws.g (y1.1.g x2.toNat).toNat)) (wrap .i64 (x2+1)) trivial h (hle:=klR [(4,.fn (x1.n+1) (x1.push (a.Laws.g (y1.1.g x2.toNat).toNat)).n (Q0 x1.n (fun i=>B2 (x1.g i)) (D5 [.str [],pI .i64 0,pI .u32 0,pI .u32 0,.v (.bool false),pI .i64 0,pI .i64 0,F8,pI .i64 0,pI .u32 0,pI .u32 0,.v (.bool false),pI .i64 0,pI .i64 0,F8,F8,F8,pI .i64 0] [(0,B2 (a.Laws.g (y1.1.g x2.toNat).toNat))])) (fun i=>B2 ((x1.push (a.Laws.g (y1.1.g x2.toNat).toNat)).g i)))] (al1 ⟨rfl,Et (c:=B2) (v:=x1) (x:=a.Laws.g (y1.1.g x2.toNat).toNat) (z:=[(.str []),pI .i64 0,pI .u32 0,pI .u32 0,.v (.bool false),pI .i64 0,pI .i64 0,F8,pI .i64 0,pI .u32 0,pI .u32 0,.v (.bool false),pI .i64 0,pI .i64 0,F8,F8,F8,pI .i64 0]) same rfl rfl⟩ al0))
 ·obtain rfl:=B8 h;exact A9 hS trivial ⟨[(5,pN y1.2),(4,.vec 9500)],[(9500,.vec W3 18 x1.n (fun i=>B2 (x1.g i)) true)]⟩ [9500] (ids:=[(9500,9500)]) ⟨rfl,rfl,rfl⟩
def Jd (N:Nat)(a:A8)(b:Sl Sound):Option Int:=
 (Q5 N a).bind fun y1=>
 if (y1 != 0) then
  some y1
 else
  (W5 N b).bind fun y2=>
  some y2
def Dn (N:Nat)(a:A8)(b:Sl Sound)(c:Int):Option ((Sl Sound)×Int):=
 (Ef N a c).bind fun y1=>
 (BP N y1.1 b).bind fun y2=>
 some (y2.1,y2.2)
theorem WF {N:Nat}{a:A8}{b:Sl Sound}{c:Int}{y:(Sl Sound)×Int}(h:Dn N a b c=some y) :FunO S WB [.p (.agg (A2 a)),.p (vSl 2 A0 b),pN c] [] (.tup [.p (vSl 2 A0 y.1),pN y.2]) ([]) []:=by unfold Dn at h;refine A3 hS Tryz.func64 ?_;refine kC hS h (Yz hS hL) (fun y1 h=>?_);refine kC hS h (SS hS hL) (fun y2 h=>?_);cases h;exact kR hS
def Qv (N:Nat)(a:A8)(b:Sl Sound)(c:Int):Option ((Sl Sound)×Int):=
 (Jd N a b).bind fun y1=>
 if (y1 != 0) then
  some ((Sl.nil:Sl Sound),y1)
 else
  (BA N a c).bind fun y2=>
  if (!y2) then
   some ((Sl.nil:Sl Sound),3)
  else
   (Dn N a b c).bind fun y3=>
   some (y3.1,y3.2)
def EP (N:Nat)(a:Int):Option Bool:=
 some (((((decide (97<=a))&&(decide (a<=122)))||((decide (65<=a))&&(decide (a<=90))))||((decide (48<=a))&&(decide (a<=57))))||(a==45))
theorem Qw {N:Nat}{b:Int}{y:Bool}(h:EP N b=some y) :FunO S Ia [.p (pI .u8 b)] [] (pB y) ([]) []:=by unfold EP at h;refine A3 hS Tryz.func125 ?_;refine kB hS (A7 hS) trivial trivial 23 (.o (.o (.o (.n (.a (decide (97<=b))) (.a (decide (b<=122)))) (.n (.a (decide (65<=b))) (.a (decide (b<=90))))) (.n (.a (decide (48<=b))) (.a (decide (b<=57))))) (.a (b==45))) ?_;cases h;exact kR hS
def BU (N:Nat)(a:Str):Option Bool:=
 R6 N (fun b (x1:Int)=>
  if (decide (x1<(a.length:Int))) then
   if ((0:Int)<=x1/\x1<(a.length:Int))then
    (EP N (Z6 a x1)).bind fun y3=>
    if (!y3) then
     some false
    else
     b (wrap .i64 (x1+1))
   else none
  else
   some ((decide (0<(a.length:Int)))&&(decide ((a.length:Int)<=24)))
  ) 0
theorem SX {N:Nat}{b:Str}{y:Bool}(h:BU N b=some y) :FunO S JI [.p (.str b)] [] (pB y) ([]) []:=by
 unfold BU at h;refine A3 hS Tryz.func106 ?_;refine I4 hS trivial h (fun x1=>⟨[(6,pN x1),(5,pN (b.length:Int)),(0,.p (.str b))],[]⟩) (ids:=[]) (fun _ _ _ _ _ c x1 d h=>?_);refine kI hS h ?_ ?_<;>intro h
 ·obtain⟨c8,h⟩:=D3 h;obtain⟨y3,e3,h⟩:=B7 h;refine B9 hS [] c8 (Qw hS hL e3) ?_;refine kI hS h ?_ ?_<;>intro h
  ·cases h;exact kR hS
  ·exact d _ [] _ (wrap .i64 (x1+1)) trivial h
 ·refine kB hS (A7 hS) trivial trivial 4 (.n (.a (decide (0<(b.length:Int)))) (.a (decide ((b.length:Int)<=24)))) ?_;cases h;exact kR hS
def X6 (N:Nat)(a:Sl G7):Option Int:=
 if (((a.n:Int)==0)||(decide (63<(a.n:Int)))) then
  some 16
 else
  Q2 N (fun b (x2:List (Str×Bool)) (x3:Int)=>
   if (decide (x3<(a.n:Int))) then
    if ((0:Int)<=x3/\x3<(a.n:Int))then
     lt (fun (z3:Bool)=>
      if z3 then
       some 16
      else
       b (PA eqS (a.g x3.toNat).Name true x2) (wrap .i64 (x3+1))
      ) fun k3=>
      if (decide (x3<=(a.g x3.toNat).Parent)) then
       k3 true
      else
       if (decide ((a.g x3.toNat).Parent<(if 0<(wrap .i64 (x3-1))then 0 else (wrap .i64 (x3-1))))) then
        k3 true
       else
        (BU N (a.g x3.toNat).Name).bind fun y6=>
        if (!y6) then
         k3 true
        else
         AG1 (CJ eqS (a.g x3.toNat).Name x2) (
          k3 false
          ) fun v6=>
          k3 v6
    else none
   else
    some 0
   ) [] 0
theorem JR {N:Nat}{c:Sl G7}{y:Int}(h:X6 N c=some y) :FunO S JE [.p (vSl 2 D2 c)] [] (pN y) ([]) []:=by
 unfold X6 at h;refine A3 hS Tryz.func78 ?_;refine kB hS (A7 hS) trivial trivial 4 (.o (.a ((c.n:Int)==0)) (.a (decide (63<(c.n:Int))))) ?_;refine kI hS h ?_ ?_<;>intro h
 ·cases h;exact kR hS
 ·refine F9 hS trivial h (fun x2 x3=>⟨[(17,pN x3),(16,pN (c.n:Int)),(15,.p (vSl 2 D2 c)),(3,.mref 15000)],[(15000,.map (Oa PV.str PV.bb x2))]⟩) (ids:=[(15000,15000)]) (fun _ _ _ _ _ f x2 x3 i h=>?_);refine kI hS h ?_ ?_<;>intro h
  ·obtain⟨c25,h⟩:=D3 h;refine Fy hS (And.intro c25 (by decide:(2:Nat)<=2)) (A7 hS) h 0 (fun z3=>⟨[(45,pB z3),(17,pN x3),(16,pN (c.n:Int)),(15,.p (vSl 2 D2 c)),(5,.reg 6000 0),(3,.mref 15000)],[(15000,.map (Oa PV.str PV.bb x2)),(6000,.cells [pN (c.g x3.toNat).Parent,.p (.str (c.g x3.toNat).Name)])]⟩) (fun M3 k3 d h=>?_) (fun z3 h=>?_)
   ·refine kG hS h (fun h=>?_) (fun h=>?_)
    ·exact d _ [(6000,6000),(15000,15000)] _ true trivial h
    ·refine kG hS h (fun h=>?_) (fun h=>?_)
     ·exact d _ [(6000,6000),(15000,15000)] _ true trivial h
     ·refine kC hS h (SX hS hL) (fun y6 h=>?_);refine kG hS h (fun h=>?_) (fun h=>?_)
      ·exact d _ [(6000,6000),(15000,15000)] _ true trivial h
      ·rcases o6:CJ eqS (c.g x3.toNat).Name x2 with _|v6
       ·replace h:=optN o6 h;refine Kr hS trivial (kt:=EI) (e:=Au8) (key:=PV.str (c.g x3.toNat).Name) (es:=Oa PV.str PV.bb x2) (x:=.v (.bool false)) (b:=false) (fd:=none) ((Fw (kP:=PV.str) (vP:=PV.bb) (eq:=eqS) (fun _ _=>by kernel_rfl) (c.g x3.toNat).Name x2).trans (by rw[o6];rfl)) trivial ?_;exact d _ [(6000,6000),(15000,15000)] _ false trivial h
       ·replace h:=optS o6 h;refine Kr hS trivial (kt:=EI) (e:=Au8) (key:=PV.str (c.g x3.toNat).Name) (es:=Oa PV.str PV.bb x2) (x:=PV.bb v6) (b:=true) (fd:=some (PV.bb v6)) ((Fw (kP:=PV.str) (vP:=PV.bb) (eq:=eqS) (fun _ _=>by kernel_rfl) (c.g x3.toNat).Name x2).trans (by rw[o6];rfl)) trivial ?_;exact d _ [(6000,6000),(15000,15000)] _ v6 trivial h
   ·refine kI hS h ?_ ?_<;>intro h
    ·cases h;exact kR hS
    ·refine PH hS trivial (kt:=EI) (key:=PV.str (c.g x3.toNat).Name) (y:=PV.bb true) (es:=Oa PV.str PV.bb x2) (Kq (kP:=PV.str) (vP:=PV.bb) (eq:=eqS) (fun _ _=>by kernel_rfl) (c.g x3.toNat).Name true x2) trivial ?_;exact i _ [(15000,15000)] _ (PA eqS (c.g x3.toNat).Name true x2) (wrap .i64 (x3+1)) trivial h
  ·cases h;exact kR hS
def X7 (N:Nat)(a:A8):Option Int:=
 if ((0:Int)<=(a.On.n:Int)/\(a.On.n:Int)<=(a.On.n:Int)/\(a.On.n:Int)*8<=140737488355328/\(a.On.n:Int)<=140737488355328)then
  Az5 N (fun c (x4:Sl Int) (x5:Bool) (x6:Int)=>
   if (decide (x6<(a.On.n:Int))) then
    if ((((0:Int)<=x6/\x6<(a.On.n:Int))/\((0:Int)<=x6/\x6<(x4.n:Int)))/\x6.toNat<x4.n)then
     if ((0:Int)<=x6/\x6<(a.Tree.n:Int))then
      lt (fun (z3:Sl Int)=>
       if (((0:Int)<=x6/\x6<(z3.n:Int))/\x6.toNat<z3.n)then
        if (decide (64<(z3.g x6.toNat))) then
         some 2
        else
         Q2 N (fun d (f:Bool) (b:Int)=>
          if (decide (b<((a.On.g x6.toNat).n:Int))) then
           if ((0:Int)<=b/\b<((a.On.g x6.toNat).n:Int))then
            d ((f||(decide (((a.On.g x6.toNat).g b.toNat)<0)))||(decide ((a.Laws.n:Int)<=((a.On.g x6.toNat).g b.toNat)))) (wrap .i64 (b+1))
           else none
          else
           c z3 f (wrap .i64 (x6+1))
          ) x5 0
       else none
       ) fun k3=>
       if (decide (0<=(a.Tree.g x6.toNat).Parent)) then
        if (((((((0:Int)<=x6/\x6<((x4.upd x6.toNat ((a.On.g x6.toNat).n:Int)).n:Int))/\x6.toNat<(x4.upd x6.toNat ((a.On.g x6.toNat).n:Int)).n)/\((0:Int)<=(a.Tree.g x6.toNat).Parent/\(a.Tree.g x6.toNat).Parent<((x4.upd x6.toNat ((a.On.g x6.toNat).n:Int)).n:Int)))/\(a.Tree.g x6.toNat).Parent.toNat<(x4.upd x6.toNat ((a.On.g x6.toNat).n:Int)).n)/\((0:Int)<=x6/\x6<((x4.upd x6.toNat ((a.On.g x6.toNat).n:Int)).n:Int)))/\x6.toNat<(x4.upd x6.toNat ((a.On.g x6.toNat).n:Int)).n)then
         k3 ((x4.upd x6.toNat ((a.On.g x6.toNat).n:Int)).upd x6.toNat (wrap .i64 (((x4.upd x6.toNat ((a.On.g x6.toNat).n:Int)).g x6.toNat)+((x4.upd x6.toNat ((a.On.g x6.toNat).n:Int)).g (a.Tree.g x6.toNat).Parent.toNat))))
        else none
       else
        k3 (x4.upd x6.toNat ((a.On.g x6.toNat).n:Int))
     else none
    else none
   else
    if x5 then
     some 3
    else
     some 0
   ) (Sl.rep (a.On.n:Int).toNat 0:Sl Int) false 0
 else none
theorem Mp {N:Nat}{d:A8}{y:Int}(h:X7 N d=some y) :FunO S FG [.p (.agg (A2 d))] [] (pN y) ([]) []:=by
 unfold X7 at h;refine A3 hS Tryz.func79 ?_;refine H3 hS trivial 2 2000 (A2 d) ?_;obtain⟨c1,h⟩:=D3 h;refine RQ hS c1 h (fun x4 x5 x6=>⟨[(17,pN x6),(16,pN (d.On.n:Int)),(15,.p (vSl 1 (cL 1 (cI .i64)) d.On)),(4,pB x5),(3,.vec 14000),(1,.p (.ptr (A2 d)))],[(14000,.vec B6 1 x4.n (fun i=>cI .i64 (x4.g i)) false)]⟩) (ids:=[(14000,14000)]) (fun _ _ _ _ _ q x4 x5 x6 r h=>?_);refine kI hS h ?_ ?_<;>intro h
 ·obtain⟨c35,h⟩:=D3 h;refine I1 hS (And.intro (And.intro c35.1.1 c35.1.2) (And.intro (rfl:(1:Nat)=1) (And.intro c35.2 (by decide:(1:Nat)<=1)))) 27 ⟨[(17,pN x6),(16,pN (d.On.n:Int)),(15,.p (vSl 1 (cL 1 (cI .i64)) d.On)),(6,.p (vSl 1 (cI .i64) (d.On.g x6.toNat))),(5,pN x6),(4,pB x5),(3,.vec 14000),(1,.p (.ptr (A2 d)))],[(14000,.vec B6 1 (x4.upd x6.toNat ((d.On.g x6.toNat).n:Int)).n (fun i=>cI .i64 ((x4.upd x6.toNat ((d.On.g x6.toNat).n:Int)).g i)) false)]⟩ (ids:=[(14000,14000)]) ?_ (hle:=klR [(7,.fn x4.n (x4.upd x6.toNat ((d.On.g x6.toNat).n:Int)).n (fun l=>if l=x6.toNat then splice ((fun i=>cI .i64 (x4.g i)) l) 0 [pI .i64 ((d.On.g x6.toNat).n:Int)]else (fun i=>cI .i64 (x4.g i)) l) (fun i=>cI .i64 ((x4.upd x6.toNat ((d.On.g x6.toNat).n:Int)).g i)))] (al1 ⟨rfl,XH (c:=cI .i64) (v:=x4) (x:=((d.On.g x6.toNat).n:Int)) same (fun _=>by first|rfl|(dsimp only;split<;>rfl))⟩ al0));obtain⟨c36,h⟩:=D3 h;refine Fy hS c36 (A7 hS) h 0 (fun z3=>⟨[(17,pN x6),(16,pN (d.On.n:Int)),(15,.p (vSl 1 (cL 1 (cI .i64)) d.On)),(6,.p (vSl 1 (cI .i64) (d.On.g x6.toNat))),(5,pN x6),(4,pB x5),(3,.vec 14000),(1,.p (.ptr (A2 d)))],[(14000,.vec B6 1 z3.n (fun i=>cI .i64 (z3.g i)) false)]⟩) (fun M3 k3 m h=>?_) (fun z3 h=>?_)
  ·refine kI hS h ?_ ?_<;>intro h
   ·refine PJ hS trivial ?_;obtain⟨c41,h⟩:=D3 h;refine I7 (And.intro (And.intro (And.intro (And.intro (And.intro c41.1.1.1.1.1 c41.1.1.1.1.2) c41.1.1.1.2) c41.1.1.2) c41.1.2) (And.intro (rfl:(1:Nat)=1) (And.intro c41.2 (by decide:(1:Nat)<=1)))) ?_;exact m _ [(14000,14000)] _ ((x4.upd x6.toNat ((d.On.g x6.toNat).n:Int)).upd x6.toNat (wrap .i64 (((x4.upd x6.toNat ((d.On.g x6.toNat).n:Int)).g x6.toNat)+((x4.upd x6.toNat ((d.On.g x6.toNat).n:Int)).g (d.Tree.g x6.toNat).Parent.toNat)))) trivial h (hle:=klR [(7,.fn (x4.upd x6.toNat ((d.On.g x6.toNat).n:Int)).n ((x4.upd x6.toNat ((d.On.g x6.toNat).n:Int)).upd x6.toNat (wrap .i64 (((x4.upd x6.toNat ((d.On.g x6.toNat).n:Int)).g x6.toNat)+((x4.upd x6.toNat ((d.On.g x6.toNat).n:Int)).g (d.Tree.g x6.toNat).Parent.toNat)))).n (fun l=>if l=x6.toNat then splice ((fun i=>cI .i64 ((x4.upd x6.toNat ((d.On.g x6.toNat).n:Int)).g i)) l) 0 [pI .i64 (wrap .i64 (((x4.upd x6.toNat ((d.On.g x6.toNat).n:Int)).g x6.toNat)+((x4.upd x6.toNat ((d.On.g x6.toNat).n:Int)).g (d.Tree.g x6.toNat).Parent.toNat)))]else (fun i=>cI .i64 ((x4.upd x6.toNat ((d.On.g x6.toNat).n:Int)).g i)) l) (fun i=>cI .i64 (((x4.upd x6.toNat ((d.On.g x6.toNat).n:Int)).upd x6.toNat (wrap .i64 (((x4.upd x6.toNat ((d.On.g x6.toNat).n:Int)).g x6.toNat)+((x4.upd x6.toNat ((d.On.g x6.toNat).n:Int)).g (d.Tree.g x6.toNat).Parent.toNat)))).g i)))] (al1 ⟨rfl,XH (c:=cI .i64) (v:=x4.upd x6.toNat ((d.On.g x6.toNat).n:Int)) (x:=wrap .i64 (((x4.upd x6.toNat ((d.On.g x6.toNat).n:Int)).g x6.toNat)+((x4.upd x6.toNat ((d.On.g x6.toNat).n:Int)).g (d.Tree.g x6.toNat).Parent.toNat))) same (fun _=>by first|rfl|(dsimp only;split<;>rfl))⟩ al0))
   ·exact m _ [(14000,14000)] _ (x4.upd x6.toNat ((d.On.g x6.toNat).n:Int)) trivial h
  ·obtain⟨c42,h⟩:=D3 h;refine D0 hS c42 (b:=decide (64<(z3.g x6.toNat))) (fun c43=>?_) (fun c43=>?_)
   ·replace h:=itT c43 h;cases h;exact kR hS
   ·replace h:=itF c43 h;refine F9 hS trivial h (fun j f=>⟨[(52,pN f),(51,pN ((d.On.g x6.toNat).n:Int)),(50,.p (vSl 1 (cI .i64) (d.On.g x6.toNat))),(17,pN x6),(16,pN (d.On.n:Int)),(15,.p (vSl 1 (cL 1 (cI .i64)) d.On)),(4,pB j),(3,.vec 14000),(1,.p (.ptr (A2 d)))],[(14000,.vec B6 1 z3.n (fun i=>cI .i64 (z3.g i)) false)]⟩) (ids:=[(14000,14000)]) (fun _ _ _ _ _ s j f t h=>?_);refine kI hS h ?_ ?_<;>intro h
    ·obtain⟨c49,h⟩:=D3 h;refine kB hS (A7 hS) c49 trivial 10 (.o (.o (.a j) (.a (decide (((d.On.g x6.toNat).g f.toNat)<0)))) (.a (decide ((d.Laws.n:Int)<=((d.On.g x6.toNat).g f.toNat))))) ?_;exact t _ [(14000,14000)] _ ((j||(decide (((d.On.g x6.toNat).g f.toNat)<0)))||(decide ((d.Laws.n:Int)<=((d.On.g x6.toNat).g f.toNat)))) (wrap .i64 (f+1)) trivial h
    ·exact r _ [(14000,14000)] _ z3 j (wrap .i64 (x6+1)) trivial h
 ·refine kI hS h ?_ ?_<;>intro h
  ·cases h;exact kR hS
  ·cases h;exact kR hS
def E3 (N:Nat)(a:A8):Option Int:=
 (X6 N a.Tree).bind fun y1=>
 if (y1 != 0) then
  some 16
 else
  if (decide (64<(a.Laws.n:Int))) then
   some 12
  else
   Q2 N (fun b (x1:List (Str×Int)) (x2:Int)=>
    if (decide (x2<(a.Laws.n:Int))) then
     if ((0:Int)<=x2/\x2<(a.Laws.n:Int))then
      (X3 N (a.Laws.g x2.toNat)).bind fun y4=>
      if (y4 != 0) then
       some 17
      else
       AG1 (CJ eqS (a.Laws.g x2.toNat).Name x1) (
        b (PA eqS (a.Laws.g x2.toNat).Name (wrap .i64 (0+1)) x1) (wrap .i64 (x2+1))
        ) fun v3=>
        b (PA eqS (a.Laws.g x2.toNat).Name (wrap .i64 (v3+1)) x1) (wrap .i64 (x2+1))
     else none
    else
     if (decide (((Oa PV.str (pI .i64) x1).length:Int)<(a.Laws.n:Int))) then
      some 6
     else
      if ((a.On.n:Int) != (a.Tree.n:Int)) then
       some 2
      else
       (X7 N a).bind fun y5=>
       some y5
    ) [] 0
theorem S3 {N:Nat}{a:A8}{y:Int}(h:E3 N a=some y) :FunO S FC [.p (.agg (A2 a))] [] (pN y) ([]) []:=by
 unfold E3 at h;refine A3 hS Tryz.func30 ?_;refine kC hS h (JR hS hL) (fun y1 h=>?_);refine kI hS h ?_ ?_<;>intro h
 ·cases h;exact kR hS
 ·refine kI hS h ?_ ?_<;>intro h
  ·cases h;exact kR hS
  ·refine F9 hS trivial h (fun x1 x2=>⟨[(18,pN x2),(17,pN (a.Laws.n:Int)),(16,.p (vSl 18 B2 a.Laws)),(3,.mref 15000),(1,.reg 2000 0)],[(15000,.map (Oa PV.str (pI .i64) x1)),(2000,.cells ((A2 a).map .p))]⟩) (ids:=[(2000,2000),(15000,15000)]) (fun _ _ _ _ _ d x1 x2 c h=>?_);refine kI hS h ?_ ?_<;>intro h
   ·obtain⟨c10,h⟩:=D3 h;obtain⟨y4,e4,h⟩:=B7 h;refine B9 hS [] (And.intro c10 (by decide:(18:Nat)<=18)) (Hl hS hL e4) ?_;refine kI hS h ?_ ?_<;>intro h
    ·cases h;exact kR hS
    ·rcases o3:CJ eqS (a.Laws.g x2.toNat).Name x1 with _|v3
     ·replace h:=optN o3 h;refine Kr hS trivial (kt:=EI) (e:=B6) (key:=PV.str (a.Laws.g x2.toNat).Name) (es:=Oa PV.str (pI .i64) x1) (x:=pI .i64 0) (b:=false) (fd:=none) ((Fw (kP:=PV.str) (vP:=pI .i64) (eq:=eqS) (fun _ _=>by kernel_rfl) (a.Laws.g x2.toNat).Name x1).trans (by rw[o3];rfl)) trivial ?_;refine PH hS trivial (kt:=EI) (key:=PV.str (a.Laws.g x2.toNat).Name) (y:=pI .i64 (wrap .i64 (0+1))) (es:=Oa PV.str (pI .i64) x1) (Kq (kP:=PV.str) (vP:=pI .i64) (eq:=eqS) (fun _ _=>by kernel_rfl) (a.Laws.g x2.toNat).Name (wrap .i64 (0+1)) x1) trivial ?_;exact c _ [(2000,2000),(15000,15000)] _ (PA eqS (a.Laws.g x2.toNat).Name (wrap .i64 (0+1)) x1) (wrap .i64 (x2+1)) trivial h
     ·replace h:=optS o3 h;refine Kr hS trivial (kt:=EI) (e:=B6) (key:=PV.str (a.Laws.g x2.toNat).Name) (es:=Oa PV.str (pI .i64) x1) (x:=pI .i64 v3) (b:=true) (fd:=some (pI .i64 v3)) ((Fw (kP:=PV.str) (vP:=pI .i64) (eq:=eqS) (fun _ _=>by kernel_rfl) (a.Laws.g x2.toNat).Name x1).trans (by rw[o3];rfl)) trivial ?_;refine PH hS trivial (kt:=EI) (key:=PV.str (a.Laws.g x2.toNat).Name) (y:=pI .i64 (wrap .i64 (v3+1))) (es:=Oa PV.str (pI .i64) x1) (Kq (kP:=PV.str) (vP:=pI .i64) (eq:=eqS) (fun _ _=>by kernel_rfl) (a.Laws.g x2.toNat).Name (wrap .i64 (v3+1)) x1) trivial ?_;exact c _ [(2000,2000),(15000,15000)] _ (PA eqS (a.Laws.g x2.toNat).Name (wrap .i64 (v3+1)) x1) (wrap .i64 (x2+1)) trivial h
   ·refine kI hS h ?_ ?_<;>intro h
    ·cases h;exact kR hS
    ·refine kI hS h ?_ ?_<;>intro h
     ·cases h;exact kR hS
     ·refine kC hS h (Mp hS hL) (fun y5 h=>?_);cases h;exact kR hS
def J8 (N:Nat)(b:A8)(a:Int):Option Bool:=
 some ((decide (0<=a))&&(decide (a<(b.Tree.n:Int))))
theorem DA {N:Nat}{c:A8}{b:Int}{y:Bool}(h:J8 N c b=some y) :FunO S GJ [.p (.agg (A2 c)),pN b] [] (pB y) ([]) []:=by unfold J8 at h;refine A3 hS Tryz.func59 ?_;refine kB hS (A7 hS) trivial trivial 6 (.n (.a (decide (0<=b))) (.a (decide (b<(c.Tree.n:Int))))) ?_;cases h;exact kR hS
def H7 (N:Nat)(q0:Int)(q1:Sl G7):Option (List (Int)):=
 Q2 N (fun a (x1:Int) (x2:Sl Int)=>
  if (decide (0<=x1)) then
   if (((x2.n+(Sl.of [x1]:Sl Int).n)*8<=140737488355328/\x2.n+(Sl.of [x1]:Sl Int).n<=140737488355328)/\((0:Int)<=x1/\x1<(q1.n:Int)))then
    a (q1.g x1.toNat).Parent (x2.push x1)
   else none
  else
   R6 N (fun b (x3:Int)=>
    if (decide (0<=x3)) then
     if (((0:Int)<=x3/\x3<(x2.n:Int))/\x3.toNat<x2.n)then
      AB (x2.g x3.toNat) (
       b (wrap .i64 (x3-1))
       )
     else none
    else
     some []
    ) (wrap .i64 ((x2.n:Int)-1))
  ) q0 (Sl.nil:Sl Int)
theorem FX {N:Nat}{q0:Int}{q1:Sl G7}{L:List (Int)}(h:H7 N q0 q1=some L) :Hd S AZ [] [.reg 0 0,.reg 1 0] [.cells [pN q0],.cells [.p (vSl 2 D2 q1)]] (L.map (fun (x:Int)=>[pI .i64 x])):=by
 unfold H7 at h;refine HP hS Tryz.func90 ?_;refine PL hS trivial h (fun x1 x2 L1=>⟨[(4,.vec 5500),(2,.reg 1 0),(1,.reg 0 0),(0,.yf 2)],[(5500,.vec B6 1 x2.n (fun i=>cI .i64 (x2.g i)) false),(2,.yld (L1.map (fun (x:Int)=>[pI .i64 x])) true),(1,.cells [.p (vSl 2 D2 q1)]),(0,.cells [pN x1])]⟩) (ids:=[(0,0),(1,1),(2,2)]) (fun _ _ _ _ _ f x1 x2 L1 j h=>?_);refine kI hS h ?_ ?_<;>intro h
 ·obtain⟨c4,h⟩:=D3 h;exact j _ [(0,0),(1,1),(2,2),(5500,17000)] _ (q1.g x1.toNat).Parent (x2.push x1) L1 (And.intro (And.intro (rfl:true=true) c4.1) c4.2) h (hle:=klR [(0,.fn (x2.n+1) (x2.push x1).n (Q0 x2.n (fun i=>cI .i64 (x2.g i)) (D5 [pI .i64 0] [(0,cI .i64 x1)])) (fun i=>cI .i64 ((x2.push x1).g i)))] (al1 ⟨rfl,Et (c:=cI .i64) (v:=x2) (x:=x1) (z:=[(pI .i64 0)]) same rfl rfl⟩ al0))
 ·refine IW hS trivial h (fun x3 L2=>⟨[(5,pN x3),(4,.vec 5500),(0,.yf 2)],[(5500,.vec B6 1 x2.n (fun i=>cI .i64 (x2.g i)) false),(2,.yld (L2.map (fun (x:Int)=>[pI .i64 x])) true),(1,.cells [.p (vSl 2 D2 q1)]),(0,.cells [pN x1])]⟩) (ids:=[(0,0),(1,1),(2,2),(5500,5500)]) (fun _ _ _ _ _ l x3 L2 m h=>?_);refine kI hS h ?_ ?_<;>intro h
  ·obtain⟨c14,h⟩:=D3 h;obtain⟨L5,rfl,d⟩:=PK h;replace h:=d;refine Ez hS c14 (ys:=(fun (x:Int)=>[pI .i64 x]) (x2.g x3.toNat)) (rest:=L5.map (fun (x:Int)=>[pI .i64 x])) ?_ ?_
   ·refine D0 hS trivial (b:=false) (fun c15=>?_) (fun c15=>?_)
    ·exact Bool.noConfusion ((rfl:false=false).symm.trans c15)
    ·exact m _ [(0,0),(1,1),(2,2),(5500,5500)] _ (wrap .i64 (x3-1)) L5 trivial h
   ·refine D0 hS trivial (b:=true) (fun c16=>?_) (fun c16=>?_)
    ·exact A9 hS trivial (a:=.tup []) (objs:=[(.cells [pN x1]),.cells [.p (vSl 2 D2 q1)],.yld [] false]) ⟨[],[(2,.yld [] false),(1,.cells [.p (vSl 2 D2 q1)]),(0,.cells [pN x1])]⟩ [0,1,2] (ids:=[(0,0),(1,1),(2,2)]) ⟨false,rfl,rfl,_,rfl⟩
    ·exact Bool.noConfusion ((rfl:true=true).symm.trans c16)
  ·obtain rfl:=B8 h;exact A9 hS trivial (a:=.tup []) (objs:=[(.cells [pN x1]),.cells [.p (vSl 2 D2 q1)],.yld [] true]) ⟨[],[(2,.yld [] true),(1,.cells [.p (vSl 2 D2 q1)]),(0,.cells [pN x1])]⟩ [0,1,2] (ids:=[(0,0),(1,1),(2,2)]) ⟨true,rfl,rfl,_,rfl⟩
def P9 (N:Nat)(a:Sl G7)(b:Int):Option (Int×(Sl G7)):=
 some (b,a)
theorem Iu {N:Nat}{a:Sl G7}{b:Int}{y:Int×(Sl G7)}(h:P9 N a b=some y) :FunO S HU [.p (vSl 2 D2 a),pN b] [] (.clo AZ [] [.reg 0 0,.reg 1 0]) ([.cells [pN y.1],.cells [.p (vSl 2 D2 y.2)]]) []:=by unfold P9 at h;refine A3 hS Tryz.func60 ?_;obtain rfl:=B8 h;exact A9 hS trivial ⟨[(4,.clo AZ [] [.reg 4000 0,.reg 3000 0])],[(4000,.cells [pN b]),(3000,.cells [.p (vSl 2 D2 a)])]⟩ [4000,3000] (ids:=[(3000,3000),(4000,4000)]) ⟨rfl,rfl,rfl⟩
def Q6 (N:Nat)(a:A8)(c:Int):Option ((Sl Int)×Int):=
 (E3 N a).bind fun y1=>
 if (y1 != 0) then
  some ((Sl.nil:Sl Int),y1)
 else
  (J8 N a c).bind fun y2=>
  if (!y2) then
   some ((Sl.nil:Sl Int),3)
  else
   (P9 N a.Tree c).bind fun y3=>
   (H7 N y3.1 y3.2).bind fun L1=>
   O6 L1 (fun b (x1:Int) (z1:Sl Int)=>
    if (((0:Int)<=x1/\x1<(a.On.n:Int))/\((z1.n+(a.On.g x1.toNat).n)*8<=140737488355328/\z1.n+(a.On.g x1.toNat).n<=140737488355328))then
     b (z1.app (a.On.g x1.toNat))
    else none
    ) (fun (z1:Sl Int)=>
     some (z1,0)
    ) (Sl.nil:Sl Int)
theorem Nu {N:Nat}{a:A8}{b:Int}{y:(Sl Int)×Int}(h:Q6 N a b=some y) :FunO S GI [.p (.agg (A2 a)),pN b] [] (.tup [.vec 0,pN y.2]) ([.vec B6 1 y.1.n (fun i=>cI .i64 (y.1.g i)) true]) []:=by
 unfold Q6 at h;refine A3 hS Tryz.func33 ?_;refine H3 hS trivial 4 3000 (A2 a) ?_;obtain⟨y1,e1,h⟩:=B7 h;refine B9 hS [] (by decide:(3:Nat)<=3) (S3 hS hL e1) ?_;refine kI hS h ?_ ?_<;>intro h
 ·obtain rfl:=B8 h;exact A9 hS trivial ⟨[(5,pN y1),(4,.vec 5700)],[(5700,.vec B6 1 (Sl.nil:Sl Int).n (fun i=>cI .i64 ((Sl.nil:Sl Int).g i)) true)]⟩ [5700] (ids:=[]) ⟨rfl,rfl,rfl⟩
 ·obtain⟨y2,e2,h⟩:=B7 h;refine B9 hS [] (by decide:(3:Nat)<=3) (DA hS hL e2) ?_;refine kI hS h ?_ ?_<;>intro h
  ·obtain rfl:=B8 h;exact A9 hS trivial ⟨[(5,pN 3),(4,.vec 5700)],[(5700,.vec B6 1 (Sl.nil:Sl Int).n (fun i=>cI .i64 ((Sl.nil:Sl Int).g i)) true)]⟩ [5700] (ids:=[]) ⟨rfl,rfl,rfl⟩
  ·refine kC hS h (Iu hS hL) (fun y3 h=>?_);obtain⟨L1,e4,h⟩:=B7 h;refine Hi hS trivial [22000,22001] [7,2] 901 (fun z1=>⟨[(7,.reg 8000 0),(2,.p (.ptr (A2 a)))],[(8500,.vec B6 1 z1.n (fun i=>cI .i64 (z1.g i)) false),(8000,.cells [.vec 8500])]⟩) (idl:=[(8000,8000)]) h (FX hS hL e4) (fun _=>by kernel_rfl) (fun _=>by kernel_rfl) (fun _=>by kernel_rfl) (fun _=>by kernel_rfl) (fun x1 _ d z1 f h=>?_) (fun z1 h=>?_)
   ·refine Lg hS trivial ?_;refine D4 hS trivial [2,4,5] ?_;obtain⟨c5,h⟩:=D3 h;refine I7 c5 ?_;exact f _ [(901,901),(8000,8000),(8500,30000)] _ (z1.app (a.On.g x1.toNat)) trivial h (hle:=klR [(0,.fn (z1.n+(a.On.g x1.toNat).n) (z1.app (a.On.g x1.toNat)).n (Q0 z1.n (fun i=>cI .i64 (z1.g i)) (fun i=>cI .i64 ((a.On.g x1.toNat).g i))) (fun i=>cI .i64 ((z1.app (a.On.g x1.toNat)).g i)))] (al1 ⟨rfl,YX (c:=cI .i64) (v:=z1) (w:=a.On.g x1.toNat) same rfl same rfl⟩ al0))
   ·obtain rfl:=B8 h;exact A9 hS trivial ⟨[(5,pN 0),(4,.vec 8500)],[(8500,.vec B6 1 z1.n (fun i=>cI .i64 (z1.g i)) true)]⟩ [8500] (ids:=[(8500,8500)]) ⟨rfl,rfl,rfl⟩
def O4 (rec:Pat->Option Pat)(N:Nat)(a:Pat):Option Pat:=
 Q2 N (fun b (x1:Sl Pat) (x2:Int)=>
  if (decide (x2<(a.L.n:Int))) then
   if ((0:Int)<=x2/\x2<(a.L.n:Int))then
    (rec (a.L.g x2.toNat)).bind fun y3=>
    if ((x1.n+(Sl.of [y3]:Sl Pat).n)*64<=140737488355328/\x1.n+(Sl.of [y3]:Sl Pat).n<=140737488355328)then
     b (x1.push y3) (wrap .i64 (x2+1))
    else none
   else none
  else
   some (Pat.mk a.Kind a.Is a.Not a.Min a.Max x1.n x1.g)
  ) (Sl.nil:Sl Pat) 0
def N9:Nat->Pat->Option Pat
 |0=>fun _=>none
 |N+1=>O4 (N9 N) N
theorem Iv {N:Nat}{rec:Pat->Option Pat}(b:∀{a:Pat}{y:Pat},rec a=some y->FunO S Y3 [.p (.agg (B3 a))] [] (.p (.agg (B3 y))) ([]) []){a:Pat}{y:Pat}(h:O4 rec N a=some y) :FunO S Y3 [.p (.agg (B3 a))] [] (.p (.agg (B3 y))) ([]) []:=by
 unfold O4 at h;refine A3 hS Tryz.func96 ?_;refine I1 hS trivial 8 ⟨[(7,.p (vSl 7 B3 a.L)),(3,.p F8),(2,.reg 3000 0),(1,.reg 2000 0)],[(3000,.cells [pN 0,pU 0,pU 0,.p (.v (.bool false)),pN 0,pN 0,.p F8]),(2000,.cells ((B3 a).map .p))]⟩ (ids:=[(2000,2000),(3000,3000)]) ?_ (hle:=klR [(0,.fn a.L.n a.L.n (AQ a) (fun i=>B3 (a.L.g i)))] (al1 ⟨rfl,K7 a⟩ al0));refine F9 hS trivial h (fun x1 x2=>⟨[(9,pN x2),(8,pN (a.L.n:Int)),(7,.p (vSl 7 B3 a.L)),(3,.vec 4500),(2,.reg 3000 0),(1,.reg 2000 0)],[(4500,.vec Ea 7 x1.n (fun i=>B3 (x1.g i)) false),(3000,.cells [pN 0,pU 0,pU 0,.p (.v (.bool false)),pN 0,pN 0,.p F8]),(2000,.cells ((B3 a).map .p))]⟩) (ids:=[(2000,2000),(3000,3000)]) (fun _ _ _ _ _ d x1 x2 f h=>?_);refine kI hS h ?_ ?_<;>intro h
 ·obtain⟨c6,h⟩:=D3 h;obtain⟨y3,e3,h⟩:=B7 h;refine B9 hS [] (And.intro c6 (by decide:(7:Nat)<=7)) (b e3) ?_;obtain⟨c7,h⟩:=D3 h;exact f _ [(2000,2000),(3000,3000),(4500,18000)] _ (x1.push y3) (wrap .i64 (x2+1)) (And.intro (rfl:true=true) c7) h (hle:=klR [(3,.fn (x1.n+1) (x1.push y3).n (Q0 x1.n (fun i=>B3 (x1.g i)) (D5 [pI .i64 0,pI .u32 0,pI .u32 0,.v (.bool false),pI .i64 0,pI .i64 0,F8] [(0,B3 y3)])) (fun i=>B3 ((x1.push y3).g i)))] (al1 ⟨rfl,Et (c:=B3) (v:=x1) (x:=y3) (z:=[(pI .i64 0),pI .u32 0,pI .u32 0,.v (.bool false),pI .i64 0,pI .i64 0,F8]) same rfl rfl⟩ al0))
 ·obtain rfl:=B8 h;exact A9 hS trivial ⟨[(2,.reg 3000 0)],[(3000,.cells [pN a.Kind,pU a.Is.Plus,pU a.Is.Minus,pB a.Not,pN a.Min,pN a.Max,.p (.sl false 7 x1.n (AQ (Pat.mk a.Kind a.Is a.Not a.Min a.Max x1.n x1.g)))])]⟩ [] (ids:=[(3000,3000)]) ⟨rfl,rfl,rfl⟩
theorem Eg {N:Nat}{a:Pat}{y:Pat}(h:N9 N a=some y) :FunO S Y3 [.p (.agg (B3 a))] [] (.p (.agg (B3 y))) ([]) []:=by
 induction N generalizing a y with
 |zero=>cases (show (none:Option Pat)=some y from h)
 |succ N ih=>exact Iv hS hL (fun e=>ih e) h
def P2 (N:Nat)(a:Law):Option Law:=
 (N9 N a.Left).bind fun y1=>
 (N9 N a.Right).bind fun y2=>
 (A6 N a.If).bind fun y3=>
 (F6 N a.Out).bind fun y4=>
 some (⟨a.Name,y1,y2,y3,y4,a.Mode⟩:Law)
theorem Fl {N:Nat}{a:Law}{y:Law}(h:P2 N a=some y) :FunO S Ff [.p (.agg (B2 a))] [] (.p (.agg (B2 y))) ([]) []:=by unfold P2 at h;refine A3 hS Tryz.func73 ?_;refine D4 hS trivial [2,5] ?_;obtain⟨y1,e1,h⟩:=B7 h;refine R5 trivial (Eg hS hL e1) ?_;obtain⟨y2,e2,h⟩:=B7 h;refine R5 trivial (Eg hS hL e2) ?_;refine I7 trivial ?_;refine D4 hS trivial [2,5] ?_;obtain⟨y3,e3,h⟩:=B7 h;refine R5 trivial (Y6 hS hL e3) ?_;obtain⟨y4,e4,h⟩:=B7 h;refine R5 trivial (AR hS hL e4) ?_;refine I7 trivial ?_;cases h;exact kR hS
def H8 (N:Nat)(c:A8)(a:Sl Int):Option (Sl Law):=
 Q2 N (fun b (x1:Sl Law) (x2:Int)=>
  if (decide (x2<(a.n:Int))) then
   if (((0:Int)<=x2/\x2<(a.n:Int))/\((0:Int)<=(a.g x2.toNat)/\(a.g x2.toNat)<(c.Laws.n:Int)))then
    (P2 N (c.Laws.g (a.g x2.toNat).toNat)).bind fun y3=>
    if ((x1.n+(Sl.of [y3]:Sl Law).n)*200<=140737488355328/\x1.n+(Sl.of [y3]:Sl Law).n<=140737488355328)then
     b (x1.push y3) (wrap .i64 (x2+1))
    else none
   else none
  else
   some x1
  ) (Sl.nil:Sl Law) 0
theorem GU {N:Nat}{b:A8}{a:Sl Int}{y:Sl Law}(h:H8 N b a=some y) :FunO S GK [.p (.agg (A2 b)),.p (vSl 1 (cI .i64) a)] [] (.p (vSl 18 B2 y)) ([]) []:=by
 unfold H8 at h;refine A3 hS Tryz.func61 ?_;refine F9 hS trivial h (fun x1 x2=>⟨[(10,pN x2),(9,pN (a.n:Int)),(8,.p (vSl 1 (cI .i64) a)),(5,.vec 6500),(2,.reg 3000 0)],[(6500,.vec W3 18 x1.n (fun i=>B2 (x1.g i)) false),(3000,.cells ((A2 b).map .p))]⟩) (ids:=[(3000,3000)]) (fun _ _ _ _ _ d x1 x2 f h=>?_);refine kI hS h ?_ ?_<;>intro h
 ·obtain⟨c6,h⟩:=D3 h;obtain⟨y3,e3,h⟩:=B7 h;refine B9 hS [] (And.intro (And.intro c6.1 c6.2) (by decide:(18:Nat)<=18)) (Fl hS hL e3) ?_;obtain⟨c7,h⟩:=D3 h;exact f _ [(3000,3000),(6500,23000)] _ (x1.push y3) (wrap .i64 (x2+1)) (And.intro (rfl:true=true) c7) h (hle:=klR [(3,.fn (x1.n+1) (x1.push y3).n (Q0 x1.n (fun i=>B2 (x1.g i)) (D5 [.str [],pI .i64 0,pI .u32 0,pI .u32 0,.v (.bool false),pI .i64 0,pI .i64 0,F8,pI .i64 0,pI .u32 0,pI .u32 0,.v (.bool false),pI .i64 0,pI .i64 0,F8,F8,F8,pI .i64 0] [(0,B2 y3)])) (fun i=>B2 ((x1.push y3).g i)))] (al1 ⟨rfl,Et (c:=B2) (v:=x1) (x:=y3) (z:=[(.str []),pI .i64 0,pI .u32 0,pI .u32 0,.v (.bool false),pI .i64 0,pI .i64 0,F8,pI .i64 0,pI .u32 0,pI .u32 0,.v (.bool false),pI .i64 0,pI .i64 0,F8,F8,F8,pI .i64 0]) same rfl rfl⟩ al0))
 ·obtain rfl:=B8 h;exact A9 hS trivial ⟨[(4,.p (vSl 18 B2 x1))],[]⟩ [] (ids:=[]) ⟨rfl,rfl,rfl⟩
def DB (N:Nat)(a:A8)(b:Int):Option ((Sl Law)×Int):=
 (Q6 N a b).bind fun y1=>
 (H8 N a y1.1).bind fun y2=>
 some (y2,y1.2)
def S4 (N:Nat)(a:A8)(b:Sl Sound):Option Int:=
 (E3 N a).bind fun y1=>
 if (y1 != 0) then
  some y1
 else
  (K3 N b).bind fun y2=>
  some y2
theorem FY {N:Nat}{a:A8}{b:Sl Sound}{y:Int}(h:S4 N a b=some y) :FunO S FF [.p (.agg (A2 a)),.p (vSl 2 A0 b)] [] (pN y) ([]) []:=by
 unfold S4 at h;refine A3 hS Tryz.func58 ?_;refine kC hS h (S3 hS hL) (fun y1 h=>?_);refine kI hS h ?_ ?_<;>intro h
 ·cases h;exact kR hS
 ·refine kC hS h (Dk hS hL) (fun y2 h=>?_);cases h;exact kR hS
def T0 (N:Nat)(a:A8)(c:Sl Sound)(d:Int):Option ((Sl Sound)×Int):=
 (S4 N a c).bind fun y1=>
 if (y1 != 0) then
  some ((Sl.nil:Sl Sound),y1)
 else
  (J8 N a d).bind fun y2=>
  if (!y2) then
   some ((Sl.nil:Sl Sound),3)
  else
   (P9 N a.Tree d).bind fun y3=>
   (H7 N y3.1 y3.2).bind fun L1=>
   O6 L1 (fun b (x1:Int) (z1:Sl Sound)=>
    if ((0:Int)<=x1/\x1<(a.On.n:Int))then
     (H8 N a (a.On.g x1.toNat)).bind fun y8=>
     (G1 N y8 z1).bind fun y9=>
     if (y9.2 != 0) then
      some ((Sl.nil:Sl Sound),y9.2)
     else
      b y9.1
    else none
    ) (fun (z1:Sl Sound)=>
     some (z1,0)
    ) c
theorem JS {N:Nat}{a:A8}{b:Sl Sound}{c:Int}{y:(Sl Sound)×Int}(h:T0 N a b c=some y) :FunO S JA [.p (.agg (A2 a)),.p (vSl 2 A0 b),pN c] [] (.tup [.p (vSl 2 A0 y.1),pN y.2]) ([]) []:=by
 unfold T0 at h;refine A3 hS Tryz.func14 ?_;refine H3 hS trivial 4 4000 (A2 a) ?_;obtain⟨y1,e1,h⟩:=B7 h;refine B9 hS [] (by decide:(3:Nat)<=3) (FY hS hL e1) ?_;refine kI hS h ?_ ?_<;>intro h
 ·obtain rfl:=B8 h;exact A9 hS trivial ⟨[(7,.reg 8000 0),(6,.reg 7000 0)],[(8000,.cells [pN y1]),(7000,.cells [.p (vSl 2 A0 (Sl.nil:Sl Sound))])]⟩ [] (ids:=[(7000,7000),(8000,8000)]) ⟨rfl,rfl,rfl⟩
 ·obtain⟨y2,e2,h⟩:=B7 h;refine B9 hS [] (by decide:(3:Nat)<=3) (DA hS hL e2) ?_;refine kI hS h ?_ ?_<;>intro h
  ·obtain rfl:=B8 h;exact A9 hS trivial ⟨[(7,.reg 8000 0),(6,.reg 7000 0)],[(8000,.cells [pN 3]),(7000,.cells [.p (vSl 2 A0 (Sl.nil:Sl Sound))])]⟩ [] (ids:=[(7000,7000),(8000,8000)]) ⟨rfl,rfl,rfl⟩
  ·refine kC hS h (Iu hS hL) (fun y3 h=>?_);obtain⟨L1,e4,h⟩:=B7 h;refine Hi hS trivial [25000,25001] [7,6,4,3] 901 (fun z1=>⟨[(7,.reg 8000 0),(6,.reg 7000 0),(4,.reg 5000 0),(3,.p (.ptr (A2 a)))],[(8000,.cells [pN 0]),(7000,.cells [.p F8]),(5000,.cells [.p (vSl 2 A0 z1)])]⟩) (idl:=[(5000,5000),(7000,7000),(8000,8000)]) h (FX hS hL e4) (fun _=>by kernel_rfl) (fun _=>by kernel_rfl) (fun _=>by kernel_rfl) (fun _=>by kernel_rfl) (fun x1 _ d z1 f h=>?_) (fun z1 h=>?_)
   ·refine Lg hS trivial ?_;refine D4 hS trivial [0,2,4,5,6,8] ?_;obtain⟨c7,h⟩:=D3 h;obtain⟨y8,e9,h⟩:=B7 h;refine R5 (And.intro (by decide:(3:Nat)<=3) c7) (GU hS hL e9) ?_;obtain⟨y9,e10,h⟩:=B7 h;refine R5 trivial (FU hS hL e10) ?_;refine I7 trivial ?_;refine kI hS h ?_ ?_<;>intro h
    ·refine Ks hS trivial ⟨[(7,.reg 8000 0),(6,.reg 7000 0),(4,.reg 5000 0),(3,.p (.ptr (A2 a)))],[(8000,.cells [pN y9.2]),(7000,.cells [.p F8]),(5000,.cells [.p (vSl 2 A0 y9.1)])]⟩ (ids:=[(901,901),(5000,5000),(7000,7000),(8000,8000)]) ?_;obtain rfl:=B8 h;exact A9 hS trivial ⟨[(7,.reg 8000 0),(6,.reg 7000 0)],[(8000,.cells [pN y9.2]),(7000,.cells [.p (vSl 2 A0 (Sl.nil:Sl Sound))])]⟩ [] (ids:=[(7000,7000),(8000,8000)]) ⟨rfl,rfl,rfl⟩
    ·exact f _ [(901,901),(5000,5000),(7000,7000),(8000,8000)] _ y9.1 trivial h
   ·cases h;exact kR hS
end Go.AM
namespace Go.AM
open IntKind (wrap)
open Go.Proofs
set_option maxRecDepth 10000
set_option maxHeartbeats 2000000
variable {S:Ay}(hS:H2 S Tryz.prog) (hL:OF S)
abbrev FZ {T:Type}(e:TypeId)(k:Nat)(c:T->List PV)(x:Sl T):Obj:=.vec e k x.n (fun q=>c (x.g q)) false
theorem obPut {T:Type}{e:TypeId}{k n i:Nat}{c:T->List PV}{X:Sl (Sl T)}{z:Sl T}:∀q,q<n->(fun q=>if q=i then FZ e k c z else if q=i then Obj.dead else FZ e k c (X.g q)) q=(fun q=>FZ e k c ((X.upd i z).g q)) q:=fun q _=>by by_cases h:q=i<;>simp[h]
include hS hL
def X8 (N:Nat)(a:Sl G7):Option (Sl (Sl Int)):=
 if ((0:Int)<=(a.n:Int)/\(a.n:Int)<=(a.n:Int)/\(a.n:Int)*24<=140737488355328/\(a.n:Int)<=140737488355328)then
  Q2 N (fun b (x:Int) (X:Sl (Sl Int))=>
   if (decide (x<(a.n:Int))) then
    if ((0:Int)<=x/\x<(a.n:Int))then
     if (a.g x.toNat).Parent.toNat<X.n then
      lt (fun (z:Sl Int)=>b (wrap .i64 (x+1)) (X.upd (a.g x.toNat).Parent.toNat z)) fun k=>
       if (decide (0<x)) then
        if (((0:Int)<=(a.g x.toNat).Parent/\(a.g x.toNat).Parent<(X.n:Int))/\(((X.g (a.g x.toNat).Parent.toNat).n+1)*8<=140737488355328/\(X.g (a.g x.toNat).Parent.toNat).n+1<=140737488355328))then
         k ((X.g (a.g x.toNat).Parent.toNat).push x)
        else none
       else k (X.g (a.g x.toNat).Parent.toNat)
     else none
    else none
   else some X) 0 ⟨a.n,fun _=>Sl.nil⟩
 else none
theorem Mq {N:Nat}{b:Sl G7}{y:Sl (Sl Int)}(h:X8 N b=some y) :FunO S FH [.p (vSl 2 D2 b)] [] (.p (vSl 1 (cL 1 (cI .i64)) y)) [] []:=by
 unfold X8 at h;refine A3 hS Tryz.func107 ?_;obtain⟨c1,h⟩:=D3 h;refine HQ hS c1 9 (.fam 9000 9901 fun i=>FZ B6 1 (cI .i64) ((⟨b.n,fun _=>Sl.nil⟩:Sl (Sl Int)).g i)) (⟨by decide,fun i _=>rfl⟩:1000<=9901/\∀i,i<b.n->VM [F8] (FZ B6 1 (cI .i64) ((⟨b.n,fun _=>Sl.nil⟩:Sl (Sl Int)).g i))) ?_;refine F9 hS trivial h (fun x X=>⟨[(11,pN x),(10,pN (b.n:Int)),(9,.p (vSl 2 D2 b)),(3,.vec 9000)],[(9901,.rows X.n fun i=>FZ B6 1 (cI .i64) (X.g i)),(9000,.fam Gp X.n 9901 none)]⟩) (ids:=[(9901,9901),(9000,9000)]) (fun _ _ _ _ _ j x X f h=>?_);refine kI hS h ?_ ?_<;>intro h
 ·obtain⟨c2,h⟩:=D3 h;obtain⟨c3,h⟩:=D3 h;refine HQ hS (And.intro c2 (by decide:(2:Nat)<=2)) 17 (.take 9000 (b.g x.toNat).Parent.toNat 9801) (⟨⟨by decide,rfl⟩,c3⟩:(1000<=9801/\X.n=X.n)/\(b.g x.toNat).Parent.toNat<X.n) ?_;refine Fy hS trivial (A7 hS) h 0 (fun z=>⟨[(11,pN x),(10,pN (b.n:Int)),(9,.p (vSl 2 D2 b)),(3,.vec 9000)],
   [(9901,(.rows X.n fun l=>if l=(b.g x.toNat).Parent.toNat then .dead else FZ B6 1 (cI .i64) (X.g l))),(9801,FZ B6 1 (cI .i64) z),(9000,.fam Gp X.n 9901 (some ((b.g x.toNat).Parent.toNat,.vec 9801)))]⟩) (fun M k d h=>?_) (fun z h=>?_)
  ·refine kI hS h ?_ ?_<;>intro h
   ·obtain⟨c4,h⟩:=D3 h;refine P3 hS trivial [(0,.n),(1,.n),(2,.l [6000]),(3,.n),(4,.n),(5,.l [6000]),(6,.l [9000]),(7,.l [9000]),(8,.n),(10,.a [29000,9801]),(11,.l [9000]),(12,.a [9000])] ?_;refine Ey (And.intro c4.1 (And.intro c3 (rfl:(b.g x.toNat).Parent.toNat=(b.g x.toNat).Parent.toNat))) (x:=.sl true 1 1 (D5 [pI .i64 0] [(0,cI .i64 x)])) ?_;refine I7 (And.intro (And.intro c4.2 c4.1) (And.intro c3 (rfl:(b.g x.toNat).Parent.toNat=(b.g x.toNat).Parent.toNat))) ?_;exact d _ [(9901,9901),(9801,29000),(9000,9000)] _ ((X.g (b.g x.toNat).Parent.toNat).push x) trivial h (hle:=klR [(5,.fn ((X.g (b.g x.toNat).Parent.toNat).n+1) ((X.g (b.g x.toNat).Parent.toNat).push x).n (Q0 (X.g (b.g x.toNat).Parent.toNat).n (fun i=>cI .i64 ((X.g (b.g x.toNat).Parent.toNat).g i)) (D5 [pI .i64 0] [(0,cI .i64 x)])) (fun i=>cI .i64 (((X.g (b.g x.toNat).Parent.toNat).push x).g i)))] (al1 ⟨rfl,Et (c:=cI .i64) (v:=X.g (b.g x.toNat).Parent.toNat) (x:=x) (z:=[(pI .i64 0)]) same rfl rfl⟩ al0))
   ·exact d _ [(9901,9901),(9801,9801),(9000,9000)] _ (X.g (b.g x.toNat).Parent.toNat) trivial h
  ·refine HQ hS trivial 30 (.put 9000 9902) (⟨⟨by decide,rfl⟩,c3⟩:(1000<=9902/\X.n=X.n)/\(b.g x.toNat).Parent.toNat<X.n) ?_;exact f _ [(9901,9902),(9000,9000)] _ (wrap .i64 (x+1)) (X.upd (b.g x.toNat).Parent.toNat z) trivial h (hle:=klR [(4,.ob X.n (fun q=>if q=(b.g x.toNat).Parent.toNat then FZ B6 1 (cI .i64) z else if q=(b.g x.toNat).Parent.toNat then .dead else FZ B6 1 (cI .i64) (X.g q)) fun i=>FZ B6 1 (cI .i64) ((X.upd (b.g x.toNat).Parent.toNat z).g i))] (al1 obPut al0))
 ·refine HQ hS trivial 31 (.pub 9000) (⟨rfl,fun i _=>rfl⟩:X.n=X.n/\∀i,i<X.n->(TF (FZ B6 1 (cI .i64) (X.g i))).isSome=true) ?_;obtain rfl:=B8 h;exact A9 hS trivial ⟨[(2,.p (vSl 1 (cL 1 (cI .i64)) X))],[]⟩ [] (ids:=[]) ⟨rfl,rfl,rfl⟩ (hle:=klR [(0,.fn X.n X.n (fun i=>[(TF (FZ B6 1 (cI .i64) (X.g i))).getD default]) (fun i=>cL 1 (cI .i64) (X.g i)))] (al1 ⟨rfl,fun _ _=>rfl⟩ al0))
end Go.AM
namespace Go.AM
open IntKind (wrap)
open Go.Proofs
set_option maxRecDepth 10000
set_option maxHeartbeats 2000000
variable {S:Ay}(hS:H2 S Tryz.prog) (hL:OF S)
include hS hL
def Bi (N:Nat)(b:Sl G7):Option (Sl Int):=
 (X8 N b).bind fun y1=>
 Q2 N (fun a (x1:Sl Int) (x2:Int)=>
  if (decide (x2<(y1.n:Int))) then
   if ((0:Int)<=x2/\x2<(y1.n:Int))then
    if (((y1.g x2.toNat).n:Int)==0) then
     if ((x1.n+(Sl.of [x2]:Sl Int).n)*8<=140737488355328/\x1.n+(Sl.of [x2]:Sl Int).n<=140737488355328)then
      a (x1.push x2) (wrap .i64 (x2+1))
     else none
    else
     a x1 (wrap .i64 (x2+1))
   else none
  else
   some x1
  ) (Sl.nil:Sl Int) 0
theorem Qx {N:Nat}{a:Sl G7}{y:Sl Int}(h:Bi N a=some y) :FunO S HW [.p (vSl 2 D2 a)] [] (.vec 0) ([.vec B6 1 y.n (fun i=>cI .i64 (y.g i)) true]) []:=by
 unfold Bi at h;refine A3 hS Tryz.func80 ?_;refine kC hS h (Mq hS hL) (fun y1 h=>?_);refine F9 hS trivial h (fun x1 x2=>⟨[(9,pN x2),(8,pN (y1.n:Int)),(7,.p (vSl 1 (cL 1 (cI .i64)) y1)),(3,.vec 4500)],[(4500,.vec B6 1 x1.n (fun i=>cI .i64 (x1.g i)) false)]⟩) (ids:=[]) (fun _ _ _ _ _ f x1 x2 d h=>?_);refine kI hS h ?_ ?_<;>intro h
 ·obtain⟨c8,h⟩:=D3 h;refine D0 hS c8 (b:=((y1.g x2.toNat).n:Int)==0) (fun c9=>?_) (fun c9=>?_)
  ·replace h:=itT c9 h;obtain⟨c10,h⟩:=D3 h;exact d _ [(4500,21000)] _ (x1.push x2) (wrap .i64 (x2+1)) (And.intro (rfl:true=true) c10) h (hle:=klR [(3,.fn (x1.n+1) (x1.push x2).n (Q0 x1.n (fun i=>cI .i64 (x1.g i)) (D5 [pI .i64 0] [(0,cI .i64 x2)])) (fun i=>cI .i64 ((x1.push x2).g i)))] (al1 ⟨rfl,Et (c:=cI .i64) (v:=x1) (x:=x2) (z:=[(pI .i64 0)]) same rfl rfl⟩ al0))
  ·replace h:=itF c9 h;exact d _ [(4500,4500)] _ x1 (wrap .i64 (x2+1)) trivial h
 ·obtain rfl:=B8 h;exact A9 hS trivial ⟨[(2,.vec 4500)],[(4500,.vec B6 1 x1.n (fun i=>cI .i64 (x1.g i)) true)]⟩ [4500] (ids:=[(4500,4500)]) ⟨rfl,rfl,rfl⟩
def G4 (N:Nat)(a:Sl G7):Option ((Sl Int)×Int):=
 (X6 N a).bind fun y1=>
 if (y1 != 0) then
  some ((Sl.nil:Sl Int),y1)
 else
  (Bi N a).bind fun y2=>
  some (y2,0)
theorem EQ {N:Nat}{a:Sl G7}{y:(Sl Int)×Int}(h:G4 N a=some y) :FunO S HS [.p (vSl 2 D2 a)] [] (.tup [.vec 0,pN y.2]) ([.vec B6 1 y.1.n (fun i=>cI .i64 (y.1.g i)) true]) []:=by
 unfold G4 at h;refine A3 hS Tryz.func31 ?_;refine kC hS h (JR hS hL) (fun y1 h=>?_);refine kI hS h ?_ ?_<;>intro h
 ·obtain rfl:=B8 h;exact A9 hS trivial ⟨[(3,pN y1),(2,.vec 3700)],[(3700,.vec B6 1 (Sl.nil:Sl Int).n (fun i=>cI .i64 ((Sl.nil:Sl Int).g i)) true)]⟩ [3700] (ids:=[]) ⟨rfl,rfl,rfl⟩
 ·refine kC hS h (Qx hS hL) (fun y2 h=>?_);obtain rfl:=B8 h;exact A9 hS trivial ⟨[(3,pN 0),(2,.vec 12000)],[(12000,.vec B6 1 y2.n (fun i=>cI .i64 (y2.g i)) true)]⟩ [12000] (ids:=[(12000,12000)]) ⟨rfl,rfl,rfl⟩
def Ax (N:Nat)(b:Sl G7)(c:Int):Option (Sl Int):=
 Q2 N (fun a (x1:Sl Int) (x2:Int)=>
  if (decide (x2<(b.n:Int))) then
   if ((0:Int)<=x2/\x2<(b.n:Int))then
    if ((b.g x2.toNat).Parent==c) then
     if ((x1.n+(Sl.of [x2]:Sl Int).n)*8<=140737488355328/\x1.n+(Sl.of [x2]:Sl Int).n<=140737488355328)then
      a (x1.push x2) (wrap .i64 (x2+1))
     else none
    else
     a x1 (wrap .i64 (x2+1))
   else none
  else
   some x1
  ) (Sl.nil:Sl Int) 0
theorem Nv {N:Nat}{a:Sl G7}{d:Int}{y:Sl Int}(h:Ax N a d=some y) :FunO S GM [.p (vSl 2 D2 a),pN d] [] (.vec 0) ([.vec B6 1 y.n (fun i=>cI .i64 (y.g i)) true]) []:=by
 unfold Ax at h;refine A3 hS Tryz.func92 ?_;refine F9 hS trivial h (fun x1 x2=>⟨[(6,pN x2),(5,.vec 6500),(1,pN d),(0,.p (vSl 2 D2 a))],[(6500,.vec B6 1 x1.n (fun i=>cI .i64 (x1.g i)) false)]⟩) (ids:=[]) (fun _ _ _ _ _ j x1 x2 f h=>?_);refine kI hS h ?_ ?_<;>intro h
 ·obtain⟨c8,h⟩:=D3 h;refine D0 hS c8 (b:=(a.g x2.toNat).Parent==d) (fun c9=>?_) (fun c9=>?_)
  ·replace h:=itT c9 h;obtain⟨c10,h⟩:=D3 h;exact f _ [(6500,24000)] _ (x1.push x2) (wrap .i64 (x2+1)) (And.intro (rfl:true=true) c10) h (hle:=klR [(3,.fn (x1.n+1) (x1.push x2).n (Q0 x1.n (fun i=>cI .i64 (x1.g i)) (D5 [pI .i64 0] [(0,cI .i64 x2)])) (fun i=>cI .i64 ((x1.push x2).g i)))] (al1 ⟨rfl,Et (c:=cI .i64) (v:=x1) (x:=x2) (z:=[(pI .i64 0)]) same rfl rfl⟩ al0))
  ·replace h:=itF c9 h;exact f _ [(6500,6500)] _ x1 (wrap .i64 (x2+1)) trivial h
 ·obtain rfl:=B8 h;exact A9 hS trivial ⟨[(4,.vec 6500)],[(6500,.vec B6 1 x1.n (fun i=>cI .i64 (x1.g i)) true)]⟩ [6500] (ids:=[(6500,6500)]) ⟨rfl,rfl,rfl⟩
def AO (N:Nat)(b:Sl G7):Option ((Sl Int)×Int):=
 (AF N b).bind fun y1=>
 if (y1 != 0) then
  some ((Sl.nil:Sl Int),y1)
 else
  Q2 N (fun a (x1:Sl Int) (x2:Int)=>
   if (decide (x2<(b.n:Int))) then
    (Ax N b x2).bind fun y4=>
    if ((y4.n:Int)==0) then
     if ((x1.n+(Sl.of [x2]:Sl Int).n)*8<=140737488355328/\x1.n+(Sl.of [x2]:Sl Int).n<=140737488355328)then
      a (x1.push x2) (wrap .i64 (x2+1))
     else none
    else
     a x1 (wrap .i64 (x2+1))
   else
    some (x1,0)
   ) (Sl.nil:Sl Int) 0
theorem JT {N:Nat}{a:Sl G7}{y:(Sl Int)×Int}(h:AO N a=some y) :FunO S JB [.p (vSl 2 D2 a)] [] (.tup [.vec 0,pN y.2]) ([.vec B6 1 y.1.n (fun i=>cI .i64 (y.1.g i)) true]) []:=by
 unfold AO at h;refine A3 hS Tryz.func68 ?_;refine kC hS h (Mo hS hL) (fun y1 h=>?_);refine kI hS h ?_ ?_<;>intro h
 ·obtain rfl:=B8 h;exact A9 hS trivial ⟨[(3,pN y1),(2,.vec 3700)],[(3700,.vec B6 1 (Sl.nil:Sl Int).n (fun i=>cI .i64 ((Sl.nil:Sl Int).g i)) true)]⟩ [3700] (ids:=[]) ⟨rfl,rfl,rfl⟩
 ·refine F9 hS trivial h (fun x1 x2=>⟨[(6,pN x2),(5,.vec 6500),(0,.p (vSl 2 D2 a))],[(6500,.vec B6 1 x1.n (fun i=>cI .i64 (x1.g i)) false)]⟩) (ids:=[]) (fun _ _ _ _ _ d x1 x2 b h=>?_);refine kI hS h ?_ ?_<;>intro h
  ·refine kC hS h (Nv hS hL) (fun y4 h=>?_);refine kI hS h ?_ ?_<;>intro h
   ·obtain⟨c8,h⟩:=D3 h;exact b _ [(6500,27000)] _ (x1.push x2) (wrap .i64 (x2+1)) (And.intro (rfl:true=true) c8) h (hle:=klR [(2,.fn (x1.n+1) (x1.push x2).n (Q0 x1.n (fun i=>cI .i64 (x1.g i)) (D5 [pI .i64 0] [(0,cI .i64 x2)])) (fun i=>cI .i64 ((x1.push x2).g i)))] (al1 ⟨rfl,Et (c:=cI .i64) (v:=x1) (x:=x2) (z:=[(pI .i64 0)]) same rfl rfl⟩ al0))
   ·exact b _ [(6500,6500)] _ x1 (wrap .i64 (x2+1)) trivial h
  ·obtain rfl:=B8 h;exact A9 hS trivial ⟨[(3,pN 0),(2,.vec 6500)],[(6500,.vec B6 1 x1.n (fun i=>cI .i64 (x1.g i)) true)]⟩ [6500] (ids:=[(6500,6500)]) ⟨rfl,rfl,rfl⟩
end Go.AM
