/- What a law's walk and its plain proof need, part 6: no condition of its own. -/
import Derived.Test.YtegikiijkjlikaaGreatDoorSE
import Derived.Test.YtegikiijkjlikaaGreatDoorSD
set_option linter.unusedSimpArgs false
set_option linter.unusedVariables false
set_option linter.unusedSectionVars false
namespace Go.AM
open IntKind (wrap)
open Go.Proofs
set_option maxRecDepth 10000
set_option maxHeartbeats 2000000
variable {S:Bd}(hS:G6 S Tryz.prog) (hL:RY S)
include hS hL
def W7 (N:Nat)(p_x:Aj2)(p_w:Sl Sound):Option (Nat->Int):=
 S4 N (fun self1 (x1:Nat->Int) (x2:Int)=>
  if (decide (x2<(p_w.n:Int))) then
   if ((0:Int)<=x2/\x2<(p_w.n:Int))then
    if ((((E4 .or .u32 (E4 .andNot .u32 p_x.is.Plus (p_w.g x2.toNat).Plus) (E4 .andNot .u32 p_x.is.Minus (p_w.g x2.toNat).Minus))==0)==p_x.not) != true) then
     if (((0:Int)<=(wrap .i64 (x2+1))/\((0:Int)<=x2/\x2<33))/\(0+x2.toNat*1)<33)then
      self1 (Mc x1 (0+x2.toNat*1) (shI .shl .u64 1 (wrap .i64 (x2+1)))) (wrap .i64 (x2+1))
     else none
    else
     self1 x1 (wrap .i64 (x2+1))
   else none
  else
   some x1
  ) (fun _=>0) 0
theorem Nc {N:Nat}{p_x:Aj2}{p_w:Sl Sound}{y:Nat->Int}(h:W7 N p_x p_w=some y) :FunO S Dj [.p (.agg (XY p_x)),.p (vSl 2 A0 p_w)] [] (.p (.agg (cA 33 (pI .u64) y))) ([]) []:=by
 unfold W7 at h;refine A1 hS MR ?_;refine F5 hS trivial h (fun x1 x2=>⟨[(9,pN x2),(8,pN (p_w.n:Int)),(7,.p (vSl 2 A0 p_w)),(4,.reg 5000 0),(2,.reg 3000 0)],[(5000,.arr 33 (fun i=>pI .u64 (x1 i))),(3000,.cells ((XY p_x).map .p))]⟩) (ids:=[(3000,3000),(5000,5000)]) (fun _ _ _ _ _ self1 x1 x2 hb1 h=>?_) (hle:=klR [(3,.fn 33 33 (fun i=>[(fun i=>(List.replicate 33 (pI .u64 0)).getD i default) i]) (fun i=>[pI .u64 ((fun _=>0) i)]))] (al1 ⟨rfl,BN (z:=pI .u64 0) rfl⟩ al0));refine kI hS h (fun h=>?_) (fun h=>?_)
 ·obtain⟨c8,h⟩:=D2 h;refine D3 hS (And.intro c8 (by decide:(2:Nat)<=2)) (b:=(((E4 .or .u32 (E4 .andNot .u32 p_x.is.Plus (p_w.g x2.toNat).Plus) (E4 .andNot .u32 p_x.is.Minus (p_w.g x2.toNat).Minus))==0)==p_x.not) != true) (fun c9=>?_) (fun c9=>?_)
  ·replace h:=itT c9 h;obtain⟨c10,h⟩:=D2 h;exact hb1 _ [(3000,3000),(5000,5000)] _ (Mc x1 (0+x2.toNat*1) (shI .shl .u64 1 (wrap .i64 (x2+1)))) (wrap .i64 (x2+1)) c10 h (hle:=klR [(3,.fn 33 33 (fun i=>[(fun i=>if i=(0+x2.toNat*1)then (pI .u64 (shI .shl .u64 1 (wrap .i64 (x2+1))))else (fun i=>pI .u64 (x1 i)) i) i]) (fun i=>[pI .u64 (Mc x1 (0+x2.toNat*1) (shI .shl .u64 1 (wrap .i64 (x2+1))) i)]))] (al1 ⟨rfl,AK1 (c:=pI .u64) (v:=x1) (x:=shI .shl .u64 1 (wrap .i64 (x2+1))) (fun _ _=>rfl) rfl⟩ al0))
  ·replace h:=itF c9 h;exact hb1 _ [(3000,3000),(5000,5000)] _ x1 (wrap .i64 (x2+1)) trivial h
 ·obtain rfl:=B7 h;exact A6 hS (And.intro rfl (F2 _ _):(0:Nat)=0/\(Cy 33 (fun i=>pI .u64 (x1 i))).length=33) ⟨[(4,.reg 5000 0)],[(5000,.arr 33 (fun i=>pI .u64 (x1 i)))]⟩ [] (ids:=[(5000,5000)]) ⟨rfl,rfl,rfl⟩ (hle:=klR [(0,.fn 33 33 (fun i=>[(fun i=>(cA 33 (pI .u64) x1).getD i default) i]) (fun i=>[pI .u64 (x1 i)]))] (al1 ⟨rfl,E2 33 (fun i=>pI .u64 (x1 i))⟩ al0))
def Au (N:Nat)(p_x:AL0)(p_w:Sl Sound):Option (Nat->Int):=
 if p_x.end_ then
  if (((0:Int)<=(p_w.n:Int)/\((0:Int)<=(p_w.n:Int)/\(p_w.n:Int)<33))/\(0+(p_w.n:Int).toNat*1)<33)then
   some (Mc (fun _=>0) (0+(p_w.n:Int).toNat*1) (shI .shl .u64 1 (p_w.n:Int)))
  else none
 else
  if (((0:Int)<=0/\(0:Int)<33)/\(0+0*1)<33)then
   some (Mc (fun _=>0) (0+0*1) (shI .shl .u64 1 0))
  else none
theorem Oz {N:Nat}{p_x:AL0}{p_w:Sl Sound}{y:Nat->Int}(h:Au N p_x p_w=some y) :FunO S DU [.p (.agg (AL1 p_x)),.p (vSl 2 A0 p_w)] [] (.p (.agg (cA 33 (pI .u64) y))) ([]) []:=by
 unfold Au at h;refine A1 hS Ou ?_;refine kI hS h (fun h=>?_) (fun h=>?_)
 ·obtain⟨c2,h⟩:=D2 h;obtain rfl:=B7 h;exact A6 hS (And.intro (And.intro (And.intro c2.1.1 c2.1.2) c2.2) (And.intro rfl (F2 _ _):(0:Nat)=0/\(Cy 33 (fun i=>if i=(0+(p_w.n:Int).toNat*1)then (pI .u64 (shI .shl .u64 1 (p_w.n:Int)))else (fun i=>(List.replicate 33 (pI .u64 0)).getD i default) i)).length=33)) ⟨[(4,.reg 5000 0)],[(5000,.arr 33 (fun i=>pI .u64 (Mc (fun _=>0) (0+(p_w.n:Int).toNat*1) (shI .shl .u64 1 (p_w.n:Int)) i)))]⟩ [] (ids:=[(5000,5000)]) ⟨rfl,rfl,rfl⟩ (hle:=klR [(0,.fn 33 33 (fun i=>[(fun i=>(Cy 33 (fun i=>if i=(0+(p_w.n:Int).toNat*1)then (pI .u64 (shI .shl .u64 1 (p_w.n:Int)))else (fun i=>(List.replicate 33 (pI .u64 0)).getD i default) i)).getD i default) i]) (fun i=>[pI .u64 (Mc (fun _=>0) (0+(p_w.n:Int).toNat*1) (shI .shl .u64 1 (p_w.n:Int)) i)]))] (al1 ⟨rfl,fun i hi=>(E2 33 (fun i=>if i=(0+(p_w.n:Int).toNat*1)then (pI .u64 (shI .shl .u64 1 (p_w.n:Int)))else (fun i=>(List.replicate 33 (pI .u64 0)).getD i default) i) i hi).trans (AK1 (c:=pI .u64) (v:=fun _=>0) (x:=shI .shl .u64 1 (p_w.n:Int)) (BN (z:=pI .u64 0) rfl) rfl i hi)⟩ al0))
 ·obtain⟨c3,h⟩:=D2 h;obtain rfl:=B7 h;exact A6 hS (And.intro (And.intro (And.intro (by decide:(0:Int)<=0) c3.1) c3.2) (And.intro rfl (F2 _ _):(0:Nat)=0/\(Cy 33 (fun i=>if i=(0+0*1)then (pI .u64 (shI .shl .u64 1 0))else (fun i=>(List.replicate 33 (pI .u64 0)).getD i default) i)).length=33)) ⟨[(4,.reg 5000 0)],[(5000,.arr 33 (fun i=>pI .u64 (Mc (fun _=>0) (0+0*1) (shI .shl .u64 1 0) i)))]⟩ [] (ids:=[(5000,5000)]) ⟨rfl,rfl,rfl⟩ (hle:=klR [(0,.fn 33 33 (fun i=>[(fun i=>(Cy 33 (fun i=>if i=(0+0*1)then (pI .u64 (shI .shl .u64 1 0))else (fun i=>(List.replicate 33 (pI .u64 0)).getD i default) i)).getD i default) i]) (fun i=>[pI .u64 (Mc (fun _=>0) (0+0*1) (shI .shl .u64 1 0) i)]))] (al1 ⟨rfl,fun i hi=>(E2 33 (fun i=>if i=(0+0*1)then (pI .u64 (shI .shl .u64 1 0))else (fun i=>(List.replicate 33 (pI .u64 0)).getD i default) i) i hi).trans (AK1 (c:=pI .u64) (v:=fun _=>0) (x:=shI .shl .u64 1 0) (BN (z:=pI .u64 0) rfl) rfl i hi)⟩ al0))
def Bv (rec:Part->(Sl Sound)->Option (Nat->Int))(N:Nat)(p_x:Pseq)(p_w:Sl Sound):Option (Nat->Int):=
 (P0 N (p_w.n:Int)).bind fun y1=>
 S4 N (fun self1 (x1:Nat->Int) (x2:Int)=>
  if (decide (x2<(p_x.l.n:Int))) then
   if ((0:Int)<=x2/\x2<(p_x.l.n:Int))then
    (rec (p_x.l.g x2.toNat) p_w).bind fun y6=>
    (D9 N x1 y6).bind fun y7=>
    self1 y7 (wrap .i64 (x2+1))
   else none
  else
   some x1
  ) y1 0
theorem Rw {N:Nat}{rec:Part->(Sl Sound)->Option ((Nat->Int))}(hrec:∀{x:Part}{b0:(Sl Sound)}{y:(Nat->Int)},rec x b0=some y->AU4 S Tryz.prog (FP x) "ablaut/pats.in" [(.p (vSl 2 A0 b0))] (.p (.agg (cA 33 (pI .u64) y)))){p_x:Pseq}{p_w:(Sl Sound)}{y:(Nat->Int)}(h:Bv rec N p_x p_w=some y) :FunO S EX [(.p (.agg (AV4 p_x))),(.p (vSl 2 A0 p_w))] [] (.p (.agg (cA 33 (pI .u64) y))) ([]) []:=by
 unfold Bv at h;refine A1 hS Rr ?_;refine kC hS h (Dn hS hL) (fun y1 h=>?_);refine F5 hS (And.intro rfl (F2 _ _):(0:Nat)=0/\(Cy 33 (fun i=>pI .u64 (y1 i))).length=33) h (fun x1 x2=>⟨[(15,(pN x2)),(14,(pN (p_x.l.n:Int))),(13,(.p (vSl 1 Et p_x.l))),(5,(.reg 6000 0)),(4,(.reg 5000 0)),(1,(.p (vSl 2 A0 p_w)))],[(6000,(.arr 33 (fun i=>pI .u64 (x1 i)))),(5000,(.arr 33 (fun i=>pI .u64 ((fun _=>0) i))))]⟩) (ids:=[(5000,5000),(6000,6000)]) (fun _ _ _ _ _ self1 x1 x2 hb1 h=>?_) (hle:=(klR [(4,.fn 33 33 (fun i=>[(fun i=>(cA 33 (pI .u64) y1).getD i default) i]) (fun i=>[pI .u64 (y1 i)])),(5,.fn 33 33 (fun i=>[(fun i=>(List.replicate 33 (pI .u64 0)).getD i default) i]) (fun i=>[pI .u64 ((fun _=>0) i)]))] (al1 ⟨rfl,(E2 33 (fun i=>pI .u64 (y1 i)))⟩ (al1 ⟨rfl,(BN (z:=pI .u64 0) rfl)⟩ al0))));refine kI hS h (fun h=>?_) (fun h=>?_)
 ·obtain⟨c6,h⟩:=D2 h;obtain⟨y6,e6,h⟩:=B6 h;refine Ll hS c6 (hrec e6) ?_;refine Am hS (And.intro rfl (F2 _ _):(0:Nat)=0/\(Cy 33 (fun i=>pI .u64 (y6 i))).length=33) ⟨[(15,(pN x2)),(14,(pN (p_x.l.n:Int))),(13,(.p (vSl 1 Et p_x.l))),(8,(.reg 9000 0)),(5,(.reg 6000 0)),(4,(.reg 5000 0)),(1,(.p (vSl 2 A0 p_w)))],[(9000,(.arr 33 (fun i=>pI .u64 (y6 i)))),(6000,(.arr 33 (fun i=>pI .u64 (x1 i)))),(5000,(.arr 33 (fun i=>pI .u64 ((fun _=>0) i))))]⟩ (ids:=[(5000,5000),(6000,6000),(9000,9000)]) ?_ (hle:=(klR [(4,.fn 33 33 (fun i=>[(fun i=>(cA 33 (pI .u64) y6).getD i default) i]) (fun i=>[pI .u64 (y6 i)]))] (al1 ⟨rfl,(E2 33 (fun i=>pI .u64 (y6 i)))⟩ al0)));obtain⟨y7,e7,h⟩:=B6 h;refine B8 hS [6000,9000] trivial (R8 hS hL e7) ?_;exact hb1 _ [(5000,5000),(6000,6000)] _ y7 (wrap .i64 (x2+1)) (And.intro rfl (F2 _ _):(0:Nat)=0/\(Cy 33 (fun i=>pI .u64 (y7 i))).length=33) h (hle:=klR [(4,.fn 33 33 (fun i=>[(fun i=>(cA 33 (pI .u64) y7).getD i default) i]) (fun i=>[pI .u64 (y7 i)]))] (al1 ⟨rfl,(E2 33 (fun i=>pI .u64 (y7 i)))⟩ al0))
 ·obtain rfl:=B7 h;exact A6 hS (And.intro rfl (F2 _ _):(0:Nat)=0/\(Cy 33 (fun i=>pI .u64 (x1 i))).length=33) ⟨[(4,(.reg 5000 0))],[(5000,(.arr 33 (fun i=>pI .u64 (x1 i))))]⟩ [] (ids:=[(5000,5000)]) ⟨rfl,rfl,rfl⟩ (hle:=(klR [(0,.fn 33 33 (fun i=>[(fun i=>(cA 33 (pI .u64) x1).getD i default) i]) (fun i=>[pI .u64 (x1 i)]))] (al1 ⟨rfl,(E2 33 (fun i=>pI .u64 (x1 i)))⟩ al0)))
def Bw (rec:Part->(Sl Sound)->Option (Nat->Int))(N:Nat)(p_x:Palt)(p_w:Sl Sound):Option (Nat->Int):=
 S4 N (fun self1 (x1:Nat->Int) (x2:Int)=>
  if (decide (x2<(p_x.l.n:Int))) then
   if ((0:Int)<=x2/\x2<(p_x.l.n:Int))then
    (rec (p_x.l.g x2.toNat) p_w).bind fun y5=>
    (K7 N x1 y5).bind fun y6=>
    self1 y6 (wrap .i64 (x2+1))
   else none
  else
   some x1
  ) (fun _=>0) 0
theorem Rx {N:Nat}{rec:Part->(Sl Sound)->Option ((Nat->Int))}(hrec:∀{x:Part}{b0:(Sl Sound)}{y:(Nat->Int)},rec x b0=some y->AU4 S Tryz.prog (FP x) "ablaut/pats.in" [(.p (vSl 2 A0 b0))] (.p (.agg (cA 33 (pI .u64) y)))){p_x:Palt}{p_w:(Sl Sound)}{y:(Nat->Int)}(h:Bw rec N p_x p_w=some y) :FunO S EV [(.p (.agg (AV1 p_x))),(.p (vSl 2 A0 p_w))] [] (.p (.agg (cA 33 (pI .u64) y))) ([]) []:=by
 unfold Bw at h;refine A1 hS Rp ?_;refine F5 hS trivial h (fun x1 x2=>⟨[(11,(pN x2)),(10,(pN (p_x.l.n:Int))),(9,(.p (vSl 1 Et p_x.l))),(4,(.reg 5000 0)),(1,(.p (vSl 2 A0 p_w)))],[(5000,(.arr 33 (fun i=>pI .u64 (x1 i))))]⟩) (ids:=[(5000,5000)]) (fun _ _ _ _ _ self1 x1 x2 hb1 h=>?_) (hle:=(klR [(4,.fn 33 33 (fun i=>[(fun i=>(List.replicate 33 (pI .u64 0)).getD i default) i]) (fun i=>[pI .u64 ((fun _=>0) i)]))] (al1 ⟨rfl,(BN (z:=pI .u64 0) rfl)⟩ al0)));refine kI hS h (fun h=>?_) (fun h=>?_)
 ·obtain⟨c6,h⟩:=D2 h;obtain⟨y5,e5,h⟩:=B6 h;refine Ll hS c6 (hrec e5) ?_;refine Am hS (And.intro rfl (F2 _ _):(0:Nat)=0/\(Cy 33 (fun i=>pI .u64 (y5 i))).length=33) ⟨[(11,(pN x2)),(10,(pN (p_x.l.n:Int))),(9,(.p (vSl 1 Et p_x.l))),(7,(.reg 8000 0)),(4,(.reg 5000 0)),(1,(.p (vSl 2 A0 p_w)))],[(8000,(.arr 33 (fun i=>pI .u64 (y5 i)))),(5000,(.arr 33 (fun i=>pI .u64 (x1 i))))]⟩ (ids:=[(5000,5000),(8000,8000)]) ?_ (hle:=(klR [(4,.fn 33 33 (fun i=>[(fun i=>(cA 33 (pI .u64) y5).getD i default) i]) (fun i=>[pI .u64 (y5 i)]))] (al1 ⟨rfl,(E2 33 (fun i=>pI .u64 (y5 i)))⟩ al0)));obtain⟨y6,e6,h⟩:=B6 h;refine B8 hS [5000,8000] trivial (DN hS hL e6) ?_;exact hb1 _ [(5000,5000)] _ y6 (wrap .i64 (x2+1)) trivial h
 ·obtain rfl:=B7 h;exact A6 hS (And.intro rfl (F2 _ _):(0:Nat)=0/\(Cy 33 (fun i=>pI .u64 (x1 i))).length=33) ⟨[(4,(.reg 5000 0))],[(5000,(.arr 33 (fun i=>pI .u64 (x1 i))))]⟩ [] (ids:=[(5000,5000)]) ⟨rfl,rfl,rfl⟩ (hle:=(klR [(0,.fn 33 33 (fun i=>[(fun i=>(cA 33 (pI .u64) x1).getD i default) i]) (fun i=>[pI .u64 (x1 i)]))] (al1 ⟨rfl,(E2 33 (fun i=>pI .u64 (x1 i)))⟩ al0)))
def Bx (rec:Part->(Sl Sound)->Option (Nat->Int))(N:Nat)(p_x:AV2)(p_w:Sl Sound):Option (Nat->Int):=
 (rec p_x.of p_w).bind fun y1=>
 (F1 N y1 p_x.min (p_w.n:Int)).bind fun y2=>
 (P0 N (p_w.n:Int)).bind fun y3=>
 (K7 N y1 y3).bind fun y4=>
 if (decide (p_x.max<0)) then
  (F1 N y4 (p_w.n:Int) (p_w.n:Int)).bind fun y5=>
  (D9 N y2 y5).bind fun y6=>
  some y6
 else
  (F1 N y4 (wrap .i64 (p_x.max-p_x.min)) (p_w.n:Int)).bind fun y7=>
  (D9 N y2 y7).bind fun y8=>
  some y8
theorem Ry {N:Nat}{rec:Part->(Sl Sound)->Option ((Nat->Int))}(hrec:∀{x:Part}{b0:(Sl Sound)}{y:(Nat->Int)},rec x b0=some y->AU4 S Tryz.prog (FP x) "ablaut/pats.in" [(.p (vSl 2 A0 b0))] (.p (.agg (cA 33 (pI .u64) y)))){p_x:AV2}{p_w:(Sl Sound)}{y:(Nat->Int)}(h:Bx rec N p_x p_w=some y) :FunO S EW [(.p (.agg (AV3 p_x))),(.p (vSl 2 A0 p_w))] [] (.p (.agg (cA 33 (pI .u64) y))) ([]) []:=by
 unfold Bx at h;refine A1 hS Rq ?_;obtain⟨y1,e1,h⟩:=B6 h;refine Ll hS trivial (hrec e1) ?_;refine Am hS (And.intro rfl (F2 _ _):(0:Nat)=0/\(Cy 33 (fun i=>pI .u64 (y1 i))).length=33) ⟨[(18,(pN (p_w.n:Int))),(16,(pN p_x.min)),(14,(.p (.agg (cA 33 (pI .u64) y1)))),(5,(.reg 6000 0)),(4,(.reg 5000 0)),(2,(.reg 3000 0)),(1,(.p (vSl 2 A0 p_w)))],[(6000,(.arr 33 (fun i=>pI .u64 (y1 i)))),(5000,(.arr 33 (fun i=>pI .u64 ((fun _=>0) i)))),(3000,(.cells [(.p (FP p_x.of)),(pN p_x.min),(pN p_x.max)]))]⟩ (ids:=[(3000,3000),(5000,5000),(6000,6000)]) ?_ (hle:=(klR [(2,.eq (.agg (Cy 33 (fun i=>(cA 33 (pI .u64) y1).getD i default))) (.agg (cA 33 (pI .u64) y1))),(4,.fn 33 33 (fun i=>[(fun i=>(cA 33 (pI .u64) y1).getD i default) i]) (fun i=>[pI .u64 (y1 i)])),(5,.fn 33 33 (fun i=>[(fun i=>(List.replicate 33 (pI .u64 0)).getD i default) i]) (fun i=>[pI .u64 ((fun _=>0) i)]))] (al1 (congrArg PV.agg (Zp (E2 33 (fun i=>pI .u64 (y1 i))))) (al1 ⟨rfl,(E2 33 (fun i=>pI .u64 (y1 i)))⟩ (al1 ⟨rfl,(BN (z:=pI .u64 0) rfl)⟩ al0)))));refine kC hS h (W6 hS hL) (fun y2 h=>?_);obtain⟨y3,e3,h⟩:=B6 h;refine B8 hS [] (And.intro (And.intro rfl (F2 _ _):(0:Nat)=0/\(Cy 33 (fun i=>pI .u64 (y2 i))).length=33) (And.intro rfl (F2 _ _):(0:Nat)=0/\(Cy 33 (fun i=>pI .u64 (y1 i))).length=33)) (Dn hS hL e3) ?_;refine Am hS (And.intro rfl (F2 _ _):(0:Nat)=0/\(Cy 33 (fun i=>pI .u64 (y3 i))).length=33) ⟨[(8,(.reg 9000 0)),(7,(.reg 8000 0)),(6,(.reg 7000 0)),(4,(.reg 5000 0)),(2,(.reg 3000 0)),(1,(.p (vSl 2 A0 p_w)))],[(9000,(.arr 33 (fun i=>pI .u64 (y3 i)))),(8000,(.arr 33 (fun i=>pI .u64 (y1 i)))),(7000,(.arr 33 (fun i=>pI .u64 (y2 i)))),(5000,(.arr 33 (fun i=>pI .u64 ((fun _=>0) i)))),(3000,(.cells [(.p (FP p_x.of)),(pN p_x.min),(pN p_x.max)]))]⟩ (ids:=[(3000,3000),(5000,5000),(7000,7000),(8000,8000),(9000,9000)]) ?_ (hle:=(klR [(1,.fn 33 33 (fun i=>[(fun i=>(cA 33 (pI .u64) y3).getD i default) i]) (fun i=>[pI .u64 (y3 i)])),(2,.fn 33 33 (fun i=>[(fun i=>(cA 33 (pI .u64) y1).getD i default) i]) (fun i=>[pI .u64 (y1 i)])),(3,.fn 33 33 (fun i=>[(fun i=>(cA 33 (pI .u64) y2).getD i default) i]) (fun i=>[pI .u64 (y2 i)]))] (al1 ⟨rfl,(E2 33 (fun i=>pI .u64 (y3 i)))⟩ (al1 ⟨rfl,(E2 33 (fun i=>pI .u64 (y1 i)))⟩ (al1 ⟨rfl,(E2 33 (fun i=>pI .u64 (y2 i)))⟩ al0)))));obtain⟨y4,e4,h⟩:=B6 h;refine B8 hS [8000,9000] trivial (DN hS hL e4) ?_;refine kI hS h (fun h=>?_) (fun h=>?_)
 ·refine kC hS h (W6 hS hL) (fun y5 h=>?_);refine Am hS (And.intro rfl (F2 _ _):(0:Nat)=0/\(Cy 33 (fun i=>pI .u64 (y5 i))).length=33) ⟨[(7,(.reg 8000 0)),(6,(.reg 7000 0)),(4,(.reg 5000 0))],[(8000,(.arr 33 (fun i=>pI .u64 (y5 i)))),(7000,(.arr 33 (fun i=>pI .u64 (y2 i)))),(5000,(.arr 33 (fun i=>pI .u64 ((fun _=>0) i))))]⟩ (ids:=[(5000,5000),(7000,7000),(8000,8000)]) ?_ (hle:=(klR [(0,.fn 33 33 (fun i=>[(fun i=>(cA 33 (pI .u64) y5).getD i default) i]) (fun i=>[pI .u64 (y5 i)]))] (al1 ⟨rfl,(E2 33 (fun i=>pI .u64 (y5 i)))⟩ al0)));obtain⟨y6,e6,h⟩:=B6 h;refine B8 hS [7000,8000] trivial (R8 hS hL e6) ?_;obtain rfl:=B7 h;exact A6 hS (And.intro rfl (F2 _ _):(0:Nat)=0/\(Cy 33 (fun i=>pI .u64 (y6 i))).length=33) ⟨[(4,(.reg 5000 0))],[(5000,(.arr 33 (fun i=>pI .u64 (y6 i))))]⟩ [] (ids:=[(5000,5000)]) ⟨rfl,rfl,rfl⟩ (hle:=(klR [(0,.fn 33 33 (fun i=>[(fun i=>(cA 33 (pI .u64) y6).getD i default) i]) (fun i=>[pI .u64 (y6 i)]))] (al1 ⟨rfl,(E2 33 (fun i=>pI .u64 (y6 i)))⟩ al0)))
 ·refine kC hS h (W6 hS hL) (fun y7 h=>?_);refine Am hS (And.intro rfl (F2 _ _):(0:Nat)=0/\(Cy 33 (fun i=>pI .u64 (y7 i))).length=33) ⟨[(7,(.reg 8000 0)),(6,(.reg 7000 0)),(4,(.reg 5000 0))],[(8000,(.arr 33 (fun i=>pI .u64 (y7 i)))),(7000,(.arr 33 (fun i=>pI .u64 (y2 i)))),(5000,(.arr 33 (fun i=>pI .u64 ((fun _=>0) i))))]⟩ (ids:=[(5000,5000),(7000,7000),(8000,8000)]) ?_ (hle:=(klR [(0,.fn 33 33 (fun i=>[(fun i=>(cA 33 (pI .u64) y7).getD i default) i]) (fun i=>[pI .u64 (y7 i)]))] (al1 ⟨rfl,(E2 33 (fun i=>pI .u64 (y7 i)))⟩ al0)));obtain⟨y8,e8,h⟩:=B6 h;refine B8 hS [7000,8000] trivial (R8 hS hL e8) ?_;obtain rfl:=B7 h;exact A6 hS (And.intro rfl (F2 _ _):(0:Nat)=0/\(Cy 33 (fun i=>pI .u64 (y8 i))).length=33) ⟨[(4,(.reg 5000 0))],[(5000,(.arr 33 (fun i=>pI .u64 (y8 i))))]⟩ [] (ids:=[(5000,5000)]) ⟨rfl,rfl,rfl⟩ (hle:=(klR [(0,.fn 33 33 (fun i=>[(fun i=>(cA 33 (pI .u64) y8).getD i default) i]) (fun i=>[pI .u64 (y8 i)]))] (al1 ⟨rfl,(E2 33 (fun i=>pI .u64 (y8 i)))⟩ al0)))
def T6 (rec:Pat->Option Part)(N:Nat)(p_p:Pat):Option Part:=
 S4 N (fun self1 (x1:Sl Part) (x2:Int)=>
  if (decide (x2<(p_p.L.n:Int))) then
   if ((0:Int)<=x2/\x2<(p_p.L.n:Int))then
    (rec (p_p.L.g x2.toNat)).bind fun y3=>
    if ((x1.n+(Sl.of [y3]:Sl Part).n)*16<=140737488355328/\x1.n+(Sl.of [y3]:Sl Part).n<=140737488355328)then
     self1 (x1.push y3) (wrap .i64 (x2+1))
    else none
   else none
  else
   if (p_p.Kind==1) then
    some (Part.sound p_p.Is p_p.Not)
   else
    if (p_p.Kind==2) then
     some (Part.edge false)
    else
     if (p_p.Kind==6) then
      some (Part.edge true)
     else
      if (p_p.Kind==4) then
       some (Part.alt x1.n x1.g)
      else
       if (p_p.Kind==5) then
        if (((0:Int)<=0/\0<(x1.n:Int))/\0<x1.n)then
         some (Part.rep (x1.g 0) p_p.Min p_p.Max)
        else none
       else
        some (Part.seq x1.n x1.g)
  ) (Sl.nil:Sl Part) 0
def Av:Nat->Pat->Option Part
 |0=>fun _=>none
 |N+1=>T6 (Av N) N
theorem Nd {N:Nat}{rec:Pat->Option Part}(hrec:∀{p_p:Pat}{y:Part},rec p_p=some y->FunO S Ce [.p (.agg (B1 p_p))] [] (.p (FP y)) ([]) []){p_p:Pat}{y:Part}(h:T6 rec N p_p=some y) :FunO S Ce [.p (.agg (B1 p_p))] [] (.p (FP y)) ([]) []:=by
 unfold T6 at h;refine A1 hS Ot ?_;refine J3 hS trivial 2 2000 (B1 p_p) ?_;refine J0 hS trivial 8 ⟨[(7,.p (vSl 7 B1 p_p.L)),(3,.p J2),(1,.p (.ptr (B1 p_p)))],[]⟩ (ids:=[]) ?_ (hle:=klR [(0,.fn p_p.L.n p_p.L.n (Bf p_p) (fun i=>B1 (p_p.L.g i)))] (al1 ⟨rfl,K5 p_p⟩ al0));refine F5 hS trivial h (fun x1 x2=>⟨[(9,pN x2),(8,pN (p_p.L.n:Int)),(7,.p (vSl 7 B1 p_p.L)),(3,.vec 4500),(1,.p (.ptr (B1 p_p)))],[(4500,.vec Wh 1 x1.n (fun i=>Et (x1.g i)) false)]⟩) (ids:=[]) (fun _ _ _ _ _ self1 x1 x2 hb1 h=>?_);refine kI hS h (fun h=>?_) (fun h=>?_)
 ·obtain⟨c6,h⟩:=D2 h;refine J3 hS (And.intro c6 (by decide:(7:Nat)<=7)) 13 6000 (B1 (p_p.L.g x2.toNat)) ?_;obtain⟨y3,e3,h⟩:=B6 h;refine B8 hS [] (by decide:(7:Nat)<=7) (hrec e3) ?_;obtain⟨c7,h⟩:=D2 h;exact hb1 _ [(4500,18000)] _ (x1.push y3) (wrap .i64 (x2+1)) (And.intro (rfl:true=true) c7) h (hle:=klR [(4,.fn (x1.n+1) (x1.push y3).n (R4 x1.n (fun i=>Et (x1.g i)) (D4 [.v .nilIface] [(0,Et y3)])) (fun i=>Et ((x1.push y3).g i)))] (al1 ⟨rfl,Er (c:=Et) (v:=x1) (x:=y3) (z:=[(.v .nilIface)]) same rfl rfl⟩ al0))
 ·refine kI hS h (fun h=>?_) (fun h=>?_)
  ·obtain rfl:=B7 h;exact Aw0 hS (by decide:(2:Nat)<=6) [] ⟨rfl,rfl,rfl⟩
  ·refine kI hS h (fun h=>?_) (fun h=>?_)
   ·cases h;exact kR hS
   ·refine kI hS h (fun h=>?_) (fun h=>?_)
    ·cases h;exact kR hS
    ·refine kI hS h (fun h=>?_) (fun h=>?_)
     ·refine J0 hS trivial 40 ⟨[(39,.p (vSl 1 Et x1))],[]⟩ (ids:=[]) ?_;cases h;exact kR hS
     ·refine kI hS h (fun h=>?_) (fun h=>?_)
      ·refine D7 hS trivial [4,6] ?_;obtain⟨c13,h⟩:=D2 h;refine H5 c13 ?_;cases h;exact kR hS
      ·refine J0 hS trivial 54 ⟨[(53,.p (vSl 1 Et x1))],[]⟩ (ids:=[]) ?_;cases h;exact kR hS
theorem OA {N:Nat}{p_p:Pat}{y:Part}(h:Av N p_p=some y) :FunO S Ce [.p (.agg (B1 p_p))] [] (.p (FP y)) ([]) []:=by
 induction N generalizing p_p y with
 |zero=>cases (show (none:Option Part)=some y from h)
 |succ N ih=>exact Nd hS hL (fun e=>ih e) h
end Go.AM
namespace Go.AM
open Go.Proofs
variable {S:Bd}(hS:G6 S Tryz.prog) (hL:RY S)
include hS hL
def Aw:Nat->Part->Sl Sound->Option (Nat->Int)
 |0=>fun _ _=>none
 |N+1=>fun p w=>match p with
  |.nil=>none
  |.sound x no=>W7 N ⟨x,no⟩ w
  |.edge e=>Au N ⟨e⟩ w
  |.seq n g=>Bv (Aw N) N ⟨⟨n,g⟩⟩ w
  |.alt n g=>Bw (Aw N) N ⟨⟨n,g⟩⟩ w
  |.rep o mn mx=>Bx (Aw N) N ⟨o,mn,mx⟩ w
theorem Ak9 {N:Nat}{x:Part}{w:Sl Sound}{y:Nat->Int}(h:Aw N x w=some y):AU4 S Tryz.prog (FP x) "ablaut/pats.in" [(.p (vSl 2 A0 w))] (.p (.agg (cA 33 (pI .u64) y))):=by
 induction N generalizing x w y with
 |zero=>cases h
 |succ N ih=>
  cases x with
  |nil=>cases h
  |sound s no=>exact⟨_,_,Dj,rfl,by kernel_rfl,Nc hS hL (p_x:=⟨s,no⟩) h⟩
  |edge e=>exact⟨_,_,DU,rfl,by kernel_rfl,Oz hS hL (N:=N) (p_x:=⟨e⟩) h⟩
  |seq n g=>exact⟨_,_,EX,rfl,by kernel_rfl,Rw hS hL (fun e=>ih e) (p_x:=⟨⟨n,g⟩⟩) h⟩
  |alt n g=>exact⟨_,_,EV,rfl,by kernel_rfl,Rx hS hL (fun e=>ih e) (p_x:=⟨⟨n,g⟩⟩) h⟩
  |rep o mn mx=>exact⟨_,_,EW,rfl,by kernel_rfl,Ry hS hL (fun e=>ih e) (p_x:=⟨o,mn,mx⟩) h⟩
end Go.AM
namespace Go.AM
open IntKind (wrap)
open Go.Proofs
set_option maxRecDepth 10000
set_option maxHeartbeats 2000000
variable {S:Bd}(hS:G6 S Tryz.prog) (hL:RY S)
include hS hL
def S2 (N:Nat)(p_s:Sound):Option Bool:=
 (O0 N p_s).bind fun y1=>
 some (!y1)
theorem Nf {N:Nat}{p_s:Sound}{y:Bool}(h:S2 N p_s=some y) :FunO S FZ [.p (.agg (A0 p_s))] [] (pB y) ([]) []:=by unfold S2 at h;refine A1 hS MQ ?_;refine kC hS h (DM hS hL) (fun y1 h=>?_);cases h;exact kR hS
def D8 (N:Nat)(p_s:Sl Sound)(p_f:Sound->Option Bool):Option Int:=
 R5 N (fun self1 (x1:Int)=>
  if (decide (x1<(p_s.n:Int))) then
   if ((0:Int)<=x1/\x1<(p_s.n:Int))then
    (p_f (p_s.g x1.toNat)).bind fun y3=>
    if y3 then
     some x1
    else
     self1 (wrap .i64 (x1+1))
   else none
  else
   some (-1)
  ) 0
theorem U5 {N:Nat}{p_s:Sl Sound}{p_f:Sound->Option Bool}{kp_f:Nat}(hp_f:∀{a0:Sound}{b:Bool},p_f a0=some b->FunO S kp_f [.p (.agg (A0 a0))] [] (pB b) [] []){y:Int}(h:D8 N p_s p_f=some y) :FunO S I6 [.p (vSl 2 A0 p_s),.clo kp_f [] []] [] (pN y) ([]) []:=by
 unfold D8 at h;refine A1 hS U4 ?_;refine G7 hS trivial h (fun x1=>⟨[(8,pN x1),(7,pN (p_s.n:Int)),(1,.clo kp_f [] []),(0,.p (vSl 2 A0 p_s))],[]⟩) (ids:=[]) (fun _ _ _ _ _ self1 x1 hb1 h=>?_);refine kI hS h (fun h=>?_) (fun h=>?_)
 ·obtain⟨c8,h⟩:=D2 h;obtain⟨y3,e3,h⟩:=B6 h;refine B8 hS [] (And.intro c8 (by decide:(2:Nat)<=2)) (hp_f e3) ?_;refine kI hS h (fun h=>?_) (fun h=>?_)
  ·cases h;exact kR hS
  ·exact hb1 _ [] _ (wrap .i64 (x1+1)) trivial h
 ·cases h;exact kR hS
def B5 (N:Nat)(p_s:Sl Sound)(p_f:Sound->Option Bool):Option Bool:=
 (D8 N p_s p_f).bind fun y1=>
 some (decide (0<=y1))
theorem H8 {N:Nat}{p_s:Sl Sound}{p_f:Sound->Option Bool}{kp_f:Nat}(hp_f:∀{a0:Sound}{b:Bool},p_f a0=some b->FunO S kp_f [.p (.agg (A0 a0))] [] (pB b) [] []){y:Bool}(h:B5 N p_s p_f=some y) :FunO S H7 [.p (vSl 2 A0 p_s),.clo kp_f [] []] [] (pB y) ([]) []:=by unfold B5 at h;refine A1 hS S5 ?_;refine kC hS h (U5 hS hL (fun e=>hp_f e)) (fun y1 h=>?_);cases h;exact kR hS
def D0 (N:Nat)(q0:Sl Pat):Option (List (Int×Pat)):=
 R5 N (fun self1 (x1:Int)=>
  if (decide (0<=x1)) then
   if ((0:Int)<=x1/\x1<(q0.n:Int))then
    Be (x1,q0.g x1.toNat) (
     self1 (wrap .i64 (x1-1))
     )
   else none
  else
   some []
  ) (wrap .i64 ((q0.n:Int)-1))
theorem Z2 {N:Nat}{q0:Sl Pat}{L:List (Int×Pat)}(h:D0 N q0=some L) :Dx S E3 [] [.reg 0 0] [.cells [.p (vSl 7 B1 q0)]] (L.map (fun (x:Int×Pat)=>[pI .i64 x.1,(fun x=>.agg (B1 x)) x.2])):=by
 unfold D0 at h;refine EP hS Y6 ?_;refine EO hS trivial h (fun x1 L1=>⟨[(3,pN x1),(1,.reg 0 0),(0,.yf 1)],[(1,.yld (L1.map (fun (x:Int×Pat)=>[pI .i64 x.1,(fun x=>.agg (B1 x)) x.2])) true),(0,.cells [.p (vSl 7 B1 q0)])]⟩) (ids:=[(0,0),(1,1)]) (fun _ _ _ _ _ self1 x1 L1 hb1 h=>?_);refine kI hS h (fun h=>?_) (fun h=>?_)
 ·obtain⟨c10,h⟩:=D2 h;obtain⟨L4,rfl,hcL4⟩:=Ma h;replace h:=hcL4;refine Dh hS (And.intro c10 (by decide:(7:Nat)<=7)) (ys:=(fun (x:Int×Pat)=>[pI .i64 x.1,(fun x=>.agg (B1 x)) x.2]) (x1,q0.g x1.toNat)) (rest:=L4.map (fun (x:Int×Pat)=>[pI .i64 x.1,(fun x=>.agg (B1 x)) x.2])) ?_ ?_
  ·refine D3 hS trivial (b:=false) (fun c11=>?_) (fun c11=>?_)
   ·exact Bool.noConfusion ((rfl:false=false).symm.trans c11)
   ·exact hb1 _ [(0,0),(1,1)] _ (wrap .i64 (x1-1)) L4 trivial h
  ·refine D3 hS trivial (b:=true) (fun c12=>?_) (fun c12=>?_)
   ·exact A6 hS trivial (a:=.tup []) (objs:=[(.cells [.p (vSl 7 B1 q0)]),.yld [] false]) ⟨[],[(1,.yld [] false),(0,.cells [.p (vSl 7 B1 q0)])]⟩ [0,1] (ids:=[(0,0),(1,1)]) ⟨false,rfl,rfl,_,rfl⟩
   ·exact Bool.noConfusion ((rfl:true=true).symm.trans c12)
 ·obtain rfl:=B7 h;exact A6 hS trivial (a:=.tup []) (objs:=[(.cells [.p (vSl 7 B1 q0)]),.yld [] true]) ⟨[],[(1,.yld [] true),(0,.cells [.p (vSl 7 B1 q0)])]⟩ [0,1] (ids:=[(0,0),(1,1)]) ⟨true,rfl,rfl,_,rfl⟩
def H0 (N:Nat)(p_s:Sl Pat):Option (Sl Pat):=
 some p_s
theorem Ax {N:Nat}{p_s:Sl Pat}{y:Sl Pat}(h:H0 N p_s=some y) :FunO S N7 [.p (vSl 7 B1 p_s)] [] (.clo E3 [] [.reg 0 0]) ([.cells [.p (vSl 7 B1 y)]]) []:=by unfold H0 at h;refine A1 hS An ?_;obtain rfl:=B7 h;exact A6 hS trivial ⟨[(2,.clo E3 [] [.reg 2000 0])],[(2000,.cells [.p (vSl 7 B1 p_s)])]⟩ [2000] (ids:=[(2000,2000)]) ⟨rfl,rfl,rfl⟩
def W8 (N:Nat)(p_p:Pat):Option Int:=
 S4 N (fun self3 (x3:Sl Pat) (x4:Int)=>
  if (decide (0<(x3.n:Int))) then
   if (x4==40) then
    some 12
   else
    if (((0:Int)<=(wrap .i64 ((x3.n:Int)-1))/\(wrap .i64 ((x3.n:Int)-1))<(x3.n:Int))/\(wrap .i64 ((x3.n:Int)-1)).toNat<x3.n)then
     if ((0:Int)<=(wrap .i64 ((x3.n:Int)-1))/\(wrap .i64 ((x3.n:Int)-1))<=(x3.n:Int))then
      (Aq N (x3.g (wrap .i64 ((x3.n:Int)-1)).toNat)).bind fun y5=>
      if (y5 != 0) then
       some y5
      else
       if ((0:Int)<=(if 41<((x3.g (wrap .i64 ((x3.n:Int)-1)).toNat).L.n:Int)then 41 else ((x3.g (wrap .i64 ((x3.n:Int)-1)).toNat).L.n:Int))/\(if 41<((x3.g (wrap .i64 ((x3.n:Int)-1)).toNat).L.n:Int)then 41 else ((x3.g (wrap .i64 ((x3.n:Int)-1)).toNat).L.n:Int))<=((x3.g (wrap .i64 ((x3.n:Int)-1)).toNat).L.n:Int))then
        (H0 N ((x3.g (wrap .i64 ((x3.n:Int)-1)).toNat).L.take (if 41<((x3.g (wrap .i64 ((x3.n:Int)-1)).toNat).L.n:Int)then 41 else ((x3.g (wrap .i64 ((x3.n:Int)-1)).toNat).L.n:Int)).toNat)).bind fun y6=>
        (D0 N y6).bind fun L3=>
        P4 L3 (fun self4 (x7:Int×Pat) (z3:Sl Pat)=>
         if ((((z3.n+(Sl.of [Pat.nil]:Sl Pat).n)*64<=140737488355328/\z3.n+(Sl.of [Pat.nil]:Sl Pat).n<=140737488355328)/\((0:Int)<=(z3.n:Int)/\(z3.n:Int)<((z3.push Pat.nil).n:Int)))/\(z3.n:Int).toNat<(z3.push Pat.nil).n)then
          self4 ((z3.push Pat.nil).upd (z3.n:Int).toNat x7.2)
         else none
         ) (fun (z3:Sl Pat)=>
          self3 z3 (wrap .i64 (x4+1))
         ) (x3.take (wrap .i64 ((x3.n:Int)-1)).toNat)
       else none
     else none
    else none
  else
   some 0
  ) (Sl.of [p_p]:Sl Pat) 0
theorem Gf {N:Nat}{p_p:Pat}{y:Int}(h:W8 N p_p=some y) :FunO S Kt [.p (.agg (B1 p_p))] [] (pN y) ([]) []:=by
 unfold W8 at h;refine A1 hS Tu ?_;refine J3 hS trivial 2 2000 (B1 p_p) ?_;refine F5 hS (And.intro (by decide:(7:Nat)<=7) (rfl:true=true)) h (fun x3 x4=>⟨[(4,pN x4),(3,.reg 4000 0)],[(4501,.vec Ev 7 x3.n (fun i=>B1 (x3.g i)) false),(4000,.cells [.vec 4501])]⟩) (ids:=[(4000,4000),(4501,12000)]) (fun _ _ _ _ _ self3 x3 x4 hb3 h=>?_) (hle:=klR [(1,.fn 1 (Sl.of [p_p]:Sl Pat).n (D4 [pI .i64 0,pI .u32 0,pI .u32 0,.v (.bool false),pI .i64 0,pI .i64 0,J2] [(0,B1 p_p)]) (fun i=>B1 ((Sl.of [p_p]:Sl Pat).g i)))] (al1 ⟨rfl,(fun i hi=>match i,hi with|0,_=>rfl|_+1,hi=>absurd hi (by omega))⟩ al0));refine kI hS h (fun h=>?_) (fun h=>?_)
 ·refine kI hS h (fun h=>?_) (fun h=>?_)
  ·cases h;exact kR hS
  ·obtain⟨c21,h⟩:=D2 h;refine J3 hS (And.intro (And.intro c21.1 (by decide:(7:Nat)<=7)) c21.2) 25 6000 (B1 (x3.g (wrap .i64 ((x3.n:Int)-1)).toNat)) ?_;obtain⟨c22,h⟩:=D2 h;refine AU5 hS c22 30 4501 (wrap .i64 ((x3.n:Int)-1)).toNat 4508 (e:=Ev) (k:=7) (N:=x3.n) (f:=fun i=>B1 (x3.g i)) (by have hq:=c22;omega) ?_;obtain⟨y5,e7,h⟩:=B6 h;refine B8 hS [] (by decide:(7:Nat)<=7) (Ox hS hL e7) ?_;refine kI hS h (fun h=>?_) (fun h=>?_)
   ·cases h;exact kR hS
   ·refine J0 hS trivial 39 ⟨[(38,.p (vSl 7 B1 (x3.g (wrap .i64 ((x3.n:Int)-1)).toNat).L)),(36,.p (vSl 7 B1 (x3.g (wrap .i64 ((x3.n:Int)-1)).toNat).L)),(4,pN x4),(3,.reg 4000 0)],[(4508,.vec Ev 7 (x3.take (wrap .i64 ((x3.n:Int)-1)).toNat).n (fun i=>B1 ((x3.take (wrap .i64 ((x3.n:Int)-1)).toNat).g i)) false),(4000,.cells [.vec 4508])]⟩ (ids:=[(4000,4000),(4508,4508)]) ?_ (hle:=klR [(0,.fn (x3.g (wrap .i64 ((x3.n:Int)-1)).toNat).L.n (x3.g (wrap .i64 ((x3.n:Int)-1)).toNat).L.n (Bf (x3.g (wrap .i64 ((x3.n:Int)-1)).toNat)) (fun i=>B1 ((x3.g (wrap .i64 ((x3.n:Int)-1)).toNat).L.g i))),(1,.fn (x3.g (wrap .i64 ((x3.n:Int)-1)).toNat).L.n (x3.g (wrap .i64 ((x3.n:Int)-1)).toNat).L.n (Bf (x3.g (wrap .i64 ((x3.n:Int)-1)).toNat)) (fun i=>B1 ((x3.g (wrap .i64 ((x3.n:Int)-1)).toNat).L.g i)))] (al1 ⟨rfl,K5 (x3.g (wrap .i64 ((x3.n:Int)-1)).toNat)⟩ (al1 ⟨rfl,K5 (x3.g (wrap .i64 ((x3.n:Int)-1)).toNat)⟩ al0)));obtain⟨c24,h⟩:=D2 h;obtain⟨y6,e8,h⟩:=B6 h;refine B8 hS [] c24 (Ax hS hL e8) ?_;obtain⟨L3,e9,h⟩:=B6 h;refine FO hS trivial [44000] [4,3] 905 (fun z3=>⟨[(4,pN x4),(3,.reg 4000 0)],[(4500,.vec Ev 7 z3.n (fun i=>B1 (z3.g i)) false),(4000,.cells [.vec 4500])]⟩) (idl:=[(4000,4000),(4500,4508)]) h (Z2 hS hL e9) (fun _=>by kernel_rfl) (fun _=>by kernel_rfl) (fun _=>by kernel_rfl) (fun _=>by kernel_rfl) (fun x7 _ self4 z3 hb4 h=>?_) (fun z3 h=>?_)
    ·refine HL hS trivial ?_;refine Aw2 hS trivial 10000 (B1 x7.2) ?_;refine U7 hS trivial [(0,.l [4000]),(1,.n),(2,.l [4500]),(4,.a [51000,4500]),(5,.l [51000]),(6,.a [51000]),(7,.a [4000])] ?_;refine EN (by decide:(7:Nat)<=7) (x:=.sl true 7 1 (D4 [pI .i64 0,pI .u32 0,pI .u32 0,.v (.bool false),pI .i64 0,pI .i64 0,J2] [(0,[pI .i64 0,pI .u32 0,pI .u32 0,.v (.bool false),pI .i64 0,pI .i64 0,J2])])) ?_;obtain⟨c27,h⟩:=D2 h;refine H5 (And.intro (And.intro c27.1.1 c27.1.2) (And.intro (rfl:(7:Nat)=7) (And.intro c27.2 (by decide:(7:Nat)<=7)))) ?_;exact hb4 _ [(905,905),(4000,4000),(4500,51000)] _ ((z3.push Pat.nil).upd (z3.n:Int).toNat x7.2) trivial h (hle:=klR [(0,.fn (z3.n+1) ((z3.push Pat.nil).upd (z3.n:Int).toNat x7.2).n (fun l=>if l=(z3.n:Int).toNat then splice (R4 z3.n (fun i=>B1 (z3.g i)) (D4 [pI .i64 0,pI .u32 0,pI .u32 0,.v (.bool false),pI .i64 0,pI .i64 0,J2] [(0,[pI .i64 0,pI .u32 0,pI .u32 0,.v (.bool false),pI .i64 0,pI .i64 0,J2])]) l) 0 [pI .i64 x7.2.Kind,pI .u32 x7.2.Is.Plus,pI .u32 x7.2.Is.Minus,.bb x7.2.Not,pI .i64 x7.2.Min,pI .i64 x7.2.Max,.sl false 7 x7.2.L.n (Bf x7.2)]else (R4 z3.n (fun i=>B1 (z3.g i)) (D4 [pI .i64 0,pI .u32 0,pI .u32 0,.v (.bool false),pI .i64 0,pI .i64 0,J2] [(0,[pI .i64 0,pI .u32 0,pI .u32 0,.v (.bool false),pI .i64 0,pI .i64 0,J2])])) l) (fun i=>B1 (((z3.push Pat.nil).upd (z3.n:Int).toNat x7.2).g i)))] (al1 ⟨rfl,setH (c:=B1) (v:=z3.push Pat.nil) (x:=x7.2) (app1H (c:=B1) (v:=z3) (z:=Pat.nil) same rfl) (fun _=>by simp[R4,D4,splice])⟩ al0))
    ·exact hb3 _ [(4000,4000),(4501,4500)] _ z3 (wrap .i64 (x4+1)) trivial h
 ·cases h;exact kR hS
def Z3 (N:Nat)(p_p:Pat)(p_w:Sl Sound):Option ((Nat->Int)×Int):=
 (W8 N p_p).bind fun y1=>
 if (y1 != 0) then
  some (fun _=>0,y1)
 else
  if (decide (32<(p_w.n:Int))) then
   some (fun _=>0,11)
  else
   (B5 N p_w (fun (u1:Sound)=>S2 N u1)).bind fun y2=>
   if y2 then
    some (fun _=>0,14)
   else
    (Av N p_p).bind fun y3=>
    (Aw N y3 p_w).bind fun y4=>
    some (y4,0)
theorem IS {N:Nat}{p_p:Pat}{p_w:Sl Sound}{y:(Nat->Int)×Int}(h:Z3 N p_p p_w=some y) :FunO S IJ [.p (.agg (B1 p_p)),.p (vSl 2 A0 p_w)] [] (.tup [.p (.agg (cA 33 (pI .u64) y.1)),pN y.2]) ([]) []:=by
 unfold Z3 at h;refine A1 hS Rm ?_;refine kC hS h (Gf hS hL) (fun y1 h=>?_);refine kI hS h (fun h=>?_) (fun h=>?_)
 ·obtain rfl:=B7 h;exact A6 hS (And.intro rfl (F2 _ _):(0:Nat)=0/\(Cy 33 (fun i=>pI .u64 ((fun _=>0) i))).length=33) ⟨[(5,pN y1),(4,.reg 5000 0)],[(5000,.arr 33 (fun i=>pI .u64 ((fun _=>0) i)))]⟩ [] (ids:=[(5000,5000)]) ⟨rfl,rfl,rfl⟩ (hle:=klR [(1,.fn 33 33 (fun i=>[(fun i=>(cA 33 (pI .u64) (fun _=>0)).getD i default) i]) (fun i=>[pI .u64 ((fun _=>0) i)]))] (al1 ⟨rfl,E2 33 (fun i=>pI .u64 ((fun _=>0) i))⟩ al0))
 ·refine kI hS h (fun h=>?_) (fun h=>?_)
  ·obtain rfl:=B7 h;exact A6 hS (And.intro rfl (F2 _ _):(0:Nat)=0/\(Cy 33 (fun i=>pI .u64 ((fun _=>0) i))).length=33) ⟨[(5,pN 11),(4,.reg 5000 0)],[(5000,.arr 33 (fun i=>pI .u64 ((fun _=>0) i)))]⟩ [] (ids:=[(5000,5000)]) ⟨rfl,rfl,rfl⟩ (hle:=klR [(1,.fn 33 33 (fun i=>[(fun i=>(cA 33 (pI .u64) (fun _=>0)).getD i default) i]) (fun i=>[pI .u64 ((fun _=>0) i)]))] (al1 ⟨rfl,E2 33 (fun i=>pI .u64 ((fun _=>0) i))⟩ al0))
  ·refine kC hS h (H8 hS hL (fun e=>Nf hS hL e)) (fun y2 h=>?_);refine kI hS h (fun h=>?_) (fun h=>?_)
   ·obtain rfl:=B7 h;exact A6 hS (And.intro rfl (F2 _ _):(0:Nat)=0/\(Cy 33 (fun i=>pI .u64 ((fun _=>0) i))).length=33) ⟨[(5,pN 14),(4,.reg 5000 0)],[(5000,.arr 33 (fun i=>pI .u64 ((fun _=>0) i)))]⟩ [] (ids:=[(5000,5000)]) ⟨rfl,rfl,rfl⟩ (hle:=klR [(1,.fn 33 33 (fun i=>[(fun i=>(cA 33 (pI .u64) (fun _=>0)).getD i default) i]) (fun i=>[pI .u64 ((fun _=>0) i)]))] (al1 ⟨rfl,E2 33 (fun i=>pI .u64 ((fun _=>0) i))⟩ al0))
   ·refine kC hS h (OA hS hL) (fun y3 h=>?_);obtain⟨y4,e4,h⟩:=B6 h;refine Ll hS trivial (Ak9 hS hL e4) ?_;obtain rfl:=B7 h;exact A6 hS (And.intro rfl (F2 _ _):(0:Nat)=0/\(Cy 33 (fun i=>pI .u64 (y4 i))).length=33) ⟨[(5,pN 0),(4,.reg 5000 0)],[(5000,.arr 33 (fun i=>pI .u64 (y4 i)))]⟩ [] (ids:=[(5000,5000)]) ⟨rfl,rfl,rfl⟩ (hle:=klR [(1,.fn 33 33 (fun i=>[(fun i=>(cA 33 (pI .u64) y4).getD i default) i]) (fun i=>[pI .u64 (y4 i)]))] (al1 ⟨rfl,E2 33 (fun i=>pI .u64 (y4 i))⟩ al0))
def By (N:Nat)(p_p:Pat)(p_w:Sl Sound)(p_end:Int):Option ((Sl Int)×Int):=
 (Z3 N p_p p_w).bind fun y1=>
 lt (fun (z1:Int)=>
  if (z1 != 0) then
   some ((Sl.nil:Sl Int),z1)
  else
   S4 N (fun self1 (x2:Sl Int) (x3:Int)=>
    if (decide (x3<(wrap .i64 ((p_w.n:Int)+1)))) then
     if ((((0:Int)<=x3/\x3<33)/\(0+x3.toNat*1)<33)/\(0:Int)<=p_end)then
      if ((E4 .and .u64 (shI .shr .u64 (y1.1 (0+x3.toNat*1)) p_end) 1)==1) then
       if ((x2.n+(Sl.of [x3]:Sl Int).n)*8<=140737488355328/\x2.n+(Sl.of [x3]:Sl Int).n<=140737488355328)then
        self1 (x2.push x3) (wrap .i64 (x3+1))
       else none
      else
       self1 x2 (wrap .i64 (x3+1))
     else none
    else
     some (x2,0)
    ) (Sl.nil:Sl Int) 0
  ) fun k1=>
  if (y1.2==0) then
   (Z0 N p_w p_end).bind fun y3=>
   k1 y3
  else
   k1 y1.2
theorem Rz {N:Nat}{p_p:Pat}{p_w:Sl Sound}{p_end:Int}{y:(Sl Int)×Int}(h:By N p_p p_w p_end=some y) :FunO S II [.p (.agg (B1 p_p)),.p (vSl 2 A0 p_w),pN p_end] [] (.tup [.vec 0,pN y.2]) ([.vec B9 1 y.1.n (fun i=>cI .i64 (y.1.g i)) true]) []:=by
 unfold By at h;refine A1 hS Rl ?_;refine kC hS h (IS hS hL) (fun y1 h=>?_);refine FM hS (And.intro rfl (F2 _ _):(0:Nat)=0/\(Cy 33 (fun i=>pI .u64 (y1.1 i))).length=33) (A3 hS) h 0 (fun z1=>⟨[(9,pN z1),(8,.reg 9000 0),(2,pN p_end),(1,.p (vSl 2 A0 p_w))],[(9000,.arr 33 (fun i=>pI .u64 (y1.1 i)))]⟩) (fun M1 k1 hb1 h=>?_) (fun z1 h=>?_)
 ·refine kI hS h (fun h=>?_) (fun h=>?_)
  ·refine kC hS h (IQ hS hL) (fun y3 h=>?_);exact hb1 _ [(9000,9000)] _ y3 trivial h (hle:=klR [(3,.fn 33 33 (fun i=>[(fun i=>(cA 33 (pI .u64) y1.1).getD i default) i]) (fun i=>[pI .u64 (y1.1 i)]))] (al1 ⟨rfl,E2 33 (fun i=>pI .u64 (y1.1 i))⟩ al0))
  ·exact hb1 _ [(9000,9000)] _ y1.2 trivial h (hle:=klR [(3,.fn 33 33 (fun i=>[(fun i=>(cA 33 (pI .u64) y1.1).getD i default) i]) (fun i=>[pI .u64 (y1.1 i)]))] (al1 ⟨rfl,E2 33 (fun i=>pI .u64 (y1.1 i))⟩ al0))
 ·refine kI hS h (fun h=>?_) (fun h=>?_)
  ·obtain rfl:=B7 h;exact A6 hS trivial ⟨[(7,pN z1),(6,.vec 7700)],[(7700,.vec B9 1 (Sl.nil:Sl Int).n (fun i=>cI .i64 ((Sl.nil:Sl Int).g i)) true)]⟩ [7700] (ids:=[]) ⟨rfl,rfl,rfl⟩
  ·refine F5 hS trivial h (fun x2 x3=>⟨[(29,pN x3),(28,pN (wrap .i64 ((p_w.n:Int)+1))),(10,.vec 11500),(8,.reg 9000 0),(2,pN p_end)],[(11500,.vec B9 1 x2.n (fun i=>cI .i64 (x2.g i)) false),(9000,.arr 33 (fun i=>pI .u64 (y1.1 i)))]⟩) (ids:=[(9000,9000)]) (fun _ _ _ _ _ self1 x2 x3 hb2 h=>?_);refine kI hS h (fun h=>?_) (fun h=>?_)
   ·obtain⟨c12,h⟩:=D2 h;refine D3 hS c12 (b:=(E4 .and .u64 (shI .shr .u64 (y1.1 (0+x3.toNat*1)) p_end) 1)==1) (fun c13=>?_) (fun c13=>?_)
    ·replace h:=itT c13 h;obtain⟨c14,h⟩:=D2 h;exact hb2 _ [(9000,9000),(11500,43000)] _ (x2.push x3) (wrap .i64 (x3+1)) (And.intro (rfl:true=true) c14) h (hle:=klR [(3,.fn (x2.n+1) (x2.push x3).n (R4 x2.n (fun i=>cI .i64 (x2.g i)) (D4 [pI .i64 0] [(0,cI .i64 x3)])) (fun i=>cI .i64 ((x2.push x3).g i)))] (al1 ⟨rfl,Er (c:=cI .i64) (v:=x2) (x:=x3) (z:=[(pI .i64 0)]) same rfl rfl⟩ al0))
    ·replace h:=itF c13 h;exact hb2 _ [(9000,9000),(11500,11500)] _ x2 (wrap .i64 (x3+1)) trivial h
   ·obtain rfl:=B7 h;exact A6 hS trivial ⟨[(7,pN 0),(6,.vec 11500)],[(11500,.vec B9 1 x2.n (fun i=>cI .i64 (x2.g i)) true)]⟩ [11500] (ids:=[(11500,11500)]) ⟨rfl,rfl,rfl⟩
def G5 (N:Nat)(p_seq:List (Int)):Option (Sl Int):=
 P4 p_seq (fun self1 (x1:Int) (z1:Sl Int)=>
  if ((z1.n+(Sl.of [x1]:Sl Int).n)*8<=140737488355328/\z1.n+(Sl.of [x1]:Sl Int).n<=140737488355328)then
   self1 (z1.push x1)
  else none
  ) (fun (z1:Sl Int)=>
   some z1
  ) (Sl.nil:Sl Int)
theorem Cr {N:Nat}{p_seq:List (Int)}{p_seq_0:Int}{kp_seq:Nat}(fp_seq:∃fn,AY2[kp_seq]? = some fn/\fn.body.isSome=true/\(fn.name == "runtime.NumGoroutine")=false)(hp_seq:Dx S kp_seq [] [.reg 0 0] [(.cells [(.p (pI .u64 p_seq_0))])] (p_seq.map (fun (x:Int)=>[(pI .i64) x]))){y:(Sl Int)}(h:G5 N p_seq=some y) :FunO S H1 [(.p J2),(.clo kp_seq [] [(.reg 0 0)])] [(.cells [(.p (pI .u64 p_seq_0))])] (.vec 0) ([(.vec B9 1 y.n (fun i=>(cI .i64) (y.g i)) true)]) [false]:=by
 unfold G5 at h;refine A1 hS K9 ?_;refine Ir hS trivial fp_seq [0] [2] 901 (fun z1=>⟨[(2,(.reg 3000 0))],[(3500,(.vec B9 1 z1.n (fun i=>(cI .i64) (z1.g i)) false)),(3000,(.cells [(.vec 3500)]))]⟩) (idl:=[(3000,3000)]) h hp_seq (fun _=>by kernel_rfl) (fun _=>by kernel_rfl) (fun _=>by kernel_rfl) (fun _=>by kernel_rfl) (fun x1 _ self1 z1 hb1 h=>?_) (fun z1 h=>?_)
 ·refine HL hS trivial ?_;obtain⟨c1,h⟩:=D2 h;exact hb1 _ [(901,901),(3000,3000),(3500,12000)] _ (z1.push x1) (And.intro (rfl:true=true) c1) h (hle:=klR [(0,.fn (z1.n+1) (z1.push x1).n (R4 z1.n (fun i=>(cI .i64) (z1.g i)) (D4 [(pI .i64 0)] [(0,(cI .i64) x1)])) (fun i=>(cI .i64) ((z1.push x1).g i)))] (al1 ⟨rfl,(Er (c:=(cI .i64)) (v:=z1) (x:=x1) (z:=[(pI .i64 0)]) same rfl rfl)⟩ al0))
 ·obtain rfl:=B7 h;exact A6 hS trivial ⟨[(4,(.vec 3500))],[(3500,(.vec B9 1 z1.n (fun i=>(cI .i64) (z1.g i)) true))]⟩ [3500] (ids:=[(3500,3500)]) ⟨rfl,rfl,rfl⟩
def J9 (N:Nat)(p_seq:List (Int)):Option (Sl Int):=
 (G5 N p_seq).bind fun y1=>
 some y1
theorem Gg {N:Nat}{p_seq:List (Int)}{p_seq_0:Int}{kp_seq:Nat}(fp_seq:∃fn,AY2[kp_seq]? = some fn/\fn.body.isSome=true/\(fn.name == "runtime.NumGoroutine")=false)(hp_seq:Dx S kp_seq [] [.reg 0 0] [(.cells [(.p (pI .u64 p_seq_0))])] (p_seq.map (fun (x:Int)=>[(pI .i64) x]))){y:(Sl Int)}(h:J9 N p_seq=some y) :FunO S R7 [(.clo kp_seq [] [(.reg 0 0)])] [(.cells [(.p (pI .u64 p_seq_0))])] (.vec 0) ([(.vec B9 1 y.n (fun i=>(cI .i64) (y.g i)) true)]) [false]:=by unfold J9 at h;refine A1 hS Ab ?_;obtain⟨y1,e1,h⟩:=B6 h;refine B8 hS [0] trivial (Cr hS hL fp_seq hp_seq e1) ?_;obtain rfl:=B7 h;exact A6 hS trivial ⟨[(2,(.vec 5000))],[(5000,(.vec B9 1 y1.n (fun i=>(cI .i64) (y1.g i)) true))]⟩ [5000] (ids:=[(5000,5000)]) ⟨rfl,rfl,rfl⟩
def Dt (N:Nat)(p_p:Pat)(p_w:Sl Sound)(p_at:Int):Option ((Sl Int)×Int):=
 (Z3 N p_p p_w).bind fun y1=>
 lt (fun (z1:Int)=>
  if (z1 != 0) then
   some ((Sl.nil:Sl Int),z1)
  else
   if (((0:Int)<=p_at/\p_at<33)/\(0+p_at.toNat*1)<33)then
    (At N (y1.1 (0+p_at.toNat*1))).bind fun y4=>
    (P8 N y4).bind fun L1=>
    (J9 N L1).bind fun y5=>
    some (y5,0)
   else none
  ) fun k1=>
  if (y1.2==0) then
   (Z0 N p_w p_at).bind fun y3=>
   k1 y3
  else
   k1 y1.2
theorem Wy {N:Nat}{p_p:Pat}{p_w:Sl Sound}{p_at:Int}{y:(Sl Int)×Int}(h:Dt N p_p p_w p_at=some y) :FunO S ML [.p (.agg (B1 p_p)),.p (vSl 2 A0 p_w),pN p_at] [] (.tup [.vec 0,pN y.2]) ([.vec B9 1 y.1.n (fun i=>cI .i64 (y.1.g i)) true]) []:=by
 unfold Dt at h;refine A1 hS Wb ?_;refine kC hS h (IS hS hL) (fun y1 h=>?_);refine FM hS (And.intro rfl (F2 _ _):(0:Nat)=0/\(Cy 33 (fun i=>pI .u64 (y1.1 i))).length=33) (A3 hS) h 0 (fun z1=>⟨[(9,pN z1),(8,.reg 9000 0),(2,pN p_at)],[(9000,.arr 33 (fun i=>pI .u64 (y1.1 i)))]⟩) (fun M1 k1 hb1 h=>?_) (fun z1 h=>?_)
 ·refine kI hS h (fun h=>?_) (fun h=>?_)
  ·refine kC hS h (IQ hS hL) (fun y3 h=>?_);exact hb1 _ [(9000,9000)] _ y3 trivial h (hle:=klR [(2,.fn 33 33 (fun i=>[(fun i=>(cA 33 (pI .u64) y1.1).getD i default) i]) (fun i=>[pI .u64 (y1.1 i)]))] (al1 ⟨rfl,E2 33 (fun i=>pI .u64 (y1.1 i))⟩ al0))
  ·exact hb1 _ [(9000,9000)] _ y1.2 trivial h (hle:=klR [(2,.fn 33 33 (fun i=>[(fun i=>(cA 33 (pI .u64) y1.1).getD i default) i]) (fun i=>[pI .u64 (y1.1 i)]))] (al1 ⟨rfl,E2 33 (fun i=>pI .u64 (y1.1 i))⟩ al0))
 ·refine kI hS h (fun h=>?_) (fun h=>?_)
  ·obtain rfl:=B7 h;exact A6 hS trivial ⟨[(7,pN z1),(6,.vec 7700)],[(7700,.vec B9 1 (Sl.nil:Sl Int).n (fun i=>cI .i64 ((Sl.nil:Sl Int).g i)) true)]⟩ [7700] (ids:=[]) ⟨rfl,rfl,rfl⟩
  ·obtain⟨c5,h⟩:=D2 h;obtain⟨y4,e4,h⟩:=B6 h;refine B8 hS [] c5 (DW hS hL e4) ?_;obtain⟨L1,e5,h⟩:=B6 h;obtain⟨y5,e6,h⟩:=B6 h;refine B8 hS [28000] trivial (Gg hS hL ⟨_,Fu,by decide +kernel,by decide +kernel⟩ (CB hS hL e5) e6) ?_;obtain rfl:=B7 h;exact A6 hS trivial ⟨[(7,pN 0),(6,.vec 29000)],[(29000,.vec B9 1 y5.n (fun i=>cI .i64 (y5.g i)) true)]⟩ [29000] (ids:=[(29000,29000)]) ⟨rfl,rfl,rfl⟩
end Go.AM
namespace Go.AM
open IntKind (wrap)
open Go.Proofs
set_option maxRecDepth 10000
set_option maxHeartbeats 2000000
variable {S:Bd}(hS:G6 S Tryz.prog) (hL:RY S)
include hS hL
def BW (N:Nat)(p_s:Str):Option Bool:=
 lt (fun (z1:Bool)=>
  some z1
  ) fun k1=>
  if ((p_s==[]) != true) then
   if (decide ((p_s.length:Int)<=24)) then
    (DV N p_s [97,98,99,100,101,102,103,104,105,106,107,108,109,110,111,112,113,114,115,116,117,118,119,120,121,122,65,66,67,68,69,70,71,72,73,74,75,76,77,78,79,80,81,82,83,84,85,86,87,88,89,90,48,49,50,51,52,53,54,55,56,57,45]).bind fun y2=>
    k1 ((y2==[]) != false)
   else
    k1 false
  else
   k1 false
theorem Wz {N:Nat}{p_s:Str}{y:Bool}(h:BW N p_s=some y) :FunO S Mz [.p (.str p_s)] [] (pB y) ([]) []:=by
 unfold BW at h;refine A1 hS VQ ?_;refine FM hS trivial (A3 hS) h 0 (fun z1=>⟨[(2,pB z1)],[]⟩) (fun M1 k1 hb1 h=>?_) (fun z1 h=>?_)
 ·refine kG hS h (fun h=>?_) (fun h=>?_)
  ·refine kG hS h (fun h=>?_) (fun h=>?_)
   ·refine kC hS h (Ov hS hL) (fun y2 h=>?_);exact hb1 _ [] _ ((y2==[]) != false) trivial h
   ·exact hb1 _ [] _ false trivial h
  ·exact hb1 _ [] _ false trivial h
 ·cases h;exact kR hS
def U1 (N:Nat)(p_x:Bj)(p_k:Int):Option Bool:=
 lt (fun (z1:Bool)=>
  if z1 then
   some false
  else
   if ((((E4 .andNot .u32 (E4 .or .u32 p_x.Clear p_x.Take) 16777215) != 0)||((E4 .and .u32 p_x.Clear (E4 .or .u32 p_x.Set.Plus p_x.Set.Minus)) != 0))||((E4 .and .u32 p_x.Take (E4 .or .u32 (E4 .or .u32 p_x.Set.Plus p_x.Set.Minus) p_x.Clear)) != 0)) then
    some false
   else
    if (p_x.Take==0) then
     some (p_x.Of==0)
    else
     some ((decide (0<=p_x.Of))&&(decide (p_x.Of<p_k)))
  ) fun k1=>
  if (decide (p_x.From<(-1))) then
   k1 true
  else
   if (decide (p_k<=p_x.From)) then
    k1 true
   else
    (G1 N p_x.Set).bind fun y2=>
    k1 (!y2)
theorem Aa0 {N:Nat}{p_x:Bj}{p_k:Int}{y:Bool}(h:U1 N p_x p_k=some y) :FunO S PD [.p (.agg (O7 p_x)),pN p_k] [] (pB y) ([]) []:=by
 unfold U1 at h;refine A1 hS ZA ?_;refine FM hS trivial (A3 hS) h 0 (fun z1=>⟨[(13,pB z1),(5,pU (E4 .or .u32 p_x.Set.Plus p_x.Set.Minus)),(2,.reg 3000 0),(1,pN p_k)],[(3000,.cells ((O7 p_x).map .p))]⟩) (fun M1 k1 hb1 h=>?_) (fun z1 h=>?_)
 ·refine kG hS h (fun h=>?_) (fun h=>?_)
  ·exact hb1 _ [(3000,3000)] _ true trivial h
  ·refine kG hS h (fun h=>?_) (fun h=>?_)
   ·exact hb1 _ [(3000,3000)] _ true trivial h
   ·refine kC hS h (Q2 hS hL) (fun y2 h=>?_);exact hb1 _ [(3000,3000)] _ (!y2) trivial h
 ·refine kI hS h (fun h=>?_) (fun h=>?_)
  ·cases h;exact kR hS
  ·refine kB hS (A3 hS) trivial trivial 16 (.o (.o (.a ((E4 .andNot .u32 (E4 .or .u32 p_x.Clear p_x.Take) 16777215) != 0)) (.a ((E4 .and .u32 p_x.Clear (E4 .or .u32 p_x.Set.Plus p_x.Set.Minus)) != 0))) (.a ((E4 .and .u32 p_x.Take (E4 .or .u32 (E4 .or .u32 p_x.Set.Plus p_x.Set.Minus) p_x.Clear)) != 0))) ?_;refine kI hS h (fun h=>?_) (fun h=>?_)
   ·cases h;exact kR hS
   ·refine kI hS h (fun h=>?_) (fun h=>?_)
    ·cases h;exact kR hS
    ·refine kB hS (A3 hS) trivial trivial 5 (.n (.a (decide (0<=p_x.Of))) (.a (decide (p_x.Of<p_k)))) ?_;cases h;exact kR hS
def Z4 (N:Nat)(p_x:Bj)(q0:Int):Option Bool:=
 (U1 N p_x q0).bind fun y1=>
 some (!y1)
theorem RA {N:Nat}{p_x:Bj}{q0:Int}{y:Bool}(h:Z4 N p_x q0=some y) :FunO S IC [.p (.agg (O7 p_x)),.reg 0 0] [.cells [pN q0]] (pB y) ([.cells [pN q0]]) [true]:=by unfold Z4 at h;refine A1 hS Rf ?_;refine kC hS h (Aa0 hS hL) (fun y1 h=>?_);obtain rfl:=B7 h;exact A6 hS trivial ⟨[(3,pB (!y1))],[(0,.cells [pN q0])]⟩ [0] (ids:=[(0,0)]) ⟨rfl,rfl,rfl⟩
def Z5 (N:Nat)(p_s:Sound):Option Bool:=
 (G1 N p_s).bind fun y1=>
 some (!y1)
theorem RB {N:Nat}{p_s:Sound}{y:Bool}(h:Z5 N p_s=some y) :FunO S ID [.p (.agg (A0 p_s))] [] (pB y) ([]) []:=by unfold Z5 at h;refine A1 hS Rg ?_;refine kC hS h (Q2 hS hL) (fun y1 h=>?_);cases h;exact kR hS
def E7 (N:Nat)(p_s:Sl Bj)(p_f:Bj->Option Bool):Option Int:=
 R5 N (fun self1 (x1:Int)=>
  if (decide (x1<(p_s.n:Int))) then
   if ((0:Int)<=x1/\x1<(p_s.n:Int))then
    (p_f (p_s.g x1.toNat)).bind fun y3=>
    if y3 then
     some x1
    else
     self1 (wrap .i64 (x1+1))
   else none
  else
   some (-1)
  ) 0
theorem Ah {N:Nat}{p_s:Sl Bj}{p_f:Bj->Option Bool}{p_f_0:Int}{kp_f:Nat}(hp_f:∀{a0:Bj}{b:Bool},p_f a0=some b->FunO S kp_f [.p (.agg (O7 a0)),.reg 0 0] [.cells [pN p_f_0]] (pB b) [.cells [pN p_f_0]] [true]){y:Int}(h:E7 N p_s p_f=some y) :FunO S N3 [.p (vSl 6 O7 p_s),.clo kp_f [] [.reg 0 0]] [.cells [pN p_f_0]] (pN y) ([.cells [pN p_f_0]]) [true]:=by
 unfold E7 at h;refine A1 hS Ae ?_;refine G7 hS trivial h (fun x1=>⟨[(8,pN x1),(7,pN (p_s.n:Int)),(1,.clo kp_f [] [.reg 0 0]),(0,.p (vSl 6 O7 p_s))],[(0,.cells [pN p_f_0])]⟩) (ids:=[(0,0)]) (fun _ _ _ _ _ self1 x1 hb1 h=>?_);refine kI hS h (fun h=>?_) (fun h=>?_)
 ·obtain⟨c8,h⟩:=D2 h;obtain⟨y3,e3,h⟩:=B6 h;refine B8 hS [0] (And.intro c8 (by decide:(6:Nat)<=6)) (hp_f e3) ?_;refine kI hS h (fun h=>?_) (fun h=>?_)
  ·obtain rfl:=B7 h;exact A6 hS trivial ⟨[(4,pN x1)],[(0,.cells [pN p_f_0])]⟩ [0] (ids:=[(0,0)]) ⟨rfl,rfl,rfl⟩
  ·exact hb1 _ [(0,0)] _ (wrap .i64 (x1+1)) trivial h
 ·obtain rfl:=B7 h;exact A6 hS trivial ⟨[(4,pN (-1))],[(0,.cells [pN p_f_0])]⟩ [0] (ids:=[(0,0)]) ⟨rfl,rfl,rfl⟩
def C7 (N:Nat)(p_s:Sl Bj)(p_f:Bj->Option Bool):Option Bool:=
 (E7 N p_s p_f).bind fun y1=>
 some (decide (0<=y1))
theorem V4 {N:Nat}{p_s:Sl Bj}{p_f:Bj->Option Bool}{p_f_0:Int}{kp_f:Nat}(hp_f:∀{a0:Bj}{b:Bool},p_f a0=some b->FunO S kp_f [.p (.agg (O7 a0)),.reg 0 0] [.cells [pN p_f_0]] (pB b) [.cells [pN p_f_0]] [true]){y:Bool}(h:C7 N p_s p_f=some y) :FunO S J5 [.p (vSl 6 O7 p_s),.clo kp_f [] [.reg 0 0]] [.cells [pN p_f_0]] (pB y) ([.cells [pN p_f_0]]) [true]:=by unfold C7 at h;refine A1 hS V2 ?_;obtain⟨y1,e1,h⟩:=B6 h;refine B8 hS [0] trivial (Ah hS hL (fun e=>hp_f e) e1) ?_;obtain rfl:=B7 h;exact A6 hS trivial ⟨[(4,pB (decide (0<=y1)))],[(0,.cells [pN p_f_0])]⟩ [0] (ids:=[(0,0)]) ⟨rfl,rfl,rfl⟩
def W9 (N:Nat)(p_l:Law):Option Int:=
 (BW N p_l.Name).bind fun y1=>
 if (!y1) then
  some 17
 else
  (W8 N p_l.Left).bind fun y2=>
  if (y2 != 0) then
   some 17
  else
   (W8 N p_l.Right).bind fun y3=>
   if (y3 != 0) then
    some 17
   else
    if (decide (4<(p_l.If.n:Int))) then
     some 17
    else
     if (decide (6<(p_l.Out.n:Int))) then
      some 17
     else
      if ((wrap .i64 ((p_l.If.n:Int)+(p_l.Out.n:Int)))==0) then
       some 17
      else
       if ((decide (p_l.Mode<1))||(decide (3<p_l.Mode))) then
        some 17
       else
        (B5 N p_l.If (fun (u1:Sound)=>Z5 N u1)).bind fun y4=>
        if y4 then
         some 17
        else
         (C7 N p_l.Out (fun (u2:Bj)=>Z4 N u2 (p_l.If.n:Int))).bind fun y5=>
         if y5 then
          some 17
         else
          some 0
theorem HO {N:Nat}{p_l:Law}{y:Int}(h:W9 N p_l=some y) :FunO S Mq [.p (.agg (A5 p_l))] [] (pN y) ([]) []:=by
 unfold W9 at h;refine A1 hS VH ?_;refine kC hS h (Wz hS hL) (fun y1 h=>?_);refine D3 hS trivial (b:=!y1) (fun c1=>?_) (fun c1=>?_)
 ·replace h:=itT c1 h;refine D3 hS trivial (b:=!y1) (fun c2=>?_) (fun c2=>?_)
  ·cases h;exact kR hS
  ·exact Bool.noConfusion (c1.symm.trans c2)
 ·replace h:=itF c1 h;refine kC hS h (Gf hS hL) (fun y2 h=>?_);refine D3 hS trivial (b:=y2 != 0) (fun c3=>?_) (fun c3=>?_)
  ·replace h:=itT c3 h;refine D3 hS trivial (b:=y2 != 0) (fun c4=>?_) (fun c4=>?_)
   ·cases h;exact kR hS
   ·exact Bool.noConfusion (c3.symm.trans c4)
  ·replace h:=itF c3 h;refine kC hS h (Gf hS hL) (fun y3 h=>?_);refine D3 hS trivial (b:=y3 != 0) (fun c5=>?_) (fun c5=>?_)
   ·replace h:=itT c5 h;refine D3 hS trivial (b:=y3 != 0) (fun c6=>?_) (fun c6=>?_)
    ·cases h;exact kR hS
    ·exact Bool.noConfusion (c5.symm.trans c6)
   ·replace h:=itF c5 h;refine D3 hS trivial (b:=decide (4<(p_l.If.n:Int))) (fun c7=>?_) (fun c7=>?_)
    ·replace h:=itT c7 h;refine D3 hS trivial (b:=decide (4<(p_l.If.n:Int))) (fun c8=>?_) (fun c8=>?_)
     ·cases h;exact kR hS
     ·exact Bool.noConfusion (c7.symm.trans c8)
    ·replace h:=itF c7 h;refine D3 hS trivial (b:=decide (6<(p_l.Out.n:Int))) (fun c9=>?_) (fun c9=>?_)
     ·replace h:=itT c9 h;refine D3 hS trivial (b:=decide (6<(p_l.Out.n:Int))) (fun c10=>?_) (fun c10=>?_)
      ·cases h;exact kR hS
      ·exact Bool.noConfusion (c9.symm.trans c10)
     ·replace h:=itF c9 h;refine D3 hS trivial (b:=(wrap .i64 ((p_l.If.n:Int)+(p_l.Out.n:Int)))==0) (fun c11=>?_) (fun c11=>?_)
      ·replace h:=itT c11 h;refine D3 hS trivial (b:=(wrap .i64 ((p_l.If.n:Int)+(p_l.Out.n:Int)))==0) (fun c12=>?_) (fun c12=>?_)
       ·cases h;exact kR hS
       ·exact Bool.noConfusion (c11.symm.trans c12)
      ·replace h:=itF c11 h;refine kB hS (A3 hS) trivial trivial 4 (.o (.a (decide (p_l.Mode<1))) (.a (decide (3<p_l.Mode)))) ?_;refine D3 hS trivial (b:=(decide (p_l.Mode<1))||(decide (3<p_l.Mode))) (fun c13=>?_) (fun c13=>?_)
       ·replace h:=itT c13 h;refine D3 hS trivial (b:=(decide (p_l.Mode<1))||(decide (3<p_l.Mode))) (fun c14=>?_) (fun c14=>?_)
        ·cases h;exact kR hS
        ·exact Bool.noConfusion (c13.symm.trans c14)
       ·replace h:=itF c13 h;refine kC hS h (H8 hS hL (fun e=>RB hS hL e)) (fun y4 h=>?_);refine D3 hS trivial (b:=y4) (fun c15=>?_) (fun c15=>?_)
        ·replace h:=itT c15 h;refine D3 hS trivial (b:=y4) (fun c16=>?_) (fun c16=>?_)
         ·cases h;exact kR hS
         ·exact Bool.noConfusion (c15.symm.trans c16)
        ·replace h:=itF c15 h;obtain⟨y5,e5,h⟩:=B6 h;refine B8 hS [4000] trivial (V4 hS hL (fun e=>RA hS hL e) e5) ?_;refine kI hS h (fun h=>?_) (fun h=>?_)
         ·cases h;exact kR hS
         ·cases h;exact kR hS
def Fd (N:Nat)(p_l:Law)(p_w:Sl Sound):Option Int:=
 (W9 N p_l).bind fun y1=>
 if (y1 != 0) then
  some y1
 else
  (N9 N p_w).bind fun y2=>
  some y2
theorem WA {N:Nat}{p_l:Law}{p_w:Sl Sound}{y:Int}(h:Fd N p_l p_w=some y) :FunO S MH [.p (.agg (A5 p_l)),.p (vSl 2 A0 p_w)] [] (pN y) ([]) []:=by
 unfold Fd at h;refine A1 hS VX ?_;refine kC hS h (HO hS hL) (fun y1 h=>?_);refine kI hS h (fun h=>?_) (fun h=>?_)
 ·cases h;exact kR hS
 ·refine kC hS h (DL hS hL) (fun y2 h=>?_);cases h;exact kR hS
def U2 (N:Nat)(p_at:Int)(q0:Law)(q1:Sl Sound):Option Bool:=
 (By N q0.Left q1 p_at).bind fun y1=>
 if ((y1.1.n:Int)==0) then
  some false
 else
  (Dt N q0.Right q1 (wrap .i64 (p_at+(q0.If.n:Int)))).bind fun y2=>
  some (decide (0<(y2.1.n:Int)))
theorem OB {N:Nat}{p_at:Int}{q0:Law}{q1:Sl Sound}{y:Bool}(h:U2 N p_at q0 q1=some y) :FunO S U0 [pN p_at,.reg 0 0,.reg 1 0] [.cells ((A5 q0).map .p),.cells [.p (vSl 2 A0 q1)]] (pB y) ([.cells ((A5 q0).map .p),.cells [.p (vSl 2 A0 q1)]]) [true,true]:=by
 unfold U2 at h;refine A1 hS Oq ?_;refine kC hS h (Rz hS hL) (fun y1 h=>?_);refine kI hS h (fun h=>?_) (fun h=>?_)
 ·obtain rfl:=B7 h;exact A6 hS trivial ⟨[(4,pB false)],[(1,.cells [.p (vSl 2 A0 q1)]),(0,.cells ((A5 q0).map .p))]⟩ [0,1] (ids:=[(0,0),(1,1)]) ⟨rfl,rfl,rfl⟩
 ·refine kC hS h (Wy hS hL) (fun y2 h=>?_);obtain rfl:=B7 h;exact A6 hS trivial ⟨[(4,pB (decide (0<(y2.1.n:Int))))],[(1,.cells [.p (vSl 2 A0 q1)]),(0,.cells ((A5 q0).map .p))]⟩ [0,1] (ids:=[(0,0),(1,1)]) ⟨rfl,rfl,rfl⟩
def Gh (N:Nat)(p_l:Law)(p_w:Sl Sound):Option (Law×(Sl Sound)):=
 some (p_l,p_w)
theorem Ub {N:Nat}{p_l:Law}{p_w:Sl Sound}{y:Law×(Sl Sound)}(h:Gh N p_l p_w=some y) :FunO S Kw [.p (.agg (A5 p_l)),.p (vSl 2 A0 p_w)] [] (.clo U0 [] [.reg 0 0,.reg 1 0]) ([.cells ((A5 y.1).map .p),.cells [.p (vSl 2 A0 y.2)]]) []:=by unfold Gh at h;refine A1 hS TE ?_;obtain rfl:=B7 h;exact A6 hS trivial ⟨[(4,.clo U0 [] [.reg 3000 0,.reg 4000 0])],[(4000,.cells [.p (vSl 2 A0 p_w)]),(3000,.cells ((A5 p_l).map .p))]⟩ [3000,4000] (ids:=[(3000,3000),(4000,4000)]) ⟨rfl,rfl,rfl⟩
def N5 (N:Nat)(p_l:Law)(p_cut:Sl Sound):Option (Sl Sound):=
 S4 N (fun self1 (x1:Sl Sound) (x2:Int)=>
  if (decide (x2<(p_l.Out.n:Int))) then
   if ((0:Int)<=x2/\x2<(p_l.Out.n:Int))then
    if ((decide (0<=(p_l.Out.g x2.toNat).From))=true->((0:Int)<=(p_l.Out.g x2.toNat).From/\(p_l.Out.g x2.toNat).From<(p_cut.n:Int)))then
     (N8 N (⟨(if (decide (0<=(p_l.Out.g x2.toNat).From)) then (p_cut.g (p_l.Out.g x2.toNat).From.toNat).Plus else 0),(if (decide (0<=(p_l.Out.g x2.toNat).From)) then (p_cut.g (p_l.Out.g x2.toNat).From.toNat).Minus else 0)⟩:Sound) (p_l.Out.g x2.toNat).Clear (p_l.Out.g x2.toNat).Set).bind fun y5=>
     if ((p_l.Out.g x2.toNat).Take != 0) then
      if ((0:Int)<=(p_l.Out.g x2.toNat).Of/\(p_l.Out.g x2.toNat).Of<(p_cut.n:Int))then
       (S7 N y5.1 (p_cut.g (p_l.Out.g x2.toNat).Of.toNat) (p_l.Out.g x2.toNat).Take).bind fun y6=>
       if ((x1.n+(Sl.of [y6.1]:Sl Sound).n)*8<=140737488355328/\x1.n+(Sl.of [y6.1]:Sl Sound).n<=140737488355328)then
        self1 (x1.push y6.1) (wrap .i64 (x2+1))
       else none
      else none
     else
      if ((x1.n+(Sl.of [y5.1]:Sl Sound).n)*8<=140737488355328/\x1.n+(Sl.of [y5.1]:Sl Sound).n<=140737488355328)then
       self1 (x1.push y5.1) (wrap .i64 (x2+1))
      else none
    else none
   else none
  else
   some x1
  ) (Sl.nil:Sl Sound) 0
theorem Uc {N:Nat}{p_l:Law}{p_cut:Sl Sound}{y:Sl Sound}(h:N5 N p_l p_cut=some y) :FunO S Tz [.p (.agg (A5 p_l)),.p (vSl 2 A0 p_cut)] [] (.p (vSl 2 A0 y)) ([]) []:=by
 unfold N5 at h;refine A1 hS Ak0 ?_;refine J3 hS trivial 4 3000 (A5 p_l) ?_;refine F5 hS trivial h (fun x1 x2=>⟨[(12,pN x2),(11,pN (p_l.Out.n:Int)),(10,.p (vSl 6 O7 p_l.Out)),(5,.vec 6500),(1,.p (vSl 2 A0 p_cut))],[(6500,.vec A9 2 x1.n (fun i=>A0 (x1.g i)) false)]⟩) (ids:=[]) (fun _ _ _ _ _ self1 x1 x2 hb3 h=>?_);refine kI hS h (fun h=>?_) (fun h=>?_)
 ·obtain⟨c16,h⟩:=D2 h;refine J3 hS (And.intro c16 (by decide:(6:Nat)<=6)) 8 8000 (O7 (p_l.Out.g x2.toNat)) ?_;obtain⟨c18,h⟩:=D2 h;obtain⟨t5,ht5⟩:∃x:Int,x=(if (decide (0<=(p_l.Out.g x2.toNat).From)) then (p_cut.g (p_l.Out.g x2.toNat).From.toNat).Plus else 0):=⟨_,rfl⟩;obtain⟨t6,ht6⟩:∃x:Int,x=(if (decide (0<=(p_l.Out.g x2.toNat).From)) then (p_cut.g (p_l.Out.g x2.toNat).From.toNat).Minus else 0):=⟨_,rfl⟩;refine SV hS trivial (A3 hS) 0 ⟨[(12,pN x2),(11,pN (p_l.Out.n:Int)),(10,.p (vSl 6 O7 p_l.Out)),(8,.reg 9000 0),(7,.p (.ptr (O7 (p_l.Out.g x2.toNat)))),(5,.vec 6500),(1,.p (vSl 2 A0 p_cut))],[(9000,.cells [pU t5,pU t6]),(6500,.vec A9 2 x1.n (fun i=>A0 (x1.g i)) false)]⟩ (fun M3 hb4=>?_) ?_
  ·refine D3 hS trivial (b:=decide (0<=(p_l.Out.g x2.toNat).From)) (fun c19=>?_) (fun c19=>?_)
   ·exact hb4 _ [(6500,6500),(9000,9000)] _ (And.intro (c18 c19) (by decide:(2:Nat)<=2)) (hle:=klR [(5,.eq (pI .u32 (p_cut.g (p_l.Out.g x2.toNat).From.toNat).Plus) (pI .u32 t5)),(6,.eq (pI .u32 (p_cut.g (p_l.Out.g x2.toNat).From.toNat).Minus) (pI .u32 t6))] (al1 (by simp only[ht5,ht6,c19,Leaf.ok,pm,if_true,if_false]) (al1 (by simp only[ht5,ht6,c19,Leaf.ok,pm,if_true,if_false]) al0)))
   ·exact hb4 _ [(6500,6500),(9000,9000)] _ trivial (hle:=klR [(5,.eq (pI .u32 0) (pI .u32 t5)),(6,.eq (pI .u32 0) (pI .u32 t6))] (al1 (by simp only[ht5,ht6,c19,Leaf.ok,pm,if_true,if_false]) (al1 (by simp only[ht5,ht6,c19,Leaf.ok,pm,if_true,if_false]) al0)))
  ·subst ht6;subst ht5;obtain⟨y5,e5,h⟩:=B6 h;refine B8 hS [] (by decide:(2:Nat)<=4) (Ow hS hL e5) ?_;refine kI hS h (fun h=>?_) (fun h=>?_)
   ·refine D7 hS trivial [3,4,5,7,8] ?_;obtain⟨c21,h⟩:=D2 h;obtain⟨y6,e6,h⟩:=B6 h;refine U6 (And.intro c21 (by decide:(2:Nat)<=2)) (TR hS hL e6) ?_;refine H5 trivial ?_;obtain⟨c22,h⟩:=D2 h;exact hb3 _ [(6500,52000)] _ (x1.push y6.1) (wrap .i64 (x2+1)) (And.intro (rfl:true=true) c22) h (hle:=klR [(4,.fn (x1.n+1) (x1.push y6.1).n (R4 x1.n (fun i=>A0 (x1.g i)) (D4 [pI .u32 0,pI .u32 0] [(0,A0 y6.1)])) (fun i=>A0 ((x1.push y6.1).g i)))] (al1 ⟨rfl,Er (c:=A0) (v:=x1) (x:=y6.1) (z:=[(pI .u32 0),pI .u32 0]) same rfl rfl⟩ al0))
   ·obtain⟨c23,h⟩:=D2 h;exact hb3 _ [(6500,52000)] _ (x1.push y5.1) (wrap .i64 (x2+1)) (And.intro (rfl:true=true) c23) h (hle:=klR [(4,.fn (x1.n+1) (x1.push y5.1).n (R4 x1.n (fun i=>A0 (x1.g i)) (D4 [pI .u32 0,pI .u32 0] [(0,A0 y5.1)])) (fun i=>A0 ((x1.push y5.1).g i)))] (al1 ⟨rfl,Er (c:=A0) (v:=x1) (x:=y5.1) (z:=[(pI .u32 0),pI .u32 0]) same rfl rfl⟩ al0))
 ·obtain rfl:=B7 h;exact A6 hS trivial ⟨[(4,.p (vSl 2 A0 x1))],[]⟩ [] (ids:=[]) ⟨rfl,rfl,rfl⟩
def B0 (N:Nat)(p_slices:Sl (Sl Sound)):Option (Sl Sound):=
 S4 N (fun self1 (x1:Int) (x2:Int)=>
  if (decide (x2<(p_slices.n:Int))) then
   if ((0:Int)<=x2/\x2<(p_slices.n:Int))then
    if (decide ((wrap .i64 (x1+((p_slices.g x2.toNat).n:Int)))<0)) then
     none
    else
     self1 (wrap .i64 (x1+((p_slices.g x2.toNat).n:Int))) (wrap .i64 (x2+1))
   else none
  else
   (G9 N x1).bind fun y1=>
   S4 N (fun self2 (x3:Sl Sound) (x4:Int)=>
    if (decide (x4<(p_slices.n:Int))) then
     if (((0:Int)<=x4/\x4<(p_slices.n:Int))/\((x3.n+(p_slices.g x4.toNat).n)*8<=140737488355328/\x3.n+(p_slices.g x4.toNat).n<=140737488355328))then
      self2 (x3.app (p_slices.g x4.toNat)) (wrap .i64 (x4+1))
     else none
    else
     some x3
    ) y1 0
  ) 0 0
theorem K8 {N:Nat}{p_slices:Sl (Sl Sound)}{y:Sl Sound}(h:B0 N p_slices=some y) :FunO S K6 [.p (vSl 1 (cL 2 A0) p_slices)] [] (.vec 0) ([.vec A9 2 y.n (fun i=>A0 (y.g i)) true]) []:=by
 unfold B0 at h;refine A1 hS Y7 ?_;refine F5 hS trivial h (fun x1 x2=>⟨[(11,pN x2),(10,pN (p_slices.n:Int)),(9,.p (vSl 1 (cL 2 A0) p_slices)),(3,pN x1),(0,.p (vSl 1 (cL 2 A0) p_slices))],[]⟩) (ids:=[]) (fun _ _ _ _ _ self1 x1 x2 hb1 h=>?_);refine kI hS h (fun h=>?_) (fun h=>?_)
 ·obtain⟨c8,h⟩:=D2 h;refine D3 hS c8 (b:=decide ((wrap .i64 (x1+((p_slices.g x2.toNat).n:Int)))<0)) (fun c9=>?_) (fun c9=>?_)
  ·replace h:=itT c9 h;cases h
  ·replace h:=itF c9 h;exact hb1 _ [] _ (wrap .i64 (x1+((p_slices.g x2.toNat).n:Int))) (wrap .i64 (x2+1)) trivial h
 ·refine kC hS h (Ap hS hL) (fun y1 h=>?_);refine F5 hS trivial h (fun x3 x4=>⟨[(27,pN x4),(26,pN (p_slices.n:Int)),(25,.p (vSl 1 (cL 2 A0) p_slices)),(6,.vec 7500)],[(7500,.vec A9 2 x3.n (fun i=>A0 (x3.g i)) false)]⟩) (ids:=[(7500,25000)]) (fun _ _ _ _ _ self2 x3 x4 hb2 h=>?_);refine kI hS h (fun h=>?_) (fun h=>?_)
  ·obtain⟨c13,h⟩:=D2 h;exact hb2 _ [(7500,34000)] _ (x3.app (p_slices.g x4.toNat)) (wrap .i64 (x4+1)) c13 h (hle:=klR [(3,.fn (x3.n+(p_slices.g x4.toNat).n) (x3.app (p_slices.g x4.toNat)).n (R4 x3.n (fun i=>A0 (x3.g i)) (fun i=>A0 ((p_slices.g x4.toNat).g i))) (fun i=>A0 ((x3.app (p_slices.g x4.toNat)).g i)))] (al1 ⟨rfl,Vr (c:=A0) (v:=x3) (w:=p_slices.g x4.toNat) same rfl same rfl⟩ al0))
  ·obtain rfl:=B7 h;exact A6 hS trivial ⟨[(2,.vec 7500)],[(7500,.vec A9 2 x3.n (fun i=>A0 (x3.g i)) true)]⟩ [7500] (ids:=[(7500,7500)]) ⟨rfl,rfl,rfl⟩
def Q5 (N:Nat)(p_l:Law)(p_w:Sl Sound)(p_at:Int):Option (Sl Sound):=
 if (((0:Int)<=p_at/\p_at<=(p_w.n:Int))/\((0:Int)<=p_at/\p_at<=(wrap .i64 (p_at+(p_l.If.n:Int)))/\(wrap .i64 (p_at+(p_l.If.n:Int)))<=(p_w.n:Int)))then
  (N5 N p_l (p_w.sub p_at.toNat (wrap .i64 (p_at+(p_l.If.n:Int))).toNat)).bind fun y1=>
  if ((0:Int)<=(wrap .i64 (p_at+(p_l.If.n:Int)))/\(wrap .i64 (p_at+(p_l.If.n:Int)))<=(p_w.n:Int))then
   (B0 N (Sl.of [p_w.take p_at.toNat,y1,p_w.drop (wrap .i64 (p_at+(p_l.If.n:Int))).toNat]:Sl (Sl Sound))).bind fun y2=>
   some y2
  else none
 else none
theorem IT {N:Nat}{p_l:Law}{p_w:Sl Sound}{p_at:Int}{y:Sl Sound}(h:Q5 N p_l p_w p_at=some y) :FunO S IG [.p (.agg (A5 p_l)),.p (vSl 2 A0 p_w),pN p_at] [] (.vec 0) ([.vec A9 2 y.n (fun i=>A0 (y.g i)) true]) []:=by unfold Q5 at h;refine A1 hS Rj ?_;refine J3 hS trivial 6 4000 (A5 p_l) ?_;refine D7 hS trivial [3,8] ?_;obtain⟨c1,h⟩:=D2 h;obtain⟨y1,e1,h⟩:=B6 h;refine U6 (And.intro (And.intro c1.1 (by decide:(18:Nat)<=18)) c1.2) (Uc hS hL e1) ?_;obtain⟨c2,h⟩:=D2 h;refine EN c2 (x:=.sl true 1 3 (D4 [J2] [(0,cL 2 A0 (p_w.take p_at.toNat)),(1,cL 2 A0 y1),(2,cL 2 A0 (p_w.drop (wrap .i64 (p_at+(p_l.If.n:Int))).toNat))])) ?_;obtain⟨y2,e2,h⟩:=B6 h;refine GX [] trivial (FunO.le hS (args:=[.p (.sl true 1 3 (D4 [J2] [(0,cL 2 A0 (p_w.take p_at.toNat)),(1,cL 2 A0 y1),(2,cL 2 A0 (p_w.drop (wrap .i64 (p_at+(p_l.If.n:Int))).toNat))]))]) (by exact⟨Xm rfl (fun i hi=>match i,hi with|0,_=>rfl|1,_=>rfl|2,_=>rfl|_+3,hi=>absurd hi (by omega)),trivial⟩) (K8 hS hL e2)) ?_;refine H5 trivial ?_;obtain rfl:=B7 h;exact A6 hS trivial ⟨[(6,.vec 27000)],[(27000,.vec A9 2 y2.n (fun i=>A0 (y2.g i)) true)]⟩ [27000] (ids:=[(27000,27000)]) ⟨rfl,rfl,rfl⟩
def X0 (N:Nat)(q0:Law)(q1:Sl Sound)(q2:Int):Option (List (Int)):=
 (Gh N q0 q1).bind fun y1=>
 R5 N (fun self3 (x2:Int)=>
  if (decide ((wrap .i64 (x2+(q0.If.n:Int)))<=(q1.n:Int))) then
   R5 N (fun self4 (x4:Int)=>
    if (decide (x4<(q0.If.n:Int))) then
     if ((0:Int)<=x4/\x4<(q0.If.n:Int))then
      if ((0:Int)<=(wrap .i64 (x2+x4))/\(wrap .i64 (x2+x4))<(q1.n:Int))then
       (J1 N (q1.g (wrap .i64 (x2+x4)).toNat) (q0.If.g x4.toNat)).bind fun y12=>
       if (!y12) then
        self3 (wrap .i64 (x2+1))
       else
        self4 (wrap .i64 (x4+1))
      else none
     else none
    else
     (U2 N x2 y1.1 y1.2).bind fun y13=>
     if y13 then
      Be x2 (
       self3 (wrap .i64 (x2+1))
       )
     else
      self3 (wrap .i64 (x2+1))
    ) 0
  else
   some []
  ) q2
theorem KB {N:Nat}{q0:Law}{q1:Sl Sound}{q2:Int}{L:List (Int)}(h:X0 N q0 q1 q2=some L) :Dx S DI [] [.reg 0 0,.reg 1 0,.reg 2 0] [.cells ((A5 q0).map .p),.cells [.p (vSl 2 A0 q1)],.cells [pN q2]] (L.map (fun (x:Int)=>[pI .i64 x])):=by
 unfold X0 at h;refine EP hS TD ?_;refine kC hS h (Ub hS hL) (fun y1 h=>?_);refine EO hS trivial h (fun x2 L1=>⟨[(6,pN x2),(5,.clo U0 [] [.reg 12000 0,.reg 12001 0]),(2,.reg 1 0),(1,.reg 0 0),(0,.yf 3)],[(12001,.cells [.p (vSl 2 A0 y1.2)]),(12000,.cells ((A5 y1.1).map .p)),(3,.yld (L1.map (fun (x:Int)=>[pI .i64 x])) true),(2,.cells [pN q2]),(1,.cells [.p (vSl 2 A0 q1)]),(0,.cells ((A5 q0).map .p))]⟩) (ids:=[(0,0),(1,1),(2,2),(3,3),(12000,12000),(12001,12001)]) (fun _ _ _ _ _ self3 x2 L1 hb3 h=>?_);refine kI hS h (fun h=>?_) (fun h=>?_)
 ·refine EO hS trivial h (fun x4 L8=>⟨[(26,pN x4),(25,pN (q0.If.n:Int)),(24,.p (vSl 2 A0 q0.If)),(6,pN x2),(5,.clo U0 [] [.reg 12000 0,.reg 12001 0]),(2,.reg 1 0),(1,.reg 0 0),(0,.yf 3)],[(12001,.cells [.p (vSl 2 A0 y1.2)]),(12000,.cells ((A5 y1.1).map .p)),(3,.yld (L8.map (fun (x:Int)=>[pI .i64 x])) true),(2,.cells [pN q2]),(1,.cells [.p (vSl 2 A0 q1)]),(0,.cells ((A5 q0).map .p))]⟩) (ids:=[(0,0),(1,1),(2,2),(3,3),(12000,12000),(12001,12001)]) (fun _ _ _ _ _ self4 x4 L8 hb4 h=>?_);refine kI hS h (fun h=>?_) (fun h=>?_)
  ·obtain⟨c47,h⟩:=D2 h;refine Aw2 hS (And.intro c47 (by decide:(2:Nat)<=2)) 9000 [pI .u32 (q0.If.g x4.toNat).Plus,pI .u32 (q0.If.g x4.toNat).Minus] ?_;refine D7 hS trivial [4,5,6,7] ?_;obtain⟨c48,h⟩:=D2 h;obtain⟨y12,e12,h⟩:=B6 h;refine U6 (And.intro (And.intro c48 (by decide:(2:Nat)<=2)) (by decide:(2:Nat)<=2)) (JG hS hL e12) ?_;refine H5 trivial ?_;refine kI hS h (fun h=>?_) (fun h=>?_)
   ·exact hb3 _ [(0,0),(1,1),(2,2),(3,3),(12000,12000),(12001,12001)] _ (wrap .i64 (x2+1)) L8 trivial h
   ·exact hb4 _ [(0,0),(1,1),(2,2),(3,3),(12000,12000),(12001,12001)] _ (wrap .i64 (x4+1)) L8 trivial h
  ·obtain⟨y13,e13,h⟩:=B6 h;refine B8 hS [12000,12001] trivial (OB hS hL e13) ?_;refine kG hS h (fun h=>?_) (fun h=>?_)
   ·obtain⟨L10,rfl,hcL10⟩:=Ma h;replace h:=hcL10;refine Dh hS trivial (ys:=(fun (x:Int)=>[pI .i64 x]) x2) (rest:=L10.map (fun (x:Int)=>[pI .i64 x])) ?_ ?_
    ·refine D3 hS trivial (b:=false) (fun c53=>?_) (fun c53=>?_)
     ·exact Bool.noConfusion ((rfl:false=false).symm.trans c53)
     ·exact hb3 _ [(0,0),(1,1),(2,2),(3,3),(12000,12000),(12001,12001)] _ (wrap .i64 (x2+1)) L10 trivial h
    ·refine D3 hS trivial (b:=true) (fun c54=>?_) (fun c54=>?_)
     ·exact A6 hS trivial (a:=.tup []) (objs:=[(.cells ((A5 q0).map .p)),.cells [.p (vSl 2 A0 q1)],.cells [pN q2],.yld [] false]) ⟨[],[(3,.yld [] false),(2,.cells [pN q2]),(1,.cells [.p (vSl 2 A0 q1)]),(0,.cells ((A5 q0).map .p))]⟩ [0,1,2,3] (ids:=[(0,0),(1,1),(2,2),(3,3)]) ⟨false,rfl,rfl,_,rfl⟩
     ·exact Bool.noConfusion ((rfl:true=true).symm.trans c54)
   ·exact hb3 _ [(0,0),(1,1),(2,2),(3,3),(12000,12000),(12001,12001)] _ (wrap .i64 (x2+1)) L8 trivial h
 ·obtain rfl:=B7 h;exact A6 hS trivial (a:=.tup []) (objs:=[(.cells ((A5 q0).map .p)),.cells [.p (vSl 2 A0 q1)],.cells [pN q2],.yld [] true]) ⟨[],[(3,.yld [] true),(2,.cells [pN q2]),(1,.cells [.p (vSl 2 A0 q1)]),(0,.cells ((A5 q0).map .p))]⟩ [0,1,2,3] (ids:=[(0,0),(1,1),(2,2),(3,3)]) ⟨true,rfl,rfl,_,rfl⟩
def GF (N:Nat)(p_l:Law)(p_w:Sl Sound)(p_from:Int):Option (Law×(Sl Sound)×Int):=
 some (p_l,p_w,p_from)
theorem PX {N:Nat}{p_l:Law}{p_w:Sl Sound}{p_from:Int}{y:Law×(Sl Sound)×Int}(h:GF N p_l p_w p_from=some y) :FunO S PK [.p (.agg (A5 p_l)),.p (vSl 2 A0 p_w),pN p_from] [] (.clo DI [] [.reg 0 0,.reg 1 0,.reg 2 0]) ([.cells ((A5 y.1).map .p),.cells [.p (vSl 2 A0 y.2.1)],.cells [pN y.2.2]]) []:=by unfold GF at h;refine A1 hS ZH ?_;obtain rfl:=B7 h;exact A6 hS trivial ⟨[(6,.clo DI [] [.reg 4000 0,.reg 5000 0,.reg 6000 0])],[(6000,.cells [pN p_from]),(5000,.cells [.p (vSl 2 A0 p_w)]),(4000,.cells ((A5 p_l).map .p))]⟩ [4000,5000,6000] (ids:=[(4000,4000),(5000,5000),(6000,6000)]) ⟨rfl,rfl,rfl⟩
def Cs (N:Nat)(p_l:Law)(p_w:Sl Sound)(p_at:Int):Option Bool:=
 (GF N p_l p_w p_at).bind fun y1=>
 (X0 N y1.1 y1.2.1 y1.2.2).bind fun L1=>
 P4 L1 (fun self1 (x1:Int) (_:Unit)=>
  some (x1==p_at)
  ) (fun (_:Unit)=>
   some false
  ) ()
theorem Ud {N:Nat}{p_l:Law}{p_w:Sl Sound}{p_at:Int}{y:Bool}(h:Cs N p_l p_w p_at=some y) :FunO S TA [.p (.agg (A5 p_l)),.p (vSl 2 A0 p_w),pN p_at] [] (pB y) ([]) []:=by
 unfold Cs at h;refine A1 hS Ak1 ?_;refine kC hS h (PX hS hL) (fun y1 h=>?_);obtain⟨L1,e2,h⟩:=B6 h;refine FO hS trivial [12000,12001,12002] [6,5] 901 (fun _=>⟨[(6,.reg 7000 0),(5,.reg 6000 0)],[(7000,.cells [.p (.v (.bool false))]),(6000,.cells [pN p_at])]⟩) (idl:=[(6000,6000),(7000,7000)]) h (KB hS hL e2) (fun _=>by kernel_rfl) (fun _=>by kernel_rfl) (fun _=>by kernel_rfl) (fun _=>by kernel_rfl) (fun x1 _ self1 _ hb1 h=>?_) (fun _ h=>?_)
 ·refine HL hS trivial ?_;refine Lk hS trivial ⟨[(6,.reg 7000 0),(5,.reg 6000 0)],[(7000,.cells [pB (x1==p_at)]),(6000,.cells [pN p_at])]⟩ (ids:=[(901,901),(6000,6000),(7000,7000)]) ?_;cases h;exact kR hS
 ·cases h;exact kR hS
def BX (N:Nat)(q0:Sl Sound)(q1:Law)(q2:Int)(q3:Int):Option (List (Int×(Sl Sound))):=
 if (q1.Mode==1) then
  (GF N q1 q0 0).bind fun y1=>
  (X0 N y1.1 y1.2.1 y1.2.2).bind fun L1=>
  P4 L1 (fun self1 (x1:Int) (z1:(Sl Sound)×Int×Int)=>
   if (decide (x1<z1.2.1)) then
    self1 (z1.1,z1.2.1,z1.2.2)
   else
    if (((0:Int)<=(wrap .i64 (x1+z1.2.2))/\(wrap .i64 (x1+z1.2.2))<=(z1.1.n:Int))/\((0:Int)<=x1/\x1<=(wrap .i64 (x1+q2))/\(wrap .i64 (x1+q2))<=(q0.n:Int)))then
     (N5 N q1 (q0.sub x1.toNat (wrap .i64 (x1+q2)).toNat)).bind fun y6=>
     if ((0:Int)<=(wrap .i64 (x1+q2))/\(wrap .i64 (x1+q2))<=(q0.n:Int))then
      (B0 N (Sl.of [z1.1.take (wrap .i64 (x1+z1.2.2)).toNat,y6,q0.drop (wrap .i64 (x1+q2)).toNat]:Sl (Sl Sound))).bind fun y7=>
      Be (x1,y7) (
       self1 (y7,wrap .i64 (x1+(if q2<1 then 1 else q2)),wrap .i64 ((wrap .i64 (z1.2.2+q3))-q2))
       )
     else none
    else none
   ) (fun (z1:(Sl Sound)×Int×Int)=>
    some []
   ) (q0,0,0)
 else
  if (q1.Mode==2) then
   S4 N (fun self2 (x5:Sl Sound) (x6:Int)=>
    if (decide ((wrap .i64 (x6+q2))<=(x5.n:Int))) then
     (Cs N q1 x5 x6).bind fun y12=>
     if (!y12) then
      self2 x5 (wrap .i64 (x6+1))
     else
      (Q5 N q1 x5 x6).bind fun y13=>
      Be (x6,y13) (
       if (q2==0) then
        self2 y13 (wrap .i64 ((wrap .i64 (x6+q3))+1))
       else
        self2 y13 (wrap .i64 (x6+q3))
       )
    else
     some []
    ) q0 0
  else
   if (q1.Mode==3) then
    S4 N (fun self3 (x7:Sl Sound) (x8:Int)=>
     if (decide (0<=x8)) then
      (Cs N q1 x7 x8).bind fun y18=>
      if (!y18) then
       self3 x7 (wrap .i64 (x8-1))
      else
       (Q5 N q1 x7 x8).bind fun y19=>
       Be (x8,y19) (
        self3 y19 (wrap .i64 (x8-(if q2<1 then 1 else q2)))
        )
     else
      some []
     ) q0 (wrap .i64 ((q0.n:Int)-q2))
   else
    some []
theorem WB {N:Nat}{q0:Sl Sound}{q1:Law}{q2:Int}{q3:Int}{L:List (Int×(Sl Sound))}(h:BX N q0 q1 q2 q3=some L) :Dx S ET [] [.reg 0 0,.reg 1 0,.reg 2 0,.reg 3 0] [.cells [.p (vSl 2 A0 q0)],.cells ((A5 q1).map .p),.cells [pN q2],.cells [pN q3]] (L.map (fun (x:Int×(Sl Sound))=>[pI .i64 x.1,vSl 2 A0 x.2])):=by
 unfold BX at h;refine EP hS Wa ?_;refine kI hS h (fun h=>?_) (fun h=>?_)
 ·refine kC hS h (PX hS hL) (fun y1 h=>?_);obtain⟨L1,e2,h⟩:=B6 h;refine Aw1 hS trivial [20000,20001,20002] [8,7,6,5,4,3,2,1] 900 (fun z1 L2=>⟨[(8,.reg 9000 0),(7,.reg 8000 0),(6,.reg 7000 0),(5,.reg 6000 0),(4,.reg 3 0),(3,.reg 2 0),(2,.reg 1 0),(1,.reg 0 0)],[(9000,.cells [pN z1.2.2]),(8000,.cells [pN z1.2.1]),(7000,.cells [.p (vSl 2 A0 z1.1)]),(6000,.cells [.yf 4]),(4,.yld (L2.map (fun (x:Int×(Sl Sound))=>[pI .i64 x.1,vSl 2 A0 x.2])) true),(3,.cells [pN q3]),(2,.cells [pN q2]),(1,.cells ((A5 q1).map .p)),(0,.cells [.p (vSl 2 A0 q0)])]⟩) (idl:=[(0,0),(1,1),(2,2),(3,3),(4,4),(6000,6000),(7000,7000),(8000,8000),(9000,9000)]) h (KB hS hL e2) (fun _=>by kernel_rfl) (fun _ _=>by kernel_rfl) (fun _ _=>by kernel_rfl) (fun _ _=>by kernel_rfl) (fun x1 _ self1 z1 L2 hb1 h=>?_) (fun z1 L2 h=>?_)
  ·refine HL hS trivial ?_;refine kI hS h (fun h=>?_) (fun h=>?_)
   ·exact hb1 _ [(0,0),(1,1),(2,2),(3,3),(4,4),(900,900),(6000,6000),(7000,7000),(8000,8000),(9000,9000)] _ (z1.1,z1.2.1,z1.2.2) L2 trivial h
   ·refine U7 hS trivial [(0,.l [7000]),(2,.l [9000]),(5,.l [1]),(6,.l [0]),(9,.l [2]),(12,.n),(13,.l [0]),(15,.l [2]),(20,.a [7000])] ?_;obtain⟨c13,h⟩:=D2 h;obtain⟨y6,e7,h⟩:=B6 h;refine U6 c13 (Uc hS hL e7) ?_;obtain⟨c14,h⟩:=D2 h;refine EN c14 (x:=.sl true 1 3 (D4 [J2] [(0,cL 2 A0 (z1.1.take (wrap .i64 (x1+z1.2.2)).toNat)),(1,cL 2 A0 y6),(2,cL 2 A0 (q0.drop (wrap .i64 (x1+q2)).toNat))])) ?_;obtain⟨y7,e8,h⟩:=B6 h;refine GX [] trivial (FunO.le hS (args:=[.p (.sl true 1 3 (D4 [J2] [(0,cL 2 A0 (z1.1.take (wrap .i64 (x1+z1.2.2)).toNat)),(1,cL 2 A0 y6),(2,cL 2 A0 (q0.drop (wrap .i64 (x1+q2)).toNat))]))]) (by exact⟨Xm rfl (fun i hi=>match i,hi with|0,_=>rfl|1,_=>rfl|2,_=>rfl|_+3,hi=>absurd hi (by omega)),trivial⟩) (K8 hS hL e8)) ?_;refine H5 trivial ?_;obtain⟨L5,rfl,hcL5⟩:=Ma h;replace h:=hcL5;refine Dh hS trivial (ys:=(fun (x:Int×(Sl Sound))=>[pI .i64 x.1,vSl 2 A0 x.2]) (x1,y7)) (rest:=L5.map (fun (x:Int×(Sl Sound))=>[pI .i64 x.1,vSl 2 A0 x.2])) ?_ ?_
    ·refine D3 hS trivial (b:=false) (fun c15=>?_) (fun c15=>?_)
     ·exact Bool.noConfusion ((rfl:false=false).symm.trans c15)
     ·refine U7 hS trivial [(1,.l [2]),(4,.l [9000]),(5,.l [3]),(7,.l [2]),(9,.a [8000]),(10,.a [9000])] ?_;refine H5 trivial ?_;exact hb1 _ [(0,0),(1,1),(2,2),(3,3),(4,4),(900,900),(6000,6000),(7000,7000),(8000,8000),(9000,9000)] _ (y7,wrap .i64 (x1+(if q2<1 then 1 else q2)),wrap .i64 ((wrap .i64 (z1.2.2+q3))-q2)) L5 trivial h
    ·refine D3 hS trivial (b:=true) (fun c16=>?_) (fun c16=>?_)
     ·refine Lk hS trivial ⟨[(8,.reg 9000 0),(7,.reg 8000 0),(6,.reg 7000 0),(5,.reg 6000 0),(4,.reg 3 0),(3,.reg 2 0),(2,.reg 1 0),(1,.reg 0 0)],[(44000,.vec A9 2 y7.n (fun i=>A0 (y7.g i)) true),(9000,.cells [pN z1.2.2]),(8000,.cells [pN z1.2.1]),(7000,.cells [.vec 44000]),(6000,.cells [.yf 4]),(4,.yld [] false),(3,.cells [pN q3]),(2,.cells [pN q2]),(1,.cells ((A5 q1).map .p)),(0,.cells [.p (vSl 2 A0 q0)])]⟩ (ids:=[(0,0),(1,1),(2,2),(3,3),(4,4),(900,900),(6000,6000),(7000,7000),(8000,8000),(9000,9000),(44000,44000)]) ?_;exact A6 hS trivial (a:=.tup []) (objs:=[(.cells [.p (vSl 2 A0 q0)]),.cells ((A5 q1).map .p),.cells [pN q2],.cells [pN q3],.yld [] false]) ⟨[],[(4,.yld [] false),(3,.cells [pN q3]),(2,.cells [pN q2]),(1,.cells ((A5 q1).map .p)),(0,.cells [.p (vSl 2 A0 q0)])]⟩ [0,1,2,3,4] (ids:=[(0,0),(1,1),(2,2),(3,3),(4,4)]) ⟨false,rfl,rfl,_,rfl⟩
     ·exact Bool.noConfusion ((rfl:true=true).symm.trans c16)
  ·obtain rfl:=B7 h;exact A6 hS trivial (a:=.tup []) (objs:=[(.cells [.p (vSl 2 A0 q0)]),.cells ((A5 q1).map .p),.cells [pN q2],.cells [pN q3],.yld [] true]) ⟨[],[(4,.yld [] true),(3,.cells [pN q3]),(2,.cells [pN q2]),(1,.cells ((A5 q1).map .p)),(0,.cells [.p (vSl 2 A0 q0)])]⟩ [0,1,2,3,4] (ids:=[(0,0),(1,1),(2,2),(3,3),(4,4)]) ⟨true,rfl,rfl,_,rfl⟩
 ·refine kI hS h (fun h=>?_) (fun h=>?_)
  ·refine QU hS trivial h (fun x5 x6 L6=>⟨[(10,pN x6),(6,.reg 7000 0),(5,.reg 6000 0),(4,.reg 3 0),(3,.reg 2 0),(2,.reg 1 0)],[(7000,.cells [.p (vSl 2 A0 x5)]),(6000,.cells [.yf 4]),(4,.yld (L6.map (fun (x:Int×(Sl Sound))=>[pI .i64 x.1,vSl 2 A0 x.2])) true),(3,.cells [pN q3]),(2,.cells [pN q2]),(1,.cells ((A5 q1).map .p)),(0,.cells [.p (vSl 2 A0 q0)])]⟩) (ids:=[(0,0),(1,1),(2,2),(3,3),(4,4),(6000,6000),(7000,7000)]) (fun _ _ _ _ _ self2 x5 x6 L6 hb2 h=>?_);refine kI hS h (fun h=>?_) (fun h=>?_)
   ·refine kC hS h (Ud hS hL) (fun y12 h=>?_);refine kI hS h (fun h=>?_) (fun h=>?_)
    ·exact hb2 _ [(0,0),(1,1),(2,2),(3,3),(4,4),(6000,6000),(7000,7000)] _ x5 (wrap .i64 (x6+1)) L6 trivial h
    ·refine kC hS h (IT hS hL) (fun y13 h=>?_);obtain⟨L9,rfl,hcL9⟩:=Ma h;replace h:=hcL9;refine Dh hS trivial (ys:=(fun (x:Int×(Sl Sound))=>[pI .i64 x.1,vSl 2 A0 x.2]) (x6,y13)) (rest:=L9.map (fun (x:Int×(Sl Sound))=>[pI .i64 x.1,vSl 2 A0 x.2])) ?_ ?_
     ·refine D3 hS trivial (b:=false) (fun c30=>?_) (fun c30=>?_)
      ·exact Bool.noConfusion ((rfl:false=false).symm.trans c30)
      ·refine kI hS h (fun h=>?_) (fun h=>?_)
       ·exact hb2 _ [(0,0),(1,1),(2,2),(3,3),(4,4),(6000,6000),(7000,7000)] _ y13 (wrap .i64 ((wrap .i64 (x6+q3))+1)) L9 trivial h
       ·exact hb2 _ [(0,0),(1,1),(2,2),(3,3),(4,4),(6000,6000),(7000,7000)] _ y13 (wrap .i64 (x6+q3)) L9 trivial h
     ·refine D3 hS trivial (b:=true) (fun c32=>?_) (fun c32=>?_)
      ·exact A6 hS trivial (a:=.tup []) (objs:=[(.cells [.p (vSl 2 A0 q0)]),.cells ((A5 q1).map .p),.cells [pN q2],.cells [pN q3],.yld [] false]) ⟨[],[(4,.yld [] false),(3,.cells [pN q3]),(2,.cells [pN q2]),(1,.cells ((A5 q1).map .p)),(0,.cells [.p (vSl 2 A0 q0)])]⟩ [0,1,2,3,4] (ids:=[(0,0),(1,1),(2,2),(3,3),(4,4)]) ⟨false,rfl,rfl,_,rfl⟩
      ·exact Bool.noConfusion ((rfl:true=true).symm.trans c32)
   ·obtain rfl:=B7 h;exact A6 hS trivial (a:=.tup []) (objs:=[(.cells [.p (vSl 2 A0 q0)]),.cells ((A5 q1).map .p),.cells [pN q2],.cells [pN q3],.yld [] true]) ⟨[],[(4,.yld [] true),(3,.cells [pN q3]),(2,.cells [pN q2]),(1,.cells ((A5 q1).map .p)),(0,.cells [.p (vSl 2 A0 q0)])]⟩ [0,1,2,3,4] (ids:=[(0,0),(1,1),(2,2),(3,3),(4,4)]) ⟨true,rfl,rfl,_,rfl⟩
  ·refine kI hS h (fun h=>?_) (fun h=>?_)
   ·refine QU hS trivial h (fun x7 x8 L10=>⟨[(11,pN x8),(6,.reg 7000 0),(5,.reg 6000 0),(3,.reg 2 0),(2,.reg 1 0)],[(7000,.cells [.p (vSl 2 A0 x7)]),(6000,.cells [.yf 4]),(4,.yld (L10.map (fun (x:Int×(Sl Sound))=>[pI .i64 x.1,vSl 2 A0 x.2])) true),(3,.cells [pN q3]),(2,.cells [pN q2]),(1,.cells ((A5 q1).map .p)),(0,.cells [.p (vSl 2 A0 q0)])]⟩) (ids:=[(0,0),(1,1),(2,2),(3,3),(4,4),(6000,6000),(7000,7000)]) (fun _ _ _ _ _ self3 x7 x8 L10 hb3 h=>?_);refine kI hS h (fun h=>?_) (fun h=>?_)
    ·refine kC hS h (Ud hS hL) (fun y18 h=>?_);refine kI hS h (fun h=>?_) (fun h=>?_)
     ·exact hb3 _ [(0,0),(1,1),(2,2),(3,3),(4,4),(6000,6000),(7000,7000)] _ x7 (wrap .i64 (x8-1)) L10 trivial h
     ·refine kC hS h (IT hS hL) (fun y19 h=>?_);obtain⟨L13,rfl,hcL13⟩:=Ma h;replace h:=hcL13;refine Dh hS trivial (ys:=(fun (x:Int×(Sl Sound))=>[pI .i64 x.1,vSl 2 A0 x.2]) (x8,y19)) (rest:=L13.map (fun (x:Int×(Sl Sound))=>[pI .i64 x.1,vSl 2 A0 x.2])) ?_ ?_
      ·refine D3 hS trivial (b:=false) (fun c44=>?_) (fun c44=>?_)
       ·exact Bool.noConfusion ((rfl:false=false).symm.trans c44)
       ·exact hb3 _ [(0,0),(1,1),(2,2),(3,3),(4,4),(6000,6000),(7000,7000)] _ y19 (wrap .i64 (x8-(if q2<1 then 1 else q2))) L13 trivial h
      ·refine D3 hS trivial (b:=true) (fun c45=>?_) (fun c45=>?_)
       ·exact A6 hS trivial (a:=.tup []) (objs:=[(.cells [.p (vSl 2 A0 q0)]),.cells ((A5 q1).map .p),.cells [pN q2],.cells [pN q3],.yld [] false]) ⟨[],[(4,.yld [] false),(3,.cells [pN q3]),(2,.cells [pN q2]),(1,.cells ((A5 q1).map .p)),(0,.cells [.p (vSl 2 A0 q0)])]⟩ [0,1,2,3,4] (ids:=[(0,0),(1,1),(2,2),(3,3),(4,4)]) ⟨false,rfl,rfl,_,rfl⟩
       ·exact Bool.noConfusion ((rfl:true=true).symm.trans c45)
    ·obtain rfl:=B7 h;exact A6 hS trivial (a:=.tup []) (objs:=[(.cells [.p (vSl 2 A0 q0)]),.cells ((A5 q1).map .p),.cells [pN q2],.cells [pN q3],.yld [] true]) ⟨[],[(4,.yld [] true),(3,.cells [pN q3]),(2,.cells [pN q2]),(1,.cells ((A5 q1).map .p)),(0,.cells [.p (vSl 2 A0 q0)])]⟩ [0,1,2,3,4] (ids:=[(0,0),(1,1),(2,2),(3,3),(4,4)]) ⟨true,rfl,rfl,_,rfl⟩
   ·obtain rfl:=B7 h;exact A6 hS trivial (a:=.tup []) (objs:=[(.cells [.p (vSl 2 A0 q0)]),.cells ((A5 q1).map .p),.cells [pN q2],.cells [pN q3],.yld [] true]) ⟨[],[(4,.yld [] true),(3,.cells [pN q3]),(2,.cells [pN q2]),(1,.cells ((A5 q1).map .p)),(0,.cells [.p (vSl 2 A0 q0)])]⟩ [0,1,2,3,4] (ids:=[(0,0),(1,1),(2,2),(3,3),(4,4)]) ⟨true,rfl,rfl,_,rfl⟩
def IU (N:Nat)(p_l:Law)(p_w:Sl Sound):Option ((Sl Sound)×Law×Int×Int):=
 some (p_w,p_l,(p_l.If.n:Int),(p_l.Out.n:Int))
theorem Al0 {N:Nat}{p_l:Law}{p_w:Sl Sound}{y:(Sl Sound)×Law×Int×Int}(h:IU N p_l p_w=some y) :FunO S Tw [.p (.agg (A5 p_l)),.p (vSl 2 A0 p_w)] [] (.clo ET [] [.reg 0 0,.reg 1 0,.reg 2 0,.reg 3 0]) ([.cells [.p (vSl 2 A0 y.1)],.cells ((A5 y.2.1).map .p),.cells [pN y.2.2.1],.cells [pN y.2.2.2]]) []:=by unfold IU at h;refine A1 hS Aj8 ?_;refine U7 hS trivial [(1,.l [3000]),(2,.n),(4,.l [3000]),(5,.n),(6,.a [6000]),(7,.a [7000]),(8,.a [6000]),(9,.a [7000])] ?_;refine H5 trivial ?_;obtain rfl:=B7 h;exact A6 hS trivial ⟨[(4,.clo ET [] [.reg 4000 0,.reg 3000 0,.reg 6000 0,.reg 7000 0])],[(7000,.cells [pN (p_l.Out.n:Int)]),(6000,.cells [pN (p_l.If.n:Int)]),(4000,.cells [.p (vSl 2 A0 p_w)]),(3000,.cells ((A5 p_l).map .p))]⟩ [4000,3000,6000,7000] (ids:=[(3000,3000),(4000,4000),(6000,6000),(7000,7000)]) ⟨rfl,rfl,rfl⟩
def Du (N:Nat)(p_l:Law)(p_w:Sl Sound):Option ((Sl Int)×(Sl (Sl Sound))×Int):=
 (Fd N p_l p_w).bind fun y1=>
 if (y1 != 0) then
  some ((Sl.nil:Sl Int),(Sl.nil:Sl (Sl Sound)),y1)
 else
  (IU N p_l p_w).bind fun y2=>
  (BX N y2.1 y2.2.1 y2.2.2.1 y2.2.2.2).bind fun L1=>
  P4 L1 (fun self1 (x1:Int×(Sl Sound)) (z1:(Sl Int)×(Sl (Sl Sound)))=>
   if (decide (32<(x1.2.n:Int))) then
    some ((Sl.nil:Sl Int),(Sl.nil:Sl (Sl Sound)),11)
   else
    if ((z1.1.n+(Sl.of [x1.1]:Sl Int).n)*8<=140737488355328/\z1.1.n+(Sl.of [x1.1]:Sl Int).n<=140737488355328)then
     if ((z1.2.n+(Sl.of [x1.2]:Sl (Sl Sound)).n)*24<=140737488355328/\z1.2.n+(Sl.of [x1.2]:Sl (Sl Sound)).n<=140737488355328)then
      self1 (z1.1.push x1.1,z1.2.push x1.2)
     else none
    else none
   ) (fun (z1:(Sl Int)×(Sl (Sl Sound)))=>
    some (z1.1,z1.2,0)
   ) ((Sl.nil:Sl Int),(Sl.nil:Sl (Sl Sound)))
theorem WC {N:Nat}{p_l:Law}{p_w:Sl Sound}{y:(Sl Int)×(Sl (Sl Sound))×Int}(h:Du N p_l p_w=some y) :FunO S MF [.p (.agg (A5 p_l)),.p (vSl 2 A0 p_w)] [] (.tup [.vec 0,.vec 1,pN y.2.2]) ([.vec B9 1 y.1.n (fun i=>cI .i64 (y.1.g i)) true,.vec A8 1 y.2.1.n (fun i=>cL 2 A0 (y.2.1.g i)) true]) []:=by
 unfold Du at h;refine A1 hS VV ?_;refine J3 hS trivial 4 3000 (A5 p_l) ?_;obtain⟨y1,e1,h⟩:=B6 h;refine B8 hS [] (by decide:(18:Nat)<=18) (WA hS hL e1) ?_;refine kI hS h (fun h=>?_) (fun h=>?_)
 ·obtain rfl:=B7 h;exact A6 hS trivial ⟨[(6,.reg 7000 0),(5,.reg 6000 0),(4,.reg 5000 0)],[(7000,.cells [pN y1]),(6701,.vec A8 1 (Sl.nil:Sl (Sl Sound)).n (fun i=>cL 2 A0 ((Sl.nil:Sl (Sl Sound)).g i)) true),(6000,.cells [.vec 6701]),(5700,.vec B9 1 (Sl.nil:Sl Int).n (fun i=>cI .i64 ((Sl.nil:Sl Int).g i)) true),(5000,.cells [.vec 5700])]⟩ [5700,6701] (ids:=[(5000,5000),(6000,6000),(7000,7000)]) ⟨rfl,rfl,rfl⟩
 ·obtain⟨y2,e2,h⟩:=B6 h;refine B8 hS [] (by decide:(18:Nat)<=18) (Al0 hS hL e2) ?_;obtain⟨L1,e3,h⟩:=B6 h;refine FO hS trivial [21000,21001,21002,21003] [9,8,6,5,4] 901 (fun z1=>⟨[(9,.reg 10000 0),(8,.reg 9000 0),(6,.reg 7000 0),(5,.reg 6000 0),(4,.reg 5000 0)],[(10500,.vec A8 1 z1.2.n (fun i=>cL 2 A0 (z1.2.g i)) false),(10000,.cells [.vec 10500]),(9500,.vec B9 1 z1.1.n (fun i=>cI .i64 (z1.1.g i)) false),(9000,.cells [.vec 9500]),(7000,.cells [pN 0]),(6000,.cells [.p J2]),(5000,.cells [.p J2])]⟩) (idl:=[(5000,5000),(6000,6000),(7000,7000),(9000,9000),(10000,10000)]) h (WB hS hL e3) (fun _=>by kernel_rfl) (fun _=>by kernel_rfl) (fun _=>by kernel_rfl) (fun _=>by kernel_rfl) (fun x1 _ self1 z1 hb1 h=>?_) (fun z1 h=>?_)
  ·refine HL hS trivial ?_;refine kI hS h (fun h=>?_) (fun h=>?_)
   ·refine Lk hS trivial ⟨[(9,.reg 10000 0),(8,.reg 9000 0),(6,.reg 7000 0),(5,.reg 6000 0),(4,.reg 5000 0)],[(10500,.vec A8 1 z1.2.n (fun i=>cL 2 A0 (z1.2.g i)) false),(10000,.cells [.vec 10500]),(9500,.vec B9 1 z1.1.n (fun i=>cI .i64 (z1.1.g i)) false),(9000,.cells [.vec 9500]),(7000,.cells [pN 11]),(6000,.cells [.p J2]),(5000,.cells [.p J2])]⟩ (ids:=[(901,901),(5000,5000),(6000,6000),(7000,7000),(9000,9000),(9500,9500),(10000,10000),(10500,10500)]) ?_;obtain rfl:=B7 h;exact A6 hS trivial ⟨[(6,.reg 7000 0),(5,.reg 6000 0),(4,.reg 5000 0)],[(7000,.cells [pN 11]),(6701,.vec A8 1 (Sl.nil:Sl (Sl Sound)).n (fun i=>cL 2 A0 ((Sl.nil:Sl (Sl Sound)).g i)) true),(6000,.cells [.vec 6701]),(5700,.vec B9 1 (Sl.nil:Sl Int).n (fun i=>cI .i64 ((Sl.nil:Sl Int).g i)) true),(5000,.cells [.vec 5700])]⟩ [5700,6701] (ids:=[(5000,5000),(6000,6000),(7000,7000)]) ⟨rfl,rfl,rfl⟩
   ·refine U7 hS trivial [(0,.l [9000]),(3,.a [30000,9500]),(4,.l [10000]),(7,.a [34000,10500]),(8,.a [9000]),(9,.a [10000])] ?_;refine EN trivial (x:=.sl true 1 1 (D4 [pI .i64 0] [(0,cI .i64 x1.1)])) ?_;obtain⟨c9,h⟩:=D2 h;refine EN c9 (x:=.sl true 1 1 (D4 [J2] [(0,cL 2 A0 x1.2)])) ?_;obtain⟨c10,h⟩:=D2 h;refine H5 c10 ?_;exact hb1 _ [(901,901),(5000,5000),(6000,6000),(7000,7000),(9000,9000),(9500,30000),(10000,10000),(10500,34000)] _ (z1.1.push x1.1,z1.2.push x1.2) trivial h (hle:=klR [(0,.fn (z1.2.n+1) (z1.2.push x1.2).n (R4 z1.2.n (fun i=>cL 2 A0 (z1.2.g i)) (D4 [J2] [(0,cL 2 A0 x1.2)])) (fun i=>cL 2 A0 ((z1.2.push x1.2).g i))),(1,.fn (z1.1.n+1) (z1.1.push x1.1).n (R4 z1.1.n (fun i=>cI .i64 (z1.1.g i)) (D4 [pI .i64 0] [(0,cI .i64 x1.1)])) (fun i=>cI .i64 ((z1.1.push x1.1).g i)))] (al1 ⟨rfl,Er (c:=cL 2 A0) (v:=z1.2) (x:=x1.2) (z:=[J2]) same rfl rfl⟩ (al1 ⟨rfl,Er (c:=cI .i64) (v:=z1.1) (x:=x1.1) (z:=[(pI .i64 0)]) same rfl rfl⟩ al0)))
  ·refine U7 hS trivial [(0,.l [9000]),(1,.l [10000]),(2,.a [5000]),(3,.a [6000]),(4,.a [7000])] ?_;refine H5 trivial ?_;obtain rfl:=B7 h;exact A6 hS trivial ⟨[(6,.reg 7000 0),(5,.reg 6000 0),(4,.reg 5000 0)],[(10500,.vec A8 1 z1.2.n (fun i=>cL 2 A0 (z1.2.g i)) true),(9500,.vec B9 1 z1.1.n (fun i=>cI .i64 (z1.1.g i)) true),(7000,.cells [pN 0]),(6000,.cells [.vec 10500]),(5000,.cells [.vec 9500])]⟩ [9500,10500] (ids:=[(5000,5000),(6000,6000),(7000,7000),(9500,9500),(10500,10500)]) ⟨rfl,rfl,rfl⟩
def AS (N:Nat)(p_l:Law)(p_w:Sl Sound):Option ((Sl Sound)×Int):=
 (Du N p_l p_w).bind fun y1=>
 if (y1.2.2 != 0) then
  some ((Sl.nil:Sl Sound),y1.2.2)
 else
  if (decide (0<(y1.2.1.n:Int))) then
   if (((0:Int)<=(wrap .i64 ((y1.2.1.n:Int)-1))/\(wrap .i64 ((y1.2.1.n:Int)-1))<(y1.2.1.n:Int))/\(wrap .i64 ((y1.2.1.n:Int)-1)).toNat<y1.2.1.n)then
    some (y1.2.1.g (wrap .i64 ((y1.2.1.n:Int)-1)).toNat,0)
   else none
  else
   (A7 N p_w).bind fun y2=>
   some (y2,0)
theorem WD {N:Nat}{p_l:Law}{p_w:Sl Sound}{y:(Sl Sound)×Int}(h:AS N p_l p_w=some y) :FunO S My [.p (.agg (A5 p_l)),.p (vSl 2 A0 p_w)] [] (.tup [.p (vSl 2 A0 y.1),pN y.2]) ([]) []:=by
 unfold AS at h;refine A1 hS VP ?_;refine kC hS h (WC hS hL) (fun y1 h=>?_);refine kI hS h (fun h=>?_) (fun h=>?_)
 ·obtain rfl:=B7 h;exact A6 hS trivial ⟨[(5,pN y1.2.2),(4,.p (vSl 2 A0 (Sl.nil:Sl Sound)))],[]⟩ [] (ids:=[]) ⟨rfl,rfl,rfl⟩
 ·refine kI hS h (fun h=>?_) (fun h=>?_)
  ·obtain⟨c3,h⟩:=D2 h;obtain rfl:=B7 h;exact Aw0 hS c3 [] ⟨rfl,rfl,rfl⟩
  ·refine kC hS h (N4 hS hL) (fun y2 h=>?_);obtain rfl:=B7 h;exact A6 hS trivial ⟨[(5,pN 0),(4,.p (vSl 2 A0 y2))],[]⟩ [] (ids:=[]) ⟨rfl,rfl,rfl⟩
end Go.AM
namespace Go.AM
open IntKind (wrap)
open Go.Proofs
set_option maxRecDepth 10000
set_option maxHeartbeats 2000000
variable {S:Bd}(hS:G6 S Tryz.prog) (hL:RY S)
include hS hL
def P9 (N:Nat)(p_l:Law):Option Bool:=
 (W9 N p_l).bind fun y1=>
 some (y1 != 0)
theorem KU {N:Nat}{p_l:Law}{y:Bool}(h:P9 N p_l=some y) :FunO S Fq [.p (.agg (A5 p_l))] [] (pB y) ([]) []:=by unfold P9 at h;refine A1 hS KP ?_;refine kC hS h (HO hS hL) (fun y1 h=>?_);cases h;exact kR hS
def E8 (N:Nat)(p_s:Sl Law)(p_f:Law->Option Bool):Option Int:=
 R5 N (fun self1 (x1:Int)=>
  if (decide (x1<(p_s.n:Int))) then
   if ((0:Int)<=x1/\x1<(p_s.n:Int))then
    (p_f (p_s.g x1.toNat)).bind fun y3=>
    if y3 then
     some x1
    else
     self1 (wrap .i64 (x1+1))
   else none
  else
   some (-1)
  ) 0
theorem Ai {N:Nat}{p_s:Sl Law}{p_f:Law->Option Bool}{kp_f:Nat}(hp_f:∀{a0:Law}{b:Bool},p_f a0=some b->FunO S kp_f [.p (.agg (A5 a0))] [] (pB b) [] []){y:Int}(h:E8 N p_s p_f=some y) :FunO S N2 [.p (vSl 18 A5 p_s),.clo kp_f [] []] [] (pN y) ([]) []:=by
 unfold E8 at h;refine A1 hS Ad ?_;refine G7 hS trivial h (fun x1=>⟨[(8,pN x1),(7,pN (p_s.n:Int)),(1,.clo kp_f [] []),(0,.p (vSl 18 A5 p_s))],[]⟩) (ids:=[]) (fun _ _ _ _ _ self1 x1 hb1 h=>?_);refine kI hS h (fun h=>?_) (fun h=>?_)
 ·obtain⟨c8,h⟩:=D2 h;obtain⟨y3,e3,h⟩:=B6 h;refine B8 hS [] (And.intro c8 (by decide:(18:Nat)<=18)) (hp_f e3) ?_;refine kI hS h (fun h=>?_) (fun h=>?_)
  ·cases h;exact kR hS
  ·exact hb1 _ [] _ (wrap .i64 (x1+1)) trivial h
 ·cases h;exact kR hS
def C8 (N:Nat)(p_s:Sl Law)(p_f:Law->Option Bool):Option Bool:=
 (E8 N p_s p_f).bind fun y1=>
 some (decide (0<=y1))
theorem V5 {N:Nat}{p_s:Sl Law}{p_f:Law->Option Bool}{kp_f:Nat}(hp_f:∀{a0:Law}{b:Bool},p_f a0=some b->FunO S kp_f [.p (.agg (A5 a0))] [] (pB b) [] []){y:Bool}(h:C8 N p_s p_f=some y) :FunO S J4 [.p (vSl 18 A5 p_s),.clo kp_f [] []] [] (pB y) ([]) []:=by unfold C8 at h;refine A1 hS U9 ?_;refine kC hS h (Ai hS hL (fun e=>hp_f e)) (fun y1 h=>?_);cases h;exact kR hS
def O1 (N:Nat)(p_laws:Sl Law):Option Int:=
 if (decide (64<(p_laws.n:Int))) then
  some 12
 else
  (C8 N p_laws (fun (u1:Law)=>P9 N u1)).bind fun y1=>
  if y1 then
   some 17
  else
   some 0
theorem DX {N:Nat}{p_laws:Sl Law}{y:Int}(h:O1 N p_laws=some y) :FunO S Hi [.p (vSl 18 A5 p_laws)] [] (pN y) ([]) []:=by
 unfold O1 at h;refine A1 hS Ob ?_;refine kI hS h (fun h=>?_) (fun h=>?_)
 ·cases h;exact kR hS
 ·refine kC hS h (V5 hS hL (fun e=>KU hS hL e)) (fun y1 h=>?_);refine kI hS h (fun h=>?_) (fun h=>?_)
  ·cases h;exact kR hS
  ·cases h;exact kR hS
def Ay (N:Nat)(p_laws:Sl Law)(p_words:Sl (Sl Sound)):Option Int:=
 (O1 N p_laws).bind fun y1=>
 if (y1 != 0) then
  some y1
 else
  if (decide (256<(p_words.n:Int))) then
   some 12
  else
   R5 N (fun self1 (x1:Int)=>
    if (decide (x1<(p_words.n:Int))) then
     if ((0:Int)<=x1/\x1<(p_words.n:Int))then
      (N9 N (p_words.g x1.toNat)).bind fun y4=>
      if (y4 != 0) then
       some y4
      else
       self1 (wrap .i64 (x1+1))
     else none
    else
     some 0
    ) 0
theorem OC {N:Nat}{p_laws:Sl Law}{p_words:Sl (Sl Sound)}{y:Int}(h:Ay N p_laws p_words=some y) :FunO S Hf [.p (vSl 18 A5 p_laws),.p (vSl 1 (cL 2 A0) p_words)] [] (pN y) ([]) []:=by
 unfold Ay at h;refine A1 hS NY ?_;refine kC hS h (DX hS hL) (fun y1 h=>?_);refine kI hS h (fun h=>?_) (fun h=>?_)
 ·cases h;exact kR hS
 ·refine kI hS h (fun h=>?_) (fun h=>?_)
  ·cases h;exact kR hS
  ·refine G7 hS trivial h (fun x1=>⟨[(19,pN x1),(18,pN (p_words.n:Int)),(17,.p (vSl 1 (cL 2 A0) p_words))],[]⟩) (ids:=[]) (fun _ _ _ _ _ self1 x1 hb1 h=>?_);refine kI hS h (fun h=>?_) (fun h=>?_)
   ·obtain⟨c10,h⟩:=D2 h;obtain⟨y4,e4,h⟩:=B6 h;refine B8 hS [] c10 (DL hS hL e4) ?_;refine kI hS h (fun h=>?_) (fun h=>?_)
    ·cases h;exact kR hS
    ·exact hb1 _ [] _ (wrap .i64 (x1+1)) trivial h
   ·cases h;exact kR hS
end Go.AM
namespace Go.AM
open IntKind (wrap)
open Go.Proofs
set_option maxRecDepth 10000
set_option maxHeartbeats 2000000
variable {S:Bd}(hS:G6 S Tryz.prog) (hL:RY S)
include hS hL
def Ax7 (c:Int):Option PV:=if c=0 then none else some (.iface 160 (pI .i64 c))
def AK (N:Nat)(c:Int)(q0:Sl Sound)(q1:Sl Law):Option (List (Int×(Sl Sound))):=
 (A7 N q0).bind fun y1=>
 Be (0,y1) (
  S4 N (fun self1 (x1:Sl Sound) (x2:Int)=>
   if (decide (x2<(q1.n:Int))) then
    if ((0:Int)<=x2/\x2<(q1.n:Int))then
     (AS N (q1.g x2.toNat) x1).bind fun y4=>
     if (y4.2 != 0) then
      if y4.2=c then some []else none
     else
      Be (wrap .i64 (x2+1),y4.1) (
       self1 y4.1 (wrap .i64 (x2+1))
       )
    else none
   else
    if c=0 then some []else none
   ) y1 0
  )
theorem Fv {N:Nat}{q0:Sl Sound}{q1:Sl Law}{c:Int}{L:List (Int×(Sl Sound))}(h:AK N c q0 q1=some L) :Md S P7 [] [.reg 0 0,.reg 1 0] [.cells [.p (vSl 2 A0 q0)],.cells [.p (vSl 18 A5 q1)]] (L.map (fun (x:Int×(Sl Sound))=>[pI .i64 x.1,vSl 2 A0 x.2])) (Ax7 c):=by
 unfold AK at h;refine Ai8 hS KQ ?_;refine kC hS h (N4 hS hL) (fun y1 h=>?_);obtain⟨L1,rfl,hcL1⟩:=Ma h;replace h:=hcL1;refine Dh hS trivial (ys:=(fun (x:Int×(Sl Sound))=>[pI .i64 x.1,vSl 2 A0 x.2]) (0,y1)) (rest:=L1.map (fun (x:Int×(Sl Sound))=>[pI .i64 x.1,vSl 2 A0 x.2])) ?_ ?_
 ·refine D3 hS trivial (b:=false) (fun c1=>?_) (fun c1=>?_)
  ·exact Bool.noConfusion ((rfl:false=false).symm.trans c1)
  ·refine QU hS trivial h (fun x1 x2 L2=>⟨[(17,pN x2),(16,pN (q1.n:Int)),(15,.p (vSl 18 A5 q1)),(4,.p (vSl 2 A0 x1)),(0,.yf 2)],[(2,.yld (L2.map (fun (x:Int×(Sl Sound))=>[pI .i64 x.1,vSl 2 A0 x.2])) true),(1,.cells [.p (vSl 18 A5 q1)]),(0,.cells [.p (vSl 2 A0 q0)])]⟩) (ids:=[(0,0),(1,1),(2,2)]) (fun _ _ _ _ _ self1 x1 x2 L2 hb1 h=>?_);refine kI hS h (fun h=>?_) (fun h=>?_)
   ·obtain⟨c13,h⟩:=D2 h;obtain⟨y4,e4,h⟩:=B6 h;refine B8 hS [] (And.intro c13 (by decide:(18:Nat)<=18)) (WD hS hL e4) ?_;refine D3 hS trivial (b:=y4.2 != 0) (fun c14=>?_) (fun c14=>?_)
    ·replace h:=itT c14 h;obtain⟨c0,h⟩:=D2 h;obtain rfl:=B7 h;have hc0:Ax7 c=some (.iface 160 (pI .i64 y4.2)):=by
      have:¬y4.2=0:=by simpa using c14
      rw[<- c0];simp[Ax7,this]
     refine AK5 hS trivial (x:=.iface 160 (pI .i64 y4.2)) ?_;exact AD6 hS trivial (x:=.iface 160 (pI .i64 y4.2)) (objs:=[(.cells [.p (vSl 2 A0 q0)]),.cells [.p (vSl 18 A5 q1)],.yld [] true]) [0,1,2] ⟨true,rfl,rfl,fun _=>by rw[hc0];rfl,fun e=>nomatch e⟩
    ·replace h:=itF c14 h;obtain⟨L5,rfl,hcL5⟩:=Ma h;replace h:=hcL5;refine Dh hS trivial (ys:=(fun (x:Int×(Sl Sound))=>[pI .i64 x.1,vSl 2 A0 x.2]) (wrap .i64 (x2+1),y4.1)) (rest:=L5.map (fun (x:Int×(Sl Sound))=>[pI .i64 x.1,vSl 2 A0 x.2])) ?_ ?_
     ·refine D3 hS trivial (b:=false) (fun c15=>?_) (fun c15=>?_)
      ·exact Bool.noConfusion ((rfl:false=false).symm.trans c15)
      ·exact hb1 _ [(0,0),(1,1),(2,2)] _ y4.1 (wrap .i64 (x2+1)) L5 trivial h
     ·refine D3 hS trivial (b:=true) (fun c16=>?_) (fun c16=>?_)
      ·exact A6 hS trivial (a:=.tup []) (objs:=[(.cells [.p (vSl 2 A0 q0)]),.cells [.p (vSl 18 A5 q1)],.yld [] false]) ⟨[],[(2,.yld [] false),(1,.cells [.p (vSl 18 A5 q1)]),(0,.cells [.p (vSl 2 A0 q0)])]⟩ [0,1,2] (ids:=[(0,0),(1,1),(2,2)]) ⟨false,rfl,rfl,fun e=>(nomatch e),fun _=>⟨_,rfl⟩⟩
      ·exact Bool.noConfusion ((rfl:true=true).symm.trans c16)
   ·obtain⟨c0,h⟩:=D2 h;obtain rfl:=B7 h;exact A6 hS trivial (a:=.tup []) (objs:=[(.cells [.p (vSl 2 A0 q0)]),.cells [.p (vSl 18 A5 q1)],.yld [] true]) ⟨[],[(2,.yld [] true),(1,.cells [.p (vSl 18 A5 q1)]),(0,.cells [.p (vSl 2 A0 q0)])]⟩ [0,1,2] (ids:=[(0,0),(1,1),(2,2)]) ⟨true,rfl,rfl,fun _=>by subst c0;exact⟨_,rfl⟩,fun e=>(nomatch e)⟩
 ·refine D3 hS trivial (b:=true) (fun c17=>?_) (fun c17=>?_)
  ·exact A6 hS trivial (a:=.tup []) (objs:=[(.cells [.p (vSl 2 A0 q0)]),.cells [.p (vSl 18 A5 q1)],.yld [] false]) ⟨[],[(2,.yld [] false),(1,.cells [.p (vSl 18 A5 q1)]),(0,.cells [.p (vSl 2 A0 q0)])]⟩ [0,1,2] (ids:=[(0,0),(1,1),(2,2)]) ⟨false,rfl,rfl,fun e=>(nomatch e),fun _=>⟨_,rfl⟩⟩
  ·exact Bool.noConfusion ((rfl:true=true).symm.trans c17)
def Cf (N:Nat)(p_laws:Sl Law)(p_w:Sl Sound):Option ((Sl Sound)×(Sl Law)):=
 some (p_w,p_laws)
theorem Hw {N:Nat}{p_laws:Sl Law}{p_w:Sl Sound}{y:(Sl Sound)×(Sl Law)}(h:Cf N p_laws p_w=some y) :FunO S Hj [.p (vSl 18 A5 p_laws),.p (vSl 2 A0 p_w)] [] (.clo P7 [] [.reg 0 0,.reg 1 0]) ([.cells [.p (vSl 2 A0 y.1)],.cells [.p (vSl 18 A5 y.2)]]) []:=by unfold Cf at h;refine A1 hS Oc ?_;obtain rfl:=B7 h;exact A6 hS trivial ⟨[(4,.clo P7 [] [.reg 4000 0,.reg 3000 0])],[(4000,.cells [.p (vSl 2 A0 p_w)]),(3000,.cells [.p (vSl 18 A5 p_laws)])]⟩ [4000,3000] (ids:=[(3000,3000),(4000,4000)]) ⟨rfl,rfl,rfl⟩
def E9 (N:Nat)(c:Int)(p_laws:Sl Law)(p_w:Sl Sound):Option (Sl Sound):=
 (Cf N p_laws p_w).bind fun y1=>
 (AK N c y1.1 y1.2).bind fun L1=>
 P4 L1 (fun self1 (x1:Int×(Sl Sound)) (z1:Sl Sound)=>
  self1 x1.2
  ) (fun (z1:Sl Sound)=>
   some z1
  ) (Sl.nil:Sl Sound)
theorem JH {N:Nat}{p_laws:Sl Law}{p_w:Sl Sound}{y:Sl Sound}(h:E9 N 0 p_laws p_w=some y) :FunO S H2 [.p (vSl 18 A5 p_laws),.p (vSl 2 A0 p_w)] [] (.p (vSl 2 A0 y)) ([]) []:=by
 unfold E9 at h;refine A1 hS Fr ?_;refine kC hS h (Hw hS hL) (fun y1 h=>?_);obtain⟨L1,e2,h⟩:=B6 h;have hf:Md S P7 [] [.reg 0 0,.reg 1 0] [.cells [.p (vSl 2 A0 y1.1)],.cells [.p (vSl 18 A5 y1.2)]] (L1.map (fun (x:Int×(Sl Sound))=>[pI .i64 x.1,vSl 2 A0 x.2])) none:=Fv hS hL e2;refine XX hS trivial [8000,8001] [4] 901 (fun z1=>⟨[(4,.reg 5000 0)],[(5000,.cells [.p (vSl 2 A0 z1)])]⟩) (idl:=[(5000,5000)]) h hf (fun _=>by kernel_rfl) (fun _=>by kernel_rfl) (fun _=>by kernel_rfl) (fun _=>by kernel_rfl) (fun x1 _ self1 z1 hb1 h=>?_) (fun z1 h=>?_)
 ·refine HL hS trivial ?_;exact hb1 _ [(901,901),(5000,5000)] _ x1.2 trivial h
 ·cases h;exact kR hS
theorem JI {N:Nat}{c:Int}{p_laws:Sl Law}{p_w:Sl Sound}{y:Sl Sound}(hc:c≠0)(h:E9 N c p_laws p_w=some y) :S.F H2 [.p (vSl 18 A5 p_laws),.p (vSl 2 A0 p_w)] [] fun res o k=>res=.panic (.iface 160 (pI .i64 c))/\o=[]/\k=[]:=by
 unfold E9 at h;refine Ax0 hS Fr ?_;refine kC hS h (Hw hS hL) (fun y1 h=>?_);obtain⟨L1,e2,h⟩:=B6 h;have hf:Md S P7 [] [.reg 0 0,.reg 1 0] [.cells [.p (vSl 2 A0 y1.1)],.cells [.p (vSl 18 A5 y1.2)]] (L1.map (fun (x:Int×(Sl Sound))=>[pI .i64 x.1,vSl 2 A0 x.2])) (some (.iface 160 (pI .i64 c))):=by
  have:=Fv hS hL e2
  simpa[Ax7,hc]using this
 refine XX hS trivial [8000,8001] [4] 901 (fun z1=>⟨[(4,.reg 5000 0)],[(5000,.cells [.p (vSl 2 A0 z1)])]⟩) (idl:=[(5000,5000)]) h hf (fun _=>by kernel_rfl) (fun _=>by kernel_rfl) (fun _=>by kernel_rfl) (fun _=>by kernel_rfl) (fun x1 _ self1 z1 hb1 h=>?_) (fun z1 h=>?_)
 ·refine HL hS trivial ?_;exact hb1 _ [(901,901),(5000,5000)] _ x1.2 trivial h
 ·exact AD6 hS trivial (x:=.iface 160 (pI .i64 c)) (objs:=[]) [] ⟨rfl,rfl,rfl⟩
def L0 (N:Nat)(p_laws:Sl Law)(p_w:Sl Sound):Option ((Sl Sound)×Bool):=
 match E9 N 0 p_laws p_w with
 |some y=>some (y,true)
 |none=>(E9 N 11 p_laws p_w).bind fun _=>some ((Sl.nil:Sl Sound),false)
theorem KV {N:Nat}{p_laws:Sl Law}{p_w:Sl Sound}{y:(Sl Sound)×Bool}(h:L0 N p_laws p_w=some y) :FunO S Fo [.p (vSl 18 A5 p_laws),.p (vSl 2 A0 p_w)] [] (.tup [.p (vSl 2 A0 y.1),pB y.2]) ([]) []:=by
 unfold L0 at h;refine A1 hS KN ?_;rcases e:E9 N 0 p_laws p_w with _|z
 ·rw[e]at h;obtain⟨z,e1,h⟩:=B6 h;obtain rfl:=B7 h;refine B8 hS [7000,3000,4000,5000] trivial (hL.attP (JI hS hL (by decide) e1)) ?_;refine U7 hS trivial [(0,.l [5000]),(1,.l [7000]),(3,.a [5000])] ?_;refine H5 trivial ?_;exact A6 hS trivial ⟨[(5,pB false),(4,.reg 5000 0)],[(5000,.cells [.p (vSl 2 A0 Sl.nil)])]⟩ [] (ids:=[(5000,5000)]) ⟨rfl,rfl,rfl⟩
 ·rw[e]at h;obtain rfl:=B7 h;refine B8 hS [7000,3000,4000,5000] trivial (hL.attR (JH hS hL e)) ?_;refine U7 hS trivial [(0,.l [5000]),(1,.l [7000]),(3,.a [5000])] ?_;refine H5 trivial ?_;exact A6 hS trivial ⟨[(5,pB true),(4,.reg 5000 0)],[(5000,.cells [.p (vSl 2 A0 z)])]⟩ [] (ids:=[(5000,5000)]) ⟨rfl,rfl,rfl⟩
end Go.AM
namespace Go.AM
open IntKind (wrap)
open Go.Proofs
set_option maxRecDepth 10000
set_option maxHeartbeats 2000000
variable {S:Bd}(hS:G6 S Tryz.prog) (hL:RY S)
include hS hL
def P1 (N:Nat)(p_laws:Sl Law)(p_w:Sl Sound):Option ((Sl Sound)×Int):=
 (Ay N p_laws (Sl.of [p_w]:Sl (Sl Sound))).bind fun y1=>
 if (y1 != 0) then
  some ((Sl.nil:Sl Sound),y1)
 else
  (L0 N p_laws p_w).bind fun y2=>
  if (!y2.2) then
   some ((Sl.nil:Sl Sound),11)
  else
   some (y2.1,0)
theorem Ng {N:Nat}{p_laws:Sl Law}{p_w:Sl Sound}{y:(Sl Sound)×Int}(h:P1 N p_laws p_w=some y) :FunO S FR [.p (vSl 18 A5 p_laws),.p (vSl 2 A0 p_w)] [] (.tup [.p (vSl 2 A0 y.1),pN y.2]) ([]) []:=by
 unfold P1 at h;refine A1 hS Mj ?_;refine Am hS (rfl:true=true) ⟨[(11,.vec 12000),(9,.p (vSl 18 A5 p_laws)),(1,.p (vSl 2 A0 p_w)),(0,.p (vSl 18 A5 p_laws))],[(12000,.vec A8 1 (Sl.of [p_w]:Sl (Sl Sound)).n (fun i=>cL 2 A0 ((Sl.of [p_w]:Sl (Sl Sound)).g i)) false)]⟩ (ids:=[(12000,12000)]) ?_ (hle:=klR [(3,.fn 1 (Sl.of [p_w]:Sl (Sl Sound)).n (D4 [J2] [(0,cL 2 A0 p_w)]) (fun i=>cL 2 A0 ((Sl.of [p_w]:Sl (Sl Sound)).g i)))] (al1 ⟨rfl,(fun i hi=>match i,hi with|0,_=>rfl|_+1,hi=>absurd hi (by omega))⟩ al0));refine kC hS h (OC hS hL) (fun y1 h=>?_);refine kI hS h (fun h=>?_) (fun h=>?_)
 ·obtain rfl:=B7 h;exact A6 hS trivial ⟨[(5,pN y1),(4,.p (vSl 2 A0 (Sl.nil:Sl Sound)))],[]⟩ [] (ids:=[]) ⟨rfl,rfl,rfl⟩
 ·refine kC hS h (KV hS hL) (fun y2 h=>?_);refine kI hS h (fun h=>?_) (fun h=>?_)
  ·obtain rfl:=B7 h;exact A6 hS trivial ⟨[(5,pN 11),(4,.p (vSl 2 A0 (Sl.nil:Sl Sound)))],[]⟩ [] (ids:=[]) ⟨rfl,rfl,rfl⟩
  ·cases h;exact kR hS
def T1 (N:Nat)(p_laws:Sl Law)(p_l:Sl (Sl Sound)):Option Int:=
 (O1 N p_laws).bind fun y1=>
 if (y1 != 0) then
  some y1
 else
  R5 N (fun self1 (x1:Int)=>
   if (decide (x1<(p_l.n:Int))) then
    if ((0:Int)<=x1/\x1<(p_l.n:Int))then
     (N9 N (p_l.g x1.toNat)).bind fun y4=>
     if (y4 != 0) then
      some y4
     else
      self1 (wrap .i64 (x1+1))
    else none
   else
    some 0
   ) 0
theorem Bz {N:Nat}{p_laws:Sl Law}{p_l:Sl (Sl Sound)}{y:Int}(h:T1 N p_laws p_l=some y) :FunO S Iw [.p (vSl 18 A5 p_laws),.p (vSl 1 (cL 2 A0) p_l)] [] (pN y) ([]) []:=by
 unfold T1 at h;refine A1 hS Ra ?_;refine kC hS h (DX hS hL) (fun y1 h=>?_);refine kI hS h (fun h=>?_) (fun h=>?_)
 ·cases h;exact kR hS
 ·refine G7 hS trivial h (fun x1=>⟨[(16,pN x1),(15,pN (p_l.n:Int)),(14,.p (vSl 1 (cL 2 A0) p_l))],[]⟩) (ids:=[]) (fun _ _ _ _ _ self1 x1 hb1 h=>?_);refine kI hS h (fun h=>?_) (fun h=>?_)
  ·obtain⟨c9,h⟩:=D2 h;obtain⟨y4,e4,h⟩:=B6 h;refine B8 hS [] c9 (DL hS hL e4) ?_;refine kI hS h (fun h=>?_) (fun h=>?_)
   ·cases h;exact kR hS
   ·exact hb1 _ [] _ (wrap .i64 (x1+1)) trivial h
  ·cases h;exact kR hS
def H3 (N:Nat)(p_laws:Sl Law)(p_from:Sl Sound)(p_to:Sl Sound):Option Bool:=
 (P1 N p_laws p_from).bind fun y1=>
 lt (fun (z1:Bool)=>
  some z1
  ) fun k1=>
  if (y1.2==0) then
   (Cn N y1.1 p_to).bind fun y3=>
   k1 y3
  else
   k1 false
theorem CM {N:Nat}{p_laws:Sl Law}{p_from:Sl Sound}{p_to:Sl Sound}{y:Bool}(h:H3 N p_laws p_from p_to=some y) :FunO S Ix [.p (vSl 18 A5 p_laws),.p (vSl 2 A0 p_from),.p (vSl 2 A0 p_to)] [] (pB y) ([]) []:=by
 unfold H3 at h;refine A1 hS Rb ?_;refine kC hS h (Ng hS hL) (fun y1 h=>?_);refine FM hS trivial (A3 hS) h 0 (fun z1=>⟨[(6,pB z1)],[]⟩) (fun M1 k1 hb1 h=>?_) (fun z1 h=>?_)
 ·refine kG hS h (fun h=>?_) (fun h=>?_)
  ·refine kC hS h (TV hS hL) (fun y3 h=>?_);exact hb1 _ [] _ y3 trivial h
  ·exact hb1 _ [] _ false trivial h
 ·cases h;exact kR hS
def T7 (N:Nat)(q0:Sl Law)(q1:Sl Es):Option (List (Int)):=
 R5 N (fun self3 (x2:Int)=>
  if (decide (x2<(wrap .i64 ((q0.n:Int)+1)))) then
   R5 N (fun self4 (x4:Int)=>
    if (decide (x4<(q1.n:Int))) then
     if ((0:Int)<=x4/\x4<(q1.n:Int))then
      if ((0:Int)<=x2/\x2<=(q0.n:Int))then
       (H3 N (q0.drop x2.toNat) (q1.g x4.toNat).From (q1.g x4.toNat).To).bind fun y9=>
       if (!y9) then
        self3 (wrap .i64 (x2+1))
       else
        self4 (wrap .i64 (x4+1))
      else none
     else none
    else
     Be x2 (
      self3 (wrap .i64 (x2+1))
      )
    ) 0
  else
   some []
  ) 0
theorem CC {N:Nat}{q0:Sl Law}{q1:Sl Es}{L:List (Int)}(h:T7 N q0 q1=some L) :Dx S AH [] [.reg 0 0,.reg 1 0] [.cells [.p (vSl 18 A5 q0)],.cells [.p (vSl 2 M9 q1)]] (L.map (fun (x:Int)=>[pI .i64 x])):=by
 unfold T7 at h;refine EP hS CA ?_;refine EO hS trivial h (fun x2 L1=>⟨[(10,pN x2),(9,pN (wrap .i64 ((q0.n:Int)+1))),(2,.reg 1 0),(1,.reg 0 0),(0,.yf 2)],[(2,.yld (L1.map (fun (x:Int)=>[pI .i64 x])) true),(1,.cells [.p (vSl 2 M9 q1)]),(0,.cells [.p (vSl 18 A5 q0)])]⟩) (ids:=[(0,0),(1,1),(2,2)]) (fun _ _ _ _ _ self3 x2 L1 hb3 h=>?_);refine kI hS h (fun h=>?_) (fun h=>?_)
 ·refine EO hS trivial h (fun x4 L6=>⟨[(15,pN x4),(14,pN (q1.n:Int)),(13,.p (vSl 2 M9 q1)),(10,pN x2),(9,pN (wrap .i64 ((q0.n:Int)+1))),(4,pN x2),(2,.reg 1 0),(1,.reg 0 0),(0,.yf 2)],[(2,.yld (L6.map (fun (x:Int)=>[pI .i64 x])) true),(1,.cells [.p (vSl 2 M9 q1)]),(0,.cells [.p (vSl 18 A5 q0)])]⟩) (ids:=[(0,0),(1,1),(2,2)]) (fun _ _ _ _ _ self4 x4 L6 hb4 h=>?_);refine kI hS h (fun h=>?_) (fun h=>?_)
  ·obtain⟨c41,h⟩:=D2 h;refine Aw2 hS (And.intro c41 (by decide:(2:Nat)<=2)) 7000 [vSl 2 A0 (q1.g x4.toNat).From,vSl 2 A0 (q1.g x4.toNat).To] ?_;refine D7 hS trivial [4,6,7] ?_;obtain⟨c42,h⟩:=D2 h;obtain⟨y9,e9,h⟩:=B6 h;refine U6 c42 (CM hS hL e9) ?_;refine H5 trivial ?_;refine kI hS h (fun h=>?_) (fun h=>?_)
   ·exact hb3 _ [(0,0),(1,1),(2,2)] _ (wrap .i64 (x2+1)) L6 trivial h
   ·exact hb4 _ [(0,0),(1,1),(2,2)] _ (wrap .i64 (x4+1)) L6 trivial h
  ·obtain⟨L7,rfl,hcL7⟩:=Ma h;replace h:=hcL7;refine Dh hS trivial (ys:=(fun (x:Int)=>[pI .i64 x]) x2) (rest:=L7.map (fun (x:Int)=>[pI .i64 x])) ?_ ?_
   ·refine D3 hS trivial (b:=false) (fun c44=>?_) (fun c44=>?_)
    ·exact Bool.noConfusion ((rfl:false=false).symm.trans c44)
    ·exact hb3 _ [(0,0),(1,1),(2,2)] _ (wrap .i64 (x2+1)) L7 trivial h
   ·refine D3 hS trivial (b:=true) (fun c45=>?_) (fun c45=>?_)
    ·exact A6 hS trivial (a:=.tup []) (objs:=[(.cells [.p (vSl 18 A5 q0)]),.cells [.p (vSl 2 M9 q1)],.yld [] false]) ⟨[],[(2,.yld [] false),(1,.cells [.p (vSl 2 M9 q1)]),(0,.cells [.p (vSl 18 A5 q0)])]⟩ [0,1,2] (ids:=[(0,0),(1,1),(2,2)]) ⟨false,rfl,rfl,_,rfl⟩
    ·exact Bool.noConfusion ((rfl:true=true).symm.trans c45)
 ·obtain rfl:=B7 h;exact A6 hS trivial (a:=.tup []) (objs:=[(.cells [.p (vSl 18 A5 q0)]),.cells [.p (vSl 2 M9 q1)],.yld [] true]) ⟨[],[(2,.yld [] true),(1,.cells [.p (vSl 2 M9 q1)]),(0,.cells [.p (vSl 18 A5 q0)])]⟩ [0,1,2] (ids:=[(0,0),(1,1),(2,2)]) ⟨true,rfl,rfl,_,rfl⟩
def Az (N:Nat)(p_laws:Sl Law)(p_pairs:Sl Es):Option ((Sl Law)×(Sl Es)):=
 some (p_laws,p_pairs)
theorem DY {N:Nat}{p_laws:Sl Law}{p_pairs:Sl Es}{y:(Sl Law)×(Sl Es)}(h:Az N p_laws p_pairs=some y) :FunO S Hd [.p (vSl 18 A5 p_laws),.p (vSl 2 M9 p_pairs)] [] (.clo AH [] [.reg 0 0,.reg 1 0]) ([.cells [.p (vSl 18 A5 y.1)],.cells [.p (vSl 2 M9 y.2)]]) []:=by unfold Az at h;refine A1 hS NW ?_;obtain rfl:=B7 h;exact A6 hS trivial ⟨[(4,.clo AH [] [.reg 3000 0,.reg 4000 0])],[(4000,.cells [.p (vSl 2 M9 p_pairs)]),(3000,.cells [.p (vSl 18 A5 p_laws)])]⟩ [3000,4000] (ids:=[(3000,3000),(4000,4000)]) ⟨rfl,rfl,rfl⟩
def C4 (N:Nat)(p_slices:Sl (Sl Law)):Option (Sl Law):=
 S4 N (fun self1 (x1:Int) (x2:Int)=>
  if (decide (x2<(p_slices.n:Int))) then
   if ((0:Int)<=x2/\x2<(p_slices.n:Int))then
    if (decide ((wrap .i64 (x1+((p_slices.g x2.toNat).n:Int)))<0)) then
     none
    else
     self1 (wrap .i64 (x1+((p_slices.g x2.toNat).n:Int))) (wrap .i64 (x2+1))
   else none
  else
   (I2 N x1).bind fun y1=>
   S4 N (fun self2 (x3:Sl Law) (x4:Int)=>
    if (decide (x4<(p_slices.n:Int))) then
     if (((0:Int)<=x4/\x4<(p_slices.n:Int))/\((x3.n+(p_slices.g x4.toNat).n)*200<=140737488355328/\x3.n+(p_slices.g x4.toNat).n<=140737488355328))then
      self2 (x3.app (p_slices.g x4.toNat)) (wrap .i64 (x4+1))
     else none
    else
     some x3
    ) y1 0
  ) 0 0
theorem Bi {N:Nat}{p_slices:Sl (Sl Law)}{y:Sl Law}(h:C4 N p_slices=some y) :FunO S P5 [.p (vSl 1 (cL 18 A5) p_slices)] [] (.p (vSl 18 A5 y)) ([]) []:=by
 unfold C4 at h;refine A1 hS Bg ?_;refine F5 hS trivial h (fun x1 x2=>⟨[(11,pN x2),(10,pN (p_slices.n:Int)),(9,.p (vSl 1 (cL 18 A5) p_slices)),(3,pN x1),(0,.p (vSl 1 (cL 18 A5) p_slices))],[]⟩) (ids:=[]) (fun _ _ _ _ _ self1 x1 x2 hb1 h=>?_);refine kI hS h (fun h=>?_) (fun h=>?_)
 ·obtain⟨c8,h⟩:=D2 h;refine D3 hS c8 (b:=decide ((wrap .i64 (x1+((p_slices.g x2.toNat).n:Int)))<0)) (fun c9=>?_) (fun c9=>?_)
  ·replace h:=itT c9 h;cases h
  ·replace h:=itF c9 h;exact hb1 _ [] _ (wrap .i64 (x1+((p_slices.g x2.toNat).n:Int))) (wrap .i64 (x2+1)) trivial h
 ·refine kC hS h (BI hS hL) (fun y1 h=>?_);refine F5 hS trivial h (fun x3 x4=>⟨[(27,pN x4),(26,pN (p_slices.n:Int)),(25,.p (vSl 1 (cL 18 A5) p_slices)),(6,.vec 7500)],[(7500,.vec I7 18 x3.n (fun i=>A5 (x3.g i)) false)]⟩) (ids:=[(7500,25000)]) (fun _ _ _ _ _ self2 x3 x4 hb2 h=>?_);refine kI hS h (fun h=>?_) (fun h=>?_)
  ·obtain⟨c13,h⟩:=D2 h;exact hb2 _ [(7500,34000)] _ (x3.app (p_slices.g x4.toNat)) (wrap .i64 (x4+1)) c13 h (hle:=klR [(3,.fn (x3.n+(p_slices.g x4.toNat).n) (x3.app (p_slices.g x4.toNat)).n (R4 x3.n (fun i=>A5 (x3.g i)) (fun i=>A5 ((p_slices.g x4.toNat).g i))) (fun i=>A5 ((x3.app (p_slices.g x4.toNat)).g i)))] (al1 ⟨rfl,Vr (c:=A5) (v:=x3) (w:=p_slices.g x4.toNat) same rfl same rfl⟩ al0))
  ·obtain rfl:=B7 h;exact A6 hS trivial ⟨[(2,.p (vSl 18 A5 x3))],[]⟩ [] (ids:=[]) ⟨rfl,rfl,rfl⟩
def Q0 (N:Nat)(q0:Sl Law)(q1:Sl Sound)(q2:Sl Sound):Option (List (Int)):=
 (H3 N q0 q1 q2).bind fun y1=>
 if y1 then
  some []
 else
  R5 N (fun self1 (x1:Int)=>
   if (decide (x1<(q0.n:Int))) then
    if (((0:Int)<=x1/\x1<=(q0.n:Int))/\((0:Int)<=(wrap .i64 (x1+1))/\(wrap .i64 (x1+1))<=(q0.n:Int)))then
     (C4 N (Sl.of [q0.take x1.toNat,q0.drop (wrap .i64 (x1+1)).toNat]:Sl (Sl Law))).bind fun y6=>
     (H3 N y6 q1 q2).bind fun y7=>
     if y7 then
      Be x1 (
       self1 (wrap .i64 (x1+1))
       )
     else
      self1 (wrap .i64 (x1+1))
    else none
   else
    some []
   ) 0
theorem Fw {N:Nat}{q0:Sl Law}{q1:Sl Sound}{q2:Sl Sound}{L:List (Int)}(h:Q0 N q0 q1 q2=some L) :Dx S AI [] [.reg 0 0,.reg 1 0,.reg 2 0] [.cells [.p (vSl 18 A5 q0)],.cells [.p (vSl 2 A0 q1)],.cells [.p (vSl 2 A0 q2)]] (L.map (fun (x:Int)=>[pI .i64 x])):=by
 unfold Q0 at h;refine EP hS Fn ?_;refine kC hS h (CM hS hL) (fun y1 h=>?_);refine kI hS h (fun h=>?_) (fun h=>?_)
 ·obtain rfl:=B7 h;exact A6 hS trivial (a:=.tup []) (objs:=[(.cells [.p (vSl 18 A5 q0)]),.cells [.p (vSl 2 A0 q1)],.cells [.p (vSl 2 A0 q2)],.yld [] true]) ⟨[],[(3,.yld [] true),(2,.cells [.p (vSl 2 A0 q2)]),(1,.cells [.p (vSl 2 A0 q1)]),(0,.cells [.p (vSl 18 A5 q0)])]⟩ [0,1,2,3] (ids:=[(0,0),(1,1),(2,2),(3,3)]) ⟨true,rfl,rfl,_,rfl⟩
 ·refine EO hS trivial h (fun x1 L1=>⟨[(12,pN x1),(11,pN (q0.n:Int)),(3,.reg 2 0),(2,.reg 1 0),(1,.reg 0 0),(0,.yf 3)],[(3,.yld (L1.map (fun (x:Int)=>[pI .i64 x])) true),(2,.cells [.p (vSl 2 A0 q2)]),(1,.cells [.p (vSl 2 A0 q1)]),(0,.cells [.p (vSl 18 A5 q0)])]⟩) (ids:=[(0,0),(1,1),(2,2),(3,3)]) (fun _ _ _ _ _ self1 x1 L1 hb1 h=>?_);refine kI hS h (fun h=>?_) (fun h=>?_)
  ·refine Ax2 hS trivial 15 [(0,.l [0]),(3,.l [0]),(8,.n),(9,.l [1]),(10,.l [2]),(11,.n)] ?_;obtain⟨c25,h⟩:=D2 h;refine EN c25 (x:=.sl true 1 2 (D4 [J2] [(0,cL 18 A5 (q0.take x1.toNat)),(1,cL 18 A5 (q0.drop (wrap .i64 (x1+1)).toNat))])) ?_;obtain⟨y6,e6,h⟩:=B6 h;refine U6 trivial (FunO.le hS (args:=[.p (.sl true 1 2 (D4 [J2] [(0,cL 18 A5 (q0.take x1.toNat)),(1,cL 18 A5 (q0.drop (wrap .i64 (x1+1)).toNat))]))]) (by exact⟨Xm rfl (fun i hi=>match i,hi with|0,_=>rfl|1,_=>rfl|_+2,hi=>absurd hi (by omega)),trivial⟩) (Bi hS hL e6)) ?_;obtain⟨y7,e7,h⟩:=B6 h;refine U6 trivial (CM hS hL e7) ?_;refine LZ trivial (b:=y7) (fun c26=>?_) (fun c26=>?_)
   ·replace h:=itT c26 h;refine H5 trivial ?_;refine Dg hS trivial (b:=true) (fun c29=>?_) (fun c29=>?_)
    ·obtain⟨L7,rfl,hcL7⟩:=Ma h;replace h:=hcL7;refine Dh hS trivial (ys:=(fun (x:Int)=>[pI .i64 x]) x1) (rest:=L7.map (fun (x:Int)=>[pI .i64 x])) ?_ ?_
     ·refine D3 hS trivial (b:=false) (fun c30=>?_) (fun c30=>?_)
      ·exact Bool.noConfusion ((rfl:false=false).symm.trans c30)
      ·exact hb1 _ [(0,0),(1,1),(2,2),(3,3)] _ (wrap .i64 (x1+1)) L7 trivial h
     ·refine D3 hS trivial (b:=true) (fun c31=>?_) (fun c31=>?_)
      ·exact A6 hS trivial (a:=.tup []) (objs:=[(.cells [.p (vSl 18 A5 q0)]),.cells [.p (vSl 2 A0 q1)],.cells [.p (vSl 2 A0 q2)],.yld [] false]) ⟨[],[(3,.yld [] false),(2,.cells [.p (vSl 2 A0 q2)]),(1,.cells [.p (vSl 2 A0 q1)]),(0,.cells [.p (vSl 18 A5 q0)])]⟩ [0,1,2,3] (ids:=[(0,0),(1,1),(2,2),(3,3)]) ⟨false,rfl,rfl,_,rfl⟩
      ·exact Bool.noConfusion ((rfl:true=true).symm.trans c31)
    ·exact Bool.noConfusion ((rfl:true=true).symm.trans c29)
   ·replace h:=itF c26 h;refine H5 trivial ?_;refine Dg hS trivial (b:=false) (fun c34=>?_) (fun c34=>?_)
    ·exact Bool.noConfusion ((rfl:false=false).symm.trans c34)
    ·exact hb1 _ [(0,0),(1,1),(2,2),(3,3)] _ (wrap .i64 (x1+1)) L1 trivial h
  ·obtain rfl:=B7 h;exact A6 hS trivial (a:=.tup []) (objs:=[(.cells [.p (vSl 18 A5 q0)]),.cells [.p (vSl 2 A0 q1)],.cells [.p (vSl 2 A0 q2)],.yld [] true]) ⟨[],[(3,.yld [] true),(2,.cells [.p (vSl 2 A0 q2)]),(1,.cells [.p (vSl 2 A0 q1)]),(0,.cells [.p (vSl 18 A5 q0)])]⟩ [0,1,2,3] (ids:=[(0,0),(1,1),(2,2),(3,3)]) ⟨true,rfl,rfl,_,rfl⟩
def Cg (N:Nat)(p_laws:Sl Law)(p_proto:Sl Sound)(p_attested:Sl Sound):Option ((Sl Law)×(Sl Sound)×(Sl Sound)):=
 some (p_laws,p_proto,p_attested)
theorem Hx {N:Nat}{p_laws:Sl Law}{p_proto:Sl Sound}{p_attested:Sl Sound}{y:(Sl Law)×(Sl Sound)×(Sl Sound)}(h:Cg N p_laws p_proto p_attested=some y) :FunO S He [.p (vSl 18 A5 p_laws),.p (vSl 2 A0 p_proto),.p (vSl 2 A0 p_attested)] [] (.clo AI [] [.reg 0 0,.reg 1 0,.reg 2 0]) ([.cells [.p (vSl 18 A5 y.1)],.cells [.p (vSl 2 A0 y.2.1)],.cells [.p (vSl 2 A0 y.2.2)]]) []:=by unfold Cg at h;refine A1 hS NX ?_;obtain rfl:=B7 h;exact A6 hS trivial ⟨[(6,.clo AI [] [.reg 4000 0,.reg 5000 0,.reg 6000 0])],[(6000,.cells [.p (vSl 2 A0 p_attested)]),(5000,.cells [.p (vSl 2 A0 p_proto)]),(4000,.cells [.p (vSl 18 A5 p_laws)])]⟩ [4000,5000,6000] (ids:=[(4000,4000),(5000,5000),(6000,6000)]) ⟨rfl,rfl,rfl⟩
def K0 (N:Nat)(p_seq:List (Int)):Option (Sl Int):=
 P4 p_seq (fun self1 (x1:Int) (z1:Sl Int)=>
  if ((z1.n+(Sl.of [x1]:Sl Int).n)*8<=140737488355328/\z1.n+(Sl.of [x1]:Sl Int).n<=140737488355328)then
   self1 (z1.push x1)
  else none
  ) (fun (z1:Sl Int)=>
   some z1
  ) (Sl.nil:Sl Int)
theorem Ct {N:Nat}{p_seq:List (Int)}{p_seq_0:(Sl Law)}{p_seq_1:(Sl Es)}{kp_seq:Nat}(fp_seq:∃fn,AY2[kp_seq]? = some fn/\fn.body.isSome=true/\(fn.name == "runtime.NumGoroutine")=false)(hp_seq:Dx S kp_seq [] [.reg 0 0,.reg 1 0] [(.cells [(.p (vSl 18 A5 p_seq_0))]),(.cells [(.p (vSl 2 M9 p_seq_1))])] (p_seq.map (fun (x:Int)=>[(pI .i64) x]))){y:(Sl Int)}(h:K0 N p_seq=some y) :FunO S H1 [(.p J2),(.clo kp_seq [] [(.reg 0 0),(.reg 1 0)])] [(.cells [(.p (vSl 18 A5 p_seq_0))]),(.cells [(.p (vSl 2 M9 p_seq_1))])] (.vec 0) ([(.vec B9 1 y.n (fun i=>(cI .i64) (y.g i)) true)]) [false,false]:=by
 unfold K0 at h;refine A1 hS K9 ?_;refine Ir hS trivial fp_seq [0,1] [2] 901 (fun z1=>⟨[(2,(.reg 3000 0))],[(3500,(.vec B9 1 z1.n (fun i=>(cI .i64) (z1.g i)) false)),(3000,(.cells [(.vec 3500)]))]⟩) (idl:=[(3000,3000)]) h hp_seq (fun _=>by kernel_rfl) (fun _=>by kernel_rfl) (fun _=>by kernel_rfl) (fun _=>by kernel_rfl) (fun x1 _ self1 z1 hb1 h=>?_) (fun z1 h=>?_)
 ·refine HL hS trivial ?_;obtain⟨c1,h⟩:=D2 h;exact hb1 _ [(901,901),(3000,3000),(3500,12000)] _ (z1.push x1) (And.intro (rfl:true=true) c1) h (hle:=klR [(0,.fn (z1.n+1) (z1.push x1).n (R4 z1.n (fun i=>(cI .i64) (z1.g i)) (D4 [(pI .i64 0)] [(0,(cI .i64) x1)])) (fun i=>(cI .i64) ((z1.push x1).g i)))] (al1 ⟨rfl,(Er (c:=(cI .i64)) (v:=z1) (x:=x1) (z:=[(pI .i64 0)]) same rfl rfl)⟩ al0))
 ·obtain rfl:=B7 h;exact A6 hS trivial ⟨[(4,(.vec 3500))],[(3500,(.vec B9 1 z1.n (fun i=>(cI .i64) (z1.g i)) true))]⟩ [3500] (ids:=[(3500,3500)]) ⟨rfl,rfl,rfl⟩
def X1 (N:Nat)(p_seq:List (Int)):Option (Sl Int):=
 (K0 N p_seq).bind fun y1=>
 some y1
theorem Gi {N:Nat}{p_seq:List (Int)}{p_seq_0:(Sl Law)}{p_seq_1:(Sl Es)}{kp_seq:Nat}(fp_seq:∃fn,AY2[kp_seq]? = some fn/\fn.body.isSome=true/\(fn.name == "runtime.NumGoroutine")=false)(hp_seq:Dx S kp_seq [] [.reg 0 0,.reg 1 0] [(.cells [(.p (vSl 18 A5 p_seq_0))]),(.cells [(.p (vSl 2 M9 p_seq_1))])] (p_seq.map (fun (x:Int)=>[(pI .i64) x]))){y:(Sl Int)}(h:X1 N p_seq=some y) :FunO S R7 [(.clo kp_seq [] [(.reg 0 0),(.reg 1 0)])] [(.cells [(.p (vSl 18 A5 p_seq_0))]),(.cells [(.p (vSl 2 M9 p_seq_1))])] (.vec 0) ([(.vec B9 1 y.n (fun i=>(cI .i64) (y.g i)) true)]) [false,false]:=by unfold X1 at h;refine A1 hS Ab ?_;obtain⟨y1,e1,h⟩:=B6 h;refine B8 hS [0,1] trivial (Ct hS hL fp_seq hp_seq e1) ?_;obtain rfl:=B7 h;exact A6 hS trivial ⟨[(2,(.vec 5000))],[(5000,(.vec B9 1 y1.n (fun i=>(cI .i64) (y1.g i)) true))]⟩ [5000] (ids:=[(5000,5000)]) ⟨rfl,rfl,rfl⟩
def Fe (N:Nat)(p_l:List (Int)):Option (BO×Bool):=
 P4 p_l (fun self1 (x1:Int) (z1:Int×Int×Bool)=>
  if (!z1.2.2) then
   self1 (x1,x1,true)
  else
   self1 (z1.1,x1,z1.2.2)
  ) (fun (z1:Int×Int×Bool)=>
   some ((⟨z1.1,z1.2.1⟩:BO),z1.2.2)
  ) (0,0,false)
theorem RC {N:Nat}{p_l:List (Int)}{p_l_0:(Sl Law)}{p_l_1:(Sl Es)}{kp_l:Nat}(fp_l:∃fn,AY2[kp_l]? = some fn/\fn.body.isSome=true/\(fn.name == "runtime.NumGoroutine")=false)(hp_l:Dx S kp_l [] [.reg 0 0,.reg 1 0] [(.cells [(.p (vSl 18 A5 p_l_0))]),(.cells [(.p (vSl 2 M9 p_l_1))])] (p_l.map (fun (x:Int)=>[(pI .i64) x]))){y:(BO×Bool)}(h:Fe N p_l=some y) :FunO S Kk [(.clo kp_l [] [(.reg 0 0),(.reg 1 0)])] [(.cells [(.p (vSl 18 A5 p_l_0))]),(.cells [(.p (vSl 2 M9 p_l_1))])] (.tup [(.p (.agg (Kh y.1))),(pB y.2)]) ([]) [false,false]:=by
 unfold Fe at h;refine A1 hS Tl ?_;refine Ir hS trivial fp_l [0,1] [3,2] 901 (fun z1=>⟨[(3,(.reg 4000 0)),(2,(.reg 3000 0))],[(4000,(.cells [(pB z1.2.2)])),(3000,(.cells [(pN z1.1),(pN z1.2.1)]))]⟩) (idl:=[(3000,3000),(4000,4000)]) h hp_l (fun _=>by kernel_rfl) (fun _=>by kernel_rfl) (fun _=>by kernel_rfl) (fun _=>by kernel_rfl) (fun x1 _ self1 z1 hb1 h=>?_) (fun z1 h=>?_)
 ·refine HL hS trivial ?_;refine kI hS h (fun h=>?_) (fun h=>?_)
  ·exact hb1 _ [(901,901),(3000,3000),(4000,4000)] _ (x1,x1,true) trivial h
  ·exact hb1 _ [(901,901),(3000,3000),(4000,4000)] _ (z1.1,x1,z1.2.2) trivial h
 ·refine U7 hS trivial [(0,.l [3000]),(1,.l [4000]),(2,.a [3000]),(3,.a [4000])] ?_;refine H5 trivial ?_;obtain rfl:=B7 h;exact A6 hS trivial ⟨[(3,(.reg 4000 0)),(2,(.reg 3000 0))],[(4000,(.cells [(pB z1.2.2)])),(3000,(.cells [(pN z1.1),(pN z1.2.1)]))]⟩ [] (ids:=[(3000,3000),(4000,4000)]) ⟨rfl,rfl,rfl⟩
def DZ (N:Nat)(p_laws:Sl Law)(p_foreign:Sl Sound)(p_attested:Sl Sound):Option ((Sl Int)×Int):=
 (T1 N p_laws (Sl.of [p_foreign,p_attested]:Sl (Sl Sound))).bind fun y1=>
 if (y1 != 0) then
  some ((Sl.nil:Sl Int),y1)
 else
  (Az N p_laws (Sl.of [(⟨p_foreign,p_attested⟩:Es)]:Sl Es)).bind fun y2=>
  (T7 N y2.1 y2.2).bind fun L1=>
  (X1 N L1).bind fun y3=>
  some (y3,0)
theorem OD {N:Nat}{p_laws:Sl Law}{p_foreign:Sl Sound}{p_attested:Sl Sound}{y:(Sl Int)×Int}(h:DZ N p_laws p_foreign p_attested=some y) :FunO S GZ [.p (vSl 18 A5 p_laws),.p (vSl 2 A0 p_foreign),.p (vSl 2 A0 p_attested)] [] (.tup [.vec 0,pN y.2]) ([.vec B9 1 y.1.n (fun i=>cI .i64 (y.1.g i)) true]) []:=by
 unfold DZ at h;refine A1 hS NS ?_;refine Am hS (rfl:true=true) ⟨[(12,.vec 13000),(9,.p (vSl 18 A5 p_laws)),(2,.p (vSl 2 A0 p_attested)),(1,.p (vSl 2 A0 p_foreign)),(0,.p (vSl 18 A5 p_laws))],[(13000,.vec A8 1 (Sl.of [p_foreign,p_attested]:Sl (Sl Sound)).n (fun i=>cL 2 A0 ((Sl.of [p_foreign,p_attested]:Sl (Sl Sound)).g i)) false)]⟩ (ids:=[(13000,13000)]) ?_ (hle:=klR [(4,.fn 2 (Sl.of [p_foreign,p_attested]:Sl (Sl Sound)).n (D4 [J2] [(0,cL 2 A0 p_foreign),(1,cL 2 A0 p_attested)]) (fun i=>cL 2 A0 ((Sl.of [p_foreign,p_attested]:Sl (Sl Sound)).g i)))] (al1 ⟨rfl,(fun i hi=>match i,hi with|0,_=>rfl|1,_=>rfl|_+2,hi=>absurd hi (by omega))⟩ al0));refine kC hS h (Bz hS hL) (fun y1 h=>?_);refine kI hS h (fun h=>?_) (fun h=>?_)
 ·obtain rfl:=B7 h;exact A6 hS trivial ⟨[(7,pN y1),(6,.vec 7700)],[(7700,.vec B9 1 (Sl.nil:Sl Int).n (fun i=>cI .i64 ((Sl.nil:Sl Int).g i)) true)]⟩ [7700] (ids:=[]) ⟨rfl,rfl,rfl⟩
 ·refine Am hS (rfl:true=true) ⟨[(21,.vec 22000),(17,.p (vSl 18 A5 p_laws))],[(22000,.vec JF 2 (Sl.of [(⟨p_foreign,p_attested⟩:Es)]:Sl Es).n (fun i=>M9 ((Sl.of [(⟨p_foreign,p_attested⟩:Es)]:Sl Es).g i)) false)]⟩ (ids:=[(22000,22000)]) ?_ (hle:=klR [(1,.fn 1 (Sl.of [(⟨p_foreign,p_attested⟩:Es)]:Sl Es).n (D4 [J2,J2] [(0,M9 (⟨p_foreign,p_attested⟩:Es))]) (fun i=>M9 ((Sl.of [(⟨p_foreign,p_attested⟩:Es)]:Sl Es).g i)))] (al1 ⟨rfl,(fun i hi=>match i,hi with|0,_=>rfl|_+1,hi=>absurd hi (by omega))⟩ al0));refine kC hS h (DY hS hL) (fun y2 h=>?_);obtain⟨L1,e3,h⟩:=B6 h;obtain⟨y3,e4,h⟩:=B6 h;refine B8 hS [23000,23001] trivial (Gi hS hL ⟨_,CA,by decide +kernel,by decide +kernel⟩ (CC hS hL e3) e4) ?_;obtain rfl:=B7 h;exact A6 hS trivial ⟨[(7,pN 0),(6,.vec 24000)],[(24000,.vec B9 1 y3.n (fun i=>cI .i64 (y3.g i)) true)]⟩ [24000] (ids:=[(24000,24000)]) ⟨rfl,rfl,rfl⟩
def Gj (N:Nat)(p_laws:Sl Law)(p_foreign:Sl Sound)(p_attested:Sl Sound):Option (BO×Bool×Int):=
 (T1 N p_laws (Sl.of [p_foreign,p_attested]:Sl (Sl Sound))).bind fun y1=>
 if (y1 != 0) then
  some ((⟨0,0⟩:BO),false,y1)
 else
  (Az N p_laws (Sl.of [(⟨p_foreign,p_attested⟩:Es)]:Sl Es)).bind fun y2=>
  (T7 N y2.1 y2.2).bind fun L1=>
  (Fe N L1).bind fun y3=>
  some (y3.1,y3.2,0)
theorem Ue {N:Nat}{p_laws:Sl Law}{p_foreign:Sl Sound}{p_attested:Sl Sound}{y:BO×Bool×Int}(h:Gj N p_laws p_foreign p_attested=some y) :FunO S Ki [.p (vSl 18 A5 p_laws),.p (vSl 2 A0 p_foreign),.p (vSl 2 A0 p_attested)] [] (.tup [.p (.agg (Kh y.1)),pB y.2.1,pN y.2.2]) ([]) []:=by
 unfold Gj at h;refine A1 hS Th ?_;refine Am hS (rfl:true=true) ⟨[(15,.vec 16000),(12,.p (vSl 18 A5 p_laws)),(6,.reg 7000 0),(2,.p (vSl 2 A0 p_attested)),(1,.p (vSl 2 A0 p_foreign)),(0,.p (vSl 18 A5 p_laws))],[(16000,.vec A8 1 (Sl.of [p_foreign,p_attested]:Sl (Sl Sound)).n (fun i=>cL 2 A0 ((Sl.of [p_foreign,p_attested]:Sl (Sl Sound)).g i)) false),(7000,.cells [pN 0,pN 0])]⟩ (ids:=[(7000,7000),(16000,16000)]) ?_ (hle:=klR [(4,.fn 2 (Sl.of [p_foreign,p_attested]:Sl (Sl Sound)).n (D4 [J2] [(0,cL 2 A0 p_foreign),(1,cL 2 A0 p_attested)]) (fun i=>cL 2 A0 ((Sl.of [p_foreign,p_attested]:Sl (Sl Sound)).g i)))] (al1 ⟨rfl,(fun i hi=>match i,hi with|0,_=>rfl|1,_=>rfl|_+2,hi=>absurd hi (by omega))⟩ al0));refine kC hS h (Bz hS hL) (fun y1 h=>?_);refine kI hS h (fun h=>?_) (fun h=>?_)
 ·cases h;exact kR hS
 ·refine Am hS (rfl:true=true) ⟨[(26,.vec 27000),(22,.p (vSl 18 A5 p_laws)),(6,.reg 7000 0)],[(27000,.vec JF 2 (Sl.of [(⟨p_foreign,p_attested⟩:Es)]:Sl Es).n (fun i=>M9 ((Sl.of [(⟨p_foreign,p_attested⟩:Es)]:Sl Es).g i)) false),(7000,.cells [pN 0,pN 0])]⟩ (ids:=[(7000,7000),(27000,27000)]) ?_ (hle:=klR [(1,.fn 1 (Sl.of [(⟨p_foreign,p_attested⟩:Es)]:Sl Es).n (D4 [J2,J2] [(0,M9 (⟨p_foreign,p_attested⟩:Es))]) (fun i=>M9 ((Sl.of [(⟨p_foreign,p_attested⟩:Es)]:Sl Es).g i)))] (al1 ⟨rfl,(fun i hi=>match i,hi with|0,_=>rfl|_+1,hi=>absurd hi (by omega))⟩ al0));refine kC hS h (DY hS hL) (fun y2 h=>?_);obtain⟨L1,e3,h⟩:=B6 h;obtain⟨y3,e4,h⟩:=B6 h;refine B8 hS [28000,28001] trivial (RC hS hL ⟨_,CA,by decide +kernel,by decide +kernel⟩ (CC hS hL e3) e4) ?_;cases h;exact kR hS
def Ea (N:Nat)(p_laws:Sl Law)(p_proto:Sl Sound)(p_attested:Sl Sound):Option (Bool×Int):=
 (T1 N p_laws (Sl.of [p_proto,p_attested]:Sl (Sl Sound))).bind fun y1=>
 if (y1 != 0) then
  some (false,y1)
 else
  (H3 N p_laws p_proto p_attested).bind fun y2=>
  some (y2,0)
theorem OE {N:Nat}{p_laws:Sl Law}{p_proto:Sl Sound}{p_attested:Sl Sound}{y:Bool×Int}(h:Ea N p_laws p_proto p_attested=some y) :FunO S Ha [.p (vSl 18 A5 p_laws),.p (vSl 2 A0 p_proto),.p (vSl 2 A0 p_attested)] [] (.tup [pB y.1,pN y.2]) ([]) []:=by
 unfold Ea at h;refine A1 hS NT ?_;refine Am hS (rfl:true=true) ⟨[(12,.vec 13000),(9,.p (vSl 18 A5 p_laws)),(2,.p (vSl 2 A0 p_attested)),(1,.p (vSl 2 A0 p_proto)),(0,.p (vSl 18 A5 p_laws))],[(13000,.vec A8 1 (Sl.of [p_proto,p_attested]:Sl (Sl Sound)).n (fun i=>cL 2 A0 ((Sl.of [p_proto,p_attested]:Sl (Sl Sound)).g i)) false)]⟩ (ids:=[(13000,13000)]) ?_ (hle:=klR [(4,.fn 2 (Sl.of [p_proto,p_attested]:Sl (Sl Sound)).n (D4 [J2] [(0,cL 2 A0 p_proto),(1,cL 2 A0 p_attested)]) (fun i=>cL 2 A0 ((Sl.of [p_proto,p_attested]:Sl (Sl Sound)).g i)))] (al1 ⟨rfl,(fun i hi=>match i,hi with|0,_=>rfl|1,_=>rfl|_+2,hi=>absurd hi (by omega))⟩ al0));refine kC hS h (Bz hS hL) (fun y1 h=>?_);refine kI hS h (fun h=>?_) (fun h=>?_)
 ·cases h;exact kR hS
 ·refine kC hS h (CM hS hL) (fun y2 h=>?_);cases h;exact kR hS
def K3 (N:Nat)(p_seq:List (Int)):Option (Sl Int):=
 P4 p_seq (fun self1 (x1:Int) (z1:Sl Int)=>
  if ((z1.n+(Sl.of [x1]:Sl Int).n)*8<=140737488355328/\z1.n+(Sl.of [x1]:Sl Int).n<=140737488355328)then
   self1 (z1.push x1)
  else none
  ) (fun (z1:Sl Int)=>
   some z1
  ) (Sl.nil:Sl Int)
theorem Cu {N:Nat}{p_seq:List (Int)}{p_seq_0:(Sl Law)}{p_seq_1:(Sl Sound)}{p_seq_2:(Sl Sound)}{kp_seq:Nat}(fp_seq:∃fn,AY2[kp_seq]? = some fn/\fn.body.isSome=true/\(fn.name == "runtime.NumGoroutine")=false)(hp_seq:Dx S kp_seq [] [.reg 0 0,.reg 1 0,.reg 2 0] [(.cells [(.p (vSl 18 A5 p_seq_0))]),(.cells [(.p (vSl 2 A0 p_seq_1))]),(.cells [(.p (vSl 2 A0 p_seq_2))])] (p_seq.map (fun (x:Int)=>[(pI .i64) x]))){y:(Sl Int)}(h:K3 N p_seq=some y) :FunO S H1 [(.p J2),(.clo kp_seq [] [(.reg 0 0),(.reg 1 0),(.reg 2 0)])] [(.cells [(.p (vSl 18 A5 p_seq_0))]),(.cells [(.p (vSl 2 A0 p_seq_1))]),(.cells [(.p (vSl 2 A0 p_seq_2))])] (.vec 0) ([(.vec B9 1 y.n (fun i=>(cI .i64) (y.g i)) true)]) [false,false,false]:=by
 unfold K3 at h;refine A1 hS K9 ?_;refine Ir hS trivial fp_seq [0,1,2] [2] 901 (fun z1=>⟨[(2,(.reg 3000 0))],[(3500,(.vec B9 1 z1.n (fun i=>(cI .i64) (z1.g i)) false)),(3000,(.cells [(.vec 3500)]))]⟩) (idl:=[(3000,3000)]) h hp_seq (fun _=>by kernel_rfl) (fun _=>by kernel_rfl) (fun _=>by kernel_rfl) (fun _=>by kernel_rfl) (fun x1 _ self1 z1 hb1 h=>?_) (fun z1 h=>?_)
 ·refine HL hS trivial ?_;obtain⟨c1,h⟩:=D2 h;exact hb1 _ [(901,901),(3000,3000),(3500,12000)] _ (z1.push x1) (And.intro (rfl:true=true) c1) h (hle:=klR [(0,.fn (z1.n+1) (z1.push x1).n (R4 z1.n (fun i=>(cI .i64) (z1.g i)) (D4 [(pI .i64 0)] [(0,(cI .i64) x1)])) (fun i=>(cI .i64) ((z1.push x1).g i)))] (al1 ⟨rfl,(Er (c:=(cI .i64)) (v:=z1) (x:=x1) (z:=[(pI .i64 0)]) same rfl rfl)⟩ al0))
 ·obtain rfl:=B7 h;exact A6 hS trivial ⟨[(4,(.vec 3500))],[(3500,(.vec B9 1 z1.n (fun i=>(cI .i64) (z1.g i)) true))]⟩ [3500] (ids:=[(3500,3500)]) ⟨rfl,rfl,rfl⟩
def X2 (N:Nat)(p_seq:List (Int)):Option (Sl Int):=
 (K3 N p_seq).bind fun y1=>
 some y1
theorem Gk {N:Nat}{p_seq:List (Int)}{p_seq_0:(Sl Law)}{p_seq_1:(Sl Sound)}{p_seq_2:(Sl Sound)}{kp_seq:Nat}(fp_seq:∃fn,AY2[kp_seq]? = some fn/\fn.body.isSome=true/\(fn.name == "runtime.NumGoroutine")=false)(hp_seq:Dx S kp_seq [] [.reg 0 0,.reg 1 0,.reg 2 0] [(.cells [(.p (vSl 18 A5 p_seq_0))]),(.cells [(.p (vSl 2 A0 p_seq_1))]),(.cells [(.p (vSl 2 A0 p_seq_2))])] (p_seq.map (fun (x:Int)=>[(pI .i64) x]))){y:(Sl Int)}(h:X2 N p_seq=some y) :FunO S R7 [(.clo kp_seq [] [(.reg 0 0),(.reg 1 0),(.reg 2 0)])] [(.cells [(.p (vSl 18 A5 p_seq_0))]),(.cells [(.p (vSl 2 A0 p_seq_1))]),(.cells [(.p (vSl 2 A0 p_seq_2))])] (.vec 0) ([(.vec B9 1 y.n (fun i=>(cI .i64) (y.g i)) true)]) [false,false,false]:=by unfold X2 at h;refine A1 hS Ab ?_;obtain⟨y1,e1,h⟩:=B6 h;refine B8 hS [0,1,2] trivial (Cu hS hL fp_seq hp_seq e1) ?_;obtain rfl:=B7 h;exact A6 hS trivial ⟨[(2,(.vec 5000))],[(5000,(.vec B9 1 y1.n (fun i=>(cI .i64) (y1.g i)) true))]⟩ [5000] (ids:=[(5000,5000)]) ⟨rfl,rfl,rfl⟩
def Eb (N:Nat)(p_laws:Sl Law)(p_proto:Sl Sound)(p_attested:Sl Sound):Option ((Sl Int)×Int):=
 (T1 N p_laws (Sl.of [p_proto,p_attested]:Sl (Sl Sound))).bind fun y1=>
 if (y1 != 0) then
  some ((Sl.nil:Sl Int),y1)
 else
  (Cg N p_laws p_proto p_attested).bind fun y2=>
  (Q0 N y2.1 y2.2.1 y2.2.2).bind fun L1=>
  (X2 N L1).bind fun y3=>
  some (y3,0)
theorem OF {N:Nat}{p_laws:Sl Law}{p_proto:Sl Sound}{p_attested:Sl Sound}{y:(Sl Int)×Int}(h:Eb N p_laws p_proto p_attested=some y) :FunO S Hb [.p (vSl 18 A5 p_laws),.p (vSl 2 A0 p_proto),.p (vSl 2 A0 p_attested)] [] (.tup [.vec 0,pN y.2]) ([.vec B9 1 y.1.n (fun i=>cI .i64 (y.1.g i)) true]) []:=by
 unfold Eb at h;refine A1 hS NU ?_;refine Am hS (rfl:true=true) ⟨[(12,.vec 13000),(9,.p (vSl 18 A5 p_laws)),(2,.p (vSl 2 A0 p_attested)),(1,.p (vSl 2 A0 p_proto)),(0,.p (vSl 18 A5 p_laws))],[(13000,.vec A8 1 (Sl.of [p_proto,p_attested]:Sl (Sl Sound)).n (fun i=>cL 2 A0 ((Sl.of [p_proto,p_attested]:Sl (Sl Sound)).g i)) false)]⟩ (ids:=[(13000,13000)]) ?_ (hle:=klR [(4,.fn 2 (Sl.of [p_proto,p_attested]:Sl (Sl Sound)).n (D4 [J2] [(0,cL 2 A0 p_proto),(1,cL 2 A0 p_attested)]) (fun i=>cL 2 A0 ((Sl.of [p_proto,p_attested]:Sl (Sl Sound)).g i)))] (al1 ⟨rfl,(fun i hi=>match i,hi with|0,_=>rfl|1,_=>rfl|_+2,hi=>absurd hi (by omega))⟩ al0));refine kC hS h (Bz hS hL) (fun y1 h=>?_);refine kI hS h (fun h=>?_) (fun h=>?_)
 ·obtain rfl:=B7 h;exact A6 hS trivial ⟨[(7,pN y1),(6,.vec 7700)],[(7700,.vec B9 1 (Sl.nil:Sl Int).n (fun i=>cI .i64 ((Sl.nil:Sl Int).g i)) true)]⟩ [7700] (ids:=[]) ⟨rfl,rfl,rfl⟩
 ·refine kC hS h (Hx hS hL) (fun y2 h=>?_);obtain⟨L1,e3,h⟩:=B6 h;obtain⟨y3,e4,h⟩:=B6 h;refine B8 hS [21000,21001,21002] trivial (Gk hS hL ⟨_,Fn,by decide +kernel,by decide +kernel⟩ (Fw hS hL e3) e4) ?_;obtain rfl:=B7 h;exact A6 hS trivial ⟨[(7,pN 0),(6,.vec 22000)],[(22000,.vec B9 1 y3.n (fun i=>cI .i64 (y3.g i)) true)]⟩ [22000] (ids:=[(22000,22000)]) ⟨rfl,rfl,rfl⟩
end Go.AM
namespace Go.AM
open IntKind (wrap)
open Go.Proofs
set_option maxRecDepth 10000
set_option maxHeartbeats 2000000
variable {S:Bd}(hS:G6 S Tryz.prog) (hL:RY S)
include hS hL
def BA (N:Nat)(p_laws:Sl Law)(p_l:Sl Es):Option Int:=
 (O1 N p_laws).bind fun y1=>
 if (y1 != 0) then
  some y1
 else
  if (decide (256<(p_l.n:Int))) then
   some 12
  else
   R5 N (fun self1 (x1:Int)=>
    if (decide (x1<(p_l.n:Int))) then
     if ((0:Int)<=x1/\x1<(p_l.n:Int))then
      (T1 N (Sl.nil:Sl Law) (Sl.of [(p_l.g x1.toNat).From,(p_l.g x1.toNat).To]:Sl (Sl Sound))).bind fun y4=>
      if (y4 != 0) then
       some y4
      else
       self1 (wrap .i64 (x1+1))
     else none
    else
     some 0
    ) 0
theorem IV {N:Nat}{p_laws:Sl Law}{p_l:Sl Es}{y:Int}(h:BA N p_laws p_l=some y) :FunO S DF [.p (vSl 18 A5 p_laws),.p (vSl 2 M9 p_l)] [] (pN y) ([]) []:=by
 unfold BA at h;refine A1 hS Iy ?_;refine kC hS h (DX hS hL) (fun y1 h=>?_);refine kI hS h (fun h=>?_) (fun h=>?_)
 ·cases h;exact kR hS
 ·refine kI hS h (fun h=>?_) (fun h=>?_)
  ·cases h;exact kR hS
  ·refine G7 hS trivial h (fun x1=>⟨[(19,pN x1),(18,pN (p_l.n:Int)),(17,.p (vSl 2 M9 p_l))],[]⟩) (ids:=[]) (fun _ _ _ _ _ self1 x1 hb1 h=>?_);refine kI hS h (fun h=>?_) (fun h=>?_)
   ·obtain⟨c10,h⟩:=D2 h;refine Am hS (And.intro (And.intro c10 (by decide:(2:Nat)<=2)) (rfl:true=true)) ⟨[(27,.vec 28000),(19,pN x1),(18,pN (p_l.n:Int)),(17,.p (vSl 2 M9 p_l))],[(28000,.vec A8 1 (Sl.of [(p_l.g x1.toNat).From,(p_l.g x1.toNat).To]:Sl (Sl Sound)).n (fun i=>cL 2 A0 ((Sl.of [(p_l.g x1.toNat).From,(p_l.g x1.toNat).To]:Sl (Sl Sound)).g i)) false)]⟩ (ids:=[(28000,28000)]) ?_ (hle:=klR [(3,.fn 2 (Sl.of [(p_l.g x1.toNat).From,(p_l.g x1.toNat).To]:Sl (Sl Sound)).n (D4 [J2] [(0,cL 2 A0 (p_l.g x1.toNat).From),(1,cL 2 A0 (p_l.g x1.toNat).To)]) (fun i=>cL 2 A0 ((Sl.of [(p_l.g x1.toNat).From,(p_l.g x1.toNat).To]:Sl (Sl Sound)).g i)))] (al1 ⟨rfl,(fun i hi=>match i,hi with|0,_=>rfl|1,_=>rfl|_+2,hi=>absurd hi (by omega))⟩ al0));obtain⟨y4,e4,h⟩:=B6 h;refine B8 hS [] trivial (FunO.le hS (args:=[.p J2,.p (vSl 1 (cL 2 A0) (Sl.of [(p_l.g x1.toNat).From,(p_l.g x1.toNat).To]:Sl (Sl Sound)))]) (by exact⟨AV0,⟨.inl rfl,trivial⟩⟩) (Bz hS hL e4)) ?_;refine kI hS h (fun h=>?_) (fun h=>?_)
    ·cases h;exact kR hS
    ·exact hb1 _ [] _ (wrap .i64 (x1+1)) trivial h
   ·cases h;exact kR hS
def Hy (N:Nat)(p_laws:Sl Law)(p_l:Sl Es):Option ((Sl Int)×Int):=
 (BA N p_laws p_l).bind fun y1=>
 if (y1 != 0) then
  some ((Sl.nil:Sl Int),y1)
 else
  S4 N (fun self3 (x3:Sl Int) (x4:Int)=>
   if (decide (x4<(p_l.n:Int))) then
    if ((0:Int)<=x4/\x4<(p_l.n:Int))then
     (Az N p_laws (Sl.of [p_l.g x4.toNat]:Sl Es)).bind fun y4=>
     (T7 N y4.1 y4.2).bind fun L3=>
     P4 L3 (fun self4 (x7:Int) (z3:Int)=>
      self4 x7
      ) (fun (z3:Int)=>
       if ((x3.n+(Sl.of [z3]:Sl Int).n)*8<=140737488355328/\x3.n+(Sl.of [z3]:Sl Int).n<=140737488355328)then
        self3 (x3.push z3) (wrap .i64 (x4+1))
       else none
      ) (-1)
    else none
   else
    some (x3,0)
   ) (Sl.nil:Sl Int) 0
theorem Aq5 {N:Nat}{p_laws:Sl Law}{p_l:Sl Es}{y:(Sl Int)×Int}(h:Hy N p_laws p_l=some y) :FunO S Hc [.p (vSl 18 A5 p_laws),.p (vSl 2 M9 p_l)] [] (.tup [.vec 0,pN y.2]) ([.vec B9 1 y.1.n (fun i=>cI .i64 (y.1.g i)) true]) []:=by
 unfold Hy at h;refine A1 hS NV ?_;refine kC hS h (IV hS hL) (fun y1 h=>?_);refine kI hS h (fun h=>?_) (fun h=>?_)
 ·obtain rfl:=B7 h;exact A6 hS trivial ⟨[(5,pN y1),(4,.vec 5700)],[(5700,.vec B9 1 (Sl.nil:Sl Int).n (fun i=>cI .i64 ((Sl.nil:Sl Int).g i)) true)]⟩ [5700] (ids:=[]) ⟨rfl,rfl,rfl⟩
 ·refine F5 hS trivial h (fun x3 x4=>⟨[(20,pN x4),(19,pN (p_l.n:Int)),(18,.p (vSl 2 M9 p_l)),(7,.vec 8500),(0,.p (vSl 18 A5 p_laws))],[(8500,.vec B9 1 x3.n (fun i=>cI .i64 (x3.g i)) false)]⟩) (ids:=[]) (fun _ _ _ _ _ self3 x3 x4 hb3 h=>?_);refine kI hS h (fun h=>?_) (fun h=>?_)
  ·obtain⟨c7,h⟩:=D2 h;refine Am hS (And.intro (And.intro c7 (by decide:(2:Nat)<=2)) (rfl:true=true)) ⟨[(26,.vec 27000),(24,.p (vSl 18 A5 p_laws)),(20,pN x4),(19,pN (p_l.n:Int)),(18,.p (vSl 2 M9 p_l)),(10,.reg 11000 0),(7,.vec 8500),(0,.p (vSl 18 A5 p_laws))],[(27000,.vec JF 2 (Sl.of [p_l.g x4.toNat]:Sl Es).n (fun i=>M9 ((Sl.of [p_l.g x4.toNat]:Sl Es).g i)) false),(11000,.cells [pN (-1)]),(8500,.vec B9 1 x3.n (fun i=>cI .i64 (x3.g i)) false)]⟩ (ids:=[(8500,8500),(11000,11000),(27000,27000)]) ?_ (hle:=klR [(5,.fn 1 (Sl.of [p_l.g x4.toNat]:Sl Es).n (D4 [J2,J2] [(0,M9 (p_l.g x4.toNat))]) (fun i=>M9 ((Sl.of [p_l.g x4.toNat]:Sl Es).g i)))] (al1 ⟨rfl,(fun i hi=>match i,hi with|0,_=>rfl|_+1,hi=>absurd hi (by omega))⟩ al0));refine kC hS h (DY hS hL) (fun y4 h=>?_);obtain⟨L3,e7,h⟩:=B6 h;refine FO hS trivial [28000,28001] [20,19,18,10,7,0] 905 (fun z3=>⟨[(20,pN x4),(19,pN (p_l.n:Int)),(18,.p (vSl 2 M9 p_l)),(10,.reg 11000 0),(7,.vec 8500),(0,.p (vSl 18 A5 p_laws))],[(11000,.cells [pN z3]),(8500,.vec B9 1 x3.n (fun i=>cI .i64 (x3.g i)) false)]⟩) (idl:=[(8500,8500),(11000,11000)]) h (CC hS hL e7) (fun _=>by kernel_rfl) (fun _=>by kernel_rfl) (fun _=>by kernel_rfl) (fun _=>by kernel_rfl) (fun x7 _ self4 z3 hb4 h=>?_) (fun z3 h=>?_)
   ·refine HL hS trivial ?_;exact hb4 _ [(905,905),(8500,8500),(11000,11000)] _ x7 trivial h
   ·obtain⟨c8,h⟩:=D2 h;exact hb3 _ [(8500,34000)] _ (x3.push z3) (wrap .i64 (x4+1)) (And.intro (rfl:true=true) c8) h (hle:=klR [(4,.fn (x3.n+1) (x3.push z3).n (R4 x3.n (fun i=>cI .i64 (x3.g i)) (D4 [pI .i64 0] [(0,cI .i64 z3)])) (fun i=>cI .i64 ((x3.push z3).g i)))] (al1 ⟨rfl,Er (c:=cI .i64) (v:=x3) (x:=z3) (z:=[(pI .i64 0)]) same rfl rfl⟩ al0))
  ·obtain rfl:=B7 h;exact A6 hS trivial ⟨[(5,pN 0),(4,.vec 8500)],[(8500,.vec B9 1 x3.n (fun i=>cI .i64 (x3.g i)) true)]⟩ [8500] (ids:=[(8500,8500)]) ⟨rfl,rfl,rfl⟩
def Gl (N:Nat)  : Option Sound:=
 some (⟨5,2⟩:Sound)
theorem JJ {N:Nat}    {y:Sound}(h:Gl N  = some y) :FunO S Aj4 [] [] (.p (.agg (A0 y))) ([]) []:=by unfold Gl at h;refine A1 hS AL2 ?_;cases h;exact kR hS
def HP (N:Nat)  : Option Sound:=
 some (⟨2,5⟩:Sound)
theorem Nh {N:Nat}    {y:Sound}(h:HP N  = some y) :FunO S Aj5 [] [] (.p (.agg (A0 y))) ([]) []:=by unfold HP at h;refine A1 hS AL3 ?_;cases h;exact kR hS
def WE (N:Nat)  : Option Sound:=
 some (⟨3,4⟩:Sound)
theorem AL7 {N:Nat}    {y:Sound}(h:WE N  = some y) :FunO S Aj7 [] [] (.p (.agg (A0 y))) ([]) []:=by unfold WE at h;refine A1 hS AL4 ?_;cases h;exact kR hS
def EA (N:Nat)  : Option (Sl Law):=
 some (Sl.of [(⟨[86],Pat.mk 1 (⟨4,0⟩:Sound) false 0 0 (Sl.nil:Sl Pat).n (Sl.nil:Sl Pat).g,Pat.mk 1 (⟨4,0⟩:Sound) false 0 0 (Sl.nil:Sl Pat).n (Sl.nil:Sl Pat).g,(Sl.of [(⟨2,0⟩:Sound)]:Sl Sound),(Sl.of [(⟨0,0,(⟨1,0⟩:Sound),0,0⟩:Bj)]:Sl Bj),1⟩:Law),(⟨[70],Pat.mk 0 (⟨0,0⟩:Sound) false 0 0 (Sl.nil:Sl Pat).n (Sl.nil:Sl Pat).g,Pat.mk 6 (⟨0,0⟩:Sound) false 0 0 (Sl.nil:Sl Pat).n (Sl.nil:Sl Pat).g,(Sl.of [(⟨4,0⟩:Sound)]:Sl Sound),(Sl.nil:Sl Bj),1⟩:Law)]:Sl Law)
theorem IW {N:Nat}    {y:Sl Law}(h:EA N  = some y) :FunO S Tk [] [] (.vec 0) ([.vec I7 18 y.n (fun i=>A5 (y.g i)) true]) []:=by unfold EA at h;refine A1 hS Aj6 ?_;refine J0 hS trivial 6 ⟨[(1,.reg 2000 0)],[(2000,.cells [pN 1,pU 4,pU 0,pB false,pN 0,pN 0,.p (vSl 7 B1 (Sl.nil:Sl Pat))])]⟩ (ids:=[(2000,2000)]) ?_;refine J0 hS (And.intro (rfl:true=true) (rfl:true=true)) 13 ⟨[(12,.p (vSl 6 O7 (Sl.of [(⟨0,0,(⟨1,0⟩:Sound),0,0⟩:Bj)]:Sl Bj))),(9,.p (vSl 2 A0 (Sl.of [(⟨2,0⟩:Sound)]:Sl Sound))),(7,.p (.agg [pI .i64 1,pI .u32 4,pI .u32 0,.bb false,pI .i64 0,pI .i64 0,vSl 7 B1 (Sl.nil:Sl Pat)])),(6,.p (.agg [pI .i64 1,pI .u32 4,pI .u32 0,.bb false,pI .i64 0,pI .i64 0,vSl 7 B1 (Sl.nil:Sl Pat)]))],[]⟩ (ids:=[]) ?_ (hle:=klR [(0,.fn 1 (Sl.of [(⟨0,0,(⟨1,0⟩:Sound),0,0⟩:Bj)]:Sl Bj).n (D4 [pI .i64 0,pI .u32 0,pI .u32 0,pI .u32 0,pI .u32 0,pI .i64 0] [(0,O7 (⟨0,0,(⟨1,0⟩:Sound),0,0⟩:Bj))]) (fun i=>O7 ((Sl.of [(⟨0,0,(⟨1,0⟩:Sound),0,0⟩:Bj)]:Sl Bj).g i))),(1,.fn 1 (Sl.of [(⟨2,0⟩:Sound)]:Sl Sound).n (D4 [pI .u32 0,pI .u32 0] [(0,A0 (⟨2,0⟩:Sound))]) (fun i=>A0 ((Sl.of [(⟨2,0⟩:Sound)]:Sl Sound).g i)))] (al1 ⟨rfl,(fun i hi=>match i,hi with|0,_=>rfl|_+1,hi=>absurd hi (by omega))⟩ (al1 ⟨rfl,(fun i hi=>match i,hi with|0,_=>rfl|_+1,hi=>absurd hi (by omega))⟩ al0)));refine J0 hS (rfl:true=true) 17 ⟨[(16,.p (vSl 2 A0 (Sl.of [(⟨4,0⟩:Sound)]:Sl Sound))),(14,.p (.agg [pI .i64 6,pI .u32 0,pI .u32 0,.v (.bool false),pI .i64 0,pI .i64 0,J2])),(2,.reg 3000 0)],[(3000,.cells [.p (.str [86]),pN 1,pU 4,pU 0,pB false,pN 0,pN 0,.p (vSl 7 B1 (Sl.nil:Sl Pat)),pN 1,pU 4,pU 0,pB false,pN 0,pN 0,.p (vSl 7 B1 (Sl.nil:Sl Pat)),.p (vSl 2 A0 (Sl.of [(⟨2,0⟩:Sound)]:Sl Sound)),.p (vSl 6 O7 (Sl.of [(⟨0,0,(⟨1,0⟩:Sound),0,0⟩:Bj)]:Sl Bj)),pN 1])]⟩ (ids:=[(3000,3000)]) ?_ (hle:=klR [(0,.fn 1 (Sl.of [(⟨4,0⟩:Sound)]:Sl Sound).n (D4 [pI .u32 0,pI .u32 0] [(0,A0 (⟨4,0⟩:Sound))]) (fun i=>A0 ((Sl.of [(⟨4,0⟩:Sound)]:Sl Sound).g i)))] (al1 ⟨rfl,(fun i hi=>match i,hi with|0,_=>rfl|_+1,hi=>absurd hi (by omega))⟩ al0));refine J0 hS trivial 19 ⟨[(18,.p (.agg [.str [86],pI .i64 1,pI .u32 4,pI .u32 0,.bb false,pI .i64 0,pI .i64 0,vSl 7 B1 (Sl.nil:Sl Pat),pI .i64 1,pI .u32 4,pI .u32 0,.bb false,pI .i64 0,pI .i64 0,vSl 7 B1 (Sl.nil:Sl Pat),vSl 2 A0 (Sl.of [(⟨2,0⟩:Sound)]:Sl Sound),vSl 6 O7 (Sl.of [(⟨0,0,(⟨1,0⟩:Sound),0,0⟩:Bj)]:Sl Bj),pI .i64 1])),(3,.reg 4000 0)],[(4000,.cells [.p (.str [70]),pN 0,pU 0,pU 0,pB false,pN 0,pN 0,.p (vSl 7 B1 (Sl.nil:Sl Pat)),pN 6,pU 0,pU 0,pB false,pN 0,pN 0,.p (vSl 7 B1 (Sl.nil:Sl Pat)),.p (vSl 2 A0 (Sl.of [(⟨4,0⟩:Sound)]:Sl Sound)),.p (vSl 6 O7 (Sl.nil:Sl Bj)),pN 1])]⟩ (ids:=[(4000,4000)]) ?_;obtain rfl:=B7 h;exact A6 hS (rfl:true=true) ⟨[(0,.vec 21000)],[(21000,.vec I7 18 (Sl.of [(⟨[86],Pat.mk 1 (⟨4,0⟩:Sound) false 0 0 (Sl.nil:Sl Pat).n (Sl.nil:Sl Pat).g,Pat.mk 1 (⟨4,0⟩:Sound) false 0 0 (Sl.nil:Sl Pat).n (Sl.nil:Sl Pat).g,(Sl.of [(⟨2,0⟩:Sound)]:Sl Sound),(Sl.of [(⟨0,0,(⟨1,0⟩:Sound),0,0⟩:Bj)]:Sl Bj),1⟩:Law),(⟨[70],Pat.mk 0 (⟨0,0⟩:Sound) false 0 0 (Sl.nil:Sl Pat).n (Sl.nil:Sl Pat).g,Pat.mk 6 (⟨0,0⟩:Sound) false 0 0 (Sl.nil:Sl Pat).n (Sl.nil:Sl Pat).g,(Sl.of [(⟨4,0⟩:Sound)]:Sl Sound),(Sl.nil:Sl Bj),1⟩:Law)]:Sl Law).n (fun i=>A5 ((Sl.of [(⟨[86],Pat.mk 1 (⟨4,0⟩:Sound) false 0 0 (Sl.nil:Sl Pat).n (Sl.nil:Sl Pat).g,Pat.mk 1 (⟨4,0⟩:Sound) false 0 0 (Sl.nil:Sl Pat).n (Sl.nil:Sl Pat).g,(Sl.of [(⟨2,0⟩:Sound)]:Sl Sound),(Sl.of [(⟨0,0,(⟨1,0⟩:Sound),0,0⟩:Bj)]:Sl Bj),1⟩:Law),(⟨[70],Pat.mk 0 (⟨0,0⟩:Sound) false 0 0 (Sl.nil:Sl Pat).n (Sl.nil:Sl Pat).g,Pat.mk 6 (⟨0,0⟩:Sound) false 0 0 (Sl.nil:Sl Pat).n (Sl.nil:Sl Pat).g,(Sl.of [(⟨4,0⟩:Sound)]:Sl Sound),(Sl.nil:Sl Bj),1⟩:Law)]:Sl Law).g i)) true)]⟩ [21000] (ids:=[(21000,21000)]) ⟨rfl,rfl,rfl⟩ (hle:=klR [(0,.fn 2 (Sl.of [(⟨[86],Pat.mk 1 (⟨4,0⟩:Sound) false 0 0 (Sl.nil:Sl Pat).n (Sl.nil:Sl Pat).g,Pat.mk 1 (⟨4,0⟩:Sound) false 0 0 (Sl.nil:Sl Pat).n (Sl.nil:Sl Pat).g,(Sl.of [(⟨2,0⟩:Sound)]:Sl Sound),(Sl.of [(⟨0,0,(⟨1,0⟩:Sound),0,0⟩:Bj)]:Sl Bj),1⟩:Law),(⟨[70],Pat.mk 0 (⟨0,0⟩:Sound) false 0 0 (Sl.nil:Sl Pat).n (Sl.nil:Sl Pat).g,Pat.mk 6 (⟨0,0⟩:Sound) false 0 0 (Sl.nil:Sl Pat).n (Sl.nil:Sl Pat).g,(Sl.of [(⟨4,0⟩:Sound)]:Sl Sound),(Sl.nil:Sl Bj),1⟩:Law)]:Sl Law).n (D4 [.str [],pI .i64 0,pI .u32 0,pI .u32 0,.v (.bool false),pI .i64 0,pI .i64 0,J2,pI .i64 0,pI .u32 0,pI .u32 0,.v (.bool false),pI .i64 0,pI .i64 0,J2,J2,J2,pI .i64 0] [(0,A5 (⟨[86],Pat.mk 1 (⟨4,0⟩:Sound) false 0 0 (Sl.nil:Sl Pat).n (Sl.nil:Sl Pat).g,Pat.mk 1 (⟨4,0⟩:Sound) false 0 0 (Sl.nil:Sl Pat).n (Sl.nil:Sl Pat).g,(Sl.of [(⟨2,0⟩:Sound)]:Sl Sound),(Sl.of [(⟨0,0,(⟨1,0⟩:Sound),0,0⟩:Bj)]:Sl Bj),1⟩:Law)),(1,A5 (⟨[70],Pat.mk 0 (⟨0,0⟩:Sound) false 0 0 (Sl.nil:Sl Pat).n (Sl.nil:Sl Pat).g,Pat.mk 6 (⟨0,0⟩:Sound) false 0 0 (Sl.nil:Sl Pat).n (Sl.nil:Sl Pat).g,(Sl.of [(⟨4,0⟩:Sound)]:Sl Sound),(Sl.nil:Sl Bj),1⟩:Law))]) (fun i=>A5 ((Sl.of [(⟨[86],Pat.mk 1 (⟨4,0⟩:Sound) false 0 0 (Sl.nil:Sl Pat).n (Sl.nil:Sl Pat).g,Pat.mk 1 (⟨4,0⟩:Sound) false 0 0 (Sl.nil:Sl Pat).n (Sl.nil:Sl Pat).g,(Sl.of [(⟨2,0⟩:Sound)]:Sl Sound),(Sl.of [(⟨0,0,(⟨1,0⟩:Sound),0,0⟩:Bj)]:Sl Bj),1⟩:Law),(⟨[70],Pat.mk 0 (⟨0,0⟩:Sound) false 0 0 (Sl.nil:Sl Pat).n (Sl.nil:Sl Pat).g,Pat.mk 6 (⟨0,0⟩:Sound) false 0 0 (Sl.nil:Sl Pat).n (Sl.nil:Sl Pat).g,(Sl.of [(⟨4,0⟩:Sound)]:Sl Sound),(Sl.nil:Sl Bj),1⟩:Law)]:Sl Law).g i)))] (al1 ⟨rfl,(fun i hi=>match i,hi with|0,_=>rfl|1,_=>rfl|_+2,hi=>absurd hi (by omega))⟩ al0))
def GG (N:Nat)(p_l:Sl Int)(p_m:Sl Int):Option Bool:=
 if ((p_l.n:Int) != (p_m.n:Int)) then
  some false
 else
  R5 N (fun self1 (x1:Int)=>
   if (decide (x1<(p_l.n:Int))) then
    if (((0:Int)<=x1/\x1<(p_l.n:Int))/\((0:Int)<=x1/\x1<(p_m.n:Int)))then
     if ((p_l.g x1.toNat) != (p_m.g x1.toNat)) then
      some false
     else
      self1 (wrap .i64 (x1+1))
    else none
   else
    some true
   ) 0
theorem PY {N:Nat}{p_l:Sl Int}{p_m:Sl Int}{y:Bool}(h:GG N p_l p_m=some y) :FunO S Px [.p (vSl 1 (cI .i64) p_l),.p (vSl 1 (cI .i64) p_m)] [] (pB y) ([]) []:=by
 unfold GG at h;refine A1 hS Zt ?_;refine kI hS h (fun h=>?_) (fun h=>?_)
 ·cases h;exact kR hS
 ·refine G7 hS trivial h (fun x1=>⟨[(5,pN x1),(1,.p (vSl 1 (cI .i64) p_m)),(0,.p (vSl 1 (cI .i64) p_l))],[]⟩) (ids:=[]) (fun _ _ _ _ _ self1 x1 hb1 h=>?_);refine kI hS h (fun h=>?_) (fun h=>?_)
  ·refine D7 hS trivial [2,3,6,7] ?_;obtain⟨c9,h⟩:=D2 h;refine H5 c9 ?_;refine kI hS h (fun h=>?_) (fun h=>?_)
   ·cases h;exact kR hS
   ·exact hb1 _ [] _ (wrap .i64 (x1+1)) trivial h
  ·cases h;exact kR hS
def BY (N:Nat)  : Option Bool:=
 (Gl N ).bind fun y1=>
 (HP N ).bind fun y2=>
 (Gl N ).bind fun y3=>
 (HP N ).bind fun y4=>
 (Gl N ).bind fun y5=>
 (HP N ).bind fun y6=>
 (EA N ).bind fun y7=>
 (Gl N ).bind fun y8=>
 (HP N ).bind fun y9=>
 (DZ N y7 (Sl.of [y1,y2,y3]:Sl Sound) (Sl.of [y8,y9]:Sl Sound)).bind fun y10=>
 (EA N ).bind fun y11=>
 (Gj N y11 (Sl.of [y4,y5,y6]:Sl Sound) (Sl.of [y4,y5,y6]:Sl Sound)).bind fun y12=>
 (EA N ).bind fun y13=>
 (Gl N ).bind fun y14=>
 (HP N ).bind fun y15=>
 (Eb N y13 (Sl.of [y1,y2,y3]:Sl Sound) (Sl.of [y14,y15]:Sl Sound)).bind fun y16=>
 (EA N ).bind fun y17=>
 (Gl N ).bind fun y18=>
 (WE N ).bind fun y19=>
 (Ea N y17 (Sl.of [y1,y2,y3]:Sl Sound) (Sl.of [y18,y19]:Sl Sound)).bind fun y20=>
 lt (fun (z1:Bool)=>
  some z1
  ) fun k1=>
  if (y10.2==0) then
   (GG N y10.1 (Sl.of [1]:Sl Int)).bind fun y23=>
   if y23 then
    if (y12.2.2==0) then
     if y12.2.1 then
      if (((y12.1.First==0)&&(y12.1.Last==2)) != false) then
       if (y16.2==0) then
        (GG N y16.1 (Sl.of [0]:Sl Int)).bind fun y24=>
        if y24 then
         if (y20.2==0) then
          k1 y20.1
         else
          k1 false
        else
         k1 false
       else
        k1 false
      else
       k1 false
     else
      k1 false
    else
     k1 false
   else
    k1 false
  else
   k1 false
theorem Ni {N:Nat}    {y:Bool}(h:BY N  = some y) :FunO S Mg [] [] (pB y) ([]) []:=by
 unfold BY at h;refine A1 hS Vz ?_;refine kC hS h (JJ hS hL) (fun y1 h=>?_);refine kC hS h (Nh hS hL) (fun y2 h=>?_);refine kC hS h (JJ hS hL) (fun y3 h=>?_);obtain⟨y4,e4,h⟩:=B6 h;refine B8 hS [] (rfl:true=true) (Nh hS hL e4) ?_;refine kC hS h (JJ hS hL) (fun y5 h=>?_);refine kC hS h (Nh hS hL) (fun y6 h=>?_);obtain⟨y7,e7,h⟩:=B6 h;refine B8 hS [] (rfl:true=true) (IW hS hL e7) ?_;refine kC hS h (JJ hS hL) (fun y8 h=>?_);refine kC hS h (Nh hS hL) (fun y9 h=>?_);refine Am hS (rfl:true=true) ⟨[(25,.vec 26000),(22,.vec 16000),(21,.vec 22000),(2,.vec 20000),(1,.vec 16000)],[(26000,.vec A9 2 (Sl.of [y8,y9]:Sl Sound).n (fun i=>A0 ((Sl.of [y8,y9]:Sl Sound).g i)) false),(22000,.vec I7 18 y7.n (fun i=>A5 (y7.g i)) true),(20000,.vec A9 2 (Sl.of [y4,y5,y6]:Sl Sound).n (fun i=>A0 ((Sl.of [y4,y5,y6]:Sl Sound).g i)) false),(16000,.vec A9 2 (Sl.of [y1,y2,y3]:Sl Sound).n (fun i=>A0 ((Sl.of [y1,y2,y3]:Sl Sound).g i)) false)]⟩ (ids:=[(16000,16000),(20000,20000),(22000,22000),(26000,26000)]) ?_ (hle:=klR [(0,.fn 2 (Sl.of [y8,y9]:Sl Sound).n (D4 [pI .u32 0,pI .u32 0] [(0,A0 y8),(1,A0 y9)]) (fun i=>A0 ((Sl.of [y8,y9]:Sl Sound).g i))),(2,.fn 3 (Sl.of [y4,y5,y6]:Sl Sound).n (D4 [pI .u32 0,pI .u32 0] [(0,A0 y4),(1,A0 y5),(2,A0 y6)]) (fun i=>A0 ((Sl.of [y4,y5,y6]:Sl Sound).g i))),(3,.fn 3 (Sl.of [y1,y2,y3]:Sl Sound).n (D4 [pI .u32 0,pI .u32 0] [(0,A0 y1),(1,A0 y2),(2,A0 y3)]) (fun i=>A0 ((Sl.of [y1,y2,y3]:Sl Sound).g i)))] (al1 ⟨rfl,(fun i hi=>match i,hi with|0,_=>rfl|1,_=>rfl|_+2,hi=>absurd hi (by omega))⟩ (al1 ⟨rfl,(fun i hi=>match i,hi with|0,_=>rfl|1,_=>rfl|2,_=>rfl|_+3,hi=>absurd hi (by omega))⟩ (al1 ⟨rfl,(fun i hi=>match i,hi with|0,_=>rfl|1,_=>rfl|2,_=>rfl|_+3,hi=>absurd hi (by omega))⟩ al0))));refine kC hS h (OD hS hL) (fun y10 h=>?_);refine kC hS h (IW hS hL) (fun y11 h=>?_);refine kC hS h (Ue hS hL) (fun y12 h=>?_);refine kC hS h (IW hS hL) (fun y13 h=>?_);refine kC hS h (JJ hS hL) (fun y14 h=>?_);refine kC hS h (Nh hS hL) (fun y15 h=>?_);refine Am hS (rfl:true=true) ⟨[(42,.vec 43000),(39,.vec 16000),(38,.vec 39000),(7,pN y12.2.2),(6,pB y12.2.1),(5,.reg 6000 0),(4,pN y10.2),(3,.vec 27000),(1,.vec 16000)],[(43000,.vec A9 2 (Sl.of [y14,y15]:Sl Sound).n (fun i=>A0 ((Sl.of [y14,y15]:Sl Sound).g i)) false),(39000,.vec I7 18 y13.n (fun i=>A5 (y13.g i)) true),(27000,.vec B9 1 y10.1.n (fun i=>cI .i64 (y10.1.g i)) true),(16000,.vec A9 2 (Sl.of [y1,y2,y3]:Sl Sound).n (fun i=>A0 ((Sl.of [y1,y2,y3]:Sl Sound).g i)) true),(6000,.cells [pN y12.1.First,pN y12.1.Last])]⟩ (ids:=[(6000,6000),(16000,16000),(27000,27000),(39000,39000),(43000,43000)]) ?_ (hle:=klR [(3,.fn 2 (Sl.of [y14,y15]:Sl Sound).n (D4 [pI .u32 0,pI .u32 0] [(0,A0 y14),(1,A0 y15)]) (fun i=>A0 ((Sl.of [y14,y15]:Sl Sound).g i)))] (al1 ⟨rfl,(fun i hi=>match i,hi with|0,_=>rfl|1,_=>rfl|_+2,hi=>absurd hi (by omega))⟩ al0));refine kC hS h (OF hS hL) (fun y16 h=>?_);refine kC hS h (IW hS hL) (fun y17 h=>?_);refine kC hS h (JJ hS hL) (fun y18 h=>?_);refine kC hS h (AL7 hS hL) (fun y19 h=>?_);refine Am hS (rfl:true=true) ⟨[(51,.vec 52000),(48,.vec 16000),(47,.vec 48000),(9,pN y16.2),(8,.vec 44000),(7,pN y12.2.2),(6,pB y12.2.1),(5,.reg 6000 0),(4,pN y10.2),(3,.vec 27000)],[(52000,.vec A9 2 (Sl.of [y18,y19]:Sl Sound).n (fun i=>A0 ((Sl.of [y18,y19]:Sl Sound).g i)) false),(48000,.vec I7 18 y17.n (fun i=>A5 (y17.g i)) true),(44000,.vec B9 1 y16.1.n (fun i=>cI .i64 (y16.1.g i)) true),(27000,.vec B9 1 y10.1.n (fun i=>cI .i64 (y10.1.g i)) true),(16000,.vec A9 2 (Sl.of [y1,y2,y3]:Sl Sound).n (fun i=>A0 ((Sl.of [y1,y2,y3]:Sl Sound).g i)) true),(6000,.cells [pN y12.1.First,pN y12.1.Last])]⟩ (ids:=[(6000,6000),(16000,16000),(27000,27000),(44000,44000),(48000,48000),(52000,52000)]) ?_ (hle:=klR [(4,.fn 2 (Sl.of [y18,y19]:Sl Sound).n (D4 [pI .u32 0,pI .u32 0] [(0,A0 y18),(1,A0 y19)]) (fun i=>A0 ((Sl.of [y18,y19]:Sl Sound).g i)))] (al1 ⟨rfl,(fun i hi=>match i,hi with|0,_=>rfl|1,_=>rfl|_+2,hi=>absurd hi (by omega))⟩ al0));refine kC hS h (OE hS hL) (fun y20 h=>?_);refine FM hS trivial (A3 hS) h 0 (fun z1=>⟨[(0,pB z1)],[]⟩) (fun M1 k1 hb1 h=>?_) (fun z1 h=>?_)
 ·refine kG hS h (fun h=>?_) (fun h=>?_)
  ·refine Am hS (rfl:true=true) ⟨[(59,.vec 60000),(58,.vec 27000),(57,.p (.v (.bool true))),(11,pN y20.2),(10,pB y20.1),(9,pN y16.2),(8,.vec 44000),(7,pN y12.2.2),(6,pB y12.2.1),(5,.reg 6000 0)],[(60000,.vec B9 1 (Sl.of [1]:Sl Int).n (fun i=>cI .i64 ((Sl.of [1]:Sl Int).g i)) false),(44000,.vec B9 1 y16.1.n (fun i=>cI .i64 (y16.1.g i)) true),(27000,.vec B9 1 y10.1.n (fun i=>cI .i64 (y10.1.g i)) true),(6000,.cells [pN y12.1.First,pN y12.1.Last])]⟩ (ids:=[(6000,6000),(27000,27000),(44000,44000),(60000,60000)]) ?_ (hle:=klR [(6,.fn 1 (Sl.of [1]:Sl Int).n (D4 [pI .i64 0] [(0,cI .i64 1)]) (fun i=>cI .i64 ((Sl.of [1]:Sl Int).g i)))] (al1 ⟨rfl,(fun i hi=>match i,hi with|0,_=>rfl|_+1,hi=>absurd hi (by omega))⟩ al0));refine kC hS h (PY hS hL) (fun y23 h=>?_);refine kG hS h (fun h=>?_) (fun h=>?_)
   ·refine kG hS h (fun h=>?_) (fun h=>?_)
    ·refine kG hS h (fun h=>?_) (fun h=>?_)
     ·refine Dg hS (by decide +kernel:Aq8 Tryz.prog TM=true) (b:=((y12.1.First==0)&&(y12.1.Last==2)) != false) (fun c14=>?_) (fun c14=>?_)
      ·replace h:=itT c14 h;refine kG hS h (fun h=>?_) (fun h=>?_)
       ·refine Am hS (rfl:true=true) ⟨[(80,.vec 81000),(79,.vec 44000),(78,.p (.v (.bool true))),(11,pN y20.2),(10,pB y20.1)],[(81000,.vec B9 1 (Sl.of [0]:Sl Int).n (fun i=>cI .i64 ((Sl.of [0]:Sl Int).g i)) false),(44000,.vec B9 1 y16.1.n (fun i=>cI .i64 (y16.1.g i)) true)]⟩ (ids:=[(44000,44000),(81000,81000)]) ?_ (hle:=klR [(3,.fn 1 (Sl.of [0]:Sl Int).n (D4 [pI .i64 0] [(0,cI .i64 0)]) (fun i=>cI .i64 ((Sl.of [0]:Sl Int).g i)))] (al1 ⟨rfl,(fun i hi=>match i,hi with|0,_=>rfl|_+1,hi=>absurd hi (by omega))⟩ al0));refine kC hS h (PY hS hL) (fun y24 h=>?_);refine kG hS h (fun h=>?_) (fun h=>?_)
        ·refine kG hS h (fun h=>?_) (fun h=>?_)
         ·exact hb1 _ [] _ y20.1 trivial h
         ·exact hb1 _ [] _ false trivial h
        ·exact hb1 _ [] _ false trivial h
       ·exact hb1 _ [] _ false trivial h
      ·replace h:=itF c14 h;exact hb1 _ [] _ false trivial h
     ·exact hb1 _ [] _ false trivial h
    ·exact hb1 _ [] _ false trivial h
   ·exact hb1 _ [] _ false trivial h
  ·exact hb1 _ [] _ false trivial h
 ·cases h;exact kR hS
end Go.AM
namespace Go.AM
open IntKind (wrap)
open Go.Proofs
set_option maxRecDepth 10000
set_option maxHeartbeats 2000000
variable {S:Bd}(hS:G6 S Tryz.prog) (hL:RY S)
include hS hL
def M0 (N:Nat)(p_laws:Sl Law)(p_from:Sl Sound)(p_to:Sl Sound):Option Bool:=
 (Cp N p_laws p_from).bind fun y1=>
 lt (fun (z1:Bool)=>
  some z1
  ) fun k1=>
  if (y1.2==0) then
   (Fa N y1.1 p_to).bind fun y3=>
   k1 y3
  else
   k1 false
theorem Nj {N:Nat}{p_laws:Sl Law}{p_from:Sl Sound}{p_to:Sl Sound}{y:Bool}(h:M0 N p_laws p_from p_to=some y) :FunO S Mi [.p (vSl 18 A5 p_laws),.p (vSl 2 A0 p_from),.p (vSl 2 A0 p_to)] [] (pB y) ([]) []:=by
 unfold M0 at h;refine A1 hS VA ?_;refine kC hS h (Ua hS hL) (fun y1 h=>?_);refine FM hS trivial (A3 hS) h 0 (fun z1=>⟨[(6,pB z1)],[]⟩) (fun M1 k1 hb1 h=>?_) (fun z1 h=>?_)
 ·refine kG hS h (fun h=>?_) (fun h=>?_)
  ·refine kC hS h (Wo hS hL) (fun y3 h=>?_);exact hb1 _ [] _ y3 trivial h
  ·exact hb1 _ [] _ false trivial h
 ·cases h;exact kR hS
def KC (N:Nat)(p_laws:Sl Law)(p_foreign:Sl Sound)(p_attested:Sl Sound):Option (Sl Int):=
 S4 N (fun self1 (x1:Sl Int) (x2:Int)=>
  if (decide (x2<=(p_laws.n:Int))) then
   if ((0:Int)<=x2/\x2<=(p_laws.n:Int))then
    (M0 N (p_laws.drop x2.toNat) p_foreign p_attested).bind fun y3=>
    if y3 then
     if ((x1.n+(Sl.of [x2]:Sl Int).n)*8<=140737488355328/\x1.n+(Sl.of [x2]:Sl Int).n<=140737488355328)then
      self1 (x1.push x2) (wrap .i64 (x2+1))
     else none
    else
     self1 x1 (wrap .i64 (x2+1))
   else none
  else
   some x1
  ) (Sl.nil:Sl Int) 0
def Cv (N:Nat)(p_laws:Sl Law)(p_proto:Sl Sound)(p_attested:Sl Sound):Option (Sl Int):=
 (M0 N p_laws p_proto p_attested).bind fun y1=>
 if y1 then
  some (Sl.nil:Sl Int)
 else
  S4 N (fun self1 (x1:Sl Int) (x2:Int)=>
   if (decide (x2<(p_laws.n:Int))) then
    if (((((0:Int)<=x2/\x2<=(p_laws.n:Int))/\(((Sl.of []:Sl Law).n+(p_laws.take x2.toNat).n)*200<=140737488355328/\(Sl.of []:Sl Law).n+(p_laws.take x2.toNat).n<=140737488355328))/\((0:Int)<=(wrap .i64 (x2+1))/\(wrap .i64 (x2+1))<=(p_laws.n:Int)))/\((((Sl.of []:Sl Law).app (p_laws.take x2.toNat)).n+(p_laws.drop (wrap .i64 (x2+1)).toNat).n)*200<=140737488355328/\((Sl.of []:Sl Law).app (p_laws.take x2.toNat)).n+(p_laws.drop (wrap .i64 (x2+1)).toNat).n<=140737488355328))then
     (M0 N (((Sl.of []:Sl Law).app (p_laws.take x2.toNat)).app (p_laws.drop (wrap .i64 (x2+1)).toNat)) p_proto p_attested).bind fun y4=>
     if y4 then
      if ((x1.n+(Sl.of [x2]:Sl Int).n)*8<=140737488355328/\x1.n+(Sl.of [x2]:Sl Int).n<=140737488355328)then
       self1 (x1.push x2) (wrap .i64 (x2+1))
      else none
     else
      self1 x1 (wrap .i64 (x2+1))
    else none
   else
    some x1
   ) (Sl.nil:Sl Int) 0
theorem Uf {N:Nat}{p_laws:Sl Law}{p_proto:Sl Sound}{p_attested:Sl Sound}{y:Sl Int}(h:Cv N p_laws p_proto p_attested=some y) :FunO S Kl [.p (vSl 18 A5 p_laws),.p (vSl 2 A0 p_proto),.p (vSl 2 A0 p_attested)] [] (.vec 0) ([.vec B9 1 y.n (fun i=>cI .i64 (y.g i)) true]) []:=by
 unfold Cv at h;refine A1 hS Tm ?_;refine kC hS h (Nj hS hL) (fun y1 h=>?_);refine kI hS h (fun h=>?_) (fun h=>?_)
 ·obtain rfl:=B7 h;exact A6 hS trivial ⟨[(6,.vec 7700)],[(7700,.vec B9 1 (Sl.nil:Sl Int).n (fun i=>cI .i64 ((Sl.nil:Sl Int).g i)) true)]⟩ [7700] (ids:=[]) ⟨rfl,rfl,rfl⟩
 ·refine F5 hS trivial h (fun x1 x2=>⟨[(8,pN x2),(7,.vec 8500),(2,.p (vSl 2 A0 p_attested)),(1,.p (vSl 2 A0 p_proto)),(0,.p (vSl 18 A5 p_laws))],[(8500,.vec B9 1 x1.n (fun i=>cI .i64 (x1.g i)) false)]⟩) (ids:=[]) (fun _ _ _ _ _ self1 x1 x2 hb1 h=>?_);refine kI hS h (fun h=>?_) (fun h=>?_)
  ·refine D7 hS trivial [1000] ?_;obtain⟨c9,h⟩:=D2 h;obtain⟨y4,e4,h⟩:=B6 h;refine GX [] (And.intro (And.intro (And.intro (And.intro (rfl:true=true) c9.1.1.1) c9.1.1.2) c9.1.2) c9.2) (FunO.le hS (args:=[.p (.sl false 18 ((0+(p_laws.take x2.toNat).n)+(p_laws.drop (wrap .i64 (x2+1)).toNat).n) (R4 (0+(p_laws.take x2.toNat).n) (R4 0 (D4 [.str [],pI .i64 0,pI .u32 0,pI .u32 0,.v (.bool false),pI .i64 0,pI .i64 0,J2,pI .i64 0,pI .u32 0,pI .u32 0,.v (.bool false),pI .i64 0,pI .i64 0,J2,J2,J2,pI .i64 0] []) (fun i=>A5 ((p_laws.take x2.toNat).g i))) (fun i=>A5 ((p_laws.drop (wrap .i64 (x2+1)).toNat).g i)))),.p (vSl 2 A0 p_proto),.p (vSl 2 A0 p_attested)]) (by exact⟨Xm rfl (Vr (c:=A5) (v:=(Sl.of []:Sl Law).app (p_laws.take x2.toNat)) (w:=p_laws.drop (wrap .i64 (x2+1)).toNat) (Vr (c:=A5) (v:=(Sl.of []:Sl Law)) (w:=p_laws.take x2.toNat) (fun i hi=>absurd hi (by omega)) rfl same rfl) rfl same rfl),⟨.inl rfl,⟨.inl rfl,trivial⟩⟩⟩) (Nj hS hL e4)) ?_;refine H5 trivial ?_;refine kI hS h (fun h=>?_) (fun h=>?_)
   ·obtain⟨c11,h⟩:=D2 h;exact hb1 _ [(8500,36000)] _ (x1.push x2) (wrap .i64 (x2+1)) (And.intro (rfl:true=true) c11) h (hle:=klR [(4,.fn (x1.n+1) (x1.push x2).n (R4 x1.n (fun i=>cI .i64 (x1.g i)) (D4 [pI .i64 0] [(0,cI .i64 x2)])) (fun i=>cI .i64 ((x1.push x2).g i)))] (al1 ⟨rfl,Er (c:=cI .i64) (v:=x1) (x:=x2) (z:=[(pI .i64 0)]) same rfl rfl⟩ al0))
   ·exact hb1 _ [(8500,8500)] _ x1 (wrap .i64 (x2+1)) trivial h
  ·obtain rfl:=B7 h;exact A6 hS trivial ⟨[(6,.vec 8500)],[(8500,.vec B9 1 x1.n (fun i=>cI .i64 (x1.g i)) true)]⟩ [8500] (ids:=[(8500,8500)]) ⟨rfl,rfl,rfl⟩
end Go.AM
