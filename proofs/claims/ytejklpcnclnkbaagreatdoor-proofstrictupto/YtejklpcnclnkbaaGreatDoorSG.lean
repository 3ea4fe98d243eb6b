/- Part 7. -/
import Derived.Test.YtejklpcnclnkbaaGreatDoorSF
import Derived.Test.YtejklpcnclnkbaaGreatDoorSE
set_option linter.defProp false
set_option linter.unusedSimpArgs false
set_option linter.unusedVariables false
set_option linter.unusedSectionVars false
namespace Go.AM
open Go.Proofs.Tryz
abbrev Il:Sl Im:=Sl.nil
def Hu:(4:Nat)<=4:=by decide
def Gp:(3:Nat)<=3:=by decide
def Fc:(1:Nat)<=1:=by decide
abbrev Fb(z:Int):Sl Int:=(Sl.of [IntKind.wrap .u8 z,IntKind.wrap .u8 (shI .shr .u32 z 8),IntKind.wrap .u8 (shI .shr .u32 z 16)]:Sl Int)
variable {N:Nat}
open IntKind (wrap)
def Bp9:=@Option.ite_none_right_eq_some
open Go.Proofs
set_option maxRecDepth 10000
set_option maxHeartbeats 2000000
variable {S:U7}(Z:G4 S Tryz.prog) (Y:Kb S)
include Z Y
def Ix (N:Nat)(a:Int):Option Bool:= some (((((decide (97<=a))&&(decide (a<=122)))||((decide (65<=a))&&(decide (a<=90))))||((decide (48<=a))&&(decide (a<=57))))||(a==45))
theorem VC {b:Int}{y:Bool}(h:Ix N b=some y) :FunO S MH [.p (pI .u8 b)] [] (pB y) ([]) []:=by unfold Ix at h;refine A2 Z func99 ?_;refine kB Z (A4 Z) Fa Fa 23 (.o (.o (.o (.n (.a (decide (97<=b))) (.a (decide (b<=122)))) (.n (.a (decide (65<=b))) (.a (decide (b<=90))))) (.n (.a (decide (48<=b))) (.a (decide (b<=57))))) (.a (b==45))) ?_;cases h;exact kR Z
def EH (N:Nat)(a:Str):Option Bool:= Y1 N (fun b (x1:Int)=>if (decide (x1<(a.length:Int))) then if ((0:Int)<=x1/\x1<(a.length:Int))then (Ix N (HS a x1)).bind fun y3=>if (!y3) then some false else b (wrap .i64 (x1+1)) else none else some ((decide (1<=(a.length:Int)))&&(decide ((a.length:Int)<=24)))) 0
theorem RA {b:Str}{y:Bool}(h:EH N b=some y) :FunO S Rt [.p (.str b)] [] (pB y) ([]) []:=by
 unfold EH at h;refine A2 Z func66 ?_;refine R9 Z Fa h (fun x1=>⟨[(3,pN x1),(0,.p (.str b))],[]⟩) (ids:=[]) (fun _ _ _ _ _ c x1 d h=>?_);apply kI Z h<;>intro h
 .obtain⟨c8,h⟩:=C9 h;obtain⟨y3,e3,h⟩:=A8 h;refine B3 Z [] c8 (VC Z Y e3) ?_;apply kI Z h<;>intro h
  .cases h;exact kR Z
  exact d _ [] _ (wrap .i64 (x1+1)) Fa h
 refine kB Z (A4 Z) Fa Fa 4 (.n (.a (decide (1<=(b.length:Int)))) (.a (decide ((b.length:Int)<=24)))) ?_;cases h;exact kR Z
def Du (N:Nat)(a:Sl Node):Option Int:= if ((decide ((a.n:Int)<1))=false->((decide (63<(a.n:Int)))=false->((0:Int)<=0/\0<(a.n:Int))))then if (((decide ((a.n:Int)<1))||(decide (63<(a.n:Int))))||((a.g 0).Parent != (-1))) then some 16 else Y1 N (fun b (x3:Int)=>if (decide (x3<(a.n:Int))) then lt (fun (z3:Bool)=>if z3 then some 16 else Y1 N (fun c (x7:Int)=>if (decide (x7<x3)) then if (((0:Int)<=x7/\x7<(a.n:Int))/\((0:Int)<=x3/\x3<(a.n:Int)))then if (((a.g x7.toNat).Name==(a.g x3.toNat).Name) != false) then some 16 else c (wrap .i64 (x7+1)) else none else b (wrap .i64 (x3+1))) 0) fun k3=>if (decide (0<x3)) then if ((0:Int)<=x3/\x3<(a.n:Int))then if (decide ((a.g x3.toNat).Parent<0)) then k3 true else if ((0:Int)<=x3/\x3<(a.n:Int))then if (decide (x3<=(a.g x3.toNat).Parent)) then k3 true else if ((0:Int)<=x3/\x3<(a.n:Int))then (EH N (a.g x3.toNat).Name).bind fun d=>k3 (!d) else none else none else none else if ((0:Int)<=x3/\x3<(a.n:Int))then (EH N (a.g x3.toNat).Name).bind fun f=>k3 (!f) else none else some 0) 0 else none
theorem XH {c:Sl Node}{y:Int}(h:Du N c=some y) :FunO S OL [.p (vSl 2 C6 c)] [] (pN y) ([]) []:=by
 unfold Du at h;refine A2 Z func28 ?_;obtain⟨c1,h⟩:=C9 h;refine kB Z (A4 Z) Fa c1 11 (.o (.o (.a (decide ((c.n:Int)<1))) (.a (decide (63<(c.n:Int))))) (.a ((c.g 0).Parent != (-1)))) ?_;apply kI Z h<;>intro h
 .cases h;exact kR Z
 refine R9 Z Fa h (fun x3=>⟨[(3,pN x3),(0,.p (vSl 2 C6 c))],[]⟩) (ids:=[]) (fun _ _ _ _ _ f x3 i h=>?_);apply kI Z h<;>intro h
 .refine KH Z Fa (A4 Z) h 0 (fun z3=>⟨[(53,pB z3),(3,pN x3),(0,.p (vSl 2 C6 c))],[]⟩) (fun M3 k3 d h=>?_) (fun z3 h=>?_)
  .refine kG Z h (fun h=>?_) (fun h=>?_)
   .obtain⟨c71,h⟩:=C9 h;refine GN Z c71 (b:=decide ((c.g x3.toNat).Parent<0)) (fun c72=>?_) (fun c72=>?_)
    .replace h:=itT c72 h;exact d _ [] _ true Fa h
    replace h:=itF c72 h;obtain⟨c73,h⟩:=C9 h;refine GN Z c73 (b:=decide (x3<=(c.g x3.toNat).Parent)) (fun c74=>?_) (fun c74=>?_)
    .replace h:=itT c74 h;exact d _ [] _ true Fa h
    replace h:=itF c74 h;obtain⟨c75,h⟩:=C9 h;obtain⟨j,e11,h⟩:=A8 h;refine B3 Z [] c75 (RA Z Y e11) ?_;exact d _ [] _ (!j) Fa h
   obtain⟨c76,h⟩:=C9 h;obtain⟨l,e12,h⟩:=A8 h;refine B3 Z [] c76 (RA Z Y e12) ?_;exact d _ [] _ (!l) Fa h
  apply kI Z h<;>intro h
  .cases h;exact kR Z
  refine R9 Z Fa h (fun x7=>⟨[(4,pN x7),(3,pN x3),(0,.p (vSl 2 C6 c))],[]⟩) (ids:=[]) (fun _ _ _ _ _ m x7 q h=>?_);apply kI Z h<;>intro h
  .refine E3 Z Fa [2,4,7,9] ?_;obtain⟨c85,h⟩:=C9 h;refine D1 c85 ?_;apply kI Z h<;>intro h
   .cases h;exact kR Z
   exact q _ [] _ (wrap .i64 (x7+1)) Fa h
  exact i _ [] _ (wrap .i64 (x3+1)) Fa h
 cases h;exact kR Z
def GY (N:Nat)(a:Int):Option Bool:= some (((((decide (97<=a))&&(decide (a<=122)))||((decide (65<=a))&&(decide (a<=90))))||((decide (48<=a))&&(decide (a<=57))))||(a==45))
theorem Tm {b:Int}{y:Bool}(h:GY N b=some y) :FunO S La [.p (pI .u8 b)] [] (pB y) ([]) []:=by unfold GY at h;refine A2 Z func149 ?_;refine kB Z (A4 Z) Fa Fa 23 (.o (.o (.o (.n (.a (decide (97<=b))) (.a (decide (b<=122)))) (.n (.a (decide (65<=b))) (.a (decide (b<=90))))) (.n (.a (decide (48<=b))) (.a (decide (b<=57))))) (.a (b==45))) ?_;cases h;exact kR Z
def DX (N:Nat)(a:Str):Option Bool:= Y1 N (fun b (x1:Int)=>if (decide (x1<(a.length:Int))) then if ((0:Int)<=x1/\x1<(a.length:Int))then (GY N (HS a x1)).bind fun y3=>if (!y3) then some false else b (wrap .i64 (x1+1)) else none else some ((decide (0<(a.length:Int)))&&(decide ((a.length:Int)<=24)))) 0
theorem VD {b:Str}{y:Bool}(h:DX N b=some y) :FunO S MI [.p (.str b)] [] (pB y) ([]) []:=by
 unfold DX at h;refine A2 Z func110 ?_;refine R9 Z Fa h (fun x1=>⟨[(6,pN x1),(5,pN (b.length:Int)),(0,.p (.str b))],[]⟩) (ids:=[]) (fun _ _ _ _ _ c x1 d h=>?_);apply kI Z h<;>intro h
 .obtain⟨c8,h⟩:=C9 h;obtain⟨y3,e3,h⟩:=A8 h;refine B3 Z [] c8 (Tm Z Y e3) ?_;apply kI Z h<;>intro h
  .cases h;exact kR Z
  exact d _ [] _ (wrap .i64 (x1+1)) Fa h
 refine kB Z (A4 Z) Fa Fa 4 (.n (.a (decide (0<(b.length:Int)))) (.a (decide ((b.length:Int)<=24)))) ?_;cases h;exact kR Z
def W7 (N:Nat)(a:Sl Node):Option Int:= if (((a.n:Int)==0)||(decide (63<(a.n:Int)))) then some 16 else BD N (fun b (x2:List (Str×Bool)) (x3:Int)=>if (decide (x3<(a.n:Int))) then if ((0:Int)<=x3/\x3<(a.n:Int))then lt (fun (z3:Bool)=>if z3 then some 16 else b (Eh eqS (a.g x3.toNat).Name true x2) (wrap .i64 (x3+1))) fun k3=>if (decide (x3<=(a.g x3.toNat).Parent)) then k3 true else if (decide ((a.g x3.toNat).Parent<(if 0<(wrap .i64 (x3-1))then 0 else (wrap .i64 (x3-1))))) then k3 true else (DX N (a.g x3.toNat).Name).bind fun y6=>if (!y6) then k3 true else Nx (T0 eqS (a.g x3.toNat).Name x2) (k3 false) fun v6=>k3 v6 else none else some 0) [] 0
theorem FH {b:Sl Node}{y:Int}(h:W7 N b=some y) :FunO S ME [.p (vSl 2 C6 b)] [] (pN y) ([]) []:=by
 unfold W7 at h;refine A2 Z func73 ?_;refine kB Z (A4 Z) Fa Fa 4 (.o (.a ((b.n:Int)==0)) (.a (decide (63<(b.n:Int))))) ?_;apply kI Z h<;>intro h
 .cases h;exact kR Z
 refine H8 Z Fa h (fun x2 x3=>⟨[(17,pN x3),(16,pN (b.n:Int)),(15,.p (vSl 2 C6 b)),(3,.mref 15000)],[(15000,oM PV.str PV.bb x2)]⟩) (ids:=[(15000,15000)]) (fun _ _ _ _ _ d x2 x3 f h=>?_);apply kI Z h<;>intro h
 .obtain⟨c25,h⟩:=C9 h;refine KH Z (And.intro c25 Ga) (A4 Z) h 0 (fun z3=>⟨[(45,pB z3),(17,pN x3),(16,pN (b.n:Int)),(15,.p (vSl 2 C6 b)),(5,.reg 6000 0),(3,.mref 15000)],[(15000,oM PV.str PV.bb x2),(6000,.cells [pN (b.g x3.toNat).Parent,.p (.str (b.g x3.toNat).Name)])]⟩) (fun M3 k3 c h=>?_) (fun z3 h=>?_)
  .refine kG Z h (fun h=>?_) (fun h=>?_)
   .exact c _ [(6000,6000),(15000,15000)] _ true Fa h
   refine kG Z h (fun h=>?_) (fun h=>?_)
   .exact c _ [(6000,6000),(15000,15000)] _ true Fa h
   refine kC Z h (VD Z Y) (fun y6 h=>?_);refine kG Z h (fun h=>?_) (fun h=>?_)
   .exact c _ [(6000,6000),(15000,15000)] _ true Fa h
   rcases o6:T0 eqS (b.g x3.toNat).Name x2 with _|v6
   .replace h:=ZQ o6 h;refine Xc Z Fa F6 AF9 PV.str PV.bb eqS o6 (.v (.bool false)) Fa ?_;exact c _ [(6000,6000),(15000,15000)] _ false Fa h
   replace h:=YE o6 h;refine Xb Z Fa F6 AF9 PV.str PV.bb eqS o6 Fa ?_;exact c _ [(6000,6000),(15000,15000)] _ v6 Fa h
  apply kI Z h<;>intro h
  .cases h;exact kR Z
  refine Aa0 Z Fa F6 PV.str PV.bb eqS (b.g x3.toNat).Name true x2 Fa ?_;exact f _ [(15000,15000)] _ (Eh eqS (b.g x3.toNat).Name true x2) (wrap .i64 (x3+1)) Fa h
 cases h;exact kR Z
def Az (N:Nat)(a:History):Option Int:= if ((0:Int)<=(a.On.n:Int)/\(a.On.n:Int)<=(a.On.n:Int)/\(a.On.n:Int)*8<=140737488355328/\(a.On.n:Int)<=140737488355328)then Av4 N (fun c (x4:Sl Int) (x5:Bool) (x6:Int)=>if (decide (x6<(a.On.n:Int))) then if ((((0:Int)<=x6/\x6<(a.On.n:Int))/\((0:Int)<=x6/\x6<(x4.n:Int)))/\x6.toNat<x4.n)then if ((0:Int)<=x6/\x6<(a.Tree.n:Int))then lt (fun (z3:Sl Int)=>if (((0:Int)<=x6/\x6<(z3.n:Int))/\x6.toNat<z3.n)then if (decide (64<(z3.g x6.toNat))) then some 2 else BD N (fun d (f:Bool) (b:Int)=>if (decide (b<((a.On.g x6.toNat).n:Int))) then if ((0:Int)<=b/\b<((a.On.g x6.toNat).n:Int))then d ((f||(decide (((a.On.g x6.toNat).g b.toNat)<0)))||(decide ((a.Laws.n:Int)<=((a.On.g x6.toNat).g b.toNat)))) (wrap .i64 (b+1)) else none else c z3 f (wrap .i64 (x6+1))) x5 0 else none) fun k3=>if (decide (0<=(a.Tree.g x6.toNat).Parent)) then if (((((((0:Int)<=x6/\x6<((x4.upd x6.toNat ((a.On.g x6.toNat).n:Int)).n:Int))/\x6.toNat<(x4.upd x6.toNat ((a.On.g x6.toNat).n:Int)).n)/\((0:Int)<=(a.Tree.g x6.toNat).Parent/\(a.Tree.g x6.toNat).Parent<((x4.upd x6.toNat ((a.On.g x6.toNat).n:Int)).n:Int)))/\(a.Tree.g x6.toNat).Parent.toNat<(x4.upd x6.toNat ((a.On.g x6.toNat).n:Int)).n)/\((0:Int)<=x6/\x6<((x4.upd x6.toNat ((a.On.g x6.toNat).n:Int)).n:Int)))/\x6.toNat<(x4.upd x6.toNat ((a.On.g x6.toNat).n:Int)).n)then k3 ((x4.upd x6.toNat ((a.On.g x6.toNat).n:Int)).upd x6.toNat (wrap .i64 (((x4.upd x6.toNat ((a.On.g x6.toNat).n:Int)).g x6.toNat)+((x4.upd x6.toNat ((a.On.g x6.toNat).n:Int)).g (a.Tree.g x6.toNat).Parent.toNat)))) else none else k3 (x4.upd x6.toNat ((a.On.g x6.toNat).n:Int)) else none else none else if x5 then some 3 else some 0) (Sl.rep (a.On.n:Int).toNat 0:Sl Int) false 0 else none
theorem Pu {d:History}{y:Int}(h:Az N d=some y) :FunO S Ih [.p (.agg (A7 d))] [] (pN y) ([]) []:=by
 unfold Az at h;refine A2 Z func100 ?_;refine F7 Z Fa 2 2000 (A7 d) ?_;obtain⟨c1,h⟩:=C9 h;refine Ov Z c1 h (fun x4 x5 x6=>⟨[(17,pN x6),(16,pN (d.On.n:Int)),(15,.p (vSl 1 (cL 1 (cI .i64)) d.On)),(4,pB x5),(3,.vec 14000),(1,.p (.ptr (A7 d)))],[(14000,oV E4 1 (cI .i64) x4 false)]⟩) (ids:=[(14000,14000)]) (fun _ _ _ _ _ q x4 x5 x6 r h=>?_);apply kI Z h<;>intro h
 .obtain⟨c35,h⟩:=C9 h;refine N0 Z (And.intro (And.intro c35.1.1 c35.1.2) (And.intro (rfl:(1:Nat)=1) (And.intro c35.2 Fc))) 27 ⟨[(17,pN x6),(16,pN (d.On.n:Int)),(15,.p (vSl 1 (cL 1 (cI .i64)) d.On)),(6,.p (vSl 1 (cI .i64) (d.On.g x6.toNat))),(5,pN x6),(4,pB x5),(3,.vec 14000),(1,.p (.ptr (A7 d)))],[(14000,.vec E4 1 (x4.upd x6.toNat ((d.On.g x6.toNat).n:Int)).n (fun i=>cI .i64 ((x4.upd x6.toNat ((d.On.g x6.toNat).n:Int)).g i)) false)]⟩ (ids:=[(14000,14000)]) ?_ (hle:=klR [(7,.fn x4.n (x4.upd x6.toNat ((d.On.g x6.toNat).n:Int)).n (fun l=>if l=x6.toNat then splice ((fun i=>cI .i64 (x4.g i)) l) 0 [pI .i64 ((d.On.g x6.toNat).n:Int)]else (fun i=>cI .i64 (x4.g i)) l) (fun i=>cI .i64 ((x4.upd x6.toNat ((d.On.g x6.toNat).n:Int)).g i)))] (al1 ⟨rfl,AR3 (c:=cI .i64) (v:=x4) (x:=((d.On.g x6.toNat).n:Int)) same (fun _=>by first|rfl|(dsimp only;split<;>rfl))⟩ al0));obtain⟨c36,h⟩:=C9 h;refine KH Z c36 (A4 Z) h 0 (fun z3=>⟨[(17,pN x6),(16,pN (d.On.n:Int)),(15,.p (vSl 1 (cL 1 (cI .i64)) d.On)),(6,.p (vSl 1 (cI .i64) (d.On.g x6.toNat))),(5,pN x6),(4,pB x5),(3,.vec 14000),(1,.p (.ptr (A7 d)))],[(14000,oV E4 1 (cI .i64) z3 false)]⟩) (fun M3 k3 m h=>?_) (fun z3 h=>?_)
  .apply kI Z h<;>intro h
   .refine EU Z Fa ?_;obtain⟨c41,h⟩:=C9 h;refine D1 (And.intro (And.intro (And.intro (And.intro (And.intro c41.1.1.1.1.1 c41.1.1.1.1.2) c41.1.1.1.2) c41.1.1.2) c41.1.2) (And.intro (rfl:(1:Nat)=1) (And.intro c41.2 Fc))) ?_;exact m _ [(14000,14000)] _ ((x4.upd x6.toNat ((d.On.g x6.toNat).n:Int)).upd x6.toNat (wrap .i64 (((x4.upd x6.toNat ((d.On.g x6.toNat).n:Int)).g x6.toNat)+((x4.upd x6.toNat ((d.On.g x6.toNat).n:Int)).g (d.Tree.g x6.toNat).Parent.toNat)))) Fa h (hle:=klR [(7,.fn (x4.upd x6.toNat ((d.On.g x6.toNat).n:Int)).n ((x4.upd x6.toNat ((d.On.g x6.toNat).n:Int)).upd x6.toNat (wrap .i64 (((x4.upd x6.toNat ((d.On.g x6.toNat).n:Int)).g x6.toNat)+((x4.upd x6.toNat ((d.On.g x6.toNat).n:Int)).g (d.Tree.g x6.toNat).Parent.toNat)))).n (fun l=>if l=x6.toNat then splice ((fun i=>cI .i64 ((x4.upd x6.toNat ((d.On.g x6.toNat).n:Int)).g i)) l) 0 [pI .i64 (wrap .i64 (((x4.upd x6.toNat ((d.On.g x6.toNat).n:Int)).g x6.toNat)+((x4.upd x6.toNat ((d.On.g x6.toNat).n:Int)).g (d.Tree.g x6.toNat).Parent.toNat)))]else (fun i=>cI .i64 ((x4.upd x6.toNat ((d.On.g x6.toNat).n:Int)).g i)) l) (fun i=>cI .i64 (((x4.upd x6.toNat ((d.On.g x6.toNat).n:Int)).upd x6.toNat (wrap .i64 (((x4.upd x6.toNat ((d.On.g x6.toNat).n:Int)).g x6.toNat)+((x4.upd x6.toNat ((d.On.g x6.toNat).n:Int)).g (d.Tree.g x6.toNat).Parent.toNat)))).g i)))] (al1 ⟨rfl,AR3 (c:=cI .i64) (v:=x4.upd x6.toNat ((d.On.g x6.toNat).n:Int)) (x:=wrap .i64 (((x4.upd x6.toNat ((d.On.g x6.toNat).n:Int)).g x6.toNat)+((x4.upd x6.toNat ((d.On.g x6.toNat).n:Int)).g (d.Tree.g x6.toNat).Parent.toNat))) same (fun _=>by first|rfl|(dsimp only;split<;>rfl))⟩ al0))
   exact m _ [(14000,14000)] _ (x4.upd x6.toNat ((d.On.g x6.toNat).n:Int)) Fa h
  obtain⟨c42,h⟩:=C9 h;refine C8 Z c42 (b:=decide (64<(z3.g x6.toNat))) (fun c43=>?_) (fun c43=>?_)
  .replace h:=itT c43 h;cases h;exact kR Z
  replace h:=itF c43 h;refine H8 Z Fa h (fun j f=>⟨[(52,pN f),(51,pN ((d.On.g x6.toNat).n:Int)),(50,.p (vSl 1 (cI .i64) (d.On.g x6.toNat))),(17,pN x6),(16,pN (d.On.n:Int)),(15,.p (vSl 1 (cL 1 (cI .i64)) d.On)),(4,pB j),(3,.vec 14000),(1,.p (.ptr (A7 d)))],[(14000,oV E4 1 (cI .i64) z3 false)]⟩) (ids:=[(14000,14000)]) (fun _ _ _ _ _ s j f t h=>?_);apply kI Z h<;>intro h
  .obtain⟨c49,h⟩:=C9 h;refine kB Z (A4 Z) c49 Fa 10 (.o (.o (.a j) (.a (decide (((d.On.g x6.toNat).g f.toNat)<0)))) (.a (decide ((d.Laws.n:Int)<=((d.On.g x6.toNat).g f.toNat))))) ?_;exact t _ [(14000,14000)] _ ((j||(decide (((d.On.g x6.toNat).g f.toNat)<0)))||(decide ((d.Laws.n:Int)<=((d.On.g x6.toNat).g f.toNat)))) (wrap .i64 (f+1)) Fa h
  exact r _ [(14000,14000)] _ z3 j (wrap .i64 (x6+1)) Fa h
 apply kI Z h<;>intro h
 .cases h;exact kR Z
 cases h;exact kR Z
def J9 (N:Nat)(a:History):Option Int:= (W7 N a.Tree).bind fun y1=>if (y1 != 0) then some 16 else if (decide (64<(a.Laws.n:Int))) then some 12 else BD N (fun b (x1:List (Str×Int)) (x2:Int)=>if (decide (x2<(a.Laws.n:Int))) then if ((0:Int)<=x2/\x2<(a.Laws.n:Int))then (Ax N (a.Laws.g x2.toNat)).bind fun y4=>if (y4 != 0) then some 17 else Nx (T0 eqS (a.Laws.g x2.toNat).Name x1) (b (Eh eqS (a.Laws.g x2.toNat).Name (wrap .i64 (0+1)) x1) (wrap .i64 (x2+1))) fun v3=>b (Eh eqS (a.Laws.g x2.toNat).Name (wrap .i64 (v3+1)) x1) (wrap .i64 (x2+1)) else none else if (decide (((Dc PV.str (pI .i64) x1).length:Int)<(a.Laws.n:Int))) then some 6 else if ((a.On.n:Int) != (a.Tree.n:Int)) then some 2 else (Az N a).bind fun y5=>some y5) [] 0
theorem CS {a:History}{y:Int}(h:J9 N a=some y) :FunO S Ie [.p (.agg (A7 a))] [] (pN y) ([]) []:=by
 unfold J9 at h;refine A2 Z func67 ?_;refine kC Z h (FH Z Y) (fun y1 h=>?_);apply kI Z h<;>intro h
 .cases h;exact kR Z
 apply kI Z h<;>intro h
 .cases h;exact kR Z
 refine H8 Z Fa h (fun x1 x2=>⟨[(18,pN x2),(17,pN (a.Laws.n:Int)),(16,.p (vSl 18 B4 a.Laws)),(3,.mref 15000),(1,.reg 2000 0)],[(15000,oM PV.str (pI .i64) x1),(2000,.cells ((A7 a).map .p))]⟩) (ids:=[(2000,2000),(15000,15000)]) (fun _ _ _ _ _ c x1 x2 b h=>?_);apply kI Z h<;>intro h
 .obtain⟨c10,h⟩:=C9 h;obtain⟨y4,e4,h⟩:=A8 h;refine B3 Z [] (And.intro c10 Ic) (GX Z Y e4) ?_;apply kI Z h<;>intro h
  .cases h;exact kR Z
  rcases o3:T0 eqS (a.Laws.g x2.toNat).Name x1 with _|v3
  .replace h:=ZQ o3 h;refine Xc Z Fa F6 E4 PV.str (pI .i64) eqS o3 (pI .i64 0) Fa ?_;refine Aa0 Z Fa F6 PV.str (pI .i64) eqS (a.Laws.g x2.toNat).Name (wrap .i64 (0+1)) x1 Fa ?_;exact b _ [(2000,2000),(15000,15000)] _ (Eh eqS (a.Laws.g x2.toNat).Name (wrap .i64 (0+1)) x1) (wrap .i64 (x2+1)) Fa h
  replace h:=YE o3 h;refine Xb Z Fa F6 E4 PV.str (pI .i64) eqS o3 Fa ?_;refine Aa0 Z Fa F6 PV.str (pI .i64) eqS (a.Laws.g x2.toNat).Name (wrap .i64 (v3+1)) x1 Fa ?_;exact b _ [(2000,2000),(15000,15000)] _ (Eh eqS (a.Laws.g x2.toNat).Name (wrap .i64 (v3+1)) x1) (wrap .i64 (x2+1)) Fa h
 apply kI Z h<;>intro h
 .cases h;exact kR Z
 apply kI Z h<;>intro h
 .cases h;exact kR Z
 refine kC Z h (Pu Z Y) (fun y5 h=>?_);cases h;exact kR Z
def U3 (N:Nat)(b:History)(a:Int):Option Bool:= some ((decide (0<=a))&&(decide (a<(b.Tree.n:Int))))
theorem FU {c:History}{b:Int}{y:Bool}(h:U3 N c b=some y) :FunO S Jj [.p (.agg (A7 c)),pN b] [] (pB y) ([]) []:=by unfold U3 at h;refine A2 Z func31 ?_;refine kB Z (A4 Z) Fa Fa 6 (.n (.a (decide (0<=b))) (.a (decide (b<(c.Tree.n:Int))))) ?_;cases h;exact kR Z
def S8 (N:Nat)(q0:Int)(q1:Sl Node):Option (List (Int)):= BD N (fun a (x1:Int) (x2:Sl Int)=>if (decide (0<=x1)) then if (((x2.n+(Sl.of [x1]:Sl Int).n)*8<=140737488355328/\x2.n+(Sl.of [x1]:Sl Int).n<=140737488355328)/\((0:Int)<=x1/\x1<(q1.n:Int)))then a (q1.g x1.toNat).Parent (x2.push x1) else none else Y1 N (fun b (x3:Int)=>if (decide (0<=x3)) then if (((0:Int)<=x3/\x3<(x2.n:Int))/\x3.toNat<x2.n)then Af (x2.g x3.toNat) (b (wrap .i64 (x3-1))) else none else some []) (wrap .i64 ((x2.n:Int)-1))) q0 Ii
theorem Iy {q0:Int}{q1:Sl Node}{L:List (Int)}(h:S8 N q0 q1=some L) :ER S EX [] [.reg 0 0,.reg 1 0] [.cells [pN q0],.cells [.p (vSl 2 C6 q1)]] (L.map (fun (x:Int)=>[pI .i64 x])):=by
 unfold S8 at h;refine EA Z func68 ?_;refine Sy Z Fa h (fun x1 x2 L1=>⟨[(4,.vec 5500),(2,.reg 1 0),(1,.reg 0 0),(0,.yf 2)],[(5500,oV E4 1 (cI .i64) x2 false),(2,.yld (L1.map (fun (x:Int)=>[pI .i64 x])) true),(1,.cells [.p (vSl 2 C6 q1)]),(0,.cells [pN x1])]⟩) (ids:=[(0,0),(1,1),(2,2)]) (fun _ _ _ _ _ d x1 x2 L1 f h=>?_);apply kI Z h<;>intro h
 .obtain⟨c4,h⟩:=C9 h;exact f _ [(0,0),(1,1),(2,2),(5500,17000)] _ (q1.g x1.toNat).Parent (x2.push x1) L1 (And.intro (And.intro Ig c4.1) c4.2) h (hle:=kl1 0 (W4 (cI .i64) x2 x1 [pI .i64 0]))
 refine Dl Z Fa h (fun x3 L2=>⟨[(5,pN x3),(4,.vec 5500),(0,.yf 2)],[(5500,oV E4 1 (cI .i64) x2 false),(2,.yld (L2.map (fun (x:Int)=>[pI .i64 x])) true),(1,.cells [.p (vSl 2 C6 q1)]),(0,.cells [pN x1])]⟩) (ids:=[(0,0),(1,1),(2,2),(5500,5500)]) (fun _ _ _ _ _ i x3 L2 j h=>?_);apply kI Z h<;>intro h
 .obtain⟨c14,h⟩:=C9 h;obtain⟨L5,rfl,c⟩:=LO h;replace h:=c;refine Dk Z c14 (ys:=(fun (x:Int)=>[pI .i64 x]) (x2.g x3.toNat)) (rest:=L5.map (fun (x:Int)=>[pI .i64 x])) ?_ ?_
  .refine C8 Z Fa (b:=false) (fun c15=>?_) (fun c15=>?_)
   .exact Bool.noConfusion ((rfl:false=false).symm.trans c15)
   exact j _ [(0,0),(1,1),(2,2),(5500,5500)] _ (wrap .i64 (x3-1)) L5 Fa h
  refine C8 Z Fa (b:=true) (fun c16=>?_) (fun c16=>?_)
  .exact kO Z Fa (a:=.tup []) (objs:=[(.cells [pN x1]),.cells [.p (vSl 2 C6 q1)],.yld [] false]) [0,1,2] ⟨false,rfl,rfl,_,rfl⟩
  exact Bool.noConfusion (Ig.symm.trans c16)
 obtain rfl:=A9 h;exact kO Z Fa (a:=.tup []) (objs:=[(.cells [pN x1]),.cells [.p (vSl 2 C6 q1)],.yld [] true]) [0,1,2] ⟨true,rfl,rfl,_,rfl⟩
def AZ (N:Nat)(a:Sl Node)(b:Int):Option (Int×(Sl Node)):= some (b,a)
theorem Ll {a:Sl Node}{b:Int}{y:Int×(Sl Node)}(h:AZ N a b=some y) :FunO S KQ [.p (vSl 2 C6 a),pN b] [] (.clo EX [] [.reg 0 0,.reg 1 0]) ([.cells [pN y.1],.cells [.p (vSl 2 C6 y.2)]]) []:=by unfold AZ at h;refine A2 Z func32 ?_;obtain rfl:=A9 h;exact kO Z Fa [4000,3000]
def Z7 (N:Nat)(a:History)(c:Int):Option ((Sl Int)×Int):= (J9 N a).bind fun y1=>if (y1 != 0) then some (Ii,y1) else (U3 N a c).bind fun y2=>if (!y2) then some (Ii,3) else (AZ N a.Tree c).bind fun y3=>(S8 N y3.1 y3.2).bind fun L1=>U1 L1 (fun b (x1:Int) (z1:Sl Int)=>if (((0:Int)<=x1/\x1<(a.On.n:Int))/\((z1.n+(a.On.g x1.toNat).n)*8<=140737488355328/\z1.n+(a.On.g x1.toNat).n<=140737488355328))then b (z1.app (a.On.g x1.toNat)) else none) (fun (z1:Sl Int)=>some (z1,0)) Ii
theorem Qz {a:History}{b:Int}{y:(Sl Int)×Int}(h:Z7 N a b=some y) :FunO S Ju [.p (.agg (A7 a)),pN b] [] (.tup [.vec 0,pN y.2]) ([oV E4 1 (cI .i64) y.1 true]) []:=by
 unfold Z7 at h;refine A2 Z func120 ?_;refine F7 Z Fa 4 3000 (A7 a) ?_;obtain⟨y1,e1,h⟩:=A8 h;refine B3 Z [] Gp (CS Z Y e1) ?_;apply kI Z h<;>intro h
 .obtain rfl:=A9 h;exact kO Z Fa [5700]
 obtain⟨y2,e2,h⟩:=A8 h;refine B3 Z [] Gp (FU Z Y e2) ?_;apply kI Z h<;>intro h
 .obtain rfl:=A9 h;exact kO Z Fa [5700]
 refine kC Z h (Ll Z Y) (fun y3 h=>?_);obtain⟨L1,e4,h⟩:=A8 h;refine GO Z Fa [22000,22001] [7,2] 901 (fun z1=>⟨[(7,.reg 8000 0),(2,.p (.ptr (A7 a)))],[(8500,oV E4 1 (cI .i64) z1 false),(8000,.cells [.vec 8500])]⟩) (idl:=[(8000,8000)]) h (Iy Z Y e4) (fun _=>by kernel_rfl) (fun _=>by kernel_rfl) (fun _=>by kernel_rfl) (fun _=>by kernel_rfl) (fun x1 _ c z1 d h=>?_) (fun z1 h=>?_)
 .refine JT Z Fa ?_;refine E3 Z Fa [2,4,5] ?_;obtain⟨c5,h⟩:=C9 h;refine D1 c5 ?_;exact d _ [(901,901),(8000,8000),(8500,30000)] _ (z1.app (a.On.g x1.toNat)) Fa h (hle:=kl1 0 (appS (cI .i64) z1 (a.On.g x1.toNat)))
 obtain rfl:=A9 h;exact kO Z Fa [8500]
def S9 (rec:Pat->Option Pat)(N:Nat)(a:Pat):Option Pat:= BD N (fun b (x1:Sl Pat) (x2:Int)=>if (decide (x2<(a.L.n:Int))) then if ((0:Int)<=x2/\x2<(a.L.n:Int))then (rec (a.L.g x2.toNat)).bind fun y3=>if ((x1.n+(Sl.of [y3]:Sl Pat).n)*64<=140737488355328/\x1.n+(Sl.of [y3]:Sl Pat).n<=140737488355328)then b (x1.push y3) (wrap .i64 (x2+1)) else none else none else some (Pat.mk a.Kind a.Is a.Not a.Min a.Max x1.n x1.g)) (Sl.nil:Sl Pat) 0
def R7:Nat->Pat->Option Pat
 |0=>fun _=>none
 |N+1=>S9 (R7 N) N
theorem Lm {rec:Pat->Option Pat}(b:∀{a:Pat}{y:Pat},rec a=some y->FunO S AN [.p (.agg (E1 a))] [] (.p (.agg (E1 y))) ([]) []){a:Pat}{y:Pat}(h:S9 rec N a=some y) :FunO S AN [.p (.agg (E1 a))] [] (.p (.agg (E1 y))) ([]) []:=by
 unfold S9 at h;refine A2 Z func105 ?_;refine N0 Z Fa 8 ⟨[(7,.p (vSl 7 E1 a.L)),(3,.p C7),(2,.reg 3000 0),(1,.reg 2000 0)],[(3000,.cells [pN 0,pU 0,pU 0,.p (.v (.bool false)),pN 0,pN 0,.p C7]),(2000,.cells ((E1 a).map .p))]⟩ (ids:=[(2000,2000),(3000,3000)]) ?_ (hle:=klR [(0,.fn a.L.n a.L.n (EW a) (fun i=>E1 (a.L.g i)))] (al1 ⟨rfl,CJ a⟩ al0));refine H8 Z Fa h (fun x1 x2=>⟨[(9,pN x2),(8,pN (a.L.n:Int)),(7,.p (vSl 7 E1 a.L)),(3,.vec 4500),(2,.reg 3000 0),(1,.reg 2000 0)],[(4500,oV Gu 7 E1 x1 false),(3000,.cells [pN 0,pU 0,pU 0,.p (.v (.bool false)),pN 0,pN 0,.p C7]),(2000,.cells ((E1 a).map .p))]⟩) (ids:=[(2000,2000),(3000,3000)]) (fun _ _ _ _ _ c x1 x2 d h=>?_);apply kI Z h<;>intro h
 .obtain⟨c6,h⟩:=C9 h;obtain⟨y3,e3,h⟩:=A8 h;refine B3 Z [] (And.intro c6 Hz) (b e3) ?_;obtain⟨c7,h⟩:=C9 h;exact d _ [(2000,2000),(3000,3000),(4500,18000)] _ (x1.push y3) (wrap .i64 (x2+1)) (And.intro Ig c7) h (hle:=kl1 3 (W4 E1 x1 y3 [pI .i64 0,pI .u32 0,pI .u32 0,.v (.bool false),pI .i64 0,pI .i64 0,C7]))
 obtain rfl:=A9 h;exact J4 Z Fa ⟨[(2,.reg 3000 0)],[(3000,.cells [pN a.Kind,pU a.Is.Plus,pU a.Is.Minus,pB a.Not,pN a.Min,pN a.Max,.p (.sl false 7 x1.n (EW (Pat.mk a.Kind a.Is a.Not a.Min a.Max x1.n x1.g)))])]⟩ [] (ids:=[(3000,3000)]) ⟨rfl,rfl,rfl⟩
theorem Gv {a:Pat}{y:Pat}(h:R7 N a=some y) :FunO S AN [.p (.agg (E1 a))] [] (.p (.agg (E1 y))) ([]) []:=by
 induction N generalizing a y with
 |zero=>cases (show (none:Option Pat)=some y from h)
 |succ N ih=>exact Lm Z Y (fun e=>ih e) h
def T3 (N:Nat)(a:Law):Option Law:= (R7 N a.Left).bind fun y1=>(R7 N a.Right).bind fun y2=>(A6 N a.If).bind fun y3=>(H3 N a.Out).bind fun y4=>some (⟨a.Name,y1,y2,y3,y4,a.Mode⟩:Law)
theorem HB {a:Law}{y:Law}(h:T3 N a=some y) :FunO S Hs [.p (.agg (B4 a))] [] (.p (.agg (B4 y))) ([]) []:=by unfold T3 at h;refine A2 Z func71 ?_;refine E3 Z Fa [2,5] ?_;obtain⟨y1,e1,h⟩:=A8 h;refine G1 Fa (Gv Z Y e1) ?_;obtain⟨y2,e2,h⟩:=A8 h;refine G1 Fa (Gv Z Y e2) ?_;refine D1 Fa ?_;refine E3 Z Fa [2,5] ?_;obtain⟨y3,e3,h⟩:=A8 h;refine G1 Fa (AQ Z Y e3) ?_;obtain⟨y4,e4,h⟩:=A8 h;refine G1 Fa (CB Z Y e4) ?_;refine D1 Fa ?_;cases h;exact kR Z
def Q8 (N:Nat)(c:History)(a:Sl Int):Option (Sl Law):= BD N (fun b (x1:Sl Law) (x2:Int)=>if (decide (x2<(a.n:Int))) then if (((0:Int)<=x2/\x2<(a.n:Int))/\((0:Int)<=(a.g x2.toNat)/\(a.g x2.toNat)<(c.Laws.n:Int)))then (T3 N (c.Laws.g (a.g x2.toNat).toNat)).bind fun y3=>if ((x1.n+(Sl.of [y3]:Sl Law).n)*200<=140737488355328/\x1.n+(Sl.of [y3]:Sl Law).n<=140737488355328)then b (x1.push y3) (wrap .i64 (x2+1)) else none else none else some x1) (Sl.nil:Sl Law) 0
theorem JB {b:History}{a:Sl Int}{y:Sl Law}(h:Q8 N b a=some y) :FunO S Jk [.p (.agg (A7 b)),.p (vSl 1 (cI .i64) a)] [] (.p (vSl 18 B4 y)) ([]) []:=by
 unfold Q8 at h;refine A2 Z func34 ?_;refine H8 Z Fa h (fun x1 x2=>⟨[(10,pN x2),(9,pN (a.n:Int)),(8,.p (vSl 1 (cI .i64) a)),(5,.vec 6500),(2,.reg 3000 0)],[(6500,oV H2 18 B4 x1 false),(3000,.cells ((A7 b).map .p))]⟩) (ids:=[(3000,3000)]) (fun _ _ _ _ _ c x1 x2 d h=>?_);apply kI Z h<;>intro h
 .obtain⟨c6,h⟩:=C9 h;obtain⟨y3,e3,h⟩:=A8 h;refine B3 Z [] (And.intro (And.intro c6.1 c6.2) Ic) (HB Z Y e3) ?_;obtain⟨c7,h⟩:=C9 h;exact d _ [(3000,3000),(6500,23000)] _ (x1.push y3) (wrap .i64 (x2+1)) (And.intro Ig c7) h (hle:=kl1 3 (W4 B4 x1 y3 [.str [],pI .i64 0,pI .u32 0,pI .u32 0,.v (.bool false),pI .i64 0,pI .i64 0,C7,pI .i64 0,pI .u32 0,pI .u32 0,.v (.bool false),pI .i64 0,pI .i64 0,C7,C7,C7,pI .i64 0]))
 obtain rfl:=A9 h;exact kO Z Fa []
def Q9 (N:Nat)(a:History)(b:Int):Option ((Sl Law)×Int):= (Z7 N a b).bind fun y1=>(Q8 N a y1.1).bind fun y2=>some (y2,y1.2)
theorem QA {a:History}{b:Int}{y:(Sl Law)×Int}(h:Q9 N a b=some y) :FunO S Jo [.p (.agg (A7 a)),pN b] [] (.tup [.p (vSl 18 B4 y.1),pN y.2]) ([]) []:=by unfold Q9 at h;refine A2 Z func79 ?_;refine kC Z h (Qz Z Y) (fun y1 h=>?_);refine kC Z h (JB Z Y) (fun y2 h=>?_);cases h;exact kR Z
def CT (N:Nat)(a:History)(b:Sl Im):Option Int:= (J9 N a).bind fun y1=>if (y1 != 0) then some y1 else (W6 N b).bind fun y2=>some y2
theorem Pv {a:History}{b:Sl Im}{y:Int}(h:CT N a b=some y) :FunO S HZ [.p (.agg (A7 a)),.p (vSl 2 A0 b)] [] (pN y) ([]) []:=by
 unfold CT at h;refine A2 Z func30 ?_;refine kC Z h (CS Z Y) (fun y1 h=>?_);apply kI Z h<;>intro h
 .cases h;exact kR Z
 refine kC Z h (DS Z Y) (fun y2 h=>?_);cases h;exact kR Z
def Cv (N:Nat)(a:History)(c:Sl Im)(d:Int):Option ((Sl Im)×Int):= (CT N a c).bind fun y1=>if (y1 != 0) then some (Il,y1) else (U3 N a d).bind fun y2=>if (!y2) then some (Il,3) else (AZ N a.Tree d).bind fun y3=>(S8 N y3.1 y3.2).bind fun L1=>U1 L1 (fun b (x1:Int) (z1:Sl Im)=>if ((0:Int)<=x1/\x1<(a.On.n:Int))then (Q8 N a (a.On.g x1.toNat)).bind fun y8=>(S7 N y8 z1).bind fun y9=>if (y9.2 != 0) then some (Il,y9.2) else b y9.1 else none) (fun (z1:Sl Im)=>some (z1,0)) c
theorem VE {a:History}{b:Sl Im}{c:Int}{y:(Sl Im)×Int}(h:Cv N a b c=some y) :FunO S Mu [.p (.agg (A7 a)),.p (vSl 2 A0 b),pN c] [] (.tup [.p (vSl 2 A0 y.1),pN y.2]) ([]) []:=by
 unfold Cv at h;refine A2 Z func13 ?_;refine F7 Z Fa 4 4000 (A7 a) ?_;obtain⟨y1,e1,h⟩:=A8 h;refine B3 Z [] Gp (Pv Z Y e1) ?_;apply kI Z h<;>intro h
 .obtain rfl:=A9 h;exact J4 Z Fa ⟨[(7,.reg 8000 0),(6,.reg 7000 0)],[(8000,.cells [pN y1]),(7000,.cells [.p (vSl 2 A0 Il)])]⟩ [] (ids:=[(7000,7000),(8000,8000)]) ⟨rfl,rfl,rfl⟩
 obtain⟨y2,e2,h⟩:=A8 h;refine B3 Z [] Gp (FU Z Y e2) ?_;apply kI Z h<;>intro h
 .obtain rfl:=A9 h;exact J4 Z Fa ⟨[(7,.reg 8000 0),(6,.reg 7000 0)],[(8000,.cells [pN 3]),(7000,.cells [.p (vSl 2 A0 Il)])]⟩ [] (ids:=[(7000,7000),(8000,8000)]) ⟨rfl,rfl,rfl⟩
 refine kC Z h (Ll Z Y) (fun y3 h=>?_);obtain⟨L1,e4,h⟩:=A8 h;refine GO Z Fa [25000,25001] [7,6,4,3] 901 (fun z1=>⟨[(7,.reg 8000 0),(6,.reg 7000 0),(4,.reg 5000 0),(3,.p (.ptr (A7 a)))],[(8000,.cells [pN 0]),(7000,.cells [.p C7]),(5000,.cells [.p (vSl 2 A0 z1)])]⟩) (idl:=[(5000,5000),(7000,7000),(8000,8000)]) h (Iy Z Y e4) (fun _=>by kernel_rfl) (fun _=>by kernel_rfl) (fun _=>by kernel_rfl) (fun _=>by kernel_rfl) (fun x1 _ d z1 f h=>?_) (fun z1 h=>?_)
 .refine JT Z Fa ?_;refine E3 Z Fa [0,2,4,5,6,8] ?_;obtain⟨c7,h⟩:=C9 h;obtain⟨y8,e9,h⟩:=A8 h;refine G1 (And.intro Gp c7) (JB Z Y e9) ?_;obtain⟨y9,e10,h⟩:=A8 h;refine G1 Fa (Fk Z Y e10) ?_;refine D1 Fa ?_;apply kI Z h<;>intro h
  .refine Nz Z Fa ⟨[(7,.reg 8000 0),(6,.reg 7000 0),(4,.reg 5000 0),(3,.p (.ptr (A7 a)))],[(8000,.cells [pN y9.2]),(7000,.cells [.p C7]),(5000,.cells [.p (vSl 2 A0 y9.1)])]⟩ (ids:=[(901,901),(5000,5000),(7000,7000),(8000,8000)]) ?_;obtain rfl:=A9 h;exact J4 Z Fa ⟨[(7,.reg 8000 0),(6,.reg 7000 0)],[(8000,.cells [pN y9.2]),(7000,.cells [.p (vSl 2 A0 Il)])]⟩ [] (ids:=[(7000,7000),(8000,8000)]) ⟨rfl,rfl,rfl⟩
  exact f _ [(901,901),(5000,5000),(7000,7000),(8000,8000)] _ y9.1 Fa h
 cases h;exact kR Z
end Go.AM
namespace Go.AM
open IntKind (wrap)
open Go.Proofs
set_option maxRecDepth 10000
set_option maxHeartbeats 2000000
variable {S:U7}(Z:G4 S Tryz.prog) (Y:Kb S)
abbrev Fl {T:Type}(e:TypeId)(k:Nat)(c:T->List PV)(x:Sl T):Obj:=.vec e k x.n (fun q=>c (x.g q)) false
theorem AY3 {T:Type}{e:TypeId}{k n i:Nat}{c:T->List PV}{X:Sl (Sl T)}{z:Sl T}:∀q,q<n->(fun q=>if q=i then Fl e k c z else if q=i then Obj.dead else Fl e k c (X.g q)) q=(fun q=>Fl e k c ((X.upd i z).g q)) q:=fun q _=>by by_cases h:q=i<;>simp[h]
include Z Y
def AA (N:Nat)(a:Sl Node):Option (Sl (Sl Int)):= if ((0:Int)<=(a.n:Int)/\(a.n:Int)<=(a.n:Int)/\(a.n:Int)*24<=140737488355328/\(a.n:Int)<=140737488355328)then BD N (fun b (x:Int) (X:Sl (Sl Int))=>if (decide (x<(a.n:Int))) then if ((0:Int)<=x/\x<(a.n:Int))then if (a.g x.toNat).Parent.toNat<X.n then lt (fun (z:Sl Int)=>b (wrap .i64 (x+1)) (X.upd (a.g x.toNat).Parent.toNat z)) fun k=>if (decide (0<x)) then if (((0:Int)<=(a.g x.toNat).Parent/\(a.g x.toNat).Parent<(X.n:Int))/\(((X.g (a.g x.toNat).Parent.toNat).n+1)*8<=140737488355328/\(X.g (a.g x.toNat).Parent.toNat).n+1<=140737488355328))then k ((X.g (a.g x.toNat).Parent.toNat).push x) else none else k (X.g (a.g x.toNat).Parent.toNat) else none else none else some X) 0 ⟨a.n,fun _=>Sl.nil⟩ else none
theorem Pw {N:Nat}{b:Sl Node}{y:Sl (Sl Int)}(h:AA N b=some y) :FunO S Ij [.p (vSl 2 C6 b)] [] (.p (vSl 1 (cL 1 (cI .i64)) y)) [] []:=by
 unfold AA at h;refine A2 Z Tryz.func111 ?_;obtain⟨c1,h⟩:=C9 h;refine EV Z c1 9 (.fam 9000 9901 fun i=>Fl E4 1 (cI .i64) ((⟨b.n,fun _=>Sl.nil⟩:Sl (Sl Int)).g i)) (⟨by decide,fun i _=>rfl⟩:1000<=9901/\∀i,i<b.n->QM [C7] (Fl E4 1 (cI .i64) ((⟨b.n,fun _=>Sl.nil⟩:Sl (Sl Int)).g i))) ?_;refine H8 Z Fa h (fun x X=>⟨[(11,pN x),(10,pN (b.n:Int)),(9,.p (vSl 2 C6 b)),(3,.vec 9000)],[(9901,.rows X.n fun i=>Fl E4 1 (cI .i64) (X.g i)),(9000,.fam FE X.n 9901 none)]⟩) (ids:=[(9901,9901),(9000,9000)]) (fun _ _ _ _ _ f x X d h=>?_);apply kI Z h<;>intro h
 .obtain⟨c2,h⟩:=C9 h;obtain⟨c3,h⟩:=C9 h;refine EV Z (And.intro c2 Ga) 17 (.take 9000 (b.g x.toNat).Parent.toNat 9801) (⟨⟨by decide,rfl⟩,c3⟩:(1000<=9801/\X.n=X.n)/\(b.g x.toNat).Parent.toNat<X.n) ?_;refine KH Z Fa (A4 Z) h 0 (fun z=>⟨[(11,pN x),(10,pN (b.n:Int)),(9,.p (vSl 2 C6 b)),(3,.vec 9000)],
   [(9901,(.rows X.n fun l=>if l=(b.g x.toNat).Parent.toNat then .dead else Fl E4 1 (cI .i64) (X.g l))),(9801,Fl E4 1 (cI .i64) z),(9000,.fam FE X.n 9901 (some ((b.g x.toNat).Parent.toNat,.vec 9801)))]⟩) (fun M k c h=>?_) (fun z h=>?_)
  .apply kI Z h<;>intro h
   .obtain⟨c4,h⟩:=C9 h;refine F3 Z Fa [(0,.n),(1,.n),(2,.l [6000]),(3,.n),(4,.n),(5,.l [6000]),(6,.l [9000]),(7,.l [9000]),(8,.n),(10,.a [29000,9801]),(11,.l [9000]),(12,.a [9000])] ?_;refine K6 (And.intro c4.1 (And.intro c3 (rfl:(b.g x.toNat).Parent.toNat=(b.g x.toNat).Parent.toNat))) (x:=.sl true 1 1 (G7 [pI .i64 0] [(0,cI .i64 x)])) ?_;refine D1 (And.intro (And.intro c4.2 c4.1) (And.intro c3 (rfl:(b.g x.toNat).Parent.toNat=(b.g x.toNat).Parent.toNat))) ?_;exact c _ [(9901,9901),(9801,29000),(9000,9000)] _ ((X.g (b.g x.toNat).Parent.toNat).push x) Fa h (hle:=kl1 5 (W4 (cI .i64) (X.g (b.g x.toNat).Parent.toNat) x [pI .i64 0]))
   exact c _ [(9901,9901),(9801,9801),(9000,9000)] _ (X.g (b.g x.toNat).Parent.toNat) Fa h
  refine EV Z Fa 30 (.put 9000 9902) (⟨⟨by decide,rfl⟩,c3⟩:(1000<=9902/\X.n=X.n)/\(b.g x.toNat).Parent.toNat<X.n) ?_;exact d _ [(9901,9902),(9000,9000)] _ (wrap .i64 (x+1)) (X.upd (b.g x.toNat).Parent.toNat z) Fa h (hle:=klR [(4,.ob X.n (fun q=>if q=(b.g x.toNat).Parent.toNat then Fl E4 1 (cI .i64) z else if q=(b.g x.toNat).Parent.toNat then .dead else Fl E4 1 (cI .i64) (X.g q)) fun i=>Fl E4 1 (cI .i64) ((X.upd (b.g x.toNat).Parent.toNat z).g i))] (al1 AY3 al0))
 refine EV Z Fa 31 (.pub 9000) (⟨rfl,fun i _=>rfl⟩:X.n=X.n/\∀i,i<X.n->(QK (Fl E4 1 (cI .i64) (X.g i))).isSome=true) ?_;obtain rfl:=A9 h;exact kO Z Fa [] (hle:=klR [(0,.fn X.n X.n (fun i=>[(QK (Fl E4 1 (cI .i64) (X.g i))).getD default]) (fun i=>cL 1 (cI .i64) (X.g i)))] (al1 ⟨rfl,fun _ _=>rfl⟩ al0))
end Go.AM
namespace Go.AM
open Go.Proofs.Tryz
variable {N:Nat}
open IntKind (wrap)
open Go.Proofs
set_option maxRecDepth 10000
set_option maxHeartbeats 2000000
variable {S:U7}(Z:G4 S Tryz.prog) (Y:Kb S)
include Z Y
def CU (N:Nat)(b:Sl Node):Option (Sl Int):= (AA N b).bind fun y1=>BD N (fun a (x1:Sl Int) (x2:Int)=>if (decide (x2<(y1.n:Int))) then if ((0:Int)<=x2/\x2<(y1.n:Int))then if (((y1.g x2.toNat).n:Int)==0) then if ((x1.n+(Sl.of [x2]:Sl Int).n)*8<=140737488355328/\x1.n+(Sl.of [x2]:Sl Int).n<=140737488355328)then a (x1.push x2) (wrap .i64 (x2+1)) else none else a x1 (wrap .i64 (x2+1)) else none else some x1) Ii 0
theorem Tn {a:Sl Node}{y:Sl Int}(h:CU N a=some y) :FunO S KY [.p (vSl 2 C6 a)] [] (.vec 0) ([oV E4 1 (cI .i64) y true]) []:=by
 unfold CU at h;refine A2 Z func74 ?_;refine kC Z h (Pw Z Y) (fun y1 h=>?_);refine H8 Z Fa h (fun x1 x2=>⟨[(9,pN x2),(8,pN (y1.n:Int)),(7,.p (vSl 1 (cL 1 (cI .i64)) y1)),(3,.vec 4500)],[(4500,oV E4 1 (cI .i64) x1 false)]⟩) (ids:=[]) (fun _ _ _ _ _ d x1 x2 c h=>?_);apply kI Z h<;>intro h
 .obtain⟨c8,h⟩:=C9 h;refine C8 Z c8 (b:=((y1.g x2.toNat).n:Int)==0) (fun c9=>?_) (fun c9=>?_)
  .replace h:=itT c9 h;obtain⟨c10,h⟩:=C9 h;exact c _ [(4500,21000)] _ (x1.push x2) (wrap .i64 (x2+1)) (And.intro Ig c10) h (hle:=kl1 3 (W4 (cI .i64) x1 x2 [pI .i64 0]))
  replace h:=itF c9 h;exact c _ [(4500,4500)] _ x1 (wrap .i64 (x2+1)) Fa h
 obtain rfl:=A9 h;exact kO Z Fa [4500]
def T8 (N:Nat)(a:Sl Node):Option ((Sl Int)×Int):= (W7 N a).bind fun y1=>if (y1 != 0) then some (Ii,y1) else (CU N a).bind fun y2=>some (y2,0)
theorem EC {a:Sl Node}{y:(Sl Int)×Int}(h:T8 N a=some y) :FunO S KS [.p (vSl 2 C6 a)] [] (.tup [.vec 0,pN y.2]) ([oV E4 1 (cI .i64) y.1 true]) []:=by
 unfold T8 at h;refine A2 Z func38 ?_;refine kC Z h (FH Z Y) (fun y1 h=>?_);apply kI Z h<;>intro h
 .obtain rfl:=A9 h;exact kO Z Fa [3700]
 refine kC Z h (Tn Z Y) (fun y2 h=>?_);obtain rfl:=A9 h;exact kO Z Fa [12000]
def BU (N:Nat)(b:Sl Node)(c:Int):Option (Sl Int):= BD N (fun a (x1:Sl Int) (x2:Int)=>if (decide (x2<(b.n:Int))) then if ((0:Int)<=x2/\x2<(b.n:Int))then if ((b.g x2.toNat).Parent==c) then if ((x1.n+(Sl.of [x2]:Sl Int).n)*8<=140737488355328/\x1.n+(Sl.of [x2]:Sl Int).n<=140737488355328)then a (x1.push x2) (wrap .i64 (x2+1)) else none else a x1 (wrap .i64 (x2+1)) else none else some x1) Ii 0
theorem QB {a:Sl Node}{c:Int}{y:Sl Int}(h:BU N a c=some y) :FunO S Ji [.p (vSl 2 C6 a),pN c] [] (.vec 0) ([oV E4 1 (cI .i64) y true]) []:=by
 unfold BU at h;refine A2 Z func29 ?_;refine H8 Z Fa h (fun x1 x2=>⟨[(6,pN x2),(5,.vec 6500),(1,pN c),(0,.p (vSl 2 C6 a))],[(6500,oV E4 1 (cI .i64) x1 false)]⟩) (ids:=[]) (fun _ _ _ _ _ f x1 x2 d h=>?_);apply kI Z h<;>intro h
 .obtain⟨c8,h⟩:=C9 h;refine C8 Z c8 (b:=(a.g x2.toNat).Parent==c) (fun c9=>?_) (fun c9=>?_)
  .replace h:=itT c9 h;obtain⟨c10,h⟩:=C9 h;exact d _ [(6500,24000)] _ (x1.push x2) (wrap .i64 (x2+1)) (And.intro Ig c10) h (hle:=kl1 3 (W4 (cI .i64) x1 x2 [pI .i64 0]))
  replace h:=itF c9 h;exact d _ [(6500,6500)] _ x1 (wrap .i64 (x2+1)) Fa h
 obtain rfl:=A9 h;exact kO Z Fa [6500]
def AB (N:Nat)(b:Sl Node):Option ((Sl Int)×Int):= (Du N b).bind fun y1=>if (y1 != 0) then some (Ii,y1) else BD N (fun a (x1:Sl Int) (x2:Int)=>if (decide (x2<(b.n:Int))) then (BU N b x2).bind fun y4=>if ((y4.n:Int)==0) then if ((x1.n+(Sl.of [x2]:Sl Int).n)*8<=140737488355328/\x1.n+(Sl.of [x2]:Sl Int).n<=140737488355328)then a (x1.push x2) (wrap .i64 (x2+1)) else none else a x1 (wrap .i64 (x2+1)) else some (x1,0)) Ii 0
theorem VF {a:Sl Node}{y:(Sl Int)×Int}(h:AB N a=some y) :FunO S Mt [.p (vSl 2 C6 a)] [] (.tup [.vec 0,pN y.2]) ([oV E4 1 (cI .i64) y.1 true]) []:=by
 unfold AB at h;refine A2 Z func9 ?_;refine kC Z h (XH Z Y) (fun y1 h=>?_);apply kI Z h<;>intro h
 .obtain rfl:=A9 h;exact kO Z Fa [3700]
 refine H8 Z Fa h (fun x1 x2=>⟨[(6,pN x2),(5,.vec 6500),(0,.p (vSl 2 C6 a))],[(6500,oV E4 1 (cI .i64) x1 false)]⟩) (ids:=[]) (fun _ _ _ _ _ c x1 x2 b h=>?_);apply kI Z h<;>intro h
 .refine kC Z h (QB Z Y) (fun y4 h=>?_);apply kI Z h<;>intro h
  .obtain⟨c8,h⟩:=C9 h;exact b _ [(6500,27000)] _ (x1.push x2) (wrap .i64 (x2+1)) (And.intro Ig c8) h (hle:=kl1 2 (W4 (cI .i64) x1 x2 [pI .i64 0]))
  exact b _ [(6500,6500)] _ x1 (wrap .i64 (x2+1)) Fa h
 obtain rfl:=A9 h;exact kO Z Fa [6500]
end Go.AM
namespace Go.AM
open Go.Proofs.Tryz
variable {N:Nat}
open IntKind (wrap)
open Go.Proofs
set_option maxRecDepth 10000
set_option maxHeartbeats 2000000
variable {S:U7}(Z:G4 S Tryz.prog) (Y:Kb S)
include Z Y
def DY (N:Nat)(c:Sl Node)(a:Sl Int):Option Int:= (W7 N c).bind fun y1=>if (y1 != 0) then some y1 else Y1 N (fun b (x1:Int)=>if (decide (x1<(a.n:Int))) then if ((0:Int)<=x1/\x1<(a.n:Int))then if ((decide ((a.g x1.toNat)<0))||(decide ((c.n:Int)<=(a.g x1.toNat)))) then some 3 else b (wrap .i64 (x1+1)) else none else some 0) 0
theorem VG {c:Sl Node}{b:Sl Int}{y:Int}(h:DY N c b=some y) :FunO S MJ [.p (vSl 2 C6 c),.p (vSl 1 (cI .i64) b)] [] (pN y) ([]) []:=by
 unfold DY at h;refine A2 Z func124 ?_;refine kC Z h (FH Z Y) (fun y1 h=>?_);apply kI Z h<;>intro h
 .cases h;exact kR Z
 refine R9 Z Fa h (fun x1=>⟨[(15,pN x1),(14,pN (b.n:Int)),(13,.p (vSl 1 (cI .i64) b)),(0,.p (vSl 2 C6 c))],[]⟩) (ids:=[]) (fun _ _ _ _ _ d x1 f h=>?_);apply kI Z h<;>intro h
 .obtain⟨c9,h⟩:=C9 h;refine kB Z (A4 Z) c9 Fa 5 (.o (.a (decide ((b.g x1.toNat)<0))) (.a (decide ((c.n:Int)<=(b.g x1.toNat))))) ?_;apply kI Z h<;>intro h
  .cases h;exact kR Z
  exact f _ [] _ (wrap .i64 (x1+1)) Fa h
 cases h;exact kR Z
def Fm (N:Nat)(q0:Int)(q1:Sl Node):Option (List (Int)):= Y1 N (fun a (x1:Int)=>if (decide (0<=x1)) then Af x1 (if ((0:Int)<=x1/\x1<(q1.n:Int))then a (q1.g x1.toNat).Parent else none) else some []) q0
theorem XJ {q0:Int}{q1:Sl Node}{L:List (Int)}(h:Fm N q0 q1=some L) :ER S JY [] [.reg 0 0,.reg 1 0] [.cells [pN q0],.cells [.p (vSl 2 C6 q1)]] (L.map (fun (x:Int)=>[pI .i64 x])):=by
 unfold Fm at h;refine EA Z func158 ?_;refine Dl Z Fa h (fun x1 L1=>⟨[(2,.reg 1 0),(1,.reg 0 0),(0,.yf 2)],[(2,.yld (L1.map (fun (x:Int)=>[pI .i64 x])) true),(1,.cells [.p (vSl 2 C6 q1)]),(0,.cells [pN x1])]⟩) (ids:=[(0,0),(1,1),(2,2)]) (fun _ _ _ _ _ d x1 L1 f h=>?_);apply kI Z h<;>intro h
 .obtain⟨L4,rfl,c⟩:=LO h;replace h:=c;refine Dk Z Fa (ys:=(fun (x:Int)=>[pI .i64 x]) x1) (rest:=L4.map (fun (x:Int)=>[pI .i64 x])) ?_ ?_
  .refine C8 Z Fa (b:=false) (fun c8=>?_) (fun c8=>?_)
   .exact Bool.noConfusion ((rfl:false=false).symm.trans c8)
   obtain⟨c9,h⟩:=C9 h;exact f _ [(0,0),(1,1),(2,2)] _ (q1.g x1.toNat).Parent L4 c9 h
  refine C8 Z Fa (b:=true) (fun c10=>?_) (fun c10=>?_)
  .exact kO Z Fa (a:=.tup []) (objs:=[(.cells [pN x1]),.cells [.p (vSl 2 C6 q1)],.yld [] false]) [0,1,2] ⟨false,rfl,rfl,_,rfl⟩
  exact Bool.noConfusion (Ig.symm.trans c10)
 obtain rfl:=A9 h;exact kO Z Fa (a:=.tup []) (objs:=[(.cells [pN x1]),.cells [.p (vSl 2 C6 q1)],.yld [] true]) [0,1,2] ⟨true,rfl,rfl,_,rfl⟩
def Ln (N:Nat)(a:Sl Node)(b:Int):Option (Int×(Sl Node)):= some (b,a)
theorem Al5 {a:Sl Node}{b:Int}{y:Int×(Sl Node)}(h:Ln N a b=some y) :FunO S Vo [.p (vSl 2 C6 a),pN b] [] (.clo JY [] [.reg 0 0,.reg 1 0]) ([.cells [pN y.1],.cells [.p (vSl 2 C6 y.2)]]) []:=by unfold Ln at h;refine A2 Z func126 ?_;obtain rfl:=A9 h;exact kO Z Fa [4000,3000]
def G3 (N:Nat)(a:List (Int)):Option (Sl Int):= U1 a (fun b (x1:Int) (z1:Sl Int)=>if ((z1.n+(Sl.of [x1]:Sl Int).n)*8<=140737488355328/\z1.n+(Sl.of [x1]:Sl Int).n<=140737488355328)then b (z1.push x1) else none) (fun (z1:Sl Int)=>some z1) Ii
theorem DZ {c:List (Int)}{a:Int}{b:(Sl Node)}{kp_seq:Nat}(fp_seq:∃fn,Bc9[kp_seq]? = some fn/\fn.body.isSome=true/\(fn.name == "runtime.NumGoroutine")=false)(d:ER S kp_seq [] [.reg 0 0,.reg 1 0] [(.cells [(pN a)]),(.cells [(.p (vSl 2 C6 b))])] (c.map (fun (x:Int)=>[(pI .i64) x]))){y:(Sl Int)}(h:G3 N c=some y) :FunO S P4 [(.p C7),(.clo kp_seq [] [(.reg 0 0),(.reg 1 0)])] [(.cells [(pN a)]),(.cells [(.p (vSl 2 C6 b))])] (.vec 0) ([(oV E4 1 (cI .i64) y false)]) [false,false]:=by
 unfold G3 at h;refine A2 Z func157 ?_;refine Ny Z Fa fp_seq [0,1] [2] 901 (fun z1=>⟨[(2,(.reg 3000 0))],[(3500,(oV E4 1 (cI .i64) z1 false)),(3000,(.cells [(.vec 3500)]))]⟩) (idl:=[(3000,3000)]) h d (fun _=>by kernel_rfl) (fun _=>by kernel_rfl) (fun _=>by kernel_rfl) (fun _=>by kernel_rfl) (fun x1 _ f z1 g h=>?_) (fun z1 h=>?_)
 .refine JT Z Fa ?_;obtain⟨c1,h⟩:=C9 h;exact g _ [(901,901),(3000,3000),(3500,12000)] _ (z1.push x1) (And.intro Ig c1) h (hle:=kl1 0 (W4 (cI .i64) z1 x1 [(pI .i64 0)]))
 obtain rfl:=A9 h;exact kO Z Fa [3500]
def T9 (N:Nat)(a:List (Int)):Option (Sl Int):= (G3 N a).bind fun y1=>some y1
theorem Iz {c:List (Int)}{a:Int}{b:(Sl Node)}{kp_seq:Nat}(fp_seq:∃fn,Bc9[kp_seq]? = some fn/\fn.body.isSome=true/\(fn.name == "runtime.NumGoroutine")=false)(d:ER S kp_seq [] [.reg 0 0,.reg 1 0] [(.cells [(pN a)]),(.cells [(.p (vSl 2 C6 b))])] (c.map (fun (x:Int)=>[(pI .i64) x]))){y:(Sl Int)}(h:T9 N c=some y) :FunO S Bi [(.clo kp_seq [] [(.reg 0 0),(.reg 1 0)])] [(.cells [(pN a)]),(.cells [(.p (vSl 2 C6 b))])] (.vec 0) ([(oV E4 1 (cI .i64) y false)]) [false,false]:=by unfold T9 at h;refine A2 Z func125 ?_;obtain⟨y1,e1,h⟩:=A8 h;refine B3 Z [0,1] Fa (DZ Z Y fp_seq d e1) ?_;obtain rfl:=A9 h;exact kO Z Fa [5000]
def I4 (N:Nat)(b:Sl Int):Option (Sl Int):= Av4 N (fun a (x1:Sl Int) (x2:Int) (x3:Int)=>if (decide (x2<x3)) then if (((((((((0:Int)<=x3/\x3<(x1.n:Int))/\x3.toNat<x1.n)/\((0:Int)<=x2/\x2<(x1.n:Int)))/\x2.toNat<x1.n)/\((0:Int)<=x2/\x2<(x1.n:Int)))/\x2.toNat<x1.n)/\((0:Int)<=x3/\x3<((x1.upd x2.toNat (x1.g x3.toNat)).n:Int)))/\x3.toNat<(x1.upd x2.toNat (x1.g x3.toNat)).n)then a ((x1.upd x2.toNat (x1.g x3.toNat)).upd x3.toNat (x1.g x2.toNat)) (wrap .i64 (x2+1)) (wrap .i64 (x3-1)) else none else some x1) b 0 (wrap .i64 ((b.n:Int)-1))
theorem Fn {a:Sl Int}{y:Sl Int}(h:I4 N a=some y) :FunO S Ao [.vec 0] [oV E4 1 (cI .i64) a false] (.tup []) ([oV E4 1 (cI .i64) y false]) [true]:=by
 unfold I4 at h;refine A2 Z func127 ?_;refine Ov Z Fa h (fun x1 x2 x3=>⟨[(3,pN x3),(2,pN x2),(0,.vec 0)],[(0,oV E4 1 (cI .i64) x1 false)]⟩) (ids:=[(0,0)]) (fun _ _ _ _ _ b x1 x2 x3 d h=>?_);apply kI Z h<;>intro h
 .refine EU Z Fa ?_;obtain⟨c6,h⟩:=C9 h;refine D1 (And.intro (And.intro (And.intro (And.intro (And.intro (And.intro (And.intro c6.1.1.1.1.1.1.1 c6.1.1.1.1.1.1.2) c6.1.1.1.1.1.2) c6.1.1.1.1.2) c6.1.1.1.2) (And.intro (rfl:(1:Nat)=1) (And.intro c6.1.1.2 Fc))) c6.1.2) (And.intro (rfl:(1:Nat)=1) (And.intro c6.2 Fc))) ?_;exact d _ [(0,0)] _ ((x1.upd x2.toNat (x1.g x3.toNat)).upd x3.toNat (x1.g x2.toNat)) (wrap .i64 (x2+1)) (wrap .i64 (x3-1)) Fa h (hle:=klR [(2,.fn x1.n ((x1.upd x2.toNat (x1.g x3.toNat)).upd x3.toNat (x1.g x2.toNat)).n (fun l=>if l=x3.toNat then splice ((fun l=>if l=x2.toNat then splice ((fun i=>cI .i64 (x1.g i)) l) 0 [pI .i64 (x1.g x3.toNat)]else (fun i=>cI .i64 (x1.g i)) l) l) 0 [pI .i64 (x1.g x2.toNat)]else (fun l=>if l=x2.toNat then splice ((fun i=>cI .i64 (x1.g i)) l) 0 [pI .i64 (x1.g x3.toNat)]else (fun i=>cI .i64 (x1.g i)) l) l) (fun i=>cI .i64 (((x1.upd x2.toNat (x1.g x3.toNat)).upd x3.toNat (x1.g x2.toNat)).g i)))] (al1 ⟨rfl,AR3 (c:=cI .i64) (v:=x1.upd x2.toNat (x1.g x3.toNat)) (x:=x1.g x2.toNat) (AR3 (c:=cI .i64) (v:=x1) (x:=x1.g x3.toNat) same (fun _=>by first|rfl|(dsimp only;split<;>rfl))) (fun _=>by first|rfl|(dsimp only;split<;>rfl))⟩ al0))
 obtain rfl:=A9 h;exact kO Z Fa [0]
def Fo (N:Nat)(a:Sl Node)(b:Int):Option ((Sl Int)×Int):= (DY N a (Sl.of [b]:Sl Int)).bind fun y1=>if (y1 != 0) then some (Ii,y1) else (Ln N a b).bind fun y2=>(Fm N y2.1 y2.2).bind fun L1=>(T9 N L1).bind fun y3=>(I4 N y3).bind fun y4=>some (y4,0)
theorem XK {b:Sl Node}{a:Int}{y:(Sl Int)×Int}(h:Fo N b a=some y) :FunO S OX [.p (vSl 2 C6 b),pN a] [] (.tup [.vec 0,pN y.2]) ([oV E4 1 (cI .i64) y.1 true]) []:=by
 unfold Fo at h;refine A2 Z func84 ?_;refine KF Z Ig ⟨[(10,.vec 11000),(8,.p (vSl 2 C6 b)),(1,pN a),(0,.p (vSl 2 C6 b))],[(11000,oV E4 1 (cI .i64) (Sl.of [a]:Sl Int) false)]⟩ (ids:=[(11000,11000)]) ?_ (hle:=kl1 3 (ZZ (cI .i64) ([a]:List Int) [pI .i64 0]));refine kC Z h (VG Z Y) (fun y1 h=>?_);apply kI Z h<;>intro h
 .obtain rfl:=A9 h;exact kO Z Fa [5700]
 refine kC Z h (Al5 Z Y) (fun y2 h=>?_);obtain⟨L1,e3,h⟩:=A8 h;obtain⟨y3,e4,h⟩:=A8 h;refine B3 Z [18000,18001] Fa (Iz Z Y ⟨_,func158,by decide +kernel,by decide +kernel⟩ (XJ Z Y e3) e4) ?_;obtain⟨y4,e5,h⟩:=A8 h;refine AM5 Z [19000] Fa (Fn Z Y e5) ?_;obtain rfl:=A9 h;exact kO Z Fa [19000]
def Cw (N:Nat)(a:Sl Im):Option Str:= BD N (fun b (x1:Sl Int) (x2:Int)=>if (decide (x2<(a.n:Int))) then if ((0:Int)<=x2/\x2<(a.n:Int))then if ((x1.n+(Fb (a.g x2.toNat).Plus).n)*1<=140737488355328/\x1.n+(Fb (a.g x2.toNat).Plus).n<=140737488355328)then if (((x1.app (Fb (a.g x2.toNat).Plus)).n+(Fb (a.g x2.toNat).Minus).n)*1<=140737488355328/\(x1.app (Fb (a.g x2.toNat).Plus)).n+(Fb (a.g x2.toNat).Minus).n<=140737488355328)then b ((x1.app (Fb (a.g x2.toNat).Plus)).app (Fb (a.g x2.toNat).Minus)) (wrap .i64 (x2+1)) else none else none else none else some (strOf x1)) Ii 0
theorem MP {a:Sl Im}{y:Str}(h:Cw N a=some y) :FunO S MG [.p (vSl 2 A0 a)] [] (.p (.str y)) ([]) []:=by
 unfold Cw at h;refine A2 Z func86 ?_;refine H8 Z Fa h (fun x1 x2=>⟨[(10,pN x2),(9,pN (a.n:Int)),(8,.p (vSl 2 A0 a)),(3,.vec 4500)],[(4500,oV H6 1 (cI .u8) x1 false)]⟩) (ids:=[]) (fun _ _ _ _ _ d x1 x2 l h=>?_);apply kI Z h<;>intro h
 .obtain⟨c22,h⟩:=C9 h;refine Ax5 Z (And.intro c22 Ga) 2 (unrT [fun t=>t=⟨[(19,pN 0),(18,.p (.agg [pI .u32 (a.g x2.toNat).Plus,pI .u32 (a.g x2.toNat).Minus])),(10,pN x2),(9,pN (a.n:Int)),(8,.p (vSl 2 A0 a)),(3,.vec 4501)],[(4501,oV H6 1 (cI .u8) x1 false)]⟩/\(
   if ((x1.n+(Fb (a.g x2.toNat).Plus).n)*1<=140737488355328/\x1.n+(Fb (a.g x2.toNat).Plus).n<=140737488355328)then
    if (((x1.app (Fb (a.g x2.toNat).Plus)).n+(Fb (a.g x2.toNat).Minus).n)*1<=140737488355328/\(x1.app (Fb (a.g x2.toNat).Plus)).n+(Fb (a.g x2.toNat).Minus).n<=140737488355328)then
     d ((x1.app (Fb (a.g x2.toNat).Plus)).app (Fb (a.g x2.toNat).Minus)) (wrap .i64 (x2+1))
    else none
   else none
   )=some y,fun t=>t=⟨[(19,pN 1),(18,.p (.agg [pI .u32 (a.g x2.toNat).Plus,pI .u32 (a.g x2.toNat).Minus])),(10,pN x2),(9,pN (a.n:Int)),(8,.p (vSl 2 A0 a)),(3,.vec 4500)],[(4500,.vec H6 1 (x1.app (Fb (a.g x2.toNat).Plus)).n (fun i=>cI .u8 ((x1.app (Fb (a.g x2.toNat).Plus)).g i)) false)]⟩/\(
    if (((x1.app (Fb (a.g x2.toNat).Plus)).n+(Fb (a.g x2.toNat).Minus).n)*1<=140737488355328/\(x1.app (Fb (a.g x2.toNat).Plus)).n+(Fb (a.g x2.toNat).Minus).n<=140737488355328)then
     d ((x1.app (Fb (a.g x2.toNat).Plus)).app (Fb (a.g x2.toNat).Minus)) (wrap .i64 (x2+1))
    else none
   )=some y,fun t=>t=⟨[(19,pN 2),(18,.p (.agg [pI .u32 (a.g x2.toNat).Plus,pI .u32 (a.g x2.toNat).Minus])),(10,pN x2),(9,pN (a.n:Int)),(8,.p (vSl 2 A0 a)),(3,.vec 4501)],[(4501,.vec H6 1 ((x1.app (Fb (a.g x2.toNat).Plus)).app (Fb (a.g x2.toNat).Minus)).n (fun i=>cI .u8 (((x1.app (Fb (a.g x2.toNat).Plus)).app (Fb (a.g x2.toNat).Minus)).g i)) false)]⟩/\(
    d ((x1.app (Fb (a.g x2.toNat).Plus)).app (Fb (a.g x2.toNat).Minus)) (wrap .i64 (x2+1))
   )=some y]) ⟨[(19,pN 0),(18,.p (.agg [pI .u32 (a.g x2.toNat).Plus,pI .u32 (a.g x2.toNat).Minus])),(10,pN x2),(9,pN (a.n:Int)),(8,.p (vSl 2 A0 a)),(3,.vec 4501)],[(4501,oV H6 1 (cI .u8) x1 false)]⟩ (ids:=[(4501,4500)]) ⟨rfl,h⟩ (fun _ _ _ _ i _ t f ht j=>?_)
  rcases i with _|_|_|i
  .obtain⟨rfl,h⟩:=ht;refine C8 Z Fa (b:=decide ((0:Int)<2)) (fun c29=>?_) (fun c29=>?_)
   .obtain⟨c30,h⟩:=C9 h;exact j _ [(4500,33000)] _ _ (And.intro (And.intro (And.intro (And.intro (by decide:(0:Int)<=0/\(0:Int)<2) (by decide:(0:Int)<=8)) (by decide:(0:Int)<=16)) Ig) c30) rfl ⟨rfl,h⟩ (hle:=klR [(5,.fn (x1.n+3) (x1.app (Fb (a.g x2.toNat).Plus)).n (FK x1.n (fun i=>cI .u8 (x1.g i)) (G7 [pI .u8 0] [(0,cI .u8 (wrap .u8 (a.g x2.toNat).Plus)),(1,cI .u8 (wrap .u8 (shI .shr .u32 (a.g x2.toNat).Plus 8))),(2,cI .u8 (wrap .u8 (shI .shr .u32 (a.g x2.toNat).Plus 16)))])) (fun i=>cI .u8 ((x1.app (Fb (a.g x2.toNat).Plus)).g i)))] (al1 ⟨rfl,appL (c:=cI .u8) (v:=x1) (w:=(Fb (a.g x2.toNat).Plus)) same rfl (fun i f=>match i,f with|0,_=>rfl|1,_=>rfl|2,_=>rfl|_+3,f=>Er f (by omega)) rfl⟩ al0))
   exact Bool.noConfusion ((by decide:decide ((0:Int)<2)=true).symm.trans c29)
  .obtain⟨rfl,h⟩:=ht;refine C8 Z Fa (b:=decide ((1:Int)<2)) (fun c27=>?_) (fun c27=>?_)
   .obtain⟨c28,h⟩:=C9 h;exact j _ [(4501,33000)] _ _ (And.intro (And.intro (And.intro (And.intro (by decide:(0:Int)<=1/\(1:Int)<2) (by decide:(0:Int)<=8)) (by decide:(0:Int)<=16)) Ig) c28) rfl ⟨rfl,h⟩ (hle:=klR [(5,.fn ((x1.app (Fb (a.g x2.toNat).Plus)).n+3) ((x1.app (Fb (a.g x2.toNat).Plus)).app (Fb (a.g x2.toNat).Minus)).n (FK (x1.app (Fb (a.g x2.toNat).Plus)).n (fun i=>cI .u8 ((x1.app (Fb (a.g x2.toNat).Plus)).g i)) (G7 [pI .u8 0] [(0,cI .u8 (wrap .u8 (a.g x2.toNat).Minus)),(1,cI .u8 (wrap .u8 (shI .shr .u32 (a.g x2.toNat).Minus 8))),(2,cI .u8 (wrap .u8 (shI .shr .u32 (a.g x2.toNat).Minus 16)))])) (fun i=>cI .u8 (((x1.app (Fb (a.g x2.toNat).Plus)).app (Fb (a.g x2.toNat).Minus)).g i)))] (al1 ⟨rfl,appL (c:=cI .u8) (v:=x1.app (Fb (a.g x2.toNat).Plus)) (w:=(Fb (a.g x2.toNat).Minus)) same rfl (fun i f=>match i,f with|0,_=>rfl|1,_=>rfl|2,_=>rfl|_+3,f=>Er f (by omega)) rfl⟩ al0))
   exact Bool.noConfusion ((by decide:decide ((1:Int)<2)=true).symm.trans c27)
  .obtain⟨rfl,h⟩:=ht;refine C8 Z Fa (b:=decide ((2:Int)<2)) (fun c26=>?_) (fun c26=>?_)
   .exact Bool.noConfusion ((by decide:decide ((2:Int)<2)=false).symm.trans c26)
   exact l _ [(4500,4501)] _ ((x1.app (Fb (a.g x2.toNat).Plus)).app (Fb (a.g x2.toNat).Minus)) (wrap .i64 (x2+1)) Fa h
  exact Er f (by omega)
 obtain rfl:=A9 h;exact Ai8 Z ((fun _ _=>rfl):∀i:Nat,i<x1.n->true=true) [] ⟨rfl,rfl,rfl⟩
def D8 (N:Nat)(a:Sl H9)(c:H9->Option Bool):Option Int:= Y1 N (fun b (x1:Int)=>if (decide (x1<(a.n:Int))) then if ((0:Int)<=x1/\x1<(a.n:Int))then (c (a.g x1.toNat)).bind fun y3=>if y3 then some x1 else b (wrap .i64 (x1+1)) else none else some (-1)) 0
theorem AC {a:Sl H9}{c:H9->Option Bool}{kp_f:Nat}(d:∀{a0:H9}{b:Bool},c a0=some b->FunO S kp_f [.p (.agg (F4 a0))] [] (pB b) [] []){y:Int}(h:D8 N a c=some y) :FunO S O3 [.p (vSl 2 F4 a),.clo kp_f [] []] [] (pN y) ([]) []:=by
 unfold D8 at h;refine A2 Z func156 ?_;refine R9 Z Fa h (fun x1=>⟨[(8,pN x1),(7,pN (a.n:Int)),(1,.clo kp_f [] []),(0,.p (vSl 2 F4 a))],[]⟩) (ids:=[]) (fun _ _ _ _ _ f x1 g h=>?_);apply kI Z h<;>intro h
 .obtain⟨c8,h⟩:=C9 h;obtain⟨y3,e3,h⟩:=A8 h;refine B3 Z [] (And.intro c8 Ga) (d e3) ?_;apply kI Z h<;>intro h
  .cases h;exact kR Z
  exact g _ [] _ (wrap .i64 (x1+1)) Fa h
 cases h;exact kR Z
def E8 (N:Nat)(a:Sl H9)(b:H9->Option Bool):Option Bool:= (D8 N a b).bind fun y1=>some (decide (0<=y1))
theorem Y8 {a:Sl H9}{c:H9->Option Bool}{kp_f:Nat}(d:∀{a0:H9}{b:Bool},c a0=some b->FunO S kp_f [.p (.agg (F4 a0))] [] (pB b) [] []){y:Bool}(h:E8 N a c=some y) :FunO S N3 [.p (vSl 2 F4 a),.clo kp_f [] []] [] (pB y) ([]) []:=by unfold E8 at h;refine A2 Z func121 ?_;refine kC Z h (AC Z Y (fun e=>d e)) (fun y1 h=>?_);cases h;exact kR Z
def BZ (N:Nat)(a:H9):Option Bool:= some ((!a.Has)&&(decide (0<(a.W.n:Int))))
theorem Nk {b:H9}{y:Bool}(h:BZ N b=some y) :FunO S Hw [.p (.agg (F4 b))] [] (pB y) ([]) []:=by unfold BZ at h;refine A2 Z func122 ?_;refine kB Z (A4 Z) Fa Fa 5 (.n (.a (!b.Has)) (.a (decide (0<(b.W.n:Int))))) ?_;cases h;exact kR Z
def Z8 (N:Nat)(a:Sl H9):Option Bool:= (E8 N a (fun (u1:H9)=>BZ N u1)).bind fun y1=>some (!y1)
theorem JC {a:Sl H9}{y:Bool}(h:Z8 N a=some y) :FunO S Jp [.p (vSl 2 F4 a)] [] (pB y) ([]) []:=by unfold Z8 at h;refine A2 Z func81 ?_;refine kC Z h (Y8 Z Y (fun e=>Nk Z Y e)) (fun y1 h=>?_);cases h;exact kR Z
def Z9 (N:Nat)(a:Sl H9):Option Int:= Y1 N (fun b (x1:Int)=>if (decide (x1<(a.n:Int))) then if ((0:Int)<=x1/\x1<(a.n:Int))then (W6 N (a.g x1.toNat).W).bind fun y3=>if (y3 != 0) then some y3 else b (wrap .i64 (x1+1)) else none else some 0) 0
theorem JD {a:Sl H9}{y:Int}(h:Z9 N a=some y) :FunO S Jq [.p (vSl 2 F4 a)] [] (pN y) ([]) []:=by
 unfold Z9 at h;refine A2 Z func83 ?_;refine R9 Z Fa h (fun x1=>⟨[(8,pN x1),(7,pN (a.n:Int)),(6,.p (vSl 2 F4 a))],[]⟩) (ids:=[]) (fun _ _ _ _ _ b x1 c h=>?_);apply kI Z h<;>intro h
 .obtain⟨c8,h⟩:=C9 h;obtain⟨y3,e3,h⟩:=A8 h;refine B3 Z [] (And.intro c8 Ga) (DS Z Y e3) ?_;apply kI Z h<;>intro h
  .cases h;exact kR Z
  exact c _ [] _ (wrap .i64 (x1+1)) Fa h
 cases h;exact kR Z
def BV (N:Nat)(a:Str):Option Bool:= (W7 N (Sl.of [(⟨-1,a⟩:Node)]:Sl Node)).bind fun y1=>some (y1==0)
theorem QC {a:Str}{y:Bool}(h:BV N a=some y) :FunO S Jv [.p (.str a)] [] (pB y) ([]) []:=by unfold BV at h;refine A2 Z func123 ?_;refine KF Z Ig ⟨[(5,.vec 6000)],[(6000,oV N8 2 C6 (Sl.of [(⟨-1,a⟩:Node)]:Sl Node) false)]⟩ (ids:=[(6000,6000)]) ?_ (hle:=kl1 0 (ZZ C6 ([(⟨-1,a⟩:Node)]:List Node) [pI .i64 0,.str []]));refine kC Z h (FH Z Y) (fun y1 h=>?_);cases h;exact kR Z
def Y9 (N:Nat)(a:Sl Entry)(b:Int):Option Int:= Y1 N (fun c (x2:Int)=>if (decide (x2<(a.n:Int))) then if ((0:Int)<=x2/\x2<(a.n:Int))then lt (fun (z3:Bool)=>if z3 then some 2 else c (wrap .i64 (x2+1))) fun k3=>if (((a.g x2.toNat).Forms.n:Int) != b) then k3 true else (Z8 N (a.g x2.toNat).Forms).bind fun y6=>k3 (!y6) else none else Y1 N (fun d (x5:Int)=>if (decide (x5<(a.n:Int))) then if ((0:Int)<=x5/\x5<(a.n:Int))then (BV N (a.g x5.toNat).Gloss).bind fun y9=>if (!y9) then some 15 else d (wrap .i64 (x5+1)) else none else some 0) 0) 0
theorem Nl {b:Sl Entry}{a:Int}{y:Int}(h:Y9 N b a=some y) :FunO S Ht [.p (vSl 2 F5 b),pN a] [] (pN y) ([]) []:=by
 unfold Y9 at h;refine A2 Z func82 ?_;refine R9 Z Fa h (fun x2=>⟨[(11,pN x2),(10,pN (b.n:Int)),(9,.p (vSl 2 F5 b)),(1,pN a),(0,.p (vSl 2 F5 b))],[]⟩) (ids:=[]) (fun _ _ _ _ _ d x2 f h=>?_);apply kI Z h<;>intro h
 .obtain⟨c14,h⟩:=C9 h;refine KH Z (And.intro c14 Ga) (A4 Z) h 0 (fun z3=>⟨[(25,pB z3),(11,pN x2),(10,pN (b.n:Int)),(9,.p (vSl 2 F5 b)),(1,pN a),(0,.p (vSl 2 F5 b))],[]⟩) (fun M3 k3 c h=>?_) (fun z3 h=>?_)
  .refine kG Z h (fun h=>?_) (fun h=>?_)
   .exact c _ [] _ true Fa h
   refine kC Z h (JC Z Y) (fun y6 h=>?_);exact c _ [] _ (!y6) Fa h
  apply kI Z h<;>intro h
  .cases h;exact kR Z
  exact f _ [] _ (wrap .i64 (x2+1)) Fa h
 refine R9 Z Fa h (fun x5=>⟨[(29,pN x5),(28,pN (b.n:Int)),(27,.p (vSl 2 F5 b))],[]⟩) (ids:=[]) (fun _ _ _ _ _ g x5 i h=>?_);apply kI Z h<;>intro h
 .obtain⟨c26,h⟩:=C9 h;obtain⟨y9,e9,h⟩:=A8 h;refine B3 Z [] (And.intro c26 Ga) (QC Z Y e9) ?_;apply kI Z h<;>intro h
  .cases h;exact kR Z
  exact i _ [] _ (wrap .i64 (x5+1)) Fa h
 cases h;exact kR Z
def U4 (N:Nat)(d:History)(a:Sl H9)(b:Sl Entry):Option Int:= (J9 N d).bind fun y1=>if (y1 != 0) then some y1 else (T8 N d.Tree).bind fun y2=>if (decide (256<(b.n:Int))) then some 12 else lt (fun (z1:Bool)=>if z1 then some 2 else (Y9 N b (y2.1.n:Int)).bind fun y5=>if (y5 != 0) then some y5 else (Z9 N a).bind fun y6=>if (y6 != 0) then some y6 else Y1 N (fun c (x2:Int)=>if (decide (x2<(b.n:Int))) then if ((0:Int)<=x2/\x2<(b.n:Int))then (Z9 N (b.g x2.toNat).Forms).bind fun y9=>if (y9 != 0) then some y9 else c (wrap .i64 (x2+1)) else none else some 0) 0) fun k1=>if ((a.n:Int) != (b.n:Int)) then k1 true else (Z8 N a).bind fun y4=>k1 (!y4)
theorem JE {c:History}{a:Sl H9}{b:Sl Entry}{y:Int}(h:U4 N c a b=some y) :FunO S Jl [.p (.agg (A7 c)),.p (vSl 2 F4 a),.p (vSl 2 F5 b)] [] (pN y) ([]) []:=by
 unfold U4 at h;refine A2 Z func50 ?_;refine kC Z h (CS Z Y) (fun y1 h=>?_);apply kI Z h<;>intro h
 .cases h;exact kR Z
 refine kC Z h (EC Z Y) (fun y2 h=>?_);apply kI Z h<;>intro h
 .cases h;exact kR Z
 refine KH Z Fa (A4 Z) h 0 (fun z1=>⟨[(30,pB z1),(8,.vec 24000),(2,.p (vSl 2 F5 b)),(1,.p (vSl 2 F4 a))],[(24000,oV E4 1 (cI .i64) y2.1 true)]⟩) (fun M1 k1 d h=>?_) (fun z1 h=>?_)
 .refine kG Z h (fun h=>?_) (fun h=>?_)
  .exact d _ [(24000,24000)] _ true Fa h
  refine kC Z h (JC Z Y) (fun y4 h=>?_);exact d _ [(24000,24000)] _ (!y4) Fa h
 apply kI Z h<;>intro h
 .cases h;exact kR Z
 refine kC Z h (Nl Z Y) (fun y5 h=>?_);apply kI Z h<;>intro h
 .cases h;exact kR Z
 refine kC Z h (JD Z Y) (fun y6 h=>?_);apply kI Z h<;>intro h
 .cases h;exact kR Z
 refine R9 Z Fa h (fun x2=>⟨[(55,pN x2),(54,pN (b.n:Int)),(53,.p (vSl 2 F5 b))],[]⟩) (ids:=[]) (fun _ _ _ _ _ f x2 g h=>?_);apply kI Z h<;>intro h
 .obtain⟨c16,h⟩:=C9 h;obtain⟨y9,e9,h⟩:=A8 h;refine B3 Z [] (And.intro c16 Ga) (JD Z Y e9) ?_;apply kI Z h<;>intro h
  .cases h;exact kR Z
  exact g _ [] _ (wrap .i64 (x2+1)) Fa h
 cases h;exact kR Z
def X3 (N:Nat)(q0:Sl Entry):Option (List (Db×(Sl Im))):= Y1 N (fun b (x2:Int)=>if (decide (x2<(q0.n:Int))) then if ((0:Int)<=x2/\x2<(q0.n:Int))then Y1 N (fun a (x4:Int)=>if (decide (x4<((q0.g x2.toNat).Forms.n:Int))) then if ((0:Int)<=x4/\x4<((q0.g x2.toNat).Forms.n:Int))then if ((q0.g x2.toNat).Forms.g x4.toNat).Has then Af ((⟨x2,x4⟩:Db),((q0.g x2.toNat).Forms.g x4.toNat).W) (a (wrap .i64 (x4+1))) else a (wrap .i64 (x4+1)) else none else b (wrap .i64 (x2+1))) 0 else none else some []) 0
theorem Kc {q0:Sl Entry}{L:List (Db×(Sl Im))}(h:X3 N q0=some L) :ER S Cc [] [.reg 0 0] [.cells [.p (vSl 2 F5 q0)]] (L.map (fun (x:Db×(Sl Im))=>[(fun x=>.agg (OF x)) x.1,vSl 2 A0 x.2])):=by
 unfold X3 at h;refine EA Z func87 ?_;refine Dl Z Fa h (fun x2 L1=>⟨[(9,pN x2),(8,pN (q0.n:Int)),(7,.p (vSl 2 F5 q0)),(0,.yf 1)],[(1,.yld (L1.map (fun (x:Db×(Sl Im))=>[(fun x=>.agg (OF x)) x.1,vSl 2 A0 x.2])) true),(0,.cells [.p (vSl 2 F5 q0)])]⟩) (ids:=[(0,0),(1,1)]) (fun _ _ _ _ _ f x2 L1 i h=>?_);apply kI Z h<;>intro h
 .obtain⟨c48,h⟩:=C9 h;refine Dl Z (And.intro c48 Ga) h (fun x4 L16=>⟨[(17,pN x4),(16,pN ((q0.g x2.toNat).Forms.n:Int)),(15,.p (vSl 2 F4 (q0.g x2.toNat).Forms)),(9,pN x2),(8,pN (q0.n:Int)),(7,.p (vSl 2 F5 q0)),(3,pN x2),(0,.yf 1)],[(1,.yld (L16.map (fun (x:Db×(Sl Im))=>[(fun x=>.agg (OF x)) x.1,vSl 2 A0 x.2])) true),(0,.cells [.p (vSl 2 F5 q0)])]⟩) (ids:=[(0,0),(1,1)]) (fun _ _ _ _ _ j x4 L16 d h=>?_);apply kI Z h<;>intro h
  .obtain⟨c64,h⟩:=C9 h;refine GN Z (And.intro c64 Ga) (b:=((q0.g x2.toNat).Forms.g x4.toNat).Has) (fun c67=>?_) (fun c67=>?_)
   .replace h:=itT c67 h;obtain⟨L22,rfl,c⟩:=LO h;replace h:=c;refine Dk Z Fa (ys:=(fun (x:Db×(Sl Im))=>[(fun x=>.agg (OF x)) x.1,vSl 2 A0 x.2]) ((⟨x2,x4⟩:Db),((q0.g x2.toNat).Forms.g x4.toNat).W)) (rest:=L22.map (fun (x:Db×(Sl Im))=>[(fun x=>.agg (OF x)) x.1,vSl 2 A0 x.2])) ?_ ?_
    .refine C8 Z Fa (b:=false) (fun c68=>?_) (fun c68=>?_)
     .exact Bool.noConfusion ((rfl:false=false).symm.trans c68)
     exact d _ [(0,0),(1,1)] _ (wrap .i64 (x4+1)) L22 Fa h
    refine C8 Z Fa (b:=true) (fun c69=>?_) (fun c69=>?_)
    .exact kO Z Fa (a:=.tup []) (objs:=[(.cells [.p (vSl 2 F5 q0)]),.yld [] false]) [0,1] ⟨false,rfl,rfl,_,rfl⟩
    exact Bool.noConfusion (Ig.symm.trans c69)
   replace h:=itF c67 h;exact d _ [(0,0),(1,1)] _ (wrap .i64 (x4+1)) L16 Fa h
  exact i _ [(0,0),(1,1)] _ (wrap .i64 (x2+1)) L16 Fa h
 obtain rfl:=A9 h;exact kO Z Fa (a:=.tup []) (objs:=[(.cells [.p (vSl 2 F5 q0)]),.yld [] true]) [0,1] ⟨true,rfl,rfl,_,rfl⟩
def Dv (N:Nat)(a:Sl Entry):Option (Sl Entry):= some a
theorem LZ {a:Sl Entry}{y:Sl Entry}(h:Dv N a=some y) :FunO S Gq [.p (vSl 2 F5 a)] [] (.clo Cc [] [.reg 0 0]) ([.cells [.p (vSl 2 F5 y)]]) []:=by unfold Dv at h;refine A2 Z func52 ?_;obtain rfl:=A9 h;exact kO Z Fa [2000]
end Go.AM
namespace Go.AM
open IntKind (wrap)
open Go.Proofs
set_option maxRecDepth 10000
set_option maxHeartbeats 2000000
variable {S:U7}(Z:G4 S Tryz.prog) (Y:Kb S)
abbrev Nm (es:List (Str×H9)):Obj:=.map (Dc PV.str (fun x=>.agg (F4 x)) es)
abbrev AO2 (M:Sl (List (Str×H9))):List Obj:=[.cells [.vec 1],.fam D7 M.n 2 none,.rows M.n fun i=>Nm (M.g i)]
theorem AY4 {i n:Nat}{g:Nat->Obj}:∀q,q<n->(fun q=>if q=i then g i else if q=i then Obj.dead else g q) q=(fun q=>g q) q:=fun q _=>by
 show (if q=i then g i else if q=i then Obj.dead else g q)=g q;by_cases h:q=i
 .subst h;rw[Dn rfl]
 rw[Ej h,Ej h]
theorem AY5 {i n:Nat}{M:Sl (List (Str×H9))}{x:List (Str×H9)}:∀q,q<n->(fun q=>if q=i then Nm x else if q=i then Obj.dead else Nm (M.g q)) q=(fun q=>Nm ((M.upd i x).g q)) q:=fun q _=>by
 show (if q=i then Nm x else if q=i then Obj.dead else Nm (M.g q))=Nm (if q=i then x else M.g q);by_cases h:q=i
 .rw[Dn h,Dn h]
 rw[Ej h,Ej h,Ej h]
abbrev knO (K i:Nat):Obj:=if i<K then Nm []else .ghost [.p (.v (.map none))]
theorem obKn {K x n:Nat}(hx:x=K):∀q,q<n->(fun q=>if q=x then Obj.map []else if q=x then Obj.dead else knO K q) q=(fun i=>knO (K+1) i) q:=fun q _=>by
 show (if q=x then Nm []else if q=x then Obj.dead else if q<K then Nm []else .ghost [.p (.v (.map none))])=if q<K+1 then Nm []else .ghost [.p (.v (.map none))]
 by_cases e:q=x
 .rw[Dn e,Dn (by omega)]
 rw[Ej e,Ej e];by_cases e2:q<K
 .rw[Dn e2,Dn (by omega)]
 rw[Ej e2,Ej (by omega)]
include Z Y
def P2 (N:Nat)(p:H9)(leaf:Int)(M:Sl (List (Str×H9)))(X:Sl (Sl Law)):Option (Sl Im×Bool×Sl (List (Str×H9))):= if (!p.Has) then some (Il,false,M) else if leaf.toNat<M.n then if ((0:Int)<=leaf/\leaf<(M.n:Int))then (Cw N p.W).bind fun k=>Nx (T0 eqS k (M.g leaf.toNat)) (if ((0:Int)<=leaf/\leaf<(X.n:Int))then (S7 N (X.g leaf.toNat) p.W).bind fun w=>some (w.1,w.2==0,M.upd leaf.toNat (Eh eqS k (⟨w.2==0,w.1⟩:H9) (M.g leaf.toNat))) else none) fun v=>some (v.W,v.Has,M) else none else none
theorem Lo {N:Nat}{p:H9}{leaf:Int}{X:Sl (Sl Law)}{M:Sl (List (Str×H9))}{y:Sl Im×Bool×Sl (List (Str×H9))}(h:P2 N p leaf M X=some y) :FunO S T4 [.p (.agg (F4 p)),pN leaf,.reg 0 0,.p (.ptr [vSl 1 (cL 18 B4) X])] (AO2 M) (.tup [.p (vSl 2 A0 y.1),pB y.2.1]) (AO2 y.2.2) [true,true,false]:=by
 unfold P2 at h;refine A2 Z Tryz.func85 ?_;refine F7 Z Fa 12 5000 (F4 p) ?_;apply kI Z h<;>intro h
 .obtain rfl:=A9 h;exact J4 Z Fa ⟨[(7,pB false),(6,.p (vSl 2 A0 Il))],[(9902,.rows M.n fun i=>Nm (M.g i)),(1,.fam D7 M.n 9902 none),(0,.cells [.vec 1])]⟩ [0,1,9902] (ids:=[(0,0),(1,1),(9902,2)]) ⟨rfl,rfl,rfl⟩
 obtain⟨c1,h⟩:=C9 h;obtain⟨c2,h⟩:=C9 h;refine YT Z Fa (.take 1 leaf.toNat 9801) (⟨⟨by decide,rfl⟩,c1⟩:(1000<=9801/\M.n=M.n)/\leaf.toNat<M.n) ?_;obtain⟨k,e1,h⟩:=A8 h;refine F3 Z Fa [(0,.l [0]),(2,.l [1]),(3,.l [1]),(5,.n),(6,.n),(7,.l [9801]),(11,.a [9000]),(12,.a [9000])] ?_;refine G1 (And.intro c2 (And.intro c1 (rfl:leaf.toNat=leaf.toNat))) (MP Z Y e1) ?_;rcases o1:T0 eqS k (M.g leaf.toNat)with _|v1
 .replace h:=ZQ o1 h;refine AN6 Fa F6 R5 PV.str (fun x=>.agg (F4 x)) eqS o1 (.agg [.v (.bool false),C7]) Fa ?_;refine D1 Fa ?_;refine C8 Z Fa (b:=true) (fun c=>?_) (fun c=>Bool.noConfusion (Ig.symm.trans c));obtain⟨c3,h⟩:=C9 h;obtain⟨w,e2,h⟩:=A8 h;refine E3 Z Fa [0,2,3,5,6] ?_;refine G1 c3 (Fk Z Y e2) ?_;refine D1 Fa ?_;refine F3 Z Fa [(0,.l [0]),(2,.l [1]),(3,.l [1]),(5,.n),(6,.n),(7,.l [9000])] ?_;refine G1 (And.intro c2 (And.intro c1 (rfl:leaf.toNat=leaf.toNat))) (MP Z Y e1) ?_;refine SF Fa F6 PV.str (fun x=>.agg (F4 x)) eqS k (⟨w.2==0,w.1⟩:H9) (M.g leaf.toNat) Fa ?_;refine D1 Fa ?_;obtain rfl:=A9 h;refine YT Z Fa (.put 1 9902) (⟨⟨by decide,rfl⟩,c1⟩:(1000<=9902/\M.n=M.n)/\leaf.toNat<M.n) ?_;refine EU Z Fa ?_;refine D1 Fa ?_;exact J4 Z Fa ⟨[(7,pB (w.2==0)),(6,.p (vSl 2 A0 w.1))],[(9902,.rows M.n fun i=>Nm ((M.upd leaf.toNat (Eh eqS k (⟨w.2==0,w.1⟩:H9) (M.g leaf.toNat))).g i)),(1,.fam D7 M.n 9902 none),(0,.cells [.vec 1])]⟩ [0,1,9902] (ids:=[(0,0),(1,1),(9902,9902)]) ⟨rfl,rfl,rfl⟩ (hle:=klR [(3,.ob M.n (fun q=>if q=leaf.toNat then Nm (Eh eqS k (⟨w.2==0,w.1⟩:H9) (M.g leaf.toNat))else if q=leaf.toNat then .dead else Nm (M.g q)) fun i=>Nm ((M.upd leaf.toNat (Eh eqS k (⟨w.2==0,w.1⟩:H9) (M.g leaf.toNat))).g i))] (al1 AY5 al0))
 replace h:=YE o1 h;refine Az1 Fa F6 R5 PV.str (fun x=>.agg (F4 x)) eqS o1 Fa ?_;refine D1 Fa ?_;obtain rfl:=A9 h;refine C8 Z Fa (b:=false) (fun c=>Bool.noConfusion ((rfl:false=false).symm.trans c)) (fun c=>?_);refine YT Z Fa (.put 1 9902) (⟨⟨by decide,rfl⟩,c1⟩:(1000<=9902/\M.n=M.n)/\leaf.toNat<M.n) ?_;refine EU Z Fa ?_;refine D1 Fa ?_;exact J4 Z Fa ⟨[(7,pB v1.Has),(6,.p (vSl 2 A0 v1.W))],[(9902,.rows M.n fun i=>Nm (M.g i)),(1,.fam D7 M.n 9902 none),(0,.cells [.vec 1])]⟩ [0,1,9902] (ids:=[(0,0),(1,1),(9902,9902)]) ⟨rfl,rfl,rfl⟩ (hle:=klR [(3,.ob M.n (fun q=>if q=leaf.toNat then Nm (M.g leaf.toNat)else if q=leaf.toNat then .dead else Nm (M.g q)) fun i=>Nm (M.g i))] (al1 (AY4 (g:=fun i=>Nm (M.g i))) al0))
def Z0 (N:Nat)(a:History)(b:Int):Option (Sl (Sl Law)):= (T8 N a.Tree).bind fun l=>if ((0:Int)<=(l.1.n:Int)/\(l.1.n:Int)<=(l.1.n:Int)/\(l.1.n:Int)*24<=140737488355328/\(l.1.n:Int)<=140737488355328)then if ((0:Int)<=(l.1.n:Int)/\(l.1.n:Int)<=(l.1.n:Int)/\(l.1.n:Int)*8<=140737488355328/\(l.1.n:Int)<=140737488355328)then Av4 N (fun f (K:Nat) (X:Sl (Sl Law)) (x:Int)=>if (decide (x<(l.1.n:Int))) then if (((0:Int)<=x/\x<(l.1.n:Int))/\x.toNat<l.1.n)then (Fo N a.Tree (l.1.g x.toNat)).bind fun w=>BD N (fun d (X:Sl (Sl Law)) (y:Int)=>if (decide (y<(w.1.n:Int))) then if ((((0:Int)<=y/\y<(w.1.n:Int))/\y.toNat<w.1.n)/\((0:Int)<=(w.1.g y.toNat)/\(w.1.g y.toNat)<(a.On.n:Int)))then BD N (fun c (X:Sl (Sl Law)) (z:Int)=>if (decide (z<((a.On.g (w.1.g y.toNat).toNat).n:Int))) then if ((0:Int)<=z/\z<((a.On.g (w.1.g y.toNat).toNat).n:Int))then if (((a.On.g (w.1.g y.toNat).toNat).g z.toNat) != b) then if x.toNat<X.n then if (((0:Int)<=x/\x<(X.n:Int))/\((0:Int)<=((a.On.g (w.1.g y.toNat).toNat).g z.toNat)/\((a.On.g (w.1.g y.toNat).toNat).g z.toNat)<(a.Laws.n:Int)))then if (((X.g x.toNat).n+1)*200<=140737488355328/\(X.g x.toNat).n+1<=140737488355328)then c (X.upd x.toNat ((X.g x.toNat).push (a.Laws.g ((a.On.g (w.1.g y.toNat).toNat).g z.toNat).toNat))) (wrap .i64 (z+1)) else none else none else none else c X (wrap .i64 (z+1)) else none else d X (wrap .i64 (y+1))) X 0 else none else if x.toNat=K/\K<l.1.n then f (K+1) X (wrap .i64 (x+1))else none) X 0 else none else if K=l.1.n/\X.n=l.1.n then some X else none) 0 ⟨l.1.n,fun _=>Sl.nil⟩ 0 else none else none
theorem Nn {N:Nat}{d:History}{c:Int}{y:Sl (Sl Law)}(h:Z0 N d c=some y) :FunO S Hq [.p (.agg (A7 d)),pN c] [] (.clo T4 [] [.reg 0 0,.p (.ptr [vSl 1 (cL 18 B4) y])]) (AO2 ⟨y.n,fun _=>[]⟩) []:=by
 unfold Z0 at h;refine A2 Z Tryz.func51 ?_;refine F7 Z Fa 18 3000 (A7 d) ?_;obtain⟨l,e1,h⟩:=A8 h;refine B3 Z [] Fa (EC Z Y e1) ?_;obtain⟨c1,h⟩:=C9 h;refine EV Z c1 26 (.fam 26000 9901 fun i=>Fl H2 18 B4 ((⟨l.1.n,fun _=>Sl.nil⟩:Sl (Sl Law)).g i)) (⟨by decide,fun i _=>rfl⟩:1000<=9901/\∀i,i<l.1.n->QM [C7] (Fl H2 18 B4 ((⟨l.1.n,fun _=>Sl.nil⟩:Sl (Sl Law)).g i))) ?_;obtain⟨c2,h⟩:=C9 h;refine EV Z c2 29 (.fam 29000 9951 fun i=>knO 0 i) (⟨by decide,fun i _=>⟨rfl,rfl⟩⟩:1000<=9951/\∀i,i<l.1.n->QM [.v (.map none)] (knO 0 i)) ?_;refine Ov Z Fa h (fun K X x=>⟨[(31,pN x),(30,pN (l.1.n:Int)),(29,.vec 21000),(8,.reg 9000 0),(7,.reg 8000 0),(2,.p (.ptr (A7 d))),(1,pN c)],
  [(29000,.fam D7 l.1.n 9951 none),(26000,.fam DR X.n 9901 none),(21000,oV E4 1 (cI .i64) l.1 true),(9951,.rows l.1.n fun i=>knO K i),(9901,.rows X.n fun i=>Fl H2 18 B4 (X.g i)),(9000,.cells [.vec 29000]),(8000,.cells [.vec 26000])]⟩) (ids:=[(29000,29000),(26000,26000),(21000,21000),(9951,9951),(9901,9901),(9000,9000),(8000,8000)]) (fun _ _ _ _ _ s K X x j h=>?_)
 apply kI Z h<;>intro h
 .obtain⟨c3,h⟩:=C9 h;obtain⟨w,e2,h⟩:=A8 h;refine B3 Z [] c3 (XK Z Y e2) ?_;refine H8 Z Fa h (fun X u=>⟨[(45,pN u),(44,pN (w.1.n:Int)),(43,.vec 41000),(31,pN x),(30,pN (l.1.n:Int)),(29,.vec 21000),(9,pN x),(8,.reg 9000 0),(7,.reg 8000 0),(2,.p (.ptr (A7 d))),(1,pN c)],[(41000,oV E4 1 (cI .i64) w.1 true),(29000,.fam D7 l.1.n 9951 none),(26000,.fam DR X.n 9901 none),(21000,oV E4 1 (cI .i64) l.1 true),(9951,.rows l.1.n fun i=>knO K i),(9901,.rows X.n fun i=>Fl H2 18 B4 (X.g i)),(9000,.cells [.vec 29000]),(8000,.cells [.vec 26000])]⟩) (ids:=[(41000,41000),(29000,29000),(26000,26000),(21000,21000),(9951,9951),(9901,9901),(9000,9000),(8000,8000)]) (fun _ _ _ _ _ m X u o h=>?_);apply kI Z h<;>intro h
  .obtain⟨c4,h⟩:=C9 h;refine H8 Z c4 h (fun X z=>⟨[(55,pN z),(54,pN ((d.On.g (w.1.g u.toNat).toNat).n:Int)),(53,.p (vSl 1 (cI .i64) (d.On.g (w.1.g u.toNat).toNat))),(45,pN u),(44,pN (w.1.n:Int)),(43,.vec 41000),(31,pN x),(30,pN (l.1.n:Int)),(29,.vec 21000),(9,pN x),(8,.reg 9000 0),(7,.reg 8000 0),(2,.p (.ptr (A7 d))),(1,pN c)],[(41000,oV E4 1 (cI .i64) w.1 true),(29000,.fam D7 l.1.n 9951 none),(26000,.fam DR X.n 9901 none),(21000,oV E4 1 (cI .i64) l.1 true),(9951,.rows l.1.n fun i=>knO K i),(9901,.rows X.n fun i=>Fl H2 18 B4 (X.g i)),(9000,.cells [.vec 29000]),(8000,.cells [.vec 26000])]⟩) (ids:=[(41000,41000),(29000,29000),(26000,26000),(21000,21000),(9951,9951),(9901,9901),(9000,9000),(8000,8000)]) (fun _ _ _ _ _ r X z f h=>?_);apply kI Z h<;>intro h
   .obtain⟨c5,h⟩:=C9 h;refine C8 Z c5 (b:=((d.On.g (w.1.g u.toNat).toNat).g z.toNat) != c) (fun c6=>?_) (fun c6=>?_)
    .replace h:=itT c6 h;obtain⟨c7,h⟩:=C9 h;obtain⟨c8,h⟩:=C9 h;obtain⟨c9,h⟩:=C9 h;refine YT Z Fa (.take 26000 x.toNat 9801) (⟨⟨by decide,rfl⟩,c7⟩:(1000<=9801/\X.n=X.n)/\x.toNat<X.n) ?_;refine F3 Z Fa [(0,.l [8000]),(2,.l [8000]),(4,.l [26000]),(5,.l [26000]),(6,.n),(7,.n),(9,.n),(10,.n),(12,.a [75000,9801]),(13,.l [26000]),(14,.a [26000])] ?_;refine K6 (And.intro (And.intro (And.intro c8.1 (And.intro c7 (rfl:x.toNat=x.toNat))) c8.2) Ic) (x:=.sl true 18 1 (G7 [.str [],pI .i64 0,pI .u32 0,pI .u32 0,.v (.bool false),pI .i64 0,pI .i64 0,C7,pI .i64 0,pI .u32 0,pI .u32 0,.v (.bool false),pI .i64 0,pI .i64 0,C7,C7,C7,pI .i64 0] [(0,B4 (d.Laws.g ((d.On.g (w.1.g u.toNat).toNat).g z.toNat).toNat))])) ?_;refine D1 (And.intro (And.intro c9 c8.1) (And.intro c7 (rfl:x.toNat=x.toNat))) ?_;refine N0 Z Fa 76 ⟨[(55,pN z),(54,pN ((d.On.g (w.1.g u.toNat).toNat).n:Int)),(53,.p (vSl 1 (cI .i64) (d.On.g (w.1.g u.toNat).toNat))),(45,pN u),(44,pN (w.1.n:Int)),(43,.vec 41000),(31,pN x),(30,pN (l.1.n:Int)),(29,.vec 21000),(9,pN x),(8,.reg 9000 0),(7,.reg 8000 0),(2,.p (.ptr (A7 d))),(1,pN c)],[(75000,Fl H2 18 B4 ((X.g x.toNat).push (d.Laws.g ((d.On.g (w.1.g u.toNat).toNat).g z.toNat).toNat))),(41000,oV E4 1 (cI .i64) w.1 true),(29000,.fam D7 l.1.n 9951 none),(26000,.fam DR X.n 9901 (some (x.toNat,.vec 75000))),(21000,oV E4 1 (cI .i64) l.1 true),(9951,.rows l.1.n fun i=>knO K i),(9901,(.rows X.n fun q=>if q=x.toNat then .dead else Fl H2 18 B4 (X.g q))),(9000,.cells [.vec 29000]),(8000,.cells [.vec 26000])]⟩ (ids:=[(75000,75000),(41000,41000),(29000,29000),(26000,26000),(21000,21000),(9951,9951),(9901,9901),(9000,9000),(8000,8000)]) ?_ (hle:=kl1 10 (W4 B4 (X.g x.toNat) (d.Laws.g ((d.On.g (w.1.g u.toNat).toNat).g z.toNat).toNat) [.str [],pI .i64 0,pI .u32 0,pI .u32 0,.v (.bool false),pI .i64 0,pI .i64 0,C7,pI .i64 0,pI .u32 0,pI .u32 0,.v (.bool false),pI .i64 0,pI .i64 0,C7,C7,C7,pI .i64 0]));refine EV Z Fa 76 (.put 26000 9902) (⟨⟨by decide,rfl⟩,c7⟩:(1000<=9902/\X.n=X.n)/\x.toNat<X.n) ?_;exact f _ [(41000,41000),(29000,29000),(26000,26000),(21000,21000),(9951,9951),(9901,9902),(9000,9000),(8000,8000)] _ (X.upd x.toNat ((X.g x.toNat).push (d.Laws.g ((d.On.g (w.1.g u.toNat).toNat).g z.toNat).toNat))) (wrap .i64 (z+1)) Fa h (hle:=klR [(17,.ob X.n (fun q=>if q=x.toNat then Fl H2 18 B4 ((X.g x.toNat).push (d.Laws.g ((d.On.g (w.1.g u.toNat).toNat).g z.toNat).toNat))else if q=x.toNat then .dead else Fl H2 18 B4 (X.g q)) fun i=>Fl H2 18 B4 ((X.upd x.toNat ((X.g x.toNat).push (d.Laws.g ((d.On.g (w.1.g u.toNat).toNat).g z.toNat).toNat))).g i))] (al1 AY3 al0))
    replace h:=itF c6 h;exact f _ [(41000,41000),(29000,29000),(26000,26000),(21000,21000),(9951,9951),(9901,9901),(9000,9000),(8000,8000)] _ X (wrap .i64 (z+1)) Fa h
   exact o _ [(41000,41000),(29000,29000),(26000,26000),(21000,21000),(9951,9951),(9901,9901),(9000,9000),(8000,8000)] _ X (wrap .i64 (u+1)) Fa h
  obtain⟨c4,h⟩:=C9 h;refine EV Z Fa 78 (.over 29000 x.toNat) (⟨rfl,by omega⟩:l.1.n=l.1.n/\x.toNat<l.1.n) ?_;refine EV Z (And.intro c3.1 (And.intro c3.2 (rfl:x.toNat=x.toNat))) 82 (.put 29000 9952) (⟨⟨by decide,rfl⟩,c3.2⟩:(1000<=9952/\l.1.n=l.1.n)/\x.toNat<l.1.n) ?_;exact j _ [(29000,29000),(26000,26000),(21000,21000),(9951,9952),(9901,9901),(9000,9000),(8000,8000)] _ (K+1) X (wrap .i64 (x+1)) Fa h (hle:=klR [(8,.ob l.1.n (fun q=>if q=x.toNat then .map []else if q=x.toNat then .dead else knO K q) fun i=>knO (K+1) i)] (al1 (obKn c4.1) al0))
 obtain⟨c3,h⟩:=C9 h;obtain rfl:=A9 h;refine EV Z Fa 83 (.pub 26000) (⟨rfl,fun i _=>rfl⟩:X.n=X.n/\∀i,i<X.n->(QK (Fl H2 18 B4 (X.g i))).isSome=true) ?_;refine N0 Z Fa 83 ⟨[(8,.reg 9000 0),(7,.reg 8000 0)],[(29000,.fam D7 X.n 9951 none),(9951,.rows X.n fun i=>Nm []),(9000,.cells [.vec 29000]),(8000,.cells [.p (vSl 1 (cL 18 B4) X)])]⟩ (ids:=[(29000,29000),(9951,9951),(9000,9000),(8000,8000)]) ?_ (hle:=klR [(0,.nt l.1.n X.n),(1,.nt l.1.n X.n),(2,.ob X.n (fun i=>knO K i) (fun i=>Nm [])),(3,.fn X.n X.n (fun i=>[(QK (Fl H2 18 B4 (X.g i))).getD default]) (fun i=>cL 18 B4 (X.g i)))] (al1 c3.2.symm (al1 c3.2.symm (al1 (fun i t=>Dn (by omega)) (al1 ⟨rfl,fun _ _=>rfl⟩ al0)))));refine F7 Z Fa 83 8000 [vSl 1 (cL 18 B4) X] ?_;exact J4 Z Fa ⟨[(4,.clo T4 [] [.reg 9000 0,.p (.ptr [vSl 1 (cL 18 B4) X])])],[(29000,.fam D7 X.n 9951 none),(9951,.rows X.n fun i=>Nm []),(9000,.cells [.vec 29000])]⟩ [9000,29000,9951] (ids:=[(29000,29000),(9951,9951),(9000,9000)]) ⟨rfl,rfl,rfl⟩
end Go.AM
namespace Go.AM
open Go.Proofs
set_option maxRecDepth 10000
set_option maxHeartbeats 2000000
variable {S:U7}(Z:G4 S Tryz.prog) (Y:Kb S)
include Z Y
def Cx (N:Nat)(d:History)(b:Sl H9)(f:Sl Entry)(a:Int):Option ((Sl Exception)×Int):= (U4 N d b f).bind fun y1=>if (y1 != 0) then some ((Sl.nil:Sl Exception),y1) else if ((decide (a<0))||(decide (1073741824<a))) then some ((Sl.nil:Sl Exception),2) else (Z0 N d (-1)).bind fun y2=>(Dv N f).bind fun y3=>(X3 N y3).bind fun L1=>U1 L1 (fun c (x1:Db×(Sl Im)) (z1:(Sl (List (Str×H9)))×(Sl Exception))=>if ((0:Int)<=x1.1.entry/\x1.1.entry<(b.n:Int))then (P2 N (b.g x1.1.entry.toNat) x1.1.leaf z1.1 y2).bind fun y8=>if (!y8.2.1) then if ((z1.2.n+(Sl.of [(⟨x1.1.entry,x1.1.leaf,2,a⟩:Exception)]:Sl Exception).n)*32<=140737488355328/\z1.2.n+(Sl.of [(⟨x1.1.entry,x1.1.leaf,2,a⟩:Exception)]:Sl Exception).n<=140737488355328)then c (y8.2.2,z1.2.push (⟨x1.1.entry,x1.1.leaf,2,a⟩:Exception)) else none else (Ar N y8.1 x1.2).bind fun y9=>if (!y9) then if ((z1.2.n+(Sl.of [(⟨x1.1.entry,x1.1.leaf,1,a⟩:Exception)]:Sl Exception).n)*32<=140737488355328/\z1.2.n+(Sl.of [(⟨x1.1.entry,x1.1.leaf,1,a⟩:Exception)]:Sl Exception).n<=140737488355328)then c (y8.2.2,z1.2.push (⟨x1.1.entry,x1.1.leaf,1,a⟩:Exception)) else none else c (y8.2.2,z1.2) else none) (fun (z1:(Sl (List (Str×H9)))×(Sl Exception))=>some (z1.2,0)) ((⟨y2.n,fun _=>[]⟩:Sl (List (Str×H9))),(Sl.nil:Sl Exception))
theorem VH {N:Nat}{d:History}{c:Sl H9}{j:Sl Entry}{b:Int}{y:(Sl Exception)×Int}(h:Cx N d c j b=some y) :FunO S Mx [.p (.agg (A7 d)),.p (vSl 2 F4 c),.p (vSl 2 F5 j),pN b] [] (.tup [.vec 0,pN y.2]) ([oV S5 4 A5 y.1 false]) []:=by
 unfold Cx at h;refine A2 Z Tryz.func21 ?_;refine F7 Z Fa 5 5000 (A7 d) ?_;refine F7 Z Fa 7 6000 [vSl 2 F4 c] ?_;refine F7 Z Fa 8 8000 [pI .i64 b] ?_;obtain⟨y1,e1,h⟩:=A8 h;refine B3 Z [] Gp (JE Z Y e1) ?_;apply kI Z h<;>intro h
 .obtain rfl:=A9 h;exact kO Z Fa [9700]
 refine kB Z (A4 Z) Fa Fa 3 (.o (.a (decide (b<0))) (.a (decide (1073741824<b)))) ?_;apply kI Z h<;>intro h
 .obtain rfl:=A9 h;exact kO Z Fa [9700]
 obtain⟨y2,e2,h⟩:=A8 h;refine B3 Z [] Gp (Nn Z Y e2) ?_;refine kC Z h (LZ Z Y) (fun y3 h=>?_);obtain⟨L1,e4,h⟩:=A8 h;refine GO Z Fa [34000] [12,11,7,5] 901 (fun z1=>⟨[(12,.reg 13000 0),(11,.reg 12000 0),(7,.p (.ptr [pI .i64 b])),(5,.p (.ptr [vSl 2 F4 c]))],[(32001,.fam D7 z1.1.n 12500 none),(32000,.cells [.vec 32001]),(13500,oV S5 4 A5 z1.2 false),(13000,.cells [.vec 13500]),(12500,.rows z1.1.n fun i=>Nm (z1.1.g i)),(12000,.cells [.clo T4 [] [.reg 32000 0,.p (.ptr [vSl 1 (cL 18 B4) y2])]])]⟩) (idl:=[(12000,12000),(12500,32002),(13000,13000),(32000,32000),(32001,32001)]) h (Kc Z Y e4) (fun _=>by kernel_rfl) (fun _=>by kernel_rfl) (fun _=>by kernel_rfl) (fun _=>by kernel_rfl) (fun x1 _ l z1 f h=>?_) (fun z1 h=>?_)
 .refine F7 Z Fa 14 14000 [pI .i64 x1.1.entry,pI .i64 x1.1.leaf] ?_;refine JT Z Fa ?_;refine E3 Z Fa [1,3,4,5,7] ?_;obtain⟨c9,h⟩:=C9 h;obtain⟨y8,e9,h⟩:=A8 h;refine Ow [32000,32001,12500] (And.intro c9 Ga) (Lo Z Y e9) ?_;refine D1 Fa ?_;apply kI Z h<;>intro h
  .obtain⟨c11,h⟩:=C9 h;exact f _ [(901,901),(12000,12000),(12500,46002),(13000,13000),(13500,60000),(32000,32000),(32001,32001)] _ (y8.2.2,z1.2.push (⟨x1.1.entry,x1.1.leaf,2,b⟩:Exception)) (And.intro Ig c11) h (hle:=kl1 1 (W4 A5 z1.2 (⟨x1.1.entry,x1.1.leaf,2,b⟩:Exception) [pI .i64 0,pI .i64 0,pI .i64 0,pI .i64 0]))
  refine kC Z h (MN Z Y) (fun y9 h=>?_);apply kI Z h<;>intro h
  .obtain⟨c13,h⟩:=C9 h;exact f _ [(901,901),(12000,12000),(12500,46002),(13000,13000),(13500,74000),(32000,32000),(32001,32001)] _ (y8.2.2,z1.2.push (⟨x1.1.entry,x1.1.leaf,1,b⟩:Exception)) (And.intro Ig c13) h (hle:=kl1 1 (W4 A5 z1.2 (⟨x1.1.entry,x1.1.leaf,1,b⟩:Exception) [pI .i64 0,pI .i64 0,pI .i64 0,pI .i64 0]))
  exact f _ [(901,901),(12000,12000),(12500,46002),(13000,13000),(13500,13500),(32000,32000),(32001,32001)] _ (y8.2.2,z1.2) Fa h
 obtain rfl:=A9 h;exact kO Z Fa [13500]
end Go.AM
namespace Go.AM
open Go.Proofs.Tryz
variable {N:Nat}
open Go.Proofs
section
variable {S:U7}(Z:G4 S Tryz.prog) (Y:Kb S)
include Z Y
def U5 (N:Nat)(s:Sl Str)(t:Str):Option Str:= if s.n<=140737488355328/\(Lib.join ((List.range s.n).map s.g) t).length<=140737488355328 then some (Lib.join ((List.range s.n).map s.g) t)else none
theorem QD {s:Sl Str}{t:Str}{y:Str}(h:U5 N s t=some y):FunO S DF [.p (vSl 1 cS s),.p (.str t)] [] (.p (.str y)) [] []:=by simp only[U5,Bp9,Bd1]at h;obtain⟨⟨h1,a⟩,rfl⟩:=h;exact Y.join false s.n s.g t h1 a
def X4 (N:Nat)(s:Str)(t:Int):Option Int:= if 0<=t/\t<256 then some (Lib.indexByte s (UInt8.ofNat t.toNat))else none
theorem Fp {s:Str}{t:Int}{y:Int}(h:X4 N s t=some y):FunO S X2 [.p (.str s),.p (pI .u8 t)] [] (.p (pI .i64 y)) [] []:=by
 simp only[X4,Bp9,Bd1]at h;obtain⟨h1,rfl⟩:=h
 have:=Y.indexByte s (UInt8.ofNat t.toNat)
 have e:(((UInt8.ofNat t.toNat).toNat:Nat):Int)=t:=by
  have:(UInt8.ofNat t.toNat).toNat=t.toNat:=UInt8.toNat_ofNat_of_lt' (by show t.toNat<256;omega)
  omega
 rw[e]at this;exact this
def G0 (N:Nat)(s:Sl Str):Option (Sl Str):=if (0+s.n)*16<=140737488355328/\0+s.n<=140737488355328 then some s else none
theorem N9 {s y:Sl Str}(h:G0 N s=some y):FunO S W0 [.p (vSl 1 cS s)] [] (.vec 0) [.vec F6 1 y.n (fun i=>cS (y.g i)) true] []:=by
 unfold G0 at h;obtain⟨c1,h⟩:=C9 h;obtain rfl:=A9 h;refine A2 Z func168 ?_;refine UO Z Fa 3 (k:=1) (n:=s.n) (f:=fun i=>cS (s.g i)) (fun a=>?_) ?_
 .obtain⟨n,g⟩:=s;obtain rfl:n=0:=a;exact kO Z Fa [3700]
 exact kO Z (And.intro Ig c1) [8000]
  (hle:=kl1 0 (Ad1 cS s [.str []]))
def J1 (N:Nat)(s:Sl K0):Option (Sl K0):=if (0+s.n)*24<=140737488355328/\0+s.n<=140737488355328 then some s else none
theorem Bs {s y:Sl K0}(h:J1 N s=some y):FunO S Q0 [.p (vSl 3 D6 s)] [] (.vec 0) [.vec D2 3 y.n (fun i=>D6 (y.g i)) true] []:=by
 unfold J1 at h;obtain⟨c1,h⟩:=C9 h;obtain rfl:=A9 h;refine A2 Z func173 ?_;refine UO Z Fa 3 (k:=3) (n:=s.n) (f:=fun i=>D6 (s.g i)) (fun a=>?_) ?_
 .obtain⟨n,g⟩:=s;obtain rfl:n=0:=a;exact kO Z Fa [3700]
 exact kO Z (And.intro Ig c1) [8000]
  (hle:=kl1 0 (Ad1 D6 s [.str [],pI .u32 0,pI .u32 0]))
def K7 (N:Nat)(s:Sl Jf):Option (Sl Jf):=if (0+s.n)*32<=140737488355328/\0+s.n<=140737488355328 then some s else none
theorem Ck {s y:Sl Jf}(h:K7 N s=some y):FunO S S3 [.p (vSl 4 V6 s)] [] (.vec 0) [.vec Ab0 4 y.n (fun i=>V6 (y.g i)) true] []:=by
 unfold K7 at h;obtain⟨c1,h⟩:=C9 h;obtain rfl:=A9 h;refine A2 Z func148 ?_;refine UO Z Fa 3 (k:=4) (n:=s.n) (f:=fun i=>V6 (s.g i)) (fun a=>?_) ?_
 .obtain⟨n,g⟩:=s;obtain rfl:n=0:=a;exact kO Z Fa [3700]
 exact kO Z (And.intro Ig c1) [8000]
  (hle:=kl1 0 (Ad1 V6 s [.str [],pI .u32 0,pI .u32 0,pI .u32 0]))
end
end Go.AM
namespace Go.AM
open Go.Proofs.Tryz
variable {N:Nat}
open IntKind (wrap)
open Go.Proofs
set_option maxRecDepth 10000
set_option maxHeartbeats 2000000
variable {S:U7}(Z:G4 S Tryz.prog) (Y:Kb S)
include Z Y
def Ba (N:Nat)(a:Int):Option Bool:= some (((decide (97<=a))&&(decide (a<=122)))||((decide (48<=a))&&(decide (a<=57))))
theorem Gw {b:Int}{y:Bool}(h:Ba N b=some y) :FunO S Gs [.p (pI .u8 b)] [] (pB y) ([]) []:=by unfold Ba at h;refine A2 Z func167 ?_;refine kB Z (A4 Z) Fa Fa 11 (.o (.n (.a (decide (97<=b))) (.a (decide (b<=122)))) (.n (.a (decide (48<=b))) (.a (decide (b<=57))))) ?_;cases h;exact kR Z
def Q2 (N:Nat)(a:B2):Option Bool:= some true
theorem Bt {a:B2}{y:Bool}(h:Q2 N a=some y) :FunO S Bl [.reg 0 0] [.cells [.p (vSl 1 cS a.feats),.mref 1,.vec 2,.mref 3,.mref 4],oM PV.str (pI .i64) a.number,oV D2 3 D6 a.sounds true,oM PV.str (pI .i64) a.symbols,oM (fun x=>.agg (A0 x)) (pI .i64) a.values] (pB y) ([.cells [.p (vSl 1 cS a.feats),.mref 1,.vec 2,.mref 3,.mref 4],oM PV.str (pI .i64) a.number,oV D2 3 D6 a.sounds true,oM PV.str (pI .i64) a.symbols,oM (fun x=>.agg (A0 x)) (pI .i64) a.values]) [true,true,true,true,true]:=by unfold Q2 at h;refine A2 Z func169 ?_;obtain rfl:=A9 h;exact kO Z Fa [0,1,2,3,4]
def P3 (N:Nat)  : Option Bool:= some false
theorem Cy    {y:Bool}(h:P3 N  = some y) :FunO S Bl [.p Av3] [] (pB y) ([]) []:=by unfold P3 at h;refine A2 Z func169 ?_;cases h;exact kR Z
def X5 (N:Nat)(b:B2)(a:Im):Option Bool:= if (0:Int)<=(b.feats.n:Int)then some (((O8 .and .u32 a.Plus a.Minus)==0)&&((O8 .andNot .u32 (O8 .or .u32 a.Plus a.Minus) (wrap .u32 ((shI .shl .u32 1 (b.feats.n:Int))-1)))==0)) else none
theorem GZ {b:B2}{c:Im}{y:Bool}(h:X5 N b c=some y) :FunO S CM [.reg 0 0,.p (.agg (A0 c))] [.cells [.p (vSl 1 cS b.feats),.mref 1,.vec 2,.mref 3,.mref 4],oM PV.str (pI .i64) b.number,oV D2 3 D6 b.sounds true,oM PV.str (pI .i64) b.symbols,oM (fun x=>.agg (A0 x)) (pI .i64) b.values] (pB y) ([.cells [.p (vSl 1 cS b.feats),.mref 1,.vec 2,.mref 3,.mref 4],oM PV.str (pI .i64) b.number,oV D2 3 D6 b.sounds true,oM PV.str (pI .i64) b.symbols,oM (fun x=>.agg (A0 x)) (pI .i64) b.values]) [true,true,true,true,true]:=by unfold X5 at h;refine A2 Z func172 ?_;obtain⟨c1,h⟩:=C9 h;refine kB Z (A4 Z) c1 Fa 9 (.n (.a ((O8 .and .u32 c.Plus c.Minus)==0)) (.a ((O8 .andNot .u32 (O8 .or .u32 c.Plus c.Minus) (wrap .u32 ((shI .shl .u32 1 (b.feats.n:Int))-1)))==0))) ?_;obtain rfl:=A9 h;exact kO Z Fa [0,1,2,3,4]
def Q3 (N:Nat)(a:Str)(b:Int)(d:Int->Option Bool):Option Bool:= if ((decide ((a.length:Int)<1))||(decide (b<(a.length:Int)))) then some false else Y1 N (fun c (x1:Int)=>if (decide (x1<(a.length:Int))) then if ((0:Int)<=x1/\x1<(a.length:Int))then (d (HS a x1)).bind fun y3=>if (!y3) then some false else c (wrap .i64 (x1+1)) else none else some true) 0
theorem Bu {d:Str}{c:Int}{f:Int->Option Bool}{kp_of:Nat}(g:∀{a0:Int}{b:Bool},f a0=some b->FunO S kp_of [.p (pI .u8 a0)] [] (pB b) [] []){y:Bool}(h:Q3 N d c f=some y) :FunO S Et [.p (.str d),pN c,.clo kp_of [] []] [] (pB y) ([]) []:=by
 unfold Q3 at h;refine A2 Z func166 ?_;refine kB Z (A4 Z) Fa Fa 5 (.o (.a (decide ((d.length:Int)<1))) (.a (decide (c<(d.length:Int))))) ?_;apply kI Z h<;>intro h
 .cases h;exact kR Z
 refine R9 Z Fa h (fun x1=>⟨[(19,pN x1),(18,pN (d.length:Int)),(2,.clo kp_of [] []),(0,.p (.str d))],[]⟩) (ids:=[]) (fun _ _ _ _ _ i x1 j h=>?_);apply kI Z h<;>intro h
 .obtain⟨c9,h⟩:=C9 h;obtain⟨y3,e3,h⟩:=A8 h;refine B3 Z [] c9 (g e3) ?_;apply kI Z h<;>intro h
  .cases h;exact kR Z
  exact j _ [] _ (wrap .i64 (x1+1)) Fa h
 cases h;exact kR Z
def U0 (N:Nat)(a:Int):Option Bool:= (Ba N a).bind fun y1=>lt (fun (z1:Bool)=>some z1) fun k1=>if y1 then k1 true else if (decide (65<=a)) then if (decide (a<=90)) then k1 true else (X4 N [64,63,33,38,42,36,37] a).bind fun y4=>k1 (decide (0<=y4)) else (X4 N [64,63,33,38,42,36,37] a).bind fun y5=>k1 (decide (0<=y5))
theorem Ea {b:Int}{y:Bool}(h:U0 N b=some y) :FunO S DP [.p (pI .u8 b)] [] (pB y) ([]) []:=by
 unfold U0 at h;refine A2 Z func170 ?_;refine kC Z h (Gw Z Y) (fun y1 h=>?_);refine KH Z Fa (A4 Z) h 0 (fun z1=>⟨[(2,pB z1)],[]⟩) (fun M1 k1 a h=>?_) (fun z1 h=>?_)
 .refine kG Z h (fun h=>?_) (fun h=>?_)
  .exact a _ [] _ true Fa h
  refine kG Z h (fun h=>?_) (fun h=>?_)
  .refine kG Z h (fun h=>?_) (fun h=>?_)
   .exact a _ [] _ true Fa h
   refine kC Z h (Fp Z Y) (fun y4 h=>?_);exact a _ [] _ (decide (0<=y4)) Fa h
  refine kC Z h (Fp Z Y) (fun y5 h=>?_);exact a _ [] _ (decide (0<=y5)) Fa h
 cases h;exact kR Z
def Cl (N:Nat)(b:B2)(a:Str)(c:Im):Option (Int×B2):= (Q2 N b).bind fun y1=>if (!y1) then some (1,b) else (Q3 N a 4 (fun (u1:Int)=>U0 N u1)).bind fun y2=>if (!y2) then some (15,b) else (X5 N b c).bind fun y3=>if (!y3) then some (14,b) else Nx (T0 eqS a b.symbols) (Nx (T0 G9 c b.values) (if (false||false) then some (6,b) else if ((b.sounds.n:Int)==256) then some (4,b) else if ((b.sounds.n+(Sl.of [(⟨a,c⟩:K0)]:Sl K0).n)*24<=140737488355328/\b.sounds.n+(Sl.of [(⟨a,c⟩:K0)]:Sl K0).n<=140737488355328)then some (0,(⟨b.feats,b.number,b.sounds.push (⟨a,c⟩:K0),Eh eqS a (b.sounds.n:Int) b.symbols,Eh G9 c (b.sounds.n:Int) b.values⟩:B2)) else none) fun v2=>if (false||true) then some (6,b) else if ((b.sounds.n:Int)==256) then some (4,b) else if ((b.sounds.n+(Sl.of [(⟨a,c⟩:K0)]:Sl K0).n)*24<=140737488355328/\b.sounds.n+(Sl.of [(⟨a,c⟩:K0)]:Sl K0).n<=140737488355328)then some (0,(⟨b.feats,b.number,b.sounds.push (⟨a,c⟩:K0),Eh eqS a (b.sounds.n:Int) b.symbols,Eh G9 c (b.sounds.n:Int) b.values⟩:B2)) else none) fun v1=>Nx (T0 G9 c b.values) (if (true||false) then some (6,b) else if ((b.sounds.n:Int)==256) then some (4,b) else if ((b.sounds.n+(Sl.of [(⟨a,c⟩:K0)]:Sl K0).n)*24<=140737488355328/\b.sounds.n+(Sl.of [(⟨a,c⟩:K0)]:Sl K0).n<=140737488355328)then some (0,(⟨b.feats,b.number,b.sounds.push (⟨a,c⟩:K0),Eh eqS a (b.sounds.n:Int) b.symbols,Eh G9 c (b.sounds.n:Int) b.values⟩:B2)) else none) fun v3=>if (true||true) then some (6,b) else if ((b.sounds.n:Int)==256) then some (4,b) else if ((b.sounds.n+(Sl.of [(⟨a,c⟩:K0)]:Sl K0).n)*24<=140737488355328/\b.sounds.n+(Sl.of [(⟨a,c⟩:K0)]:Sl K0).n<=140737488355328)then some (0,(⟨b.feats,b.number,b.sounds.push (⟨a,c⟩:K0),Eh eqS a (b.sounds.n:Int) b.symbols,Eh G9 c (b.sounds.n:Int) b.values⟩:B2)) else none
theorem Kd {c:B2}{b:Str}{d:Im}{y:Int×B2}(h:Cl N c b d=some y) :FunO S Cf [.reg 0 0,.p (.str b),.p (.agg (A0 d))] [.cells [.p (vSl 1 cS c.feats),.mref 1,.vec 2,.mref 3,.mref 4],oM PV.str (pI .i64) c.number,oV D2 3 D6 c.sounds true,oM PV.str (pI .i64) c.symbols,oM (fun x=>.agg (A0 x)) (pI .i64) c.values] (pN y.1) ([.cells [.p (vSl 1 cS y.2.feats),.mref 1,.vec 2,.mref 3,.mref 4],oM PV.str (pI .i64) y.2.number,oV D2 3 D6 y.2.sounds true,oM PV.str (pI .i64) y.2.symbols,oM (fun x=>.agg (A0 x)) (pI .i64) y.2.values]) [true,true,false,true,true]:=by
 unfold Cl at h;refine A2 Z func143 ?_;refine F7 Z Fa 6 6000 [pI .u32 d.Plus,pI .u32 d.Minus] ?_;obtain⟨y1,e1,h⟩:=A8 h;refine B3 Z [0,1,2,3,4] Fa (Bt Z Y e1) ?_;apply kI Z h<;>intro h
 .obtain rfl:=A9 h;exact kOi Z Fa [(0,0),(1,1),(3,3),(4,4),(990002,2)] [0,1,990002,3,4]
 refine kC Z h (Bu Z Y (fun e=>Ea Z Y e)) (fun y2 h=>?_);apply kI Z h<;>intro h
 .obtain rfl:=A9 h;exact kOi Z Fa [(0,0),(1,1),(3,3),(4,4),(990002,2)] [0,1,990002,3,4]
 obtain⟨y3,e3,h⟩:=A8 h;refine B3 Z [0,1,2,3,4] Ga (GZ Z Y e3) ?_;apply kI Z h<;>intro h
 .obtain rfl:=A9 h;exact kOi Z Fa [(0,0),(1,1),(3,3),(4,4),(990002,2)] [0,1,990002,3,4]
 rcases o1:T0 eqS b c.symbols with _|v1
 .replace h:=ZQ o1 h;refine Xc Z Fa F6 E4 PV.str (pI .i64) eqS o1 (pI .i64 0) Fa ?_;refine E3 Z Fa [4] ?_;rcases o2:T0 G9 d c.values with _|v2
  .replace h:=ZQ o2 h;refine AN6 Ga B5 E4 (fun x=>.agg (A0 x)) (pI .i64) G9 o2 (pI .i64 0) (by decide +kernel:QG Tryz.prog B5=true) ?_;refine D1 Fa ?_;refine kB Z (A4 Z) Fa Fa 2 (.o (.a false) (.a false)) ?_;apply kI Z h<;>intro h
   .obtain rfl:=A9 h;exact kOi Z Fa [(0,0),(1,1),(3,3),(4,4),(990002,2)] [0,1,990002,3,4]
   apply kI Z h<;>intro h
   .obtain rfl:=A9 h;exact kOi Z Fa [(0,0),(1,1),(3,3),(4,4),(990002,2)] [0,1,990002,3,4]
   refine EU Z Fa ?_;refine SF Fa F6 PV.str (pI .i64) eqS b (c.sounds.n:Int) c.symbols Fa ?_;refine D1 Fa ?_;refine E3 Z Fa [4] ?_;refine SF Ga B5 (fun x=>.agg (A0 x)) (pI .i64) G9 d (c.sounds.n:Int) c.values (by decide +kernel:QG Tryz.prog B5=true) ?_;refine D1 Fa ?_;refine E3 Z Fa [6] ?_;refine K6 Ga (x:=.sl true 3 1 (G7 [.str [],pI .u32 0,pI .u32 0] [(0,D6 (⟨b,d⟩:K0))])) ?_;obtain⟨c6,h⟩:=C9 h;refine D1 c6 ?_;obtain rfl:=A9 h;exact kO Z Fa [0,1,79000,3,4] (hle:=kl1 1 (W4 D6 c.sounds (⟨b,d⟩:K0) [.str [],pI .u32 0,pI .u32 0]))
  replace h:=YE o2 h;refine Az1 Ga B5 E4 (fun x=>.agg (A0 x)) (pI .i64) G9 o2 (by decide +kernel:QG Tryz.prog B5=true) ?_;refine D1 Fa ?_;refine kB Z (A4 Z) Fa Fa 2 (.o (.a false) (.a true)) ?_;apply kI Z h<;>intro h
  .obtain rfl:=A9 h;exact kOi Z Fa [(0,0),(1,1),(3,3),(4,4),(990002,2)] [0,1,990002,3,4]
  apply kI Z h<;>intro h
  .obtain rfl:=A9 h;exact kOi Z Fa [(0,0),(1,1),(3,3),(4,4),(990002,2)] [0,1,990002,3,4]
  refine EU Z Fa ?_;refine SF Fa F6 PV.str (pI .i64) eqS b (c.sounds.n:Int) c.symbols Fa ?_;refine D1 Fa ?_;refine E3 Z Fa [4] ?_;refine SF Ga B5 (fun x=>.agg (A0 x)) (pI .i64) G9 d (c.sounds.n:Int) c.values (by decide +kernel:QG Tryz.prog B5=true) ?_;refine D1 Fa ?_;refine E3 Z Fa [6] ?_;refine K6 Ga (x:=.sl true 3 1 (G7 [.str [],pI .u32 0,pI .u32 0] [(0,D6 (⟨b,d⟩:K0))])) ?_;obtain⟨c9,h⟩:=C9 h;refine D1 c9 ?_;obtain rfl:=A9 h;exact kO Z Fa [0,1,79000,3,4] (hle:=kl1 1 (W4 D6 c.sounds (⟨b,d⟩:K0) [.str [],pI .u32 0,pI .u32 0]))
 replace h:=YE o1 h;refine Xb Z Fa F6 E4 PV.str (pI .i64) eqS o1 Fa ?_;refine E3 Z Fa [4] ?_;rcases o3:T0 G9 d c.values with _|v3
 .replace h:=ZQ o3 h;refine AN6 Ga B5 E4 (fun x=>.agg (A0 x)) (pI .i64) G9 o3 (pI .i64 0) (by decide +kernel:QG Tryz.prog B5=true) ?_;refine D1 Fa ?_;refine kB Z (A4 Z) Fa Fa 2 (.o (.a true) (.a false)) ?_;apply kI Z h<;>intro h
  .obtain rfl:=A9 h;exact kOi Z Fa [(0,0),(1,1),(3,3),(4,4),(990002,2)] [0,1,990002,3,4]
  apply kI Z h<;>intro h
  .obtain rfl:=A9 h;exact kOi Z Fa [(0,0),(1,1),(3,3),(4,4),(990002,2)] [0,1,990002,3,4]
  refine EU Z Fa ?_;refine SF Fa F6 PV.str (pI .i64) eqS b (c.sounds.n:Int) c.symbols Fa ?_;refine D1 Fa ?_;refine E3 Z Fa [4] ?_;refine SF Ga B5 (fun x=>.agg (A0 x)) (pI .i64) G9 d (c.sounds.n:Int) c.values (by decide +kernel:QG Tryz.prog B5=true) ?_;refine D1 Fa ?_;refine E3 Z Fa [6] ?_;refine K6 Ga (x:=.sl true 3 1 (G7 [.str [],pI .u32 0,pI .u32 0] [(0,D6 (⟨b,d⟩:K0))])) ?_;obtain⟨c12,h⟩:=C9 h;refine D1 c12 ?_;obtain rfl:=A9 h;exact kO Z Fa [0,1,79000,3,4] (hle:=kl1 1 (W4 D6 c.sounds (⟨b,d⟩:K0) [.str [],pI .u32 0,pI .u32 0]))
 replace h:=YE o3 h;refine Az1 Ga B5 E4 (fun x=>.agg (A0 x)) (pI .i64) G9 o3 (by decide +kernel:QG Tryz.prog B5=true) ?_;refine D1 Fa ?_;refine kB Z (A4 Z) Fa Fa 2 (.o (.a true) (.a true)) ?_;apply kI Z h<;>intro h
 .obtain rfl:=A9 h;exact kOi Z Fa [(0,0),(1,1),(3,3),(4,4),(990002,2)] [0,1,990002,3,4]
 apply kI Z h<;>intro h
 .obtain rfl:=A9 h;exact kOi Z Fa [(0,0),(1,1),(3,3),(4,4),(990002,2)] [0,1,990002,3,4]
 refine EU Z Fa ?_;refine SF Fa F6 PV.str (pI .i64) eqS b (c.sounds.n:Int) c.symbols Fa ?_;refine D1 Fa ?_;refine E3 Z Fa [4] ?_;refine SF Ga B5 (fun x=>.agg (A0 x)) (pI .i64) G9 d (c.sounds.n:Int) c.values (by decide +kernel:QG Tryz.prog B5=true) ?_;refine D1 Fa ?_;refine E3 Z Fa [6] ?_;refine K6 Ga (x:=.sl true 3 1 (G7 [.str [],pI .u32 0,pI .u32 0] [(0,D6 (⟨b,d⟩:K0))])) ?_;obtain⟨c15,h⟩:=C9 h;refine D1 c15 ?_;obtain rfl:=A9 h;exact kO Z Fa [0,1,79000,3,4] (hle:=kl1 1 (W4 D6 c.sounds (⟨b,d⟩:K0) [.str [],pI .u32 0,pI .u32 0]))
def X6 (N:Nat)(a:Str)(b:Im):Option Int:= (P3 N ).bind fun y1=>if (!y1) then some 1 else (Q3 N a 4 (fun (u1:Int)=>U0 N u1)).bind fun y2=>if (!y2) then some 15 else none
theorem Ha {a:Str}{b:Im}{y:Int}(h:X6 N a b=some y) :FunO S Cf [.p Av3,.p (.str a),.p (.agg (A0 b))] [] (pN y) ([]) []:=by
 unfold X6 at h;refine A2 Z func143 ?_;refine F7 Z Fa 6 6000 [pI .u32 b.Plus,pI .u32 b.Minus] ?_;refine kC Z h (Cy Z Y) (fun y1 h=>?_);apply kI Z h<;>intro h
 .cases h;exact kR Z
 refine kC Z h (Bu Z Y (fun e=>Ea Z Y e)) (fun y2 h=>?_);apply kI Z h<;>intro h
 .cases h;exact kR Z
 cases h
def Fq (N:Nat)(a:Sl Str):Option ((Option B2)×Int):= if (decide (24<(a.n:Int))) then some (none,12) else Y1 N (fun b (x1:Int)=>if (decide (x1<(a.n:Int))) then if ((0:Int)<=x1/\x1<(a.n:Int))then (Q3 N (a.g x1.toNat) 16 (fun (u3:Int)=>Ba N u3)).bind fun y3=>if ((!y3)=false->((0:Int)<=0/\0<((a.g x1.toNat).length:Int)))then if ((!y3)||(decide ((HS (a.g x1.toNat) 0)<=57))) then some (none,15) else b (wrap .i64 (x1+1)) else none else none else BD N (fun c (x2:List (Str×Int)) (x3:Int)=>if (decide (x3<(a.n:Int))) then if ((0:Int)<=x3/\x3<(a.n:Int))then Nx (T0 eqS (a.g x3.toNat) x2) (c (Eh eqS (a.g x3.toNat) x3 x2) (wrap .i64 (x3+1))) fun v3=>some (none,6) else none else (G0 N a).bind fun y4=>some (some (⟨y4,x2,(Sl.nil:Sl K0),[],[]⟩:B2),0)) [] 0) 0
theorem IA {c:Sl Str}{y:(Option B2)×Int}(h:Fq N c=some y) :FunO S Ik [.p (vSl 1 cS c)] [] (.tup [Nx y.1 (.p Av3) fun _=>.reg 0 0,pN y.2]) (Nx y.1 [] fun o=>[(.cells [.p (vSl 1 cS o.feats),.mref 1,.vec 2,.mref 3,.mref 4]),oM PV.str (pI .i64) o.number,oV D2 3 D6 o.sounds true,oM PV.str (pI .i64) o.symbols,oM (fun x=>.agg (A0 x)) (pI .i64) o.values]) []:=by
 unfold Fq at h;refine A2 Z func142 ?_;apply kI Z h<;>intro h
 .obtain rfl:=A9 h;exact kO Z Fa []
 refine R9 Z Fa h (fun x1=>⟨[(21,pN x1),(20,pN (c.n:Int)),(19,.p (vSl 1 cS c)),(4,.reg 19000 0),(0,.p (vSl 1 cS c))],[(19000,.cells [.p C7,.mref 15000,.p C7,.mref 16000,.mref 17000]),(17000,oM (fun x=>.agg (A0 x)) (pI .i64) []),(16000,oM PV.str (pI .i64) []),(15000,oM PV.str (pI .i64) [])]⟩) (ids:=[(15000,15000),(16000,16000),(17000,17000),(19000,19000)]) (fun _ _ _ _ _ d x1 f h=>?_);apply kI Z h<;>intro h
 .obtain⟨c11,h⟩:=C9 h;obtain⟨y3,e3,h⟩:=A8 h;refine B3 Z [] c11 (Bu Z Y (fun e=>Gw Z Y e) e3) ?_;obtain⟨c12,h⟩:=C9 h;refine kB Z (A4 Z) Fa c12 4 (.o (.a (!y3)) (.a (decide ((HS (c.g x1.toNat) 0)<=57)))) ?_;apply kI Z h<;>intro h
  .obtain rfl:=A9 h;exact kO Z Fa []
  exact f _ [(15000,15000),(16000,16000),(17000,17000),(19000,19000)] _ (wrap .i64 (x1+1)) Fa h
 refine H8 Z Fa h (fun x2 x3=>⟨[(36,pN x3),(35,pN (c.n:Int)),(34,.p (vSl 1 cS c)),(4,.reg 19000 0),(0,.p (vSl 1 cS c))],[(19000,.cells [.p C7,.mref 15000,.p C7,.mref 16000,.mref 17000]),(17000,oM (fun x=>.agg (A0 x)) (pI .i64) []),(16000,oM PV.str (pI .i64) []),(15000,oM PV.str (pI .i64) x2)]⟩) (ids:=[(15000,15000),(16000,16000),(17000,17000),(19000,19000)]) (fun _ _ _ _ _ i x2 x3 j h=>?_);apply kI Z h<;>intro h
 .obtain⟨c23,h⟩:=C9 h;rcases o3:T0 eqS (c.g x3.toNat) x2 with _|v3
  .replace h:=ZQ o3 h;refine Xc Z c23 F6 E4 PV.str (pI .i64) eqS o3 (pI .i64 0) Fa ?_;refine C8 Z Fa (b:=false) (fun c24=>?_) (fun c24=>?_)
   .exact Bool.noConfusion ((rfl:false=false).symm.trans c24)
   refine Aa0 Z Fa F6 PV.str (pI .i64) eqS (c.g x3.toNat) x3 x2 Fa ?_;exact j _ [(15000,15000),(16000,16000),(17000,17000),(19000,19000)] _ (Eh eqS (c.g x3.toNat) x3 x2) (wrap .i64 (x3+1)) Fa h
  replace h:=YE o3 h;refine Xb Z c23 F6 E4 PV.str (pI .i64) eqS o3 Fa ?_;refine C8 Z Fa (b:=true) (fun c25=>?_) (fun c25=>?_)
  .obtain rfl:=A9 h;exact kO Z Fa []
  exact Bool.noConfusion (Ig.symm.trans c25)
 refine kC Z h (N9 Z Y) (fun y4 h=>?_);obtain rfl:=A9 h;exact kO Z Fa [19000,15000,3802,16000,17000]
def AD (N:Nat)(a:B2):Option (Sl Str):= (Q2 N a).bind fun y1=>if (!y1) then some (Sl.nil:Sl Str) else (G0 N a.feats).bind fun y2=>some y2
theorem IB {a:B2}{y:Sl Str}(h:AD N a=some y) :FunO S DO [.reg 0 0] [.cells [.p (vSl 1 cS a.feats),.mref 1,.vec 2,.mref 3,.mref 4],oM PV.str (pI .i64) a.number,oV D2 3 D6 a.sounds true,oM PV.str (pI .i64) a.symbols,oM (fun x=>.agg (A0 x)) (pI .i64) a.values] (.vec 5) ([.cells [.p (vSl 1 cS a.feats),.mref 1,.vec 2,.mref 3,.mref 4],oM PV.str (pI .i64) a.number,oV D2 3 D6 a.sounds true,oM PV.str (pI .i64) a.symbols,oM (fun x=>.agg (A0 x)) (pI .i64) a.values,oV F6 1 cS y true]) [true,true,true,true,true]:=by
 unfold AD at h;refine A2 Z func145 ?_;obtain⟨y1,e1,h⟩:=A8 h;refine B3 Z [0,1,2,3,4] Fa (Bt Z Y e1) ?_;apply kI Z h<;>intro h
 .obtain rfl:=A9 h;exact kO Z Fa [0,1,2,3,4,3700]
 refine kC Z h (N9 Z Y) (fun y2 h=>?_);obtain rfl:=A9 h;exact kO Z Fa [0,1,2,3,4,11000]
def W2 (N:Nat)  : Option Unit:= (P3 N ).bind fun y1=>if (!y1) then some () else none
theorem Gx    {y:Unit}(h:W2 N  = some y) :FunO S Bj [.p Av3] [] (.p Av3) ([]) []:=by
 unfold W2 at h;refine A2 Z func144 ?_;refine kC Z h (Cy Z Y) (fun y1 h=>?_);apply kI Z h<;>intro h
 .obtain rfl:=A9 h;exact kO Z Fa []
 cases h
end Go.AM
namespace Go.AM
open IntKind (wrap)
open Go.Proofs
set_option maxRecDepth 10000
set_option maxHeartbeats 4000000
theorem Cm {κ ν : Type}(kP : κ -> PV)(vP : ν -> PV):∀l:List (κ × ν),(Dc kP vP l).length=l.length
 |[]=>rfl
 |_::l=>congrArg (· + 1) (Cm kP vP l)
variable {S:U7}(Z:G4 S Tryz.prog) (Y:Kb S)
include Z Y
def Bv (N:Nat)(a:B2):Option (Option B2):= (Q2 N a).bind fun y1=>if (!y1) then some none else (G0 N a.feats).bind fun y2=>(J1 N a.sounds).bind fun y3=>BD N (fun b (x1:List (Str×Int)) (x2:Int)=>if (decide (x2<(y2.n:Int))) then if (((0:Int)<=x2/\x2<(y2.n:Int))/\x2.toNat<y2.n)then b (Eh eqS (y2.g x2.toNat) x2 x1) (wrap .i64 (x2+1)) else none else Av4 N (fun c (x3:List (Str×Int)) (x4:List (Im×Int)) (x5:Int)=>if (decide (x5<(y3.n:Int))) then if (((0:Int)<=x5/\x5<(y3.n:Int))/\x5.toNat<y3.n)then c (Eh eqS (y3.g x5.toNat).Symbol x5 x3) (Eh G9 (y3.g x5.toNat).S x5 x4) (wrap .i64 (x5+1)) else none else some (some (⟨y2,x1,y3,x3,x4⟩:B2))) [] [] 0) [] 0
theorem Ew {N:Nat}{b:B2}{y:Option B2}(h:Bv N b=some y) :FunO S Bj [.reg 0 0] [.cells [.p (vSl 1 cS b.feats),.mref 1,.vec 2,.mref 3,.mref 4],oM PV.str (pI .i64) b.number,oV D2 3 D6 b.sounds true,oM PV.str (pI .i64) b.symbols,oM (fun x=>.agg (A0 x)) (pI .i64) b.values] (Nx y (.p Av3) fun _=>.reg 5 0) ([.cells [.p (vSl 1 cS b.feats),.mref 1,.vec 2,.mref 3,.mref 4],oM PV.str (pI .i64) b.number,oV D2 3 D6 b.sounds true,oM PV.str (pI .i64) b.symbols,oM (fun x=>.agg (A0 x)) (pI .i64) b.values]++(Nx y [] fun o=>[(.cells [.p (vSl 1 cS o.feats),.mref 6,.vec 7,.mref 8,.mref 9]),oM PV.str (pI .i64) o.number,oV D2 3 D6 o.sounds true,oM PV.str (pI .i64) o.symbols,oM (fun x=>.agg (A0 x)) (pI .i64) o.values])) [true,true,true,true,true]:=by
 unfold Bv at h;refine A2 Z Tryz.func144 ?_;obtain⟨y1,e1,h⟩:=A8 h;refine B3 Z [0,1,2,3,4] Fa (Bt Z Y e1) ?_;apply kI Z h<;>intro h
 .obtain rfl:=A9 h;exact kO Z Fa [0,1,2,3,4]
 refine F3 Z Fa [(3,.l [0]),(4,.a [16000]),(8,.l [0]),(9,.a [2,21000]),(10,.a [22000]),(11,.a [23000]),(12,.a [24000])] ?_;obtain⟨y2,e2,h⟩:=A8 h;refine Ow [] Fa (N9 Z Y e2) ?_;obtain⟨y3,e3,h⟩:=A8 h;refine Ow [] Fa (Bs Z Y e3) ?_;refine D1 Fa ?_;refine H8 Z Fa h (fun x1 x2=>⟨[(31,pN x2),(30,pN (y2.n:Int)),(29,.vec 16000),(3,.reg 26000 0)],[(26000,.cells [.vec 16000,.mref 22000,.vec 21000,.mref 23000,.mref 24000]),(24000,oM (fun x=>.agg (A0 x)) (pI .i64) []),(23000,oM PV.str (pI .i64) []),(22000,oM PV.str (pI .i64) x1),(21000,oV D2 3 D6 y3 true),(16000,oV F6 1 cS y2 true),(4,oM (fun x=>.agg (A0 x)) (pI .i64) b.values),(3,oM PV.str (pI .i64) b.symbols),(2,oV D2 3 D6 b.sounds true),(1,oM PV.str (pI .i64) b.number),(0,.cells [.p (vSl 1 cS b.feats),.mref 1,.vec 2,.mref 3,.mref 4])]⟩) (ids:=[(0,0),(1,1),(2,2),(3,3),(4,4),(16000,16000),(21000,21000),(22000,22000),(23000,23000),(24000,24000),(26000,26000)]) (fun _ _ _ _ _ c x1 x2 d h=>?_);apply kI Z h<;>intro h
 .obtain⟨c7,h⟩:=C9 h;refine Aa0 Z c7 F6 PV.str (pI .i64) eqS (y2.g x2.toNat) x2 x1 Fa ?_;exact d _ [(0,0),(1,1),(2,2),(3,3),(4,4),(16000,16000),(21000,21000),(22000,22000),(23000,23000),(24000,24000),(26000,26000)] _ (Eh eqS (y2.g x2.toNat) x2 x1) (wrap .i64 (x2+1)) Fa h
 refine Ov Z Fa h (fun x3 x4 x5=>⟨[(48,pN x5),(47,pN (y3.n:Int)),(46,.vec 21000),(3,.reg 26000 0)],[(26000,.cells [.vec 16000,.mref 22000,.vec 21000,.mref 23000,.mref 24000]),(24000,oM (fun x=>.agg (A0 x)) (pI .i64) x4),(23000,oM PV.str (pI .i64) x3),(22000,oM PV.str (pI .i64) x1),(21000,oV D2 3 D6 y3 true),(16000,oV F6 1 cS y2 true),(4,oM (fun x=>.agg (A0 x)) (pI .i64) b.values),(3,oM PV.str (pI .i64) b.symbols),(2,oV D2 3 D6 b.sounds true),(1,oM PV.str (pI .i64) b.number),(0,.cells [.p (vSl 1 cS b.feats),.mref 1,.vec 2,.mref 3,.mref 4])]⟩) (ids:=[(0,0),(1,1),(2,2),(3,3),(4,4),(16000,16000),(21000,21000),(22000,22000),(23000,23000),(24000,24000),(26000,26000)]) (fun _ _ _ _ _ f x3 x4 x5 j h=>?_);apply kI Z h<;>intro h
 .obtain⟨c13,h⟩:=C9 h;refine UP Z (And.intro (And.intro c13.1 Gp) c13.2) 8000 (D6 (y3.g x5.toNat)) ?_;refine E3 Z Fa [5,11] ?_;refine Aj8 Ga (kt:=F6) (key:=PV.str (y3.g x5.toNat).Symbol) (z:=pI .i64 0) (y:=pI .i64 (HH eqS (y3.g x5.toNat).Symbol (0:Int) x3).2.1) (es:=Dc PV.str (pI .i64) x3) (es':=Dc PV.str (pI .i64) (HH eqS (y3.g x5.toNat).Symbol (0:Int) x3).2.2) (i:=(HH eqS (y3.g x5.toNat).Symbol (0:Int) x3).1) (NC (kP:=PV.str) (vP:=pI .i64) (eq:=eqS) (fun _ _=>by kernel_rfl) (y3.g x5.toNat).Symbol 0 x3) Fa ?_;refine SD Fa (i:=(HH eqS (y3.g x5.toNat).Symbol (0:Int) x3).1) (y:=pI .i64 x5) (es:=Dc PV.str (pI .i64) (HH eqS (y3.g x5.toNat).Symbol (0:Int) x3).2.2) (es':=Dc PV.str (pI .i64) (Eh eqS (y3.g x5.toNat).Symbol x5 x3)) (by rw[Cm];exact JU eqS (y3.g x5.toNat).Symbol 0 x3) ((KI (HH eqS (y3.g x5.toNat).Symbol (0:Int) x3).2.2 (HH eqS (y3.g x5.toNat).Symbol (0:Int) x3).1 x5 (JU eqS (y3.g x5.toNat).Symbol 0 x3)).trans (congrArg (Dc PV.str (pI .i64)) (KJ eqS (y3.g x5.toNat).Symbol 0 x5 x3))) ?_;refine Aj8 Fa (kt:=B5) (key:=(fun x=>.agg (A0 x)) (y3.g x5.toNat).S) (z:=pI .i64 0) (y:=pI .i64 (HH G9 (y3.g x5.toNat).S (0:Int) x4).2.1) (es:=Dc (fun x=>.agg (A0 x)) (pI .i64) x4) (es':=Dc (fun x=>.agg (A0 x)) (pI .i64) (HH G9 (y3.g x5.toNat).S (0:Int) x4).2.2) (i:=(HH G9 (y3.g x5.toNat).S (0:Int) x4).1) (NC (kP:=fun x=>.agg (A0 x)) (vP:=pI .i64) (eq:=G9) (fun _ _=>by kernel_rfl) (y3.g x5.toNat).S 0 x4) (by decide +kernel:QG Tryz.prog B5=true) ?_;refine SD Fa (i:=(HH G9 (y3.g x5.toNat).S (0:Int) x4).1) (y:=pI .i64 x5) (es:=Dc (fun x=>.agg (A0 x)) (pI .i64) (HH G9 (y3.g x5.toNat).S (0:Int) x4).2.2) (es':=Dc (fun x=>.agg (A0 x)) (pI .i64) (Eh G9 (y3.g x5.toNat).S x5 x4)) (by rw[Cm];exact JU G9 (y3.g x5.toNat).S 0 x4) ((KI (HH G9 (y3.g x5.toNat).S (0:Int) x4).2.2 (HH G9 (y3.g x5.toNat).S (0:Int) x4).1 x5 (JU G9 (y3.g x5.toNat).S 0 x4)).trans (congrArg (Dc (fun x=>.agg (A0 x)) (pI .i64)) (KJ G9 (y3.g x5.toNat).S 0 x5 x4))) ?_;refine D1 Fa ?_;exact j _ [(0,0),(1,1),(2,2),(3,3),(4,4),(16000,16000),(21000,21000),(22000,22000),(23000,23000),(24000,24000),(26000,26000)] _ (Eh eqS (y3.g x5.toNat).Symbol x5 x3) (Eh G9 (y3.g x5.toNat).S x5 x4) (wrap .i64 (x5+1)) Fa h
 obtain rfl:=A9 h;exact kO Z Fa [0,1,2,3,4,26000,22000,21000,23000,24000]
end Go.AM
namespace Go.AM
open Go.Proofs.Tryz
variable {N:Nat}
open IntKind (wrap)
open Go.Proofs
set_option maxRecDepth 10000
set_option maxHeartbeats 2000000
variable {S:U7}(Z:G4 S Tryz.prog) (Y:Kb S)
include Z Y
def Em (N:Nat)(a:B8):Option ((Option B2)×Int):= (Fq N a.Feats).bind fun y1=>Nx y1.1 (if (y1.2 != 0) then some (none,y1.2) else Y1 N (fun b (x1:Int)=>if (decide (x1<(a.Sounds.n:Int))) then if ((0:Int)<=x1/\x1<(a.Sounds.n:Int))then (X6 N (a.Sounds.g x1.toNat).Symbol (a.Sounds.g x1.toNat).S).bind fun y4=>if (y4 != 0) then some (none,y4) else b (wrap .i64 (x1+1)) else none else some (none,0)) 0) fun z1=>if (y1.2 != 0) then some (none,y1.2) else fix6 N (fun c (x2:Sl Str) (x3:List (Str×Int)) (x4:Sl K0) (x5:List (Str×Int)) (x6:List (Im×Int)) (x7:Int)=>if (decide (x7<(a.Sounds.n:Int))) then if ((0:Int)<=x7/\x7<(a.Sounds.n:Int))then (Cl N (⟨x2,x3,x4,x5,x6⟩:B2) (a.Sounds.g x7.toNat).Symbol (a.Sounds.g x7.toNat).S).bind fun y7=>if (y7.1 != 0) then some (none,y7.1) else c y7.2.feats y7.2.number y7.2.sounds y7.2.symbols y7.2.values (wrap .i64 (x7+1)) else none else some (some (⟨x2,x3,x4,x5,x6⟩:B2),0)) z1.feats z1.number z1.sounds z1.symbols z1.values 0
theorem HC {a:B8}{y:(Option B2)×Int}(h:Em N a=some y) :FunO S Hv [.p (.agg (B1 a))] [] (.tup [Nx y.1 (.p Av3) fun _=>.reg 0 0,pN y.2]) (Nx y.1 [] fun o=>[(.cells [.p (vSl 1 cS o.feats),.mref 1,.vec 2,.mref 3,.mref 4]),oM PV.str (pI .i64) o.number,oV D2 3 D6 o.sounds true,oM PV.str (pI .i64) o.symbols,oM (fun x=>.agg (A0 x)) (pI .i64) o.values]) []:=by
 unfold Em at h;refine A2 Z func108 ?_;obtain⟨y1,e1,h⟩:=A8 h;rcases o1:y1.1 with _|z1
 .replace h:=ZQ o1 h;have w1:=(IA Z Y e1);simp only[o1,CH,ES,Bi5,Bf8,Bl7]at w1;refine B3 Z [] Fa w1 ?_;apply kI Z h<;>intro h
  .obtain rfl:=A9 h;exact kO Z Fa []
  refine R9 Z Fa h (fun x1=>⟨[(21,pN x1),(20,pN (a.Sounds.n:Int)),(19,.p (vSl 3 D6 a.Sounds)),(4,.p Av3)],[]⟩) (ids:=[]) (fun _ _ _ _ _ b x1 c h=>?_);apply kI Z h<;>intro h
  .obtain⟨c9,h⟩:=C9 h;obtain⟨y4,e4,h⟩:=A8 h;refine B3 Z [] (And.intro c9 Gp) (Ha Z Y e4) ?_;apply kI Z h<;>intro h
   .obtain rfl:=A9 h;exact kO Z Fa []
   exact c _ [] _ (wrap .i64 (x1+1)) Fa h
  obtain rfl:=A9 h;exact kO Z Fa []
 replace h:=YE o1 h;have w2:=(IA Z Y e1);simp only[o1,CH,ES,Bi5,Bf8,Bl7]at w2;refine B3 Z [] Fa w2 ?_;apply kI Z h<;>intro h
 .obtain rfl:=A9 h;exact kO Z Fa []
 refine AV6 Z Fa h (fun x2 x3 x4 x5 x6 x7=>⟨[(21,pN x7),(20,pN (a.Sounds.n:Int)),(19,.p (vSl 3 D6 a.Sounds)),(4,.reg 13000 0)],[(13004,oM (fun x=>.agg (A0 x)) (pI .i64) x6),(13003,oM PV.str (pI .i64) x5),(13001,oM PV.str (pI .i64) x3),(13000,.cells [.p (vSl 1 cS x2),.mref 13001,.vec 5500,.mref 13003,.mref 13004]),(5500,oV D2 3 D6 x4 true)]⟩) (ids:=[(5500,13002),(13000,13000),(13001,13001),(13003,13003),(13004,13004)]) (fun _ _ _ _ _ d x2 x3 x4 x5 x6 x7 f h=>?_);apply kI Z h<;>intro h
 .obtain⟨c19,h⟩:=C9 h;obtain⟨y7,e7,h⟩:=A8 h;refine B3 Z [13000,13001,5500,13003,13004] (And.intro c19 Gp) (Kd Z Y e7) ?_;apply kI Z h<;>intro h
  .obtain rfl:=A9 h;exact kO Z Fa []
  exact f _ [(5500,31002),(13000,13000),(13001,13001),(13003,13003),(13004,13004)] _ y7.2.feats y7.2.number y7.2.sounds y7.2.symbols y7.2.values (wrap .i64 (x7+1)) Fa h
 obtain rfl:=A9 h;exact kO Z Fa [13000,13001,5500,13003,13004]
def Eo (N:Nat)(a:Jf)(q0:Jf):Option Bool:= some ((a.Text==q0.Text) != false)
theorem No {a:Jf}{q0:Jf}{y:Bool}(h:Eo N a q0=some y) :FunO S Hy [.p (.agg (V6 a)),.p (.ptr (V6 q0))] [] (pB y) ([]) []:=by unfold Eo at h;refine A2 Z func147 ?_;cases h;exact kR Z
def I5 (N:Nat)(a:Sl Jf)(c:Jf->Option Bool):Option Int:= Y1 N (fun b (x1:Int)=>if (decide (x1<(a.n:Int))) then if ((0:Int)<=x1/\x1<(a.n:Int))then (c (a.g x1.toNat)).bind fun y3=>if y3 then some x1 else b (wrap .i64 (x1+1)) else none else some (-1)) 0
theorem AE {a:Sl Jf}{c:Jf->Option Bool}{kp_f:Nat}{cp_f_0:List PV}(d:∀{a0:Jf}{b:Bool},c a0=some b->FunO S kp_f [.p (.agg (V6 a0)),.p (.ptr cp_f_0)] [] (pB b) [] []){y:Int}(h:I5 N a c=some y) :FunO S O4 [.p (vSl 4 V6 a),.clo kp_f [] [.p (.ptr cp_f_0)]] [] (pN y) ([]) []:=by
 unfold I5 at h;refine A2 Z func174 ?_;refine R9 Z Fa h (fun x1=>⟨[(8,pN x1),(7,pN (a.n:Int)),(1,.clo kp_f [] [.p (.ptr cp_f_0)]),(0,.p (vSl 4 V6 a))],[]⟩) (ids:=[]) (fun _ _ _ _ _ f x1 g h=>?_);apply kI Z h<;>intro h
 .obtain⟨c8,h⟩:=C9 h;obtain⟨y3,e3,h⟩:=A8 h;refine B3 Z [] (And.intro c8 Hu) (d e3) ?_;apply kI Z h<;>intro h
  .cases h;exact kR Z
  exact g _ [] _ (wrap .i64 (x1+1)) Fa h
 cases h;exact kR Z
def G8 (N:Nat)(a:Sl Jf)(b:Jf->Option Bool):Option Bool:= (I5 N a b).bind fun y1=>some (decide (0<=y1))
theorem Z1 {a:Sl Jf}{c:Jf->Option Bool}{kp_f:Nat}{cp_f_0:List PV}(d:∀{a0:Jf}{b:Bool},c a0=some b->FunO S kp_f [.p (.agg (V6 a0)),.p (.ptr cp_f_0)] [] (pB b) [] []){y:Bool}(h:G8 N a c=some y) :FunO S N4 [.p (vSl 4 V6 a),.clo kp_f [] [.p (.ptr cp_f_0)]] [] (pB y) ([]) []:=by unfold G8 at h;refine A2 Z func146 ?_;refine kC Z h (AE Z Y (fun e=>d e)) (fun y1 h=>?_);cases h;exact kR Z
def FV (N:Nat)(c:B2)(a:Sl Jf):Option Int:= (Bv N c).bind fun y1=>Nx y1 (some 1) fun z1=>if (decide (32<(a.n:Int))) then some 12 else (AD N z1).bind fun y2=>if (0:Int)<=(y2.n:Int)then Y1 N (fun b (x3:Int)=>if (decide (x3<(a.n:Int))) then if ((0:Int)<=x3/\x3<(a.n:Int))then lt (fun (z6:Bool)=>if z6 then some 15 else lt (fun (z7:Bool)=>if z7 then some 2 else if ((0:Int)<=x3/\x3<=(a.n:Int))then (G8 N (a.take x3.toNat) (fun (u3:Jf)=>Eo N u3 (a.g x3.toNat))).bind fun d=>if d then some 6 else b (wrap .i64 (x3+1)) else none) fun k6=>if ((O8 .and .u32 (O8 .or .u32 (a.g x3.toNat).Clear (O8 .or .u32 (a.g x3.toNat).Set.Plus (a.g x3.toNat).Set.Minus)) (O8 .xor .u32 4294967295 (wrap .u32 ((shI .shl .u32 1 (y2.n:Int))-1)))) != 0) then k6 true else if ((O8 .and .u32 (a.g x3.toNat).Clear (O8 .or .u32 (a.g x3.toNat).Set.Plus (a.g x3.toNat).Set.Minus)) != 0) then k6 true else (H4 N (a.g x3.toNat).Set).bind fun f=>k6 (!f)) fun k5=>if (((a.g x3.toNat).Text==[]) != false) then k5 true else if (decide (3<((a.g x3.toNat).Text.length:Int))) then k5 true else (DI N (a.g x3.toNat).Text [58,39,34,126,94,95,61,96]).bind fun i=>k5 ((i==[]) != true) else none else (K7 N a).bind fun j=>some 0) 0 else none
theorem QE {b:B2}{a:Sl Jf}{y:Int}(h:FV N b a=some y) :FunO S FQ [.reg 0 0,.p (vSl 4 V6 a)] [.cells [.p (vSl 1 cS b.feats),.mref 1,.vec 2,.mref 3,.mref 4],oM PV.str (pI .i64) b.number,oV D2 3 D6 b.sounds true,oM PV.str (pI .i64) b.symbols,oM (fun x=>.agg (A0 x)) (pI .i64) b.values] (.tup [.top,pN y]) ([.cells [.p (vSl 1 cS b.feats),.mref 1,.vec 2,.mref 3,.mref 4],oM PV.str (pI .i64) b.number,oV D2 3 D6 b.sounds true,oM PV.str (pI .i64) b.symbols,oM (fun x=>.agg (A0 x)) (pI .i64) b.values]) [true,true,true,true,true]:=by
 unfold FV at h;refine A2 Z func109 ?_;obtain⟨y1,e1,h⟩:=A8 h;rcases o1:y1 with _|z1
 .replace h:=ZQ o1 h;have w1:=(Ew Z Y e1);simp only[o1,CH,ES,Bi5,Bf8,Bl7]at w1;refine B3 Z [0,1,2,3,4] Fa w1 ?_;obtain rfl:=A9 h;exact kO Z Fa [0,1,2,3,4]
 replace h:=YE o1 h;have w2:=(Ew Z Y e1);simp only[o1,CH,ES,Bi5,Bf8,Bl7]at w2;refine B3 Z [0,1,2,3,4] Fa w2 ?_;apply kI Z h<;>intro h
 .obtain rfl:=A9 h;exact kO Z Fa [0,1,2,3,4]
 obtain⟨y2,e2,h⟩:=A8 h;refine B3 Z [13005,13006,13007,13008,13009] Fa (IB Z Y e2) ?_;obtain⟨c2,h⟩:=C9 h;refine R9 Z c2 h (fun x3=>⟨[(26,pN x3),(25,pN (a.n:Int)),(24,.p (vSl 4 V6 a)),(7,pU (O8 .xor .u32 4294967295 (wrap .u32 ((shI .shl .u32 1 (y2.n:Int))-1)))),(6,.reg 13005 0),(1,.p (vSl 4 V6 a))],[(13009,oM (fun x=>.agg (A0 x)) (pI .i64) z1.values),(13008,oM PV.str (pI .i64) z1.symbols),(13007,oV D2 3 D6 z1.sounds true),(13006,oM PV.str (pI .i64) z1.number),(13005,.cells [.p (vSl 1 cS z1.feats),.mref 13006,.vec 13007,.mref 13008,.mref 13009]),(4,oM (fun x=>.agg (A0 x)) (pI .i64) b.values),(3,oM PV.str (pI .i64) b.symbols),(2,oV D2 3 D6 b.sounds true),(1,oM PV.str (pI .i64) b.number),(0,.cells [.p (vSl 1 cS b.feats),.mref 1,.vec 2,.mref 3,.mref 4])]⟩) (ids:=[(0,0),(1,1),(2,2),(3,3),(4,4),(13005,13005),(13006,13006),(13007,13007),(13008,13008),(13009,13009)]) (fun _ _ _ _ _ f x3 i h=>?_);apply kI Z h<;>intro h
 .obtain⟨c40,h⟩:=C9 h;refine KH Z (And.intro c40 Hu) (A4 Z) h 0 (fun z6=>⟨[(38,pB z6),(26,pN x3),(25,pN (a.n:Int)),(24,.p (vSl 4 V6 a)),(10,pU (O8 .or .u32 (a.g x3.toNat).Set.Plus (a.g x3.toNat).Set.Minus)),(9,.reg 10000 0),(8,pN x3),(7,pU (O8 .xor .u32 4294967295 (wrap .u32 ((shI .shl .u32 1 (y2.n:Int))-1)))),(6,.reg 13005 0),(1,.p (vSl 4 V6 a))],[(13009,oM (fun x=>.agg (A0 x)) (pI .i64) z1.values),(13008,oM PV.str (pI .i64) z1.symbols),(13007,oV D2 3 D6 z1.sounds true),(13006,oM PV.str (pI .i64) z1.number),(13005,.cells [.p (vSl 1 cS z1.feats),.mref 13006,.vec 13007,.mref 13008,.mref 13009]),(10000,.cells ((V6 (a.g x3.toNat)).map .p)),(4,oM (fun x=>.agg (A0 x)) (pI .i64) b.values),(3,oM PV.str (pI .i64) b.symbols),(2,oV D2 3 D6 b.sounds true),(1,oM PV.str (pI .i64) b.number),(0,.cells [.p (vSl 1 cS b.feats),.mref 1,.vec 2,.mref 3,.mref 4])]⟩) (fun M5 k5 c h=>?_) (fun z6 h=>?_)
  .refine kG Z h (fun h=>?_) (fun h=>?_)
   .exact c _ [(0,0),(1,1),(2,2),(3,3),(4,4),(10000,10000),(13005,13005),(13006,13006),(13007,13007),(13008,13008),(13009,13009)] _ true Fa h
   refine kG Z h (fun h=>?_) (fun h=>?_)
   .exact c _ [(0,0),(1,1),(2,2),(3,3),(4,4),(10000,10000),(13005,13005),(13006,13006),(13007,13007),(13008,13008),(13009,13009)] _ true Fa h
   refine kC Z h (Jz Z Y) (fun j h=>?_);exact c _ [(0,0),(1,1),(2,2),(3,3),(4,4),(10000,10000),(13005,13005),(13006,13006),(13007,13007),(13008,13008),(13009,13009)] _ ((j==[]) != true) Fa h
  apply kI Z h<;>intro h
  .obtain rfl:=A9 h;exact kO Z Fa [0,1,2,3,4]
  refine KH Z Fa (A4 Z) h 0 (fun z7=>⟨[(54,pB z7),(26,pN x3),(25,pN (a.n:Int)),(24,.p (vSl 4 V6 a)),(9,.reg 10000 0),(8,pN x3),(7,pU (O8 .xor .u32 4294967295 (wrap .u32 ((shI .shl .u32 1 (y2.n:Int))-1)))),(6,.reg 13005 0),(1,.p (vSl 4 V6 a))],[(13009,oM (fun x=>.agg (A0 x)) (pI .i64) z1.values),(13008,oM PV.str (pI .i64) z1.symbols),(13007,oV D2 3 D6 z1.sounds true),(13006,oM PV.str (pI .i64) z1.number),(13005,.cells [.p (vSl 1 cS z1.feats),.mref 13006,.vec 13007,.mref 13008,.mref 13009]),(10000,.cells ((V6 (a.g x3.toNat)).map .p)),(4,oM (fun x=>.agg (A0 x)) (pI .i64) b.values),(3,oM PV.str (pI .i64) b.symbols),(2,oV D2 3 D6 b.sounds true),(1,oM PV.str (pI .i64) b.number),(0,.cells [.p (vSl 1 cS b.feats),.mref 1,.vec 2,.mref 3,.mref 4])]⟩) (fun M6 k6 d h=>?_) (fun z7 h=>?_)
  .refine kG Z h (fun h=>?_) (fun h=>?_)
   .exact d _ [(0,0),(1,1),(2,2),(3,3),(4,4),(10000,10000),(13005,13005),(13006,13006),(13007,13007),(13008,13008),(13009,13009)] _ true Fa h
   refine kG Z h (fun h=>?_) (fun h=>?_)
   .exact d _ [(0,0),(1,1),(2,2),(3,3),(4,4),(10000,10000),(13005,13005),(13006,13006),(13007,13007),(13008,13008),(13009,13009)] _ true Fa h
   refine kC Z h (Q4 Z Y) (fun l h=>?_);exact d _ [(0,0),(1,1),(2,2),(3,3),(4,4),(10000,10000),(13005,13005),(13006,13006),(13007,13007),(13008,13008),(13009,13009)] _ (!l) Fa h
  apply kI Z h<;>intro h
  .obtain rfl:=A9 h;exact kO Z Fa [0,1,2,3,4]
  obtain⟨c55,h⟩:=C9 h;refine F7 Z c55 79 10000 (V6 (a.g x3.toNat)) ?_;refine kC Z h (Z1 Z Y (fun e=>No Z Y e)) (fun m h=>?_);apply kI Z h<;>intro h
  .obtain rfl:=A9 h;exact kO Z Fa [0,1,2,3,4]
  exact i _ [(0,0),(1,1),(2,2),(3,3),(4,4),(13005,13005),(13006,13006),(13007,13007),(13008,13008),(13009,13009)] _ (wrap .i64 (x3+1)) Fa h
 refine kC Z h (Ck Z Y) (fun o h=>?_);obtain rfl:=A9 h;exact kO Z Fa [0,1,2,3,4]
def CV (N:Nat)(a:Sl Jf):Option Int:= (W2 N ).bind fun y1=>some 1
theorem Lp {a:Sl Jf}{y:Int}(h:CV N a=some y) :FunO S FQ [.p Av3,.p (vSl 4 V6 a)] [] (.tup [.top,pN y]) ([]) []:=by unfold CV at h;refine A2 Z func109 ?_;refine kC Z h (Gx Z Y) (fun y1 h=>?_);obtain rfl:=A9 h;exact kO Z Fa []
def Eb (N:Nat)(a:B8):Option Int:= (Em N a).bind fun y1=>Nx y1.1 (if (y1.2 != 0) then some y1.2 else (CV N a.Marks).bind fun y2=>if (y2 != 0) then some y2 else some 0) fun z1=>if (y1.2 != 0) then some y1.2 else (FV N z1 a.Marks).bind fun y3=>if (y3 != 0) then some y3 else some 0
theorem VJ {a:B8}{y:Int}(h:Eb N a=some y) :FunO S MD [.p (.agg (B1 a))] [] (.tup [.top,.top,pN y]) ([]) []:=by
 unfold Eb at h;refine A2 Z func72 ?_;obtain⟨y1,e1,h⟩:=A8 h;rcases o1:y1.1 with _|z1
 .replace h:=ZQ o1 h;have w1:=(HC Z Y e1);simp only[o1,CH,ES,Bi5,Bf8,Bl7]at w1;refine B3 Z [] Fa w1 ?_;apply kI Z h<;>intro h
  .obtain rfl:=A9 h;exact kO Z Fa []
  refine kC Z h (Lp Z Y) (fun y2 h=>?_);apply kI Z h<;>intro h
  .obtain rfl:=A9 h;exact kO Z Fa []
  obtain rfl:=A9 h;exact kO Z Fa []
 replace h:=YE o1 h;have w2:=(HC Z Y e1);simp only[o1,CH,ES,Bi5,Bf8,Bl7]at w2;refine B3 Z [] Fa w2 ?_;apply kI Z h<;>intro h
 .obtain rfl:=A9 h;exact kO Z Fa []
 obtain⟨y3,e3,h⟩:=A8 h;refine B3 Z [11000,11001,11002,11003,11004] Fa (QE Z Y e3) ?_;apply kI Z h<;>intro h
 .obtain rfl:=A9 h;exact kO Z Fa []
 obtain rfl:=A9 h;exact kO Z Fa []
def W8 (N:Nat)(a:B8):Option Int:= (Eb N a).bind fun y1=>if (y1 != 0) then some y1 else (U4 N a.History a.Protos a.Entries).bind fun y2=>some y2
theorem FI {a:B8}{y:Int}(h:W8 N a=some y) :FunO S Mz [.p (.agg (B1 a))] [] (pN y) ([]) []:=by
 unfold W8 at h;refine A2 Z func37 ?_;refine kC Z h (VJ Z Y) (fun y1 h=>?_);apply kI Z h<;>intro h
 .cases h;exact kR Z
 refine kC Z h (JE Z Y) (fun y2 h=>?_);cases h;exact kR Z
end Go.AM
namespace Go.AM
open Go.Proofs.Tryz
variable {N:Nat}
open IntKind (wrap)
open Go.Proofs
set_option maxRecDepth 10000
set_option maxHeartbeats 2000000
variable {S:U7}(Z:G4 S Tryz.prog) (Y:Kb S)
theorem AY6 {T:Type}{e:TypeId}{k:Nat}{c:T->List PV}{X:Sl (Sl T)}{z:Sl T}:∀q,q<X.n+1->(fun q=>if q=X.n then Fl e k c z else Fl e k c (X.g q)) q=(fun q=>Fl e k c ((X.push z).g q)) q:=fun q a=>by
 show (if q=X.n then Fl e k c z else Fl e k c (X.g q))=Fl e k c (if q<X.n then X.g q else z);by_cases h:q=X.n
 .rw[Dn h,Ej (by omega)]
 rw[Ej h,Dn (by omega)]
theorem AO3 {T:Type}{e:TypeId}{k n i:Nat}{c:T->List PV}{X:Sl (Sl T)}{z:Sl T}:∀q,q<n->(QK (if q=i then Fl e k c z else if q=i then Obj.dead else Fl e k c (X.g q))).isSome=true:=fun q _=>by
 by_cases h:q=i
 .rw[Dn h];rfl
 rw[Ej h,Ej h];rfl
theorem AY7 {T:Type}{e:TypeId}{k n i:Nat}{c:T->List PV}{X:Sl (Sl T)}{z:Sl T}:∀q,q<n->[(QK (if q=i then Fl e k c z else if q=i then Obj.dead else Fl e k c (X.g q))).getD default]=cL k c ((X.upd i z).g q):=fun q _=>by
 show _=cL k c (if q=i then z else X.g q);by_cases h:q=i
 .rw[Dn h,Dn h];rfl
 rw[Ej h,Ej h,Ej h];rfl
include Z Y
def K8 (N:Nat)(s:Sl Node):Option (Sl Node):=if (0+s.n)*24<=140737488355328/\0+s.n<=140737488355328 then some s else none
theorem Cn {s y:Sl Node}(h:K8 N s=some y):FunO S S2 [.p (vSl 2 C6 s)] [] (.vec 0) [.vec N8 2 y.n (fun i=>C6 (y.g i)) true] []:=by
 unfold K8 at h;obtain⟨c1,h⟩:=C9 h;obtain rfl:=A9 h;refine A2 Z func118 ?_;refine UO Z Fa 3 (k:=2) (n:=s.n) (f:=fun i=>C6 (s.g i)) (fun a=>?_) ?_
 .obtain⟨n,g⟩:=s;obtain rfl:n=0:=a;exact kO Z Fa [3700]
 exact kO Z (And.intro Ig c1) [8000]
  (hle:=kl1 0 (Ad1 C6 s [pI .i64 0,.str []]))
def U6 (N:Nat)(s:Sl Int):Option (Sl Int):=if (0+s.n)*8<=140737488355328/\0+s.n<=140737488355328 then some s else none
theorem FX {s y:Sl Int}(h:U6 N s=some y):FunO S BH [.p (vSl 1 (cI .i64) s)] [] (.vec 0) [.vec E4 1 y.n (fun i=>cI .i64 (y.g i)) false] []:=by
 unfold U6 at h;obtain⟨c1,h⟩:=C9 h;obtain rfl:=A9 h;refine A2 Z func119 ?_;refine UO Z Fa 3 (k:=1) (n:=s.n) (f:=fun i=>cI .i64 (s.g i)) (fun a=>?_) ?_
 .obtain⟨n,g⟩:=s;obtain rfl:n=0:=a;exact kO Z Fa [3700]
 exact kO Z (And.intro Ig c1) [8000]
  (hle:=kl1 0 (Ad1 (cI .i64) s [pI .i64 0]))
def R0 (N:Nat)(c:History)(b:Int)(a:Int):Option (History×Int):= (J9 N c).bind fun y1=>if (y1 != 0) then some ((⟨(Sl.nil:Sl Node),(Sl.nil:Sl Law),(Sl.nil:Sl (Sl Int))⟩:History),y1) else (U3 N c b).bind fun y2=>if ((!y2)=false->((decide (a<0))=false->((0:Int)<=b/\b<(c.On.n:Int))))then if (((!y2)||(decide (a<0)))||(decide ((wrap .i64 (((c.On.g b.toNat).n:Int)-1))<=a))) then some ((⟨(Sl.nil:Sl Node),(Sl.nil:Sl Law),(Sl.nil:Sl (Sl Int))⟩:History),3) else (K8 N c.Tree).bind fun y3=>BD N (fun d (x1:Sl Law) (x2:Int)=>if (decide (x2<(c.Laws.n:Int))) then if ((0:Int)<=x2/\x2<(c.Laws.n:Int))then (T3 N (c.Laws.g x2.toNat)).bind fun y6=>if ((x1.n+(Sl.of [y6]:Sl Law).n)*200<=140737488355328/\x1.n+(Sl.of [y6]:Sl Law).n<=140737488355328)then d (x1.push y6) (wrap .i64 (x2+1)) else none else none else BD N (fun f (x3:Sl (Sl Int)) (x4:Int)=>if (decide (x4<(c.On.n:Int))) then if ((0:Int)<=x4/\x4<(c.On.n:Int))then (U6 N (c.On.g x4.toNat)).bind fun y9=>if ((x3.n+(Sl.of [y9]:Sl (Sl Int)).n)*24<=140737488355328/\x3.n+(Sl.of [y9]:Sl (Sl Int)).n<=140737488355328)then f (x3.push y9) (wrap .i64 (x4+1)) else none else none else if b.toNat<x3.n then if (((0:Int)<=b/\b<(x3.n:Int))/\((0:Int)<=a/\a<((x3.g b.toNat).n:Int))/\((0:Int)<=(wrap .i64 (a+1))/\(wrap .i64 (a+1))<((x3.g b.toNat).n:Int)))then some ((⟨y3,x1,x3.upd b.toNat (((x3.g b.toNat).upd a.toNat ((x3.g b.toNat).g (wrap .i64 (a+1)).toNat)).upd (wrap .i64 (a+1)).toNat ((x3.g b.toNat).g a.toNat))⟩:History),0) else none else none) (Sl.nil:Sl (Sl Int)) 0) (Sl.nil:Sl Law) 0 else none
theorem JF {j:History}{f:Int}{d:Int}{y:History×Int}(h:R0 N j f d=some y) :FunO S Jn [.p (.agg (A7 j)),pN f,pN d] [] (.tup [.p (.agg (A7 y.1)),pN y.2]) ([]) []:=by
 unfold R0 at h;refine A2 Z func78 ?_;refine F7 Z Fa 6 4000 (A7 j) ?_;obtain⟨y1,e1,h⟩:=A8 h;refine B3 Z [] Gp (CS Z Y e1) ?_;apply kI Z h<;>intro h
 .obtain rfl:=A9 h;exact J4 Z Fa ⟨[(7,pN y1),(6,.reg 7000 0)],[(7000,.cells [.p (vSl 2 C6 (Sl.nil:Sl Node)),.p (vSl 18 B4 (Sl.nil:Sl Law)),.p (vSl 1 (cL 1 (cI .i64)) (Sl.nil:Sl (Sl Int)))])]⟩ [] (ids:=[(7000,7000)]) ⟨rfl,rfl,rfl⟩
 obtain⟨y2,e2,h⟩:=A8 h;refine B3 Z [] Gp (FU Z Y e2) ?_;obtain⟨c2,h⟩:=C9 h;refine kB Z (A4 Z) Fa c2 14 (.o (.o (.a (!y2)) (.a (decide (d<0)))) (.a (decide ((wrap .i64 (((j.On.g f.toNat).n:Int)-1))<=d)))) ?_;apply kI Z h<;>intro h
 .obtain rfl:=A9 h;exact J4 Z Fa ⟨[(7,pN 3),(6,.reg 7000 0)],[(7000,.cells [.p (vSl 2 C6 (Sl.nil:Sl Node)),.p (vSl 18 B4 (Sl.nil:Sl Law)),.p (vSl 1 (cL 1 (cI .i64)) (Sl.nil:Sl (Sl Int)))])]⟩ [] (ids:=[(7000,7000)]) ⟨rfl,rfl,rfl⟩
 refine kC Z h (Cn Z Y) (fun y3 h=>?_);refine H8 Z Fa h (fun x1 x2=>⟨[(48,pN x2),(47,pN (j.Laws.n:Int)),(46,.p (vSl 18 B4 j.Laws)),(9,.reg 10000 0),(6,.reg 7000 0),(3,.p (.ptr (A7 j))),(2,pN d),(1,pN f)],[(44000,oV N8 2 C6 y3 true),(10500,oV H2 18 B4 x1 false),(10000,.cells [.vec 44000,.vec 10500,.p C7]),(7000,.cells [.p C7,.p C7,.p C7])]⟩) (ids:=[(7000,7000),(10000,10000),(44000,44000)]) (fun _ _ _ _ _ m x1 x2 r h=>?_);apply kI Z h<;>intro h
 .obtain⟨c11,h⟩:=C9 h;refine UP Z (And.intro c11 Ic) 12000 (B4 (j.Laws.g x2.toNat)) ?_;refine E3 Z Fa [2,3] ?_;obtain⟨y6,e6,h⟩:=A8 h;refine G1 Ic (HB Z Y e6) ?_;refine K6 Fa (x:=.sl true 18 1 (G7 [.str [],pI .i64 0,pI .u32 0,pI .u32 0,.v (.bool false),pI .i64 0,pI .i64 0,C7,pI .i64 0,pI .u32 0,pI .u32 0,.v (.bool false),pI .i64 0,pI .i64 0,C7,C7,C7,pI .i64 0] [(0,B4 y6)])) ?_;obtain⟨c12,h⟩:=C9 h;refine D1 c12 ?_;exact r _ [(7000,7000),(10000,10000),(10500,58000),(44000,44000)] _ (x1.push y6) (wrap .i64 (x2+1)) Fa h (hle:=kl1 7 (W4 B4 x1 y6 [.str [],pI .i64 0,pI .u32 0,pI .u32 0,.v (.bool false),pI .i64 0,pI .i64 0,C7,pI .i64 0,pI .u32 0,pI .u32 0,.v (.bool false),pI .i64 0,pI .i64 0,C7,C7,C7,pI .i64 0]))
 refine N0 Z Fa 60 ⟨[(9,.reg 10000 0),(6,.reg 7000 0),(3,.p (.ptr (A7 j))),(2,pN d),(1,pN f)],[(44000,oV N8 2 C6 y3 true),(10501,.vec FE 1 0 (fun _=>[]) false),(10500,oV H2 18 B4 x1 false),(10000,.cells [.vec 44000,.vec 10500,.vec 10501]),(7000,.cells [.p C7,.p C7,.p C7])]⟩ (ids:=[(7000,7000),(10000,10000),(10500,10500),(44000,44000)]) ?_;refine EV Z Fa 60 (.fam 10501 10901 fun i=>Fl E4 1 (cI .i64) ((Sl.nil:Sl (Sl Int)).g i)) (⟨by decide,fun i u=>Er u (Be6 i)⟩:1000<=10901/\∀i,i<0->QM ((fun _=>[]) i) (Fl E4 1 (cI .i64) ((Sl.nil:Sl (Sl Int)).g i))) ?_;refine H8 Z Fa h (fun x3 x4=>⟨[(63,pN x4),(62,pN (j.On.n:Int)),(61,.p (vSl 1 (cL 1 (cI .i64)) j.On)),(9,.reg 10000 0),(6,.reg 7000 0),(2,pN d),(1,pN f)],[(44000,oV N8 2 C6 y3 true),(10901,.rows x3.n fun i=>Fl E4 1 (cI .i64) (x3.g i)),(10501,.fam FE x3.n 10901 none),(10500,oV H2 18 B4 x1 false),(10000,.cells [.vec 44000,.vec 10500,.vec 10501]),(7000,.cells [.p C7,.p C7,.p C7])]⟩) (ids:=[(7000,7000),(10000,10000),(10500,10500),(10501,10501),(10901,10901),(44000,44000)]) (fun _ _ _ _ _ s x3 x4 t h=>?_);apply kI Z h<;>intro h
 .obtain⟨c20,h⟩:=C9 h;refine F3 Z c20 [(1,.l [10000]),(3,.b [71000]),(4,.b [72000,71000])] ?_;obtain⟨y9,e9,h⟩:=A8 h;refine Ow [] Fa (FX Z Y e9) ?_;obtain⟨c21,h⟩:=C9 h;refine D1 c21 ?_;refine EV Z Fa 74 (.psh 73000 10902) (⟨by decide,rfl,rfl⟩:1000<=10902/\x3.n+1=x3.n+1/\x3.n=x3.n) ?_;exact t _ [(7000,7000),(10000,10000),(10500,10500),(10501,73000),(10901,10902),(44000,44000)] _ (x3.push y9) (wrap .i64 (x4+1)) Fa h (hle:=klR [(7,.ob (x3.n+1) (fun q=>if q=x3.n then Fl E4 1 (cI .i64) y9 else Fl E4 1 (cI .i64) (x3.g q)) (fun i=>Fl E4 1 (cI .i64) ((x3.push y9).g i)))] (al1 AY6 al0))
 obtain⟨cT,h⟩:=C9 h;obtain⟨⟨c30,c31,c32⟩,h⟩:=C9 h;refine EV Z Fa 75 (.take 10501 f.toNat 10801) (⟨⟨by decide,rfl⟩,cT⟩:(1000<=10801/\x3.n=x3.n)/\f.toNat<x3.n) ?_;refine F3 Z (And.intro c30 (And.intro cT (rfl:f.toNat=f.toNat))) [(8,.l [10801]),(9,.l [10801]),(12,.l [10801]),(13,.l [10801]),(14,.l [10801]),(15,.a [10801]),(16,.l [10801]),(17,.a [10801])] ?_;have l1:(wrap .i64 (d+1)).toNat<(x3.g f.toNat).n:=by omega
 have l2:d.toNat<(x3.g f.toNat).n:=by omega
 refine D1 (And.intro (And.intro (And.intro (And.intro (And.intro (And.intro (And.intro c32 l1) c31) l2) c31) (And.intro (rfl:(1:Nat)=1) (And.intro l2 Fc))) c32) (And.intro (rfl:(1:Nat)=1) (And.intro l1 Fc))) ?_;refine N0 Z Fa 96 ⟨[(9,.reg 10000 0),(6,.reg 7000 0)],[(44000,oV N8 2 C6 y3 true),(10901,(.rows x3.n fun l=>if l=f.toNat then .dead else Fl E4 1 (cI .i64) (x3.g l))),(10801,Fl E4 1 (cI .i64) (((x3.g f.toNat).upd d.toNat ((x3.g f.toNat).g (wrap .i64 (d+1)).toNat)).upd (wrap .i64 (d+1)).toNat ((x3.g f.toNat).g d.toNat))),(10501,.fam FE x3.n 10901 (some (f.toNat,.vec 10801))),(10500,oV H2 18 B4 x1 false),(10000,.cells [.vec 44000,.vec 10500,.vec 10501]),(7000,.cells [.p C7,.p C7,.p C7])]⟩ (ids:=[(7000,7000),(10000,10000),(10500,10500),(10501,10501),(10801,10801),(10901,10901),(44000,44000)]) ?_ (hle:=klR [(3,.fn (x3.g f.toNat).n (((x3.g f.toNat).upd d.toNat ((x3.g f.toNat).g (wrap .i64 (d+1)).toNat)).upd (wrap .i64 (d+1)).toNat ((x3.g f.toNat).g d.toNat)).n (fun l=>if l=(wrap .i64 (d+1)).toNat then splice ((fun l=>if l=d.toNat then splice ((fun i=>cI .i64 ((x3.g f.toNat).g i)) l) 0 [pI .i64 ((x3.g f.toNat).g (wrap .i64 (d+1)).toNat)]else (fun i=>cI .i64 ((x3.g f.toNat).g i)) l) l) 0 [pI .i64 ((x3.g f.toNat).g d.toNat)]else (fun l=>if l=d.toNat then splice ((fun i=>cI .i64 ((x3.g f.toNat).g i)) l) 0 [pI .i64 ((x3.g f.toNat).g (wrap .i64 (d+1)).toNat)]else (fun i=>cI .i64 ((x3.g f.toNat).g i)) l) l) (fun i=>cI .i64 ((((x3.g f.toNat).upd d.toNat ((x3.g f.toNat).g (wrap .i64 (d+1)).toNat)).upd (wrap .i64 (d+1)).toNat ((x3.g f.toNat).g d.toNat)).g i)))] (al1 ⟨rfl,AR3 (c:=cI .i64) (v:=(x3.g f.toNat).upd d.toNat ((x3.g f.toNat).g (wrap .i64 (d+1)).toNat)) (x:=(x3.g f.toNat).g d.toNat) (AR3 (c:=cI .i64) (v:=x3.g f.toNat) (x:=(x3.g f.toNat).g (wrap .i64 (d+1)).toNat) same (fun _=>by first|rfl|(dsimp only;split<;>rfl))) (fun _=>by first|rfl|(dsimp only;split<;>rfl))⟩ al0));refine EV Z Fa 96 (.put 10501 10902) (⟨⟨by decide,rfl⟩,cT⟩:(1000<=10902/\x3.n=x3.n)/\f.toNat<x3.n) ?_;refine EV Z Fa 96 (.pub 10501) (⟨rfl,AO3⟩:x3.n=x3.n/\∀q,q<x3.n->(QK (if q=f.toNat then Fl E4 1 (cI .i64) (((x3.g f.toNat).upd d.toNat ((x3.g f.toNat).g (wrap .i64 (d+1)).toNat)).upd (wrap .i64 (d+1)).toNat ((x3.g f.toNat).g d.toNat))else if q=f.toNat then Obj.dead else Fl E4 1 (cI .i64) (x3.g q))).isSome=true) ?_;obtain rfl:=A9 h;exact J4 Z Fa ⟨[(7,pN 0),(6,.reg 7000 0)],[(7000,.cells [.p (vSl 2 C6 y3),.p (vSl 18 B4 x1),.p (vSl 1 (cL 1 (cI .i64)) (x3.upd f.toNat (((x3.g f.toNat).upd d.toNat ((x3.g f.toNat).g (wrap .i64 (d+1)).toNat)).upd (wrap .i64 (d+1)).toNat ((x3.g f.toNat).g d.toNat))))])]⟩ [] (ids:=[(7000,7000)]) ⟨rfl,rfl,rfl⟩ (hle:=klR [(3,.fn x3.n (x3.upd f.toNat (((x3.g f.toNat).upd d.toNat ((x3.g f.toNat).g (wrap .i64 (d+1)).toNat)).upd (wrap .i64 (d+1)).toNat ((x3.g f.toNat).g d.toNat))).n (fun q=>[(QK (if q=f.toNat then Fl E4 1 (cI .i64) (((x3.g f.toNat).upd d.toNat ((x3.g f.toNat).g (wrap .i64 (d+1)).toNat)).upd (wrap .i64 (d+1)).toNat ((x3.g f.toNat).g d.toNat))else if q=f.toNat then Obj.dead else Fl E4 1 (cI .i64) (x3.g q))).getD default]) (fun i=>cL 1 (cI .i64) ((x3.upd f.toNat (((x3.g f.toNat).upd d.toNat ((x3.g f.toNat).g (wrap .i64 (d+1)).toNat)).upd (wrap .i64 (d+1)).toNat ((x3.g f.toNat).g d.toNat))).g i)))] (al1 ⟨rfl,AY7⟩ al0))
end Go.AM
namespace Go.AM
open Go.Proofs.Tryz
variable {N:Nat}
open IntKind (wrap)
open Go.Proofs
set_option maxRecDepth 10000
set_option maxHeartbeats 2000000
variable {S:U7}(Z:G4 S Tryz.prog) (Y:Kb S)
include Z Y
def CW (N:Nat)(b:B8)(a:Int):Option Int:= (W8 N b).bind fun y1=>if (y1 != 0) then some y1 else if ((decide (a<0))||(decide (1073741824<a))) then some 2 else some 0
theorem Lq {c:B8}{b:Int}{y:Int}(h:CW N c b=some y) :FunO S KO [.p (.agg (B1 c)),pN b] [] (pN y) ([]) []:=by
 unfold CW at h;refine A2 Z func20 ?_;refine kC Z h (FI Z Y) (fun y1 h=>?_);apply kI Z h<;>intro h
 .cases h;exact kR Z
 refine kB Z (A4 Z) Fa Fa 3 (.o (.a (decide (b<0))) (.a (decide (1073741824<b)))) ?_;apply kI Z h<;>intro h
 .cases h;exact kR Z
 cases h;exact kR Z
def I6 (N:Nat)(b:Sl Law)(a:H9)(c:H9):Option Bool:= if ((!a.Has)||(!c.Has)) then some false else (S7 N b a.W).bind fun y1=>lt (fun (z1:Bool)=>some z1) fun k1=>if (y1.2==0) then (Ar N y1.1 c.W).bind fun y3=>k1 y3 else k1 false
theorem AF {c:Sl Law}{b:H9}{d:H9}{y:Bool}(h:I6 N c b d=some y) :FunO S Id [.p (vSl 18 B4 c),.p (.agg (F4 b)),.p (.agg (F4 d))] [] (pB y) ([]) []:=by
 unfold I6 at h;refine A2 Z func47 ?_;refine kB Z (A4 Z) Fa Fa 4 (.o (.a (!b.Has)) (.a (!d.Has))) ?_;apply kI Z h<;>intro h
 .cases h;exact kR Z
 refine kC Z h (Fk Z Y) (fun y1 h=>?_);refine KH Z Fa (A4 Z) h 0 (fun z1=>⟨[(6,pB z1)],[]⟩) (fun M1 k1 f h=>?_) (fun z1 h=>?_)
 .refine kG Z h (fun h=>?_) (fun h=>?_)
  .refine kC Z h (MN Z Y) (fun y3 h=>?_);exact f _ [] _ y3 Fa h
  exact f _ [] _ false Fa h
 cases h;exact kR Z
def Q5 (N:Nat)(b:History):Option (Sl (Sl Law)):= (T8 N b.Tree).bind fun y1=>BD N (fun a (x1:Sl (Sl Law)) (x2:Int)=>if (decide (x2<(y1.1.n:Int))) then if (((0:Int)<=x2/\x2<(y1.1.n:Int))/\x2.toNat<y1.1.n)then (Q9 N b (y1.1.g x2.toNat)).bind fun y4=>if ((x1.n+(Sl.of [y4.1]:Sl (Sl Law)).n)*24<=140737488355328/\x1.n+(Sl.of [y4.1]:Sl (Sl Law)).n<=140737488355328)then a (x1.push y4.1) (wrap .i64 (x2+1)) else none else none else some x1) (Sl.nil:Sl (Sl Law)) 0
theorem CX {a:History}{y:Sl (Sl Law)}(h:Q5 N a=some y) :FunO S KT [.p (.agg (A7 a))] [] (.p (vSl 1 (cL 18 B4) y)) ([]) []:=by
 unfold Q5 at h;refine A2 Z func48 ?_;refine kC Z h (EC Z Y) (fun y1 h=>?_);refine H8 Z Fa h (fun x1 x2=>⟨[(18,pN x2),(17,pN (y1.1.n:Int)),(16,.vec 14000),(5,.vec 6500),(1,.reg 2000 0)],[(14000,oV E4 1 (cI .i64) y1.1 true),(6500,oV DR 1 (cL 18 B4) x1 false),(2000,.cells ((A7 a).map .p))]⟩) (ids:=[(2000,2000),(14000,14000)]) (fun _ _ _ _ _ b x1 x2 c h=>?_);apply kI Z h<;>intro h
 .obtain⟨c6,h⟩:=C9 h;obtain⟨y4,e4,h⟩:=A8 h;refine B3 Z [] c6 (QA Z Y e4) ?_;obtain⟨c7,h⟩:=C9 h;exact c _ [(2000,2000),(6500,32000),(14000,14000)] _ (x1.push y4.1) (wrap .i64 (x2+1)) (And.intro Ig c7) h (hle:=kl1 3 (W4 (cL 18 B4) x1 y4.1 [C7]))
 obtain rfl:=A9 h;exact kO Z Fa []
def Hb (N:Nat)(c:B8)(a:Int)(b:Int):Option Bool:= if ((decide (0<=a))=true->((decide (a<(c.Entries.n:Int)))=true->((decide (0<=b))=true->((0:Int)<=a/\a<(c.Entries.n:Int)))))then some ((((decide (0<=a))&&(decide (a<(c.Entries.n:Int))))&&(decide (0<=b)))&&(decide (b<((c.Entries.g a.toNat).Forms.n:Int)))) else none
theorem Px {d:B8}{b:Int}{c:Int}{y:Bool}(h:Hb N d b c=some y) :FunO S OP [.p (.agg (B1 d)),pN b,pN c] [] (pB y) ([]) []:=by unfold Hb at h;refine A2 Z func42 ?_;obtain⟨c1,h⟩:=C9 h;refine kB Z (A4 Z) Fa c1 21 (.n (.n (.n (.a (decide (0<=b))) (.a (decide (b<(d.Entries.n:Int))))) (.a (decide (0<=c)))) (.a (decide (c<((d.Entries.g b.toNat).Forms.n:Int))))) ?_;cases h;exact kR Z
def CY (N:Nat)(a:B8)(p_x:Swap):Option (History×Int):= (R0 N a.History p_x.Node p_x.Place).bind fun y1=>lt (fun (z1:Bool)=>if z1 then some ((⟨(Sl.nil:Sl Node),(Sl.nil:Sl Law),(Sl.nil:Sl (Sl Int))⟩:History),3) else some (y1.1,0)) fun k1=>if (y1.2 != 0) then k1 true else (Hb N a p_x.Entry p_x.Leaf).bind fun y3=>k1 (!y3)
theorem IC {a:B8}{p_x:Swap}{y:History×Int}(h:CY N a p_x=some y) :FunO S Ib [.p (.agg (B1 a)),.p (.agg (J5 p_x))] [] (.tup [.p (.agg (A7 y.1)),pN y.2]) ([]) []:=by
 unfold CY at h;refine A2 Z func44 ?_;refine kC Z h (JF Z Y) (fun y1 h=>?_);refine KH Z Fa (A4 Z) h 0 (fun z1=>⟨[(28,pB z1),(6,.reg 7000 0),(4,.reg 5000 0)],[(7000,.cells ((A7 y1.1).map .p)),(5000,.cells [.p C7,.p C7,.p C7])]⟩) (fun M1 k1 b h=>?_) (fun z1 h=>?_)
 .refine kG Z h (fun h=>?_) (fun h=>?_)
  .exact b _ [(5000,5000),(7000,7000)] _ true Fa h
  refine kC Z h (Px Z Y) (fun y3 h=>?_);exact b _ [(5000,5000),(7000,7000)] _ (!y3) Fa h
 apply kI Z h<;>intro h
 .obtain rfl:=A9 h;exact J4 Z Fa ⟨[(5,pN 3),(4,.reg 5000 0)],[(5000,.cells [.p (vSl 2 C6 (Sl.nil:Sl Node)),.p (vSl 18 B4 (Sl.nil:Sl Law)),.p (vSl 1 (cL 1 (cI .i64)) (Sl.nil:Sl (Sl Int)))])]⟩ [] (ids:=[(5000,5000)]) ⟨rfl,rfl,rfl⟩
 cases h;exact kR Z
def ID (N:Nat)(a:B8)(p_x:Swap):Option (Bool×Int):= (W8 N a).bind fun y1=>if (y1 != 0) then some (false,y1) else (CY N a p_x).bind fun y2=>if (y2.2 != 0) then some (false,y2.2) else if ((((0:Int)<=p_x.Entry/\p_x.Entry<(a.Protos.n:Int))/\((0:Int)<=p_x.Entry/\p_x.Entry<(a.Entries.n:Int)))/\((0:Int)<=p_x.Leaf/\p_x.Leaf<((a.Entries.g p_x.Entry.toNat).Forms.n:Int)))then (Q5 N a.History).bind fun y3=>if ((0:Int)<=p_x.Leaf/\p_x.Leaf<(y3.n:Int))then (I6 N (y3.g p_x.Leaf.toNat) (a.Protos.g p_x.Entry.toNat) ((a.Entries.g p_x.Entry.toNat).Forms.g p_x.Leaf.toNat)).bind fun y4=>if y4 then (Q5 N y2.1).bind fun y5=>if ((0:Int)<=p_x.Leaf/\p_x.Leaf<(y5.n:Int))then (I6 N (y5.g p_x.Leaf.toNat) (a.Protos.g p_x.Entry.toNat) ((a.Entries.g p_x.Entry.toNat).Forms.g p_x.Leaf.toNat)).bind fun y6=>some (!y6,0) else none else some (false,0) else none else none
theorem VK {c:B8}{p_x:Swap}{y:Bool×Int}(h:ID N c p_x=some y) :FunO S Mw [.p (.agg (B1 c)),.p (.agg (J5 p_x))] [] (.tup [pB y.1,pN y.2]) ([]) []:=by
 unfold ID at h;refine A2 Z func17 ?_;refine F7 Z Fa 3 3000 (B1 c) ?_;refine F7 Z Fa 4 4000 (J5 p_x) ?_;obtain⟨y1,e1,h⟩:=A8 h;refine B3 Z [] (by decide:(8:Nat)<=8) (FI Z Y e1) ?_;apply kI Z h<;>intro h
 .cases h;exact kR Z
 obtain⟨y2,e2,h⟩:=A8 h;refine B3 Z [] (And.intro (by decide:(8:Nat)<=8) Hu) (IC Z Y e2) ?_;refine F7 Z Fa 8 8000 (A7 y2.1) ?_;apply kI Z h<;>intro h
 .cases h;exact kR Z
 refine F3 Z Fa [(1,.n),(3,.n),(4,.n),(5,.n),(7,.n),(9,.n),(10,.n),(12,.n),(14,.n),(15,.n),(16,.n),(17,.a [10000]),(18,.a [11000]),(19,.a [10000]),(20,.a [11000])] ?_;obtain⟨c3,h⟩:=C9 h;refine D1 (And.intro (And.intro (And.intro (And.intro c3.1.1 Ga) c3.1.2) c3.2) Ga) ?_;refine UP Z Fa 10000 [.bb (c.Protos.g p_x.Entry.toNat).Has,vSl 2 A0 (c.Protos.g p_x.Entry.toNat).W] ?_;refine UP Z Fa 11000 [.bb ((c.Entries.g p_x.Entry.toNat).Forms.g p_x.Leaf.toNat).Has,vSl 2 A0 ((c.Entries.g p_x.Entry.toNat).Forms.g p_x.Leaf.toNat).W] ?_;refine E3 Z Fa [1,2,4,5,6,7,8,9,11,12,14,15,16,17,18,19] ?_;obtain⟨y3,e3,h⟩:=A8 h;refine G1 (by decide:(3:Nat)<=5) (CX Z Y e3) ?_;obtain⟨c4,h⟩:=C9 h;obtain⟨y4,e4,h⟩:=A8 h;refine G1 (And.intro (And.intro c4 Ga) Ga) (AF Z Y e4) ?_;refine V5 Fa (b:=y4) (fun c5=>?_) (fun c5=>?_)
 .replace h:=itT c5 h;obtain⟨y5,e5,h⟩:=A8 h;refine G1 Gp (CX Z Y e5) ?_;obtain⟨c6,h⟩:=C9 h;obtain⟨y6,e6,h⟩:=A8 h;refine G1 (And.intro (And.intro c6 Ga) Ga) (AF Z Y e6) ?_;refine D1 Fa ?_;cases h;exact kR Z
 replace h:=itF c5 h;refine D1 Fa ?_;cases h;exact kR Z
def H0 (N:Nat)(a:List (B9)):Option (Sl B9):= U1 a (fun b (x1:B9) (z1:Sl B9)=>if ((z1.n+(Sl.of [x1]:Sl B9).n)*16<=140737488355328/\z1.n+(Sl.of [x1]:Sl B9).n<=140737488355328)then b (z1.push x1) else none) (fun (z1:Sl B9)=>some z1) (Sl.nil:Sl B9)
theorem CC {c:List (B9)}{a:B8}{b:(Sl (Sl Law))}{kp_seq:Nat}(fp_seq:∃fn,Bc9[kp_seq]? = some fn/\fn.body.isSome=true/\(fn.name == "runtime.NumGoroutine")=false)(d:ER S kp_seq [] [.reg 0 0,.reg 1 0] [(.cells ((B1 a).map .p)),(.cells [(.p (vSl 1 (cL 18 B4) b))])] (c.map (fun (x:B9)=>[(fun x=>.agg (D5 x)) x]))){y:(Sl B9)}(h:H0 N c=some y) :FunO S T5 [(.p C7),(.clo kp_seq [] [(.reg 0 0),(.reg 1 0)])] [(.cells ((B1 a).map .p)),(.cells [(.p (vSl 1 (cL 18 B4) b))])] (.vec 0) ([(oV Bo 2 D5 y false)]) [false,false]:=by
 unfold H0 at h;refine A2 Z func89 ?_;refine Ny Z Fa fp_seq [0,1] [2] 901 (fun z1=>⟨[(2,(.reg 3000 0))],[(3500,(oV Bo 2 D5 z1 false)),(3000,(.cells [(.vec 3500)]))]⟩) (idl:=[(3000,3000)]) h d (fun _=>by kernel_rfl) (fun _=>by kernel_rfl) (fun _=>by kernel_rfl) (fun _=>by kernel_rfl) (fun x1 _ f z1 g h=>?_) (fun z1 h=>?_)
 .refine JT Z Fa ?_;obtain⟨c1,h⟩:=C9 h;exact g _ [(901,901),(3000,3000),(3500,12000)] _ (z1.push x1) (And.intro Ig c1) h (hle:=kl1 0 (W4 D5 z1 x1 [(pI .i64 0),(pI .i64 0)]))
 obtain rfl:=A9 h;exact kO Z Fa [3500]
def N2 (N:Nat)(a:List (B9)):Option (Sl B9):= (H0 N a).bind fun y1=>some y1
theorem Hc {c:List (B9)}{a:B8}{b:(Sl (Sl Law))}{kp_seq:Nat}(fp_seq:∃fn,Bc9[kp_seq]? = some fn/\fn.body.isSome=true/\(fn.name == "runtime.NumGoroutine")=false)(d:ER S kp_seq [] [.reg 0 0,.reg 1 0] [(.cells ((B1 a).map .p)),(.cells [(.p (vSl 1 (cL 18 B4) b))])] (c.map (fun (x:B9)=>[(fun x=>.agg (D5 x)) x]))){y:(Sl B9)}(h:N2 N c=some y) :FunO S Dd [(.clo kp_seq [] [(.reg 0 0),(.reg 1 0)])] [(.cells ((B1 a).map .p)),(.cells [(.p (vSl 1 (cL 18 B4) b))])] (.vec 0) ([(oV Bo 2 D5 y false)]) [false,false]:=by unfold N2 at h;refine A2 Z func54 ?_;obtain⟨y1,e1,h⟩:=A8 h;refine B3 Z [0,1] Fa (CC Z Y fp_seq d e1) ?_;obtain rfl:=A9 h;exact kO Z Fa [5000]
def X7 (N:Nat)(q0:B8):Option (List (B9×History)):= Y1 N (fun a (x2:Int)=>if (decide (x2<(q0.History.On.n:Int))) then if ((0:Int)<=x2/\x2<(q0.History.On.n:Int))then Y1 N (fun b (x4:Int)=>if (decide (x4<(wrap .i64 (((q0.History.On.g x2.toNat).n:Int)-1)))) then (R0 N q0.History x2 x4).bind fun y9=>Af ((⟨x2,x4⟩:B9),y9.1) (b (wrap .i64 (x4+1))) else a (wrap .i64 (x2+1))) 0 else none else some []) 0
theorem Ke {q0:B8}{L:List (B9×History)}(h:X7 N q0=some L) :ER S Cd [] [.reg 0 0] [.cells ((B1 q0).map .p)] (L.map (fun (x:B9×History)=>[(fun x=>.agg (D5 x)) x.1,(fun x=>.agg (A7 x)) x.2])):=by
 unfold X7 at h;refine EA Z func91 ?_;refine Dl Z Fa h (fun x2 L1=>⟨[(12,pN x2),(11,pN (q0.History.On.n:Int)),(10,.p (vSl 1 (cL 1 (cI .i64)) q0.History.On)),(1,.reg 0 0),(0,.yf 1)],[(1,.yld (L1.map (fun (x:B9×History)=>[(fun x=>.agg (D5 x)) x.1,(fun x=>.agg (A7 x)) x.2])) true),(0,.cells ((B1 q0).map .p))]⟩) (ids:=[(0,0),(1,1)]) (fun _ _ _ _ _ d x2 L1 f h=>?_);apply kI Z h<;>intro h
 .obtain⟨c24,h⟩:=C9 h;refine Dl Z c24 h (fun x4 L10=>⟨[(20,pN x4),(19,pN (wrap .i64 (((q0.History.On.g x2.toNat).n:Int)-1))),(12,pN x2),(11,pN (q0.History.On.n:Int)),(10,.p (vSl 1 (cL 1 (cI .i64)) q0.History.On)),(3,pN x2),(1,.reg 0 0),(0,.yf 1)],[(1,.yld (L10.map (fun (x:B9×History)=>[(fun x=>.agg (D5 x)) x.1,(fun x=>.agg (A7 x)) x.2])) true),(0,.cells ((B1 q0).map .p))]⟩) (ids:=[(0,0),(1,1)]) (fun _ _ _ _ _ i x4 L10 j h=>?_);apply kI Z h<;>intro h
  .refine kC Z h (JF Z Y) (fun y9 h=>?_);obtain⟨L13,rfl,c⟩:=LO h;replace h:=c;refine Dk Z Fa (ys:=(fun (x:B9×History)=>[(fun x=>.agg (D5 x)) x.1,(fun x=>.agg (A7 x)) x.2]) ((⟨x2,x4⟩:B9),y9.1)) (rest:=L13.map (fun (x:B9×History)=>[(fun x=>.agg (D5 x)) x.1,(fun x=>.agg (A7 x)) x.2])) ?_ ?_
   .refine C8 Z Fa (b:=false) (fun c32=>?_) (fun c32=>?_)
    .exact Bool.noConfusion ((rfl:false=false).symm.trans c32)
    exact j _ [(0,0),(1,1)] _ (wrap .i64 (x4+1)) L13 Fa h
   refine C8 Z Fa (b:=true) (fun c33=>?_) (fun c33=>?_)
   .exact kO Z Fa (a:=.tup []) (objs:=[(.cells ((B1 q0).map .p)),.yld [] false]) [0,1] ⟨false,rfl,rfl,_,rfl⟩
   exact Bool.noConfusion (Ig.symm.trans c33)
  exact f _ [(0,0),(1,1)] _ (wrap .i64 (x2+1)) L10 Fa h
 obtain rfl:=A9 h;exact kO Z Fa (a:=.tup []) (objs:=[(.cells ((B1 q0).map .p)),.yld [] true]) [0,1] ⟨true,rfl,rfl,_,rfl⟩
def Dw (N:Nat)(a:B8):Option (B8):= some a
theorem Ma {a:B8}{y:B8}(h:Dw N a=some y) :FunO S Gr [.p (.agg (B1 a))] [] (.clo Cd [] [.reg 0 0]) ([.cells ((B1 y).map .p)]) []:=by unfold Dw at h;refine A2 Z func56 ?_;obtain rfl:=A9 h;exact kO Z Fa [2000]
def C0 (N:Nat)(a:Sl Exception)(b:Sl Exception):Option Bool:= if ((a.n:Int) != (b.n:Int)) then some false else Y1 N (fun c (x1:Int)=>if (decide (x1<(a.n:Int))) then if (((0:Int)<=x1/\x1<(a.n:Int))/\((0:Int)<=x1/\x1<(b.n:Int)))then if ((((a.g x1.toNat).Entry==(b.g x1.toNat).Entry)&&(((a.g x1.toNat).Leaf==(b.g x1.toNat).Leaf)&&(((a.g x1.toNat).Kind==(b.g x1.toNat).Kind)&&((a.g x1.toNat).Cost==(b.g x1.toNat).Cost)))) != true) then some false else c (wrap .i64 (x1+1)) else none else some true) 0
theorem W3 {a:Sl Exception}{b:Sl Exception}{y:Bool}(h:C0 N a b=some y) :FunO S L0 [.p (vSl 4 A5 a),.p (vSl 4 A5 b)] [] (pB y) ([]) []:=by
 unfold C0 at h;refine A2 Z func23 ?_;apply kI Z h<;>intro h
 .cases h;exact kR Z
 refine R9 Z Fa h (fun x1=>⟨[(13,pN x1),(12,pN (a.n:Int)),(1,.p (vSl 4 A5 b)),(0,.p (vSl 4 A5 a))],[]⟩) (ids:=[]) (fun _ _ _ _ _ c x1 d h=>?_);apply kI Z h<;>intro h
 .refine E3 Z Fa [2,3,6,7] ?_;obtain⟨c9,h⟩:=C9 h;refine D1 (And.intro (And.intro (And.intro (And.intro c9.1 Hu) c9.2) Hu) (by decide +kernel:QG Tryz.prog S5=true)) ?_;apply kI Z h<;>intro h
  .cases h;exact kR Z
  exact d _ [] _ (wrap .i64 (x1+1)) Fa h
 cases h;exact kR Z
def F0 (N:Nat)(a:Sl Swap)(b:Sl Swap):Option Bool:= if ((a.n:Int) != (b.n:Int)) then some false else Y1 N (fun c (x1:Int)=>if (decide (x1<(a.n:Int))) then if (((0:Int)<=x1/\x1<(a.n:Int))/\((0:Int)<=x1/\x1<(b.n:Int)))then if ((((a.g x1.toNat).Node==(b.g x1.toNat).Node)&&(((a.g x1.toNat).Place==(b.g x1.toNat).Place)&&(((a.g x1.toNat).Entry==(b.g x1.toNat).Entry)&&((a.g x1.toNat).Leaf==(b.g x1.toNat).Leaf)))) != true) then some false else c (wrap .i64 (x1+1)) else none else some true) 0
theorem Co {a:Sl Swap}{b:Sl Swap}{y:Bool}(h:F0 N a b=some y) :FunO S S0 [.p (vSl 4 J5 a),.p (vSl 4 J5 b)] [] (pB y) ([]) []:=by
 unfold F0 at h;refine A2 Z func24 ?_;apply kI Z h<;>intro h
 .cases h;exact kR Z
 refine R9 Z Fa h (fun x1=>⟨[(13,pN x1),(12,pN (a.n:Int)),(1,.p (vSl 4 J5 b)),(0,.p (vSl 4 J5 a))],[]⟩) (ids:=[]) (fun _ _ _ _ _ c x1 d h=>?_);apply kI Z h<;>intro h
 .refine E3 Z Fa [2,3,6,7] ?_;obtain⟨c9,h⟩:=C9 h;refine D1 (And.intro (And.intro (And.intro (And.intro c9.1 Hu) c9.2) Hu) (by decide +kernel:QG Tryz.prog Dp=true)) ?_;apply kI Z h<;>intro h
  .cases h;exact kR Z
  exact d _ [] _ (wrap .i64 (x1+1)) Fa h
 cases h;exact kR Z
def Hd (N:Nat)(d:B8)(a:Sl (Sl Im))(b:Int)(f:Int):Option (Int×Int):= (CW N d f).bind fun y1=>if (y1 != 0) then some (0,y1) else if (decide (256<(a.n:Int))) then some (0,12) else Y1 N (fun o (x1:Int)=>if (decide (x1<(a.n:Int))) then if ((0:Int)<=x1/\x1<(a.n:Int))then (W6 N (a.g x1.toNat)).bind fun y4=>if (y4 != 0) then some (0,y4) else o (wrap .i64 (x1+1)) else none else if ((decide (b<0))||(decide ((d.Entries.n:Int)<=b))) then some (0,3) else if ((a.n:Int)==0) then some (0,5) else (Q5 N d.History).bind fun y5=>Av4 N (fun l (x8:Int) (x9:Int) (i:Int)=>if (decide (i<(a.n:Int))) then if (((0:Int)<=i/\i<(a.n:Int))/\((0:Int)<=b/\b<(d.Entries.n:Int)))then BD N (fun j (m:Int) (c:Int)=>if (decide (c<((d.Entries.g b.toNat).Forms.n:Int))) then if ((0:Int)<=c/\c<((d.Entries.g b.toNat).Forms.n:Int))then if ((d.Entries.g b.toNat).Forms.g c.toNat).Has then if ((0:Int)<=c/\c<(y5.n:Int))then (I6 N (y5.g c.toNat) (⟨true,a.g i.toNat⟩:H9) ((d.Entries.g b.toNat).Forms.g c.toNat)).bind fun q=>if (!q) then j (wrap .i64 (m+f)) (wrap .i64 (c+1)) else j m (wrap .i64 (c+1)) else none else j m (wrap .i64 (c+1)) else none else if ((i==0)||(decide (m<x9))) then l i m (wrap .i64 (i+1)) else l x8 x9 (wrap .i64 (i+1))) 0 0 else none else some (x8,0)) 0 0 0) 0
theorem To {i:B8}{d:Sl (Sl Im)}{c:Int}{f:Int}{y:Int×Int}(h:Hd N i d c f=some y) :FunO S KN [.p (.agg (B1 i)),.p (vSl 1 (cL 2 A0) d),pN c,pN f] [] (.tup [pN y.1,pN y.2]) ([]) []:=by
 unfold Hd at h;refine A2 Z func19 ?_;refine F7 Z Fa 8 5000 (B1 i) ?_;obtain⟨y1,e1,h⟩:=A8 h;refine B3 Z [] (by decide:(8:Nat)<=8) (Lq Z Y e1) ?_;apply kI Z h<;>intro h
 .cases h;exact kR Z
 apply kI Z h<;>intro h
 .cases h;exact kR Z
 refine R9 Z Fa h (fun x1=>⟨[(33,pN x1),(32,pN (d.n:Int)),(31,.p (vSl 1 (cL 2 A0) d)),(4,.p (.ptr (B1 i))),(3,pN f),(2,pN c),(1,.p (vSl 1 (cL 2 A0) d))],[]⟩) (ids:=[]) (fun _ _ _ _ _ s x1 t h=>?_);apply kI Z h<;>intro h
 .obtain⟨c10,h⟩:=C9 h;obtain⟨y4,e4,h⟩:=A8 h;refine B3 Z [] c10 (DS Z Y e4) ?_;apply kI Z h<;>intro h
  .cases h;exact kR Z
  exact t _ [] _ (wrap .i64 (x1+1)) Fa h
 refine kB Z (A4 Z) Fa Fa 6 (.o (.a (decide (c<0))) (.a (decide ((i.Entries.n:Int)<=c)))) ?_;apply kI Z h<;>intro h
 .cases h;exact kR Z
 apply kI Z h<;>intro h
 .cases h;exact kR Z
 obtain⟨y5,e5,h⟩:=A8 h;refine B3 Z [] (by decide:(3:Nat)<=5) (CX Z Y e5) ?_;refine Ov Z Fa h (fun x8 x9 j=>⟨[(62,pN j),(61,pN (d.n:Int)),(60,.p (vSl 1 (cL 2 A0) d)),(16,pN x9),(15,pN x8),(14,.p (vSl 1 (cL 18 B4) y5)),(4,.p (.ptr (B1 i))),(3,pN f),(2,pN c)],[]⟩) (ids:=[]) (fun _ _ _ _ _ u x8 x9 j r h=>?_);apply kI Z h<;>intro h
 .obtain⟨c69,h⟩:=C9 h;refine H8 Z c69 h (fun m l=>⟨[(74,pN l),(73,pN ((i.Entries.g c.toNat).Forms.n:Int)),(72,.p (vSl 2 F4 (i.Entries.g c.toNat).Forms)),(62,pN j),(61,pN (d.n:Int)),(60,.p (vSl 1 (cL 2 A0) d)),(19,pN m),(18,.p (vSl 2 A0 (d.g j.toNat))),(17,pN j),(16,pN x9),(15,pN x8),(14,.p (vSl 1 (cL 18 B4) y5)),(4,.p (.ptr (B1 i))),(3,pN f),(2,pN c)],[]⟩) (ids:=[]) (fun _ _ _ _ _ v m l q h=>?_);apply kI Z h<;>intro h
  .obtain⟨c81,h⟩:=C9 h;refine UP Z (And.intro c81 Ga) 22000 [.bb ((i.Entries.g c.toNat).Forms.g l.toNat).Has,vSl 2 A0 ((i.Entries.g c.toNat).Forms.g l.toNat).W] ?_;refine E3 Z Fa [1,5,6,9,10] ?_;refine V5 Fa (b:=((i.Entries.g c.toNat).Forms.g l.toNat).Has) (fun c82=>?_) (fun c82=>?_)
   .replace h:=itT c82 h;obtain⟨c83,h⟩:=C9 h;obtain⟨w,e17,h⟩:=A8 h;refine G1 (And.intro c83 Ga) (AF Z Y e17) ?_;refine D1 Fa ?_;apply kI Z h<;>intro h
    .exact q _ [] _ (wrap .i64 (m+f)) (wrap .i64 (l+1)) Fa h
    exact q _ [] _ m (wrap .i64 (l+1)) Fa h
   replace h:=itF c82 h;refine D1 Fa ?_;exact q _ [] _ m (wrap .i64 (l+1)) Fa h
  refine kB Z (A4 Z) Fa Fa 4 (.o (.a (j==0)) (.a (decide (m<x9)))) ?_;apply kI Z h<;>intro h
  .exact r _ [] _ j m (wrap .i64 (j+1)) Fa h
  exact r _ [] _ x8 x9 (wrap .i64 (j+1)) Fa h
 cases h;exact kR Z
end Go.AM
namespace Go.AM
open Go.Proofs.Tryz
variable {N:Nat}
open IntKind (wrap)
open Go.Proofs
set_option maxRecDepth 10000
set_option maxHeartbeats 2000000
variable {S:U7}(Z:G4 S Tryz.prog) (Y:Kb S)
include Z Y
def CZ (N:Nat)(q0:B8)(q1:Sl (Sl Law)):Option (List (B9)):= Y1 N (fun b (x2:Int)=>if (decide (x2<(q0.Entries.n:Int))) then if ((0:Int)<=x2/\x2<(q0.Entries.n:Int))then Y1 N (fun a (x4:Int)=>if (decide (x4<((q0.Entries.g x2.toNat).Forms.n:Int))) then if ((0:Int)<=x4/\x4<((q0.Entries.g x2.toNat).Forms.n:Int))then if (((0:Int)<=x4/\x4<(q1.n:Int))/\((0:Int)<=x2/\x2<(q0.Protos.n:Int)))then (I6 N (q1.g x4.toNat) (q0.Protos.g x2.toNat) ((q0.Entries.g x2.toNat).Forms.g x4.toNat)).bind fun y9=>if y9 then Af (⟨x2,x4⟩:B9) (a (wrap .i64 (x4+1))) else a (wrap .i64 (x4+1)) else none else none else b (wrap .i64 (x2+1))) 0 else none else some []) 0
theorem Py {q0:B8}{q1:Sl (Sl Law)}{L:List (B9)}(h:CZ N q0 q1=some L) :ER S EZ [] [.reg 0 0,.reg 1 0] [.cells ((B1 q0).map .p),.cells [.p (vSl 1 (cL 18 B4) q1)]] (L.map (fun (x:B9)=>[(fun x=>.agg (D5 x)) x])):=by
 unfold CZ at h;refine EA Z func90 ?_;refine Dl Z Fa h (fun x2 L1=>⟨[(11,pN x2),(10,pN (q0.Entries.n:Int)),(9,.p (vSl 2 F5 q0.Entries)),(2,.reg 1 0),(1,.reg 0 0),(0,.yf 2)],[(2,.yld (L1.map (fun (x:B9)=>[(fun x=>.agg (D5 x)) x])) true),(1,.cells [.p (vSl 1 (cL 18 B4) q1)]),(0,.cells ((B1 q0).map .p))]⟩) (ids:=[(0,0),(1,1),(2,2)]) (fun _ _ _ _ _ f x2 L1 i h=>?_);apply kI Z h<;>intro h
 .obtain⟨c78,h⟩:=C9 h;refine Dl Z (And.intro c78 Ga) h (fun x4 L16=>⟨[(19,pN x4),(18,pN ((q0.Entries.g x2.toNat).Forms.n:Int)),(17,.p (vSl 2 F4 (q0.Entries.g x2.toNat).Forms)),(11,pN x2),(10,pN (q0.Entries.n:Int)),(9,.p (vSl 2 F5 q0.Entries)),(4,pN x2),(2,.reg 1 0),(1,.reg 0 0),(0,.yf 2)],[(2,.yld (L16.map (fun (x:B9)=>[(fun x=>.agg (D5 x)) x])) true),(1,.cells [.p (vSl 1 (cL 18 B4) q1)]),(0,.cells ((B1 q0).map .p))]⟩) (ids:=[(0,0),(1,1),(2,2)]) (fun _ _ _ _ _ j x4 L16 d h=>?_);apply kI Z h<;>intro h
  .obtain⟨c104,h⟩:=C9 h;refine UP Z (And.intro c104 Ga) 8000 [.bb ((q0.Entries.g x2.toNat).Forms.g x4.toNat).Has,vSl 2 A0 ((q0.Entries.g x2.toNat).Forms.g x4.toNat).W] ?_;refine Ay5 Z Fa 16 [(0,.l [1]),(2,.n),(3,.n),(5,.l [0]),(7,.n),(8,.n),(9,.n),(10,.n)] ?_;obtain⟨c105,h⟩:=C9 h;obtain⟨y9,e9,h⟩:=A8 h;refine G1 (And.intro (And.intro (And.intro c105.1 c105.2) Ga) Ga) (AF Z Y e9) ?_;refine V5 Fa (b:=y9) (fun c106=>?_) (fun c106=>?_)
   .replace h:=itT c106 h;refine D1 Fa ?_;refine GN Z Fa (b:=true) (fun c109=>?_) (fun c109=>?_)
    .obtain⟨L22,rfl,c⟩:=LO h;replace h:=c;refine Dk Z Fa (ys:=(fun (x:B9)=>[(fun x=>.agg (D5 x)) x]) (⟨x2,x4⟩:B9)) (rest:=L22.map (fun (x:B9)=>[(fun x=>.agg (D5 x)) x])) ?_ ?_
     .refine C8 Z Fa (b:=false) (fun c110=>?_) (fun c110=>?_)
      .exact Bool.noConfusion ((rfl:false=false).symm.trans c110)
      exact d _ [(0,0),(1,1),(2,2)] _ (wrap .i64 (x4+1)) L22 Fa h
     refine C8 Z Fa (b:=true) (fun c111=>?_) (fun c111=>?_)
     .exact kO Z Fa (a:=.tup []) (objs:=[(.cells ((B1 q0).map .p)),.cells [.p (vSl 1 (cL 18 B4) q1)],.yld [] false]) [0,1,2] ⟨false,rfl,rfl,_,rfl⟩
     exact Bool.noConfusion (Ig.symm.trans c111)
    exact Bool.noConfusion (Ig.symm.trans c109)
   replace h:=itF c106 h;refine D1 Fa ?_;refine GN Z Fa (b:=false) (fun c114=>?_) (fun c114=>?_)
   .exact Bool.noConfusion ((rfl:false=false).symm.trans c114)
   exact d _ [(0,0),(1,1),(2,2)] _ (wrap .i64 (x4+1)) L16 Fa h
  exact i _ [(0,0),(1,1),(2,2)] _ (wrap .i64 (x2+1)) L16 Fa h
 obtain rfl:=A9 h;exact kO Z Fa (a:=.tup []) (objs:=[(.cells ((B1 q0).map .p)),.cells [.p (vSl 1 (cL 18 B4) q1)],.yld [] true]) [0,1,2] ⟨true,rfl,rfl,_,rfl⟩
def He (N:Nat)(b:B8)(a:Sl (Sl Law)):Option (B8×(Sl (Sl Law))):= some (b,a)
theorem Tp {b:B8}{a:Sl (Sl Law)}{y:B8×(Sl (Sl Law))}(h:He N b a=some y) :FunO S KU [.p (.agg (B1 b)),.p (vSl 1 (cL 18 B4) a)] [] (.clo EZ [] [.reg 0 0,.reg 1 0]) ([.cells ((B1 y.1).map .p),.cells [.p (vSl 1 (cL 18 B4) y.2)]]) []:=by unfold He at h;refine A2 Z func55 ?_;obtain rfl:=A9 h;exact kO Z Fa [3000,4000]
def Bb (N:Nat)(a:B8):Option ((Sl Swap)×Int):= (W8 N a).bind fun y1=>if (y1 != 0) then some ((Sl.nil:Sl Swap),y1) else (Q5 N a.History).bind fun y2=>(He N a y2).bind fun y3=>(CZ N y3.1 y3.2).bind fun L1=>(N2 N L1).bind fun y4=>(Dw N a).bind fun y5=>(X7 N y5).bind fun L2=>U1 L2 (fun b (x1:B9×History) (z1:Sl Swap)=>(Q5 N x1.2).bind fun d=>Y1 N (fun c (x5:Int)=>if (decide (x5<(y4.n:Int))) then if (((0:Int)<=x5/\x5<(y4.n:Int))/\x5.toNat<y4.n)then if (((((0:Int)<=(y4.g x5.toNat).a1/\(y4.g x5.toNat).a1<(d.n:Int))/\((0:Int)<=(y4.g x5.toNat).a0/\(y4.g x5.toNat).a0<(a.Protos.n:Int)))/\((0:Int)<=(y4.g x5.toNat).a0/\(y4.g x5.toNat).a0<(a.Entries.n:Int)))/\((0:Int)<=(y4.g x5.toNat).a1/\(y4.g x5.toNat).a1<((a.Entries.g (y4.g x5.toNat).a0.toNat).Forms.n:Int)))then (I6 N (d.g (y4.g x5.toNat).a1.toNat) (a.Protos.g (y4.g x5.toNat).a0.toNat) ((a.Entries.g (y4.g x5.toNat).a0.toNat).Forms.g (y4.g x5.toNat).a1.toNat)).bind fun f=>if (!f) then if ((z1.n+(Sl.of [(⟨x1.1.a0,x1.1.a1,(y4.g x5.toNat).a0,(y4.g x5.toNat).a1⟩:Swap)]:Sl Swap).n)*32<=140737488355328/\z1.n+(Sl.of [(⟨x1.1.a0,x1.1.a1,(y4.g x5.toNat).a0,(y4.g x5.toNat).a1⟩:Swap)]:Sl Swap).n<=140737488355328)then b (z1.push (⟨x1.1.a0,x1.1.a1,(y4.g x5.toNat).a0,(y4.g x5.toNat).a1⟩:Swap)) else none else c (wrap .i64 (x5+1)) else none else none else b z1) 0) (fun (z1:Sl Swap)=>some (z1,0)) (Sl.nil:Sl Swap)
theorem Tq {b:B8}{y:(Sl Swap)×Int}(h:Bb N b=some y) :FunO S KP [.p (.agg (B1 b))] [] (.tup [.vec 0,pN y.2]) ([oV Dp 4 J5 y.1 true]) []:=by
 unfold Bb at h;refine A2 Z func22 ?_;refine F7 Z Fa 2 2000 (B1 b) ?_;obtain⟨y1,e1,h⟩:=A8 h;refine B3 Z [] (by decide:(8:Nat)<=8) (FI Z Y e1) ?_;apply kI Z h<;>intro h
 .obtain rfl:=A9 h;exact kO Z Fa [3700]
 refine F3 Z Fa [(0,.n),(2,.n),(3,.n),(4,.a [22000,22001]),(5,.a [22000,22001,23000,23001,23002]),(6,.a [6000]),(7,.a [6000,23000])] ?_;obtain⟨y2,e2,h⟩:=A8 h;refine G1 (And.intro (by decide:(8:Nat)<=8) (by decide:(3:Nat)<=5)) (CX Z Y e2) ?_;obtain⟨y3,e3,h⟩:=A8 h;refine Ow [] Fa (Tp Z Y e3) ?_;obtain⟨L1,e4,h⟩:=A8 h;obtain⟨y4,e5,h⟩:=A8 h;refine OD [22000,22001] Fa (Hc Z Y ⟨_,func90,by decide +kernel,by decide +kernel⟩ (Py Z Y e4) e5) ?_;refine D1 Fa ?_;obtain⟨y5,e6,h⟩:=A8 h;refine B3 Z [] (by decide:(8:Nat)<=8) (Ma Z Y e6) ?_;obtain⟨L2,e7,h⟩:=A8 h;refine GO Z Fa [25000] [6,5,1] 901 (fun z1=>⟨[(6,.reg 7000 0),(5,.reg 6000 0),(1,.p (.ptr (B1 b)))],[(23000,oV Bo 2 D5 y4 false),(7500,oV Dp 4 J5 z1 false),(7000,.cells [.vec 7500]),(6000,.cells [.vec 23000])]⟩) (idl:=[(6000,6000),(7000,7000),(23000,23000)]) h (Ke Z Y e7) (fun _=>by kernel_rfl) (fun _=>by kernel_rfl) (fun _=>by kernel_rfl) (fun _=>by kernel_rfl) (fun x1 _ d z1 c h=>?_) (fun z1 h=>?_)
 .refine F7 Z Fa 8 8000 [pI .i64 x1.1.a0,pI .i64 x1.1.a1] ?_;refine JT Z Fa ?_;refine F7 Z Fa 27 9000 (A7 x1.2) ?_;obtain⟨f,e16,h⟩:=A8 h;refine B3 Z [] Gp (CX Z Y e16) ?_;refine R9 Z Fa h (fun x5=>⟨[(31,pN x5),(30,pN (y4.n:Int)),(29,.vec 23000),(9,.p (vSl 1 (cL 18 B4) f)),(7,.p (.ptr [pI .i64 x1.1.a0,pI .i64 x1.1.a1])),(6,.reg 7000 0),(1,.p (.ptr (B1 b)))],[(23000,oV Bo 2 D5 y4 false),(7500,oV Dp 4 J5 z1 false),(7000,.cells [.vec 7500]),(6000,.cells [.vec 23000]),(901,.ghost [.reg 7000 0,.reg 6000 0,.p (.ptr (B1 b))])]⟩) (ids:=[(901,901),(6000,6000),(7000,7000),(7500,7500),(23000,23000)]) (fun _ _ _ _ _ i x5 j h=>?_);apply kI Z h<;>intro h
  .obtain⟨c35,h⟩:=C9 h;refine F3 Z (And.intro (And.intro c35.1 Ga) c35.2) [(1,.l [12000]),(2,.l [12000]),(3,.n),(4,.n),(6,.n),(7,.l [12000]),(8,.l [12000]),(9,.n),(10,.n),(12,.n),(13,.l [12000]),(14,.l [12000]),(15,.n),(17,.n),(18,.l [12000]),(19,.l [12000]),(20,.n),(21,.n),(22,.n)] ?_;obtain⟨c36,h⟩:=C9 h;obtain⟨m,e19,h⟩:=A8 h;refine G1 (And.intro (And.intro (And.intro (And.intro (And.intro (And.intro (And.intro (And.intro (And.intro (by decide:(0:Int)<=1/\(1:Int)<2) c36.1.1.1) (by decide:(0:Int)<=0/\(0:Int)<2)) c36.1.1.2) Ga) (by decide:(0:Int)<=0/\(0:Int)<2)) c36.1.2) (by decide:(0:Int)<=1/\(1:Int)<2)) c36.2) Ga) (AF Z Y e19) ?_;refine D1 Fa ?_;apply kI Z h<;>intro h
   .refine F7 Z Fa 59 12000 [pI .i64 (y4.g x5.toNat).a0,pI .i64 (y4.g x5.toNat).a1] ?_;obtain⟨c38,h⟩:=C9 h;exact c _ [(901,901),(6000,6000),(7000,7000),(7500,71000),(23000,23000)] _ (z1.push (⟨x1.1.a0,x1.1.a1,(y4.g x5.toNat).a0,(y4.g x5.toNat).a1⟩:Swap)) (And.intro (And.intro (And.intro (And.intro (And.intro (by decide:(0:Int)<=0/\(0:Int)<2) (by decide:(0:Int)<=1/\(1:Int)<2)) (by decide:(0:Int)<=0/\(0:Int)<2)) (by decide:(0:Int)<=1/\(1:Int)<2)) Ig) c38) h (hle:=kl1 1 (W4 J5 z1 (⟨x1.1.a0,x1.1.a1,(y4.g x5.toNat).a0,(y4.g x5.toNat).a1⟩:Swap) [pI .i64 0,pI .i64 0,pI .i64 0,pI .i64 0]))
   refine F7 Z Fa 71 12000 [pI .i64 (y4.g x5.toNat).a0,pI .i64 (y4.g x5.toNat).a1] ?_;exact j _ [(901,901),(6000,6000),(7000,7000),(7500,7500),(23000,23000)] _ (wrap .i64 (x5+1)) Fa h
  exact c _ [(901,901),(6000,6000),(7000,7000),(7500,7500),(23000,23000)] _ z1 Fa h
 obtain rfl:=A9 h;exact kO Z Fa [7500]
def O7 (N:Nat)(b:B8)(a:Int):Option (Gn×Int):= (CW N b a).bind fun y1=>if (y1 != 0) then some ((⟨(Sl.nil:Sl Exception),(Sl.nil:Sl Swap)⟩:Gn),y1) else (Cx N b.History b.Protos b.Entries a).bind fun y2=>(Bb N b).bind fun y3=>some ((⟨y2.1,y3.1⟩:Gn),0)
theorem FJ {b:B8}{a:Int}{y:Gn×Int}(h:O7 N b a=some y) :FunO S Ms [.p (.agg (B1 b)),pN a] [] (.tup [.p (.agg (OE y.1)),pN y.2]) ([]) []:=by
 unfold O7 at h;refine A2 Z func6 ?_;refine kC Z h (Lq Z Y) (fun y1 h=>?_);apply kI Z h<;>intro h
 .obtain rfl:=A9 h;exact J4 Z Fa ⟨[(5,pN y1),(4,.reg 5000 0)],[(5000,.cells [.p (vSl 4 A5 (Sl.nil:Sl Exception)),.p (vSl 4 J5 (Sl.nil:Sl Swap))])]⟩ [] (ids:=[(5000,5000)]) ⟨rfl,rfl,rfl⟩
 refine kC Z h (VH Z Y) (fun y2 h=>?_);refine kC Z h (Tq Z Y) (fun y3 h=>?_);obtain rfl:=A9 h;exact J4 Z Fa ⟨[(5,pN 0),(4,.reg 5000 0)],[(5000,.cells [.p (vSl 4 A5 y2.1),.p (vSl 4 J5 y3.1)])]⟩ [] (ids:=[(5000,5000)]) ⟨rfl,rfl,rfl⟩
def O2 (N:Nat)(c:B8)(a:Int)(b:Gn):Option (Bool×Int):= (O7 N c a).bind fun y1=>if (y1.2 != 0) then some (false,y1.2) else (C0 N y1.1.Bad b.Bad).bind fun y2=>lt (fun (z1:Bool)=>some (z1,0)) fun k1=>if y2 then (F0 N y1.1.Swaps b.Swaps).bind fun y4=>k1 y4 else k1 false
theorem BW {b:B8}{a:Int}{c:Gn}{y:Bool×Int}(h:O2 N b a c=some y) :FunO S Jh [.p (.agg (B1 b)),pN a,.p (.agg (OE c))] [] (.tup [pB y.1,pN y.2]) ([]) []:=by
 unfold O2 at h;refine A2 Z func7 ?_;refine kC Z h (FJ Z Y) (fun y1 h=>?_);apply kI Z h<;>intro h
 .cases h;exact kR Z
 refine kC Z h (W3 Z Y) (fun y2 h=>?_);refine KH Z Fa (A4 Z) h 0 (fun z1=>⟨[(7,pN 0),(6,pB z1)],[]⟩) (fun M1 k1 d h=>?_) (fun z1 h=>?_)
 .refine kG Z h (fun h=>?_) (fun h=>?_)
  .refine kC Z h (Co Z Y) (fun y4 h=>?_);exact d _ [] _ y4 Fa h
  exact d _ [] _ false Fa h
 cases h;exact kR Z
end Go.AM
namespace Go.AM
open Go.Proofs.Tryz
open Go.Proofs
set_option maxRecDepth 10000
set_option maxHeartbeats 2000000
variable {S:U7}(Z:G4 S Tryz.prog) (Y:Kb S)
include Z Y
abbrev MQ (s:Str):Nat->List PV:=fun i=>[.v (.int .u8 ((s.getD i 0).toNat:Nat))]
theorem Tr {s:Str}{u n:Nat}{f:Nat->List PV}(hc:(n+s.length)*1<=140737488355328/\n+s.length<=140737488355328) :FunO S Y2 [.reg 0 0,.p (.str s)] [.blk [0,124,u] 1,.vec H6 1 n f false] (.tup [pN (s.length:Int),.p (.v .nilIface)]) [.blk [0,124,1] 1,.vec H6 1 (n+s.length) (FK n f (MQ s)) false] [true,false]:=by refine A2 Z func40 ?_;refine B3 Z [0,1] Fa (Y.copyCheck 124 u n f rfl) ?_;exact kO Z hc [0,15000]
theorem w_Len {u n:Nat}{f:Nat->List PV}:FunO S DN [.reg 0 0] [.blk [0,124,u] 1,.vec H6 1 n f false] (pN (n:Int)) [.blk [0,124,u] 1,.vec H6 1 n f false] [true,true]:=by refine A2 Z func45 ?_;exact kO Z Fa [0,1]
theorem Az7 {N:Nat}{ws:Sl Str}{j:Str}{u n:Nat}{f:Nat->List PV}(b:U5 N ws [32]=some j)(hc:(n+(j++[10]).length)*1<=140737488355328/\n+(j++[10]).length<=140737488355328) :FunO S BF [.p (vSl 1 cS ws),.reg 0 0] [.blk [0,124,u] 1,.vec H6 1 n f false] (.tup []) [.blk [0,124,1] 1,.vec H6 1 (n+(j++[10]).length) (FK n f (MQ (j++[10]))) false] [true,false]:=by
 have a:((j.length+([10]:Str).length:Nat):Int)<=9223372036854775807:=by have h1:=hc.2;rw[Bg1]at h1;have c:([10]:Str).length=1:=rfl;omega
 refine A2 Z func39 ?_;refine B3 Z [] Fa (QD Z Y b) ?_;refine B3 Z [0,1] a (Tr Z Y (u:=u) (f:=f) hc) ?_;exact kO Z Fa [0,7001]
end Go.AM
