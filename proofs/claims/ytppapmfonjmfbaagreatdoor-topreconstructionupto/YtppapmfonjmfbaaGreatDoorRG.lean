/- Part 7. -/
import Derived.Test.YtppapmfonjmfbaaGreatDoorRF
import Derived.Test.YtppapmfonjmfbaaGreatDoorRE
set_option linter.defProp false
set_option linter.unusedSimpArgs false
set_option linter.unusedVariables false
set_option linter.unusedSectionVars false
namespace Go.AM
open Go.Proofs.Tryz
abbrev T4:Sl (Sl Tb):=Sl.nil
abbrev Rc:Sl Tb:=Sl.of []
abbrev Rb:Sl Tb:=Sl.nil
def Oc:(3:Nat)<=3:=by decide
def Oa:(1:Nat)<=1:=by decide
variable {N:Nat}
open IntKind (wrap)
def AS3:=@BitVec.getLsbD_or
open Go.Proofs
set_option maxRecDepth 10000
set_option maxHeartbeats 2000000
variable {S:W8}(Z:G8 S Tryz.prog) (Y:Oh S)
include Z Y
def FB (N:Nat)(a:Int):Option Bool:= some (((((decide (97<=a))&&(decide (a<=122)))||((decide (65<=a))&&(decide (a<=90))))||((decide (48<=a))&&(decide (a<=57))))||(a==45))
theorem Rm {b:Int}{y:Bool}(h:FB N b=some y) :FunO S IR [.p (pI .u8 b)] [] (pB y) ([]) []:=by unfold FB at h;refine A3 Z func45 ?_;refine kB Z (B2 Z) Mz Mz 23 (.o (.o (.o (.n (.a (decide (97<=b))) (.a (decide (b<=122)))) (.n (.a (decide (65<=b))) (.a (decide (b<=90))))) (.n (.a (decide (48<=b))) (.a (decide (b<=57))))) (.a (b==45))) ?_;cases h;exact kR Z
def CG (N:Nat)(a:Str):Option Bool:= S3 N (fun b (x1:Int)=>if (decide (x1<(a.length:Int))) then if ((0:Int)<=x1/\x1<(a.length:Int))then (FB N (CB a x1)).bind fun y3=>if (!y3) then some false else b (wrap .i64 (x1+1)) else none else some ((decide (0<(a.length:Int)))&&(decide ((a.length:Int)<=24)))) 0
theorem Tt {b:Str}{y:Bool}(h:CG N b=some y) :FunO S KQ [.p (.str b)] [] (pB y) ([]) []:=by
 unfold CG at h;refine A3 Z func26 ?_;refine AF Z Mz h (fun x1=>⟨[(6,pN x1),(5,pN (b.length:Int)),(0,.p (.str b))],[]⟩) (ids:=[]) (fun _ _ _ _ _ c x1 d h=>?_);apply kI Z h<;>intro h
 .obtain⟨c8,h⟩:=I5 h;obtain⟨y3,e3,h⟩:=D1 h;refine F0 Z [] c8 (Rm Z Y e3) ?_;apply kI Z h<;>intro h
  .cases h;exact kR Z
  exact d _ [] _ (wrap .i64 (x1+1)) Mz h
 refine kB Z (B2 Z) Mz Mz 4 (.n (.a (decide (0<(b.length:Int)))) (.a (decide ((b.length:Int)<=24)))) ?_;cases h;exact kR Z
def T7 (N:Nat)(a:Sl U1):Option Int:= if (((a.n:Int)==0)||(decide (63<(a.n:Int)))) then some 16 else W9 N (fun b (x2:List (Str×Bool)) (x3:Int)=>if (decide (x3<(a.n:Int))) then if ((0:Int)<=x3/\x3<(a.n:Int))then lt (fun (z3:Bool)=>if z3 then some 16 else b (Qv eqS (a.g x3.toNat).Name true x2) (wrap .i64 (x3+1))) fun k3=>if (decide (x3<=(a.g x3.toNat).Parent)) then k3 true else if (decide ((a.g x3.toNat).Parent<(if 0<(wrap .i64 (x3-1))then 0 else (wrap .i64 (x3-1))))) then k3 true else (CG N (a.g x3.toNat).Name).bind fun y6=>if (!y6) then k3 true else At7 (Dx eqS (a.g x3.toNat).Name x2) (k3 false) fun v6=>k3 v6 else none else some 0) [] 0
theorem GH {c:Sl U1}{y:Int}(h:T7 N c=some y) :FunO S KP [.p (vSl 2 H3 c)] [] (pN y) ([]) []:=by
 unfold T7 at h;refine A3 Z func15 ?_;refine kB Z (B2 Z) Mz Mz 4 (.o (.a ((c.n:Int)==0)) (.a (decide (63<(c.n:Int))))) ?_;apply kI Z h<;>intro h
 .cases h;exact kR Z
 refine Q5 Z Mz h (fun x2 x3=>⟨[(17,pN x3),(16,pN (c.n:Int)),(15,.p (vSl 2 H3 c)),(3,.mref 15000)],[(15000,.map (Pg PV.str PV.bb x2))]⟩) (ids:=[(15000,15000)]) (fun _ _ _ _ _ f x2 x3 i h=>?_);apply kI Z h<;>intro h
 .obtain⟨c25,h⟩:=I5 h;refine QC Z (And.intro c25 Ob) (B2 Z) h 0 (fun z3=>⟨[(45,pB z3),(17,pN x3),(16,pN (c.n:Int)),(15,.p (vSl 2 H3 c)),(5,.reg 6000 0),(3,.mref 15000)],[(15000,.map (Pg PV.str PV.bb x2)),(6000,.cells [pN (c.g x3.toNat).Parent,.p (.str (c.g x3.toNat).Name)])]⟩) (fun M3 k3 d h=>?_) (fun z3 h=>?_)
  .refine kG Z h (fun h=>?_) (fun h=>?_)
   .exact d _ [(6000,6000),(15000,15000)] _ true Mz h
   refine kG Z h (fun h=>?_) (fun h=>?_)
   .exact d _ [(6000,6000),(15000,15000)] _ true Mz h
   refine kC Z h (Tt Z Y) (fun y6 h=>?_);refine kG Z h (fun h=>?_) (fun h=>?_)
   .exact d _ [(6000,6000),(15000,15000)] _ true Mz h
   rcases o6:Dx eqS (c.g x3.toNat).Name x2 with _|v6
   .replace h:=optN o6 h;refine LI Z Mz (kt:=Fz) (e:=Au9) (key:=PV.str (c.g x3.toNat).Name) (es:=Pg PV.str PV.bb x2) (x:=.v (.bool false)) (b:=false) (fd:=none) ((Gj (kP:=PV.str) (vP:=PV.bb) (eq:=eqS) (fun _ _=>by kernel_rfl) (c.g x3.toNat).Name x2).trans (by rw[o6];rfl)) Mz ?_;exact d _ [(6000,6000),(15000,15000)] _ false Mz h
   replace h:=optS o6 h;refine LI Z Mz (kt:=Fz) (e:=Au9) (key:=PV.str (c.g x3.toNat).Name) (es:=Pg PV.str PV.bb x2) (x:=PV.bb v6) (b:=true) (fd:=some (PV.bb v6)) ((Gj (kP:=PV.str) (vP:=PV.bb) (eq:=eqS) (fun _ _=>by kernel_rfl) (c.g x3.toNat).Name x2).trans (by rw[o6];rfl)) Mz ?_;exact d _ [(6000,6000),(15000,15000)] _ v6 Mz h
  apply kI Z h<;>intro h
  .cases h;exact kR Z
  refine QB Z Mz (kt:=Fz) (key:=PV.str (c.g x3.toNat).Name) (y:=PV.bb true) (es:=Pg PV.str PV.bb x2) (LH (kP:=PV.str) (vP:=PV.bb) (eq:=eqS) (fun _ _=>by kernel_rfl) (c.g x3.toNat).Name true x2) Mz ?_;exact i _ [(15000,15000)] _ (Qv eqS (c.g x3.toNat).Name true x2) (wrap .i64 (x3+1)) Mz h
 cases h;exact kR Z
def Z6 (N:Nat)(a:A7):Option Int:= if ((0:Int)<=(a.On.n:Int)/\(a.On.n:Int)<=(a.On.n:Int)/\(a.On.n:Int)*8<=140737488355328/\(a.On.n:Int)<=140737488355328)then Ak9 N (fun c (x4:Sl Int) (x5:Bool) (x6:Int)=>if (decide (x6<(a.On.n:Int))) then if ((((0:Int)<=x6/\x6<(a.On.n:Int))/\((0:Int)<=x6/\x6<(x4.n:Int)))/\x6.toNat<x4.n)then if ((0:Int)<=x6/\x6<(a.Tree.n:Int))then lt (fun (z3:Sl Int)=>if (((0:Int)<=x6/\x6<(z3.n:Int))/\x6.toNat<z3.n)then if (decide (64<(z3.g x6.toNat))) then some 2 else W9 N (fun d (f:Bool) (b:Int)=>if (decide (b<((a.On.g x6.toNat).n:Int))) then if ((0:Int)<=b/\b<((a.On.g x6.toNat).n:Int))then d ((f||(decide (((a.On.g x6.toNat).g b.toNat)<0)))||(decide ((a.Laws.n:Int)<=((a.On.g x6.toNat).g b.toNat)))) (wrap .i64 (b+1)) else none else c z3 f (wrap .i64 (x6+1))) x5 0 else none) fun k3=>if (decide (0<=(a.Tree.g x6.toNat).Parent)) then if (((((((0:Int)<=x6/\x6<((x4.upd x6.toNat ((a.On.g x6.toNat).n:Int)).n:Int))/\x6.toNat<(x4.upd x6.toNat ((a.On.g x6.toNat).n:Int)).n)/\((0:Int)<=(a.Tree.g x6.toNat).Parent/\(a.Tree.g x6.toNat).Parent<((x4.upd x6.toNat ((a.On.g x6.toNat).n:Int)).n:Int)))/\(a.Tree.g x6.toNat).Parent.toNat<(x4.upd x6.toNat ((a.On.g x6.toNat).n:Int)).n)/\((0:Int)<=x6/\x6<((x4.upd x6.toNat ((a.On.g x6.toNat).n:Int)).n:Int)))/\x6.toNat<(x4.upd x6.toNat ((a.On.g x6.toNat).n:Int)).n)then k3 ((x4.upd x6.toNat ((a.On.g x6.toNat).n:Int)).upd x6.toNat (wrap .i64 (((x4.upd x6.toNat ((a.On.g x6.toNat).n:Int)).g x6.toNat)+((x4.upd x6.toNat ((a.On.g x6.toNat).n:Int)).g (a.Tree.g x6.toNat).Parent.toNat)))) else none else k3 (x4.upd x6.toNat ((a.On.g x6.toNat).n:Int)) else none else none else if x5 then some 3 else some 0) (Sl.rep (a.On.n:Int).toNat 0:Sl Int) false 0 else none
theorem Nb {d:A7}{y:Int}(h:Z6 N d=some y) :FunO S Gw [.p (.agg (B6 d))] [] (pN y) ([]) []:=by
 unfold Z6 at h;refine A3 Z func58 ?_;refine W7 Z Mz 2 2000 (B6 d) ?_;obtain⟨c1,h⟩:=I5 h;refine Wz Z c1 h (fun x4 x5 x6=>⟨[(17,pN x6),(16,pN (d.On.n:Int)),(15,.p (vSl 1 (cL 1 (cI .i64)) d.On)),(4,pB x5),(3,.vec 14000),(1,.p (.ptr (B6 d)))],[(14000,.vec H6 1 x4.n (fun i=>cI .i64 (x4.g i)) false)]⟩) (ids:=[(14000,14000)]) (fun _ _ _ _ _ q x4 x5 x6 r h=>?_);apply kI Z h<;>intro h
 .obtain⟨c35,h⟩:=I5 h;refine Bo Z (And.intro (And.intro c35.1.1 c35.1.2) (And.intro (rfl:(1:Nat)=1) (And.intro c35.2 Oa))) 27 ⟨[(17,pN x6),(16,pN (d.On.n:Int)),(15,.p (vSl 1 (cL 1 (cI .i64)) d.On)),(6,.p (vSl 1 (cI .i64) (d.On.g x6.toNat))),(5,pN x6),(4,pB x5),(3,.vec 14000),(1,.p (.ptr (B6 d)))],[(14000,.vec H6 1 (x4.upd x6.toNat ((d.On.g x6.toNat).n:Int)).n (fun i=>cI .i64 ((x4.upd x6.toNat ((d.On.g x6.toNat).n:Int)).g i)) false)]⟩ (ids:=[(14000,14000)]) ?_ (hle:=klR [(7,.fn x4.n (x4.upd x6.toNat ((d.On.g x6.toNat).n:Int)).n (fun l=>if l=x6.toNat then splice ((fun i=>cI .i64 (x4.g i)) l) 0 [pI .i64 ((d.On.g x6.toNat).n:Int)]else (fun i=>cI .i64 (x4.g i)) l) (fun i=>cI .i64 ((x4.upd x6.toNat ((d.On.g x6.toNat).n:Int)).g i)))] (al1 ⟨rfl,At6 (c:=cI .i64) (v:=x4) (x:=((d.On.g x6.toNat).n:Int)) same (fun _=>by first|rfl|(dsimp only;split<;>rfl))⟩ al0));obtain⟨c36,h⟩:=I5 h;refine QC Z c36 (B2 Z) h 0 (fun z3=>⟨[(17,pN x6),(16,pN (d.On.n:Int)),(15,.p (vSl 1 (cL 1 (cI .i64)) d.On)),(6,.p (vSl 1 (cI .i64) (d.On.g x6.toNat))),(5,pN x6),(4,pB x5),(3,.vec 14000),(1,.p (.ptr (B6 d)))],[(14000,.vec H6 1 z3.n (fun i=>cI .i64 (z3.g i)) false)]⟩) (fun M3 k3 m h=>?_) (fun z3 h=>?_)
  .apply kI Z h<;>intro h
   .refine HX Z Mz ?_;obtain⟨c41,h⟩:=I5 h;refine N2 (And.intro (And.intro (And.intro (And.intro (And.intro c41.1.1.1.1.1 c41.1.1.1.1.2) c41.1.1.1.2) c41.1.1.2) c41.1.2) (And.intro (rfl:(1:Nat)=1) (And.intro c41.2 Oa))) ?_;exact m _ [(14000,14000)] _ ((x4.upd x6.toNat ((d.On.g x6.toNat).n:Int)).upd x6.toNat (wrap .i64 (((x4.upd x6.toNat ((d.On.g x6.toNat).n:Int)).g x6.toNat)+((x4.upd x6.toNat ((d.On.g x6.toNat).n:Int)).g (d.Tree.g x6.toNat).Parent.toNat)))) Mz h (hle:=klR [(7,.fn (x4.upd x6.toNat ((d.On.g x6.toNat).n:Int)).n ((x4.upd x6.toNat ((d.On.g x6.toNat).n:Int)).upd x6.toNat (wrap .i64 (((x4.upd x6.toNat ((d.On.g x6.toNat).n:Int)).g x6.toNat)+((x4.upd x6.toNat ((d.On.g x6.toNat).n:Int)).g (d.Tree.g x6.toNat).Parent.toNat)))).n (fun l=>if l=x6.toNat then splice ((fun i=>cI .i64 ((x4.upd x6.toNat ((d.On.g x6.toNat).n:Int)).g i)) l) 0 [pI .i64 (wrap .i64 (((x4.upd x6.toNat ((d.On.g x6.toNat).n:Int)).g x6.toNat)+((x4.upd x6.toNat ((d.On.g x6.toNat).n:Int)).g (d.Tree.g x6.toNat).Parent.toNat)))]else (fun i=>cI .i64 ((x4.upd x6.toNat ((d.On.g x6.toNat).n:Int)).g i)) l) (fun i=>cI .i64 (((x4.upd x6.toNat ((d.On.g x6.toNat).n:Int)).upd x6.toNat (wrap .i64 (((x4.upd x6.toNat ((d.On.g x6.toNat).n:Int)).g x6.toNat)+((x4.upd x6.toNat ((d.On.g x6.toNat).n:Int)).g (d.Tree.g x6.toNat).Parent.toNat)))).g i)))] (al1 ⟨rfl,At6 (c:=cI .i64) (v:=x4.upd x6.toNat ((d.On.g x6.toNat).n:Int)) (x:=wrap .i64 (((x4.upd x6.toNat ((d.On.g x6.toNat).n:Int)).g x6.toNat)+((x4.upd x6.toNat ((d.On.g x6.toNat).n:Int)).g (d.Tree.g x6.toNat).Parent.toNat))) same (fun _=>by first|rfl|(dsimp only;split<;>rfl))⟩ al0))
   exact m _ [(14000,14000)] _ (x4.upd x6.toNat ((d.On.g x6.toNat).n:Int)) Mz h
  obtain⟨c42,h⟩:=I5 h;refine E7 Z c42 (b:=decide (64<(z3.g x6.toNat))) (fun c43=>?_) (fun c43=>?_)
  .replace h:=itT c43 h;cases h;exact kR Z
  replace h:=itF c43 h;refine Q5 Z Mz h (fun j f=>⟨[(52,pN f),(51,pN ((d.On.g x6.toNat).n:Int)),(50,.p (vSl 1 (cI .i64) (d.On.g x6.toNat))),(17,pN x6),(16,pN (d.On.n:Int)),(15,.p (vSl 1 (cL 1 (cI .i64)) d.On)),(4,pB j),(3,.vec 14000),(1,.p (.ptr (B6 d)))],[(14000,.vec H6 1 z3.n (fun i=>cI .i64 (z3.g i)) false)]⟩) (ids:=[(14000,14000)]) (fun _ _ _ _ _ s j f t h=>?_);apply kI Z h<;>intro h
  .obtain⟨c49,h⟩:=I5 h;refine kB Z (B2 Z) c49 Mz 10 (.o (.o (.a j) (.a (decide (((d.On.g x6.toNat).g f.toNat)<0)))) (.a (decide ((d.Laws.n:Int)<=((d.On.g x6.toNat).g f.toNat))))) ?_;exact t _ [(14000,14000)] _ ((j||(decide (((d.On.g x6.toNat).g f.toNat)<0)))||(decide ((d.Laws.n:Int)<=((d.On.g x6.toNat).g f.toNat)))) (wrap .i64 (f+1)) Mz h
  exact r _ [(14000,14000)] _ z3 j (wrap .i64 (x6+1)) Mz h
 apply kI Z h<;>intro h
 .cases h;exact kR Z
 cases h;exact kR Z
def Q1 (N:Nat)(a:A7):Option Int:= (T7 N a.Tree).bind fun y1=>if (y1 != 0) then some 16 else if (decide (64<(a.Laws.n:Int))) then some 12 else W9 N (fun b (x1:List (Str×Int)) (x2:Int)=>if (decide (x2<(a.Laws.n:Int))) then if ((0:Int)<=x2/\x2<(a.Laws.n:Int))then (Z4 N (a.Laws.g x2.toNat)).bind fun y4=>if (y4 != 0) then some 17 else At7 (Dx eqS (a.Laws.g x2.toNat).Name x1) (b (Qv eqS (a.Laws.g x2.toNat).Name (wrap .i64 (0+1)) x1) (wrap .i64 (x2+1))) fun v3=>b (Qv eqS (a.Laws.g x2.toNat).Name (wrap .i64 (v3+1)) x1) (wrap .i64 (x2+1)) else none else if (decide (((Pg PV.str (pI .i64) x1).length:Int)<(a.Laws.n:Int))) then some 6 else if ((a.On.n:Int) != (a.Tree.n:Int)) then some 2 else (Z6 N a).bind fun y5=>some y5) [] 0
theorem GI {a:A7}{y:Int}(h:Q1 N a=some y) :FunO S Gv [.p (.agg (B6 a))] [] (pN y) ([]) []:=by
 unfold Q1 at h;refine A3 Z func35 ?_;refine kC Z h (GH Z Y) (fun y1 h=>?_);apply kI Z h<;>intro h
 .cases h;exact kR Z
 apply kI Z h<;>intro h
 .cases h;exact kR Z
 refine Q5 Z Mz h (fun x1 x2=>⟨[(18,pN x2),(17,pN (a.Laws.n:Int)),(16,.p (vSl 18 B3 a.Laws)),(3,.mref 15000),(1,.reg 2000 0)],[(15000,.map (Pg PV.str (pI .i64) x1)),(2000,.cells ((B6 a).map .p))]⟩) (ids:=[(2000,2000),(15000,15000)]) (fun _ _ _ _ _ d x1 x2 c h=>?_);apply kI Z h<;>intro h
 .obtain⟨c10,h⟩:=I5 h;obtain⟨y4,e4,h⟩:=D1 h;refine F0 Z [] (And.intro c10 Oe) (Ib Z Y e4) ?_;apply kI Z h<;>intro h
  .cases h;exact kR Z
  rcases o3:Dx eqS (a.Laws.g x2.toNat).Name x1 with _|v3
  .replace h:=optN o3 h;refine LI Z Mz (kt:=Fz) (e:=H6) (key:=PV.str (a.Laws.g x2.toNat).Name) (es:=Pg PV.str (pI .i64) x1) (x:=pI .i64 0) (b:=false) (fd:=none) ((Gj (kP:=PV.str) (vP:=pI .i64) (eq:=eqS) (fun _ _=>by kernel_rfl) (a.Laws.g x2.toNat).Name x1).trans (by rw[o3];rfl)) Mz ?_;refine QB Z Mz (kt:=Fz) (key:=PV.str (a.Laws.g x2.toNat).Name) (y:=pI .i64 (wrap .i64 (0+1))) (es:=Pg PV.str (pI .i64) x1) (LH (kP:=PV.str) (vP:=pI .i64) (eq:=eqS) (fun _ _=>by kernel_rfl) (a.Laws.g x2.toNat).Name (wrap .i64 (0+1)) x1) Mz ?_;exact c _ [(2000,2000),(15000,15000)] _ (Qv eqS (a.Laws.g x2.toNat).Name (wrap .i64 (0+1)) x1) (wrap .i64 (x2+1)) Mz h
  replace h:=optS o3 h;refine LI Z Mz (kt:=Fz) (e:=H6) (key:=PV.str (a.Laws.g x2.toNat).Name) (es:=Pg PV.str (pI .i64) x1) (x:=pI .i64 v3) (b:=true) (fd:=some (pI .i64 v3)) ((Gj (kP:=PV.str) (vP:=pI .i64) (eq:=eqS) (fun _ _=>by kernel_rfl) (a.Laws.g x2.toNat).Name x1).trans (by rw[o3];rfl)) Mz ?_;refine QB Z Mz (kt:=Fz) (key:=PV.str (a.Laws.g x2.toNat).Name) (y:=pI .i64 (wrap .i64 (v3+1))) (es:=Pg PV.str (pI .i64) x1) (LH (kP:=PV.str) (vP:=pI .i64) (eq:=eqS) (fun _ _=>by kernel_rfl) (a.Laws.g x2.toNat).Name (wrap .i64 (v3+1)) x1) Mz ?_;exact c _ [(2000,2000),(15000,15000)] _ (Qv eqS (a.Laws.g x2.toNat).Name (wrap .i64 (v3+1)) x1) (wrap .i64 (x2+1)) Mz h
 apply kI Z h<;>intro h
 .cases h;exact kR Z
 apply kI Z h<;>intro h
 .cases h;exact kR Z
 refine kC Z h (Nb Z Y) (fun y5 h=>?_);cases h;exact kR Z
def Bi (N:Nat)(b:A7)(a:Int):Option Bool:= some ((decide (0<=a))&&(decide (a<(b.Tree.n:Int))))
theorem Ot {c:A7}{b:Int}{y:Bool}(h:Bi N c b=some y) :FunO S HC [.p (.agg (B6 c)),pN b] [] (pB y) ([]) []:=by unfold Bi at h;refine A3 Z func84 ?_;refine kB Z (B2 Z) Mz Mz 6 (.n (.a (decide (0<=b))) (.a (decide (b<(c.Tree.n:Int))))) ?_;cases h;exact kR Z
def Q2 (N:Nat)(q0:Int)(q1:Sl U1):Option (List (Int)):= W9 N (fun a (x1:Int) (x2:Sl Int)=>if (decide (0<=x1)) then if (((x2.n+(Sl.of [x1]:Sl Int).n)*8<=140737488355328/\x2.n+(Sl.of [x1]:Sl Int).n<=140737488355328)/\((0:Int)<=x1/\x1<(q1.n:Int)))then a (q1.g x1.toNat).Parent (x2.push x1) else none else S3 N (fun b (x3:Int)=>if (decide (0<=x3)) then if (((0:Int)<=x3/\x3<(x2.n:Int))/\x3.toNat<x2.n)then Y4 (x2.g x3.toNat) (b (wrap .i64 (x3-1))) else none else some []) (wrap .i64 ((x2.n:Int)-1))) q0 Ra
theorem Nc {q0:Int}{q1:Sl U1}{L:List (Int)}(h:Q2 N q0 q1=some L) :Dh S BH [] [.reg 0 0,.reg 1 0] [.cells [pN q0],.cells [.p (vSl 2 H3 q1)]] (L.map (fun (x:Int)=>[pI .i64 x])):=by
 unfold Q2 at h;refine DY Z func104 ?_;refine HZ Z Mz h (fun x1 x2 L1=>⟨[(4,.vec 5500),(2,.reg 1 0),(1,.reg 0 0),(0,.yf 2)],[(5500,.vec H6 1 x2.n (fun i=>cI .i64 (x2.g i)) false),(2,.yld (L1.map (fun (x:Int)=>[pI .i64 x])) true),(1,.cells [.p (vSl 2 H3 q1)]),(0,.cells [pN x1])]⟩) (ids:=[(0,0),(1,1),(2,2)]) (fun _ _ _ _ _ f x1 x2 L1 j h=>?_);apply kI Z h<;>intro h
 .obtain⟨c4,h⟩:=I5 h;exact j _ [(0,0),(1,1),(2,2),(5500,17000)] _ (q1.g x1.toNat).Parent (x2.push x1) L1 (And.intro (And.intro Og c4.1) c4.2) h (hle:=klR [(0,.fn (x2.n+1) (x2.push x1).n (Cb x2.n (fun i=>cI .i64 (x2.g i)) (J5 [pI .i64 0] [(0,cI .i64 x1)])) (fun i=>cI .i64 ((x2.push x1).g i)))] (al1 ⟨rfl,Uf (c:=cI .i64) (v:=x2) (x:=x1) (z:=[(pI .i64 0)]) same rfl rfl⟩ al0))
 refine Gn Z Mz h (fun x3 L2=>⟨[(5,pN x3),(4,.vec 5500),(0,.yf 2)],[(5500,.vec H6 1 x2.n (fun i=>cI .i64 (x2.g i)) false),(2,.yld (L2.map (fun (x:Int)=>[pI .i64 x])) true),(1,.cells [.p (vSl 2 H3 q1)]),(0,.cells [pN x1])]⟩) (ids:=[(0,0),(1,1),(2,2),(5500,5500)]) (fun _ _ _ _ _ l x3 L2 m h=>?_);apply kI Z h<;>intro h
 .obtain⟨c14,h⟩:=I5 h;obtain⟨L5,rfl,d⟩:=Li h;replace h:=d;refine Dy Z c14 (ys:=(fun (x:Int)=>[pI .i64 x]) (x2.g x3.toNat)) (rest:=L5.map (fun (x:Int)=>[pI .i64 x])) ?_ ?_
  .refine E7 Z Mz (b:=false) (fun c15=>?_) (fun c15=>?_)
   .exact Bool.noConfusion ((rfl:false=false).symm.trans c15)
   exact m _ [(0,0),(1,1),(2,2),(5500,5500)] _ (wrap .i64 (x3-1)) L5 Mz h
  refine E7 Z Mz (b:=true) (fun c16=>?_) (fun c16=>?_)
  .exact A6 Z Mz (a:=.tup []) (objs:=[(.cells [pN x1]),.cells [.p (vSl 2 H3 q1)],.yld [] false]) ⟨[],[(2,.yld [] false),(1,.cells [.p (vSl 2 H3 q1)]),(0,.cells [pN x1])]⟩ [0,1,2] (ids:=[(0,0),(1,1),(2,2)]) ⟨false,rfl,rfl,_,rfl⟩
  exact Bool.noConfusion (Og.symm.trans c16)
 obtain rfl:=B9 h;exact A6 Z Mz (a:=.tup []) (objs:=[(.cells [pN x1]),.cells [.p (vSl 2 H3 q1)],.yld [] true]) ⟨[],[(2,.yld [] true),(1,.cells [.p (vSl 2 H3 q1)]),(0,.cells [pN x1])]⟩ [0,1,2] (ids:=[(0,0),(1,1),(2,2)]) ⟨true,rfl,rfl,_,rfl⟩
def BO (N:Nat)(a:Sl U1)(b:Int):Option (Int×(Sl U1)):= some (b,a)
theorem Rn {a:Sl U1}{b:Int}{y:Int×(Sl U1)}(h:BO N a b=some y) :FunO S IX [.p (vSl 2 H3 a),pN b] [] (.clo BH [] [.reg 0 0,.reg 1 0]) ([.cells [pN y.1],.cells [.p (vSl 2 H3 y.2)]]) []:=by unfold BO at h;refine A3 Z func85 ?_;obtain rfl:=B9 h;exact A6 Z Mz ⟨[(4,.clo BH [] [.reg 4000 0,.reg 3000 0])],[(4000,.cells [pN b]),(3000,.cells [.p (vSl 2 H3 a)])]⟩ [4000,3000] (ids:=[(3000,3000),(4000,4000)]) ⟨rfl,rfl,rfl⟩
def W0 (N:Nat)(a:A7)(c:Int):Option ((Sl Int)×Int):= (Q1 N a).bind fun y1=>if (y1 != 0) then some (Ra,y1) else (Bi N a c).bind fun y2=>if (!y2) then some (Ra,3) else (BO N a.Tree c).bind fun y3=>(Q2 N y3.1 y3.2).bind fun L1=>O1 L1 (fun b (x1:Int) (z1:Sl Int)=>if (((0:Int)<=x1/\x1<(a.On.n:Int))/\((z1.n+(a.On.g x1.toNat).n)*8<=140737488355328/\z1.n+(a.On.g x1.toNat).n<=140737488355328))then b (z1.app (a.On.g x1.toNat)) else none) (fun (z1:Sl Int)=>some (z1,0)) Ra
theorem Ou {a:A7}{b:Int}{y:(Sl Int)×Int}(h:W0 N a b=some y) :FunO S Hz [.p (.agg (B6 a)),pN b] [] (.tup [.vec 0,pN y.2]) ([.vec H6 1 y.1.n (fun i=>cI .i64 (y.1.g i)) true]) []:=by
 unfold W0 at h;refine A3 Z func59 ?_;refine W7 Z Mz 4 3000 (B6 a) ?_;obtain⟨y1,e1,h⟩:=D1 h;refine F0 Z [] Oc (GI Z Y e1) ?_;apply kI Z h<;>intro h
 .obtain rfl:=B9 h;exact A6 Z Mz ⟨[(5,pN y1),(4,.vec 5700)],[(5700,.vec H6 1 Ra.n (fun i=>cI .i64 (Ra.g i)) true)]⟩ [5700] (ids:=[]) ⟨rfl,rfl,rfl⟩
 obtain⟨y2,e2,h⟩:=D1 h;refine F0 Z [] Oc (Ot Z Y e2) ?_;apply kI Z h<;>intro h
 .obtain rfl:=B9 h;exact A6 Z Mz ⟨[(5,pN 3),(4,.vec 5700)],[(5700,.vec H6 1 Ra.n (fun i=>cI .i64 (Ra.g i)) true)]⟩ [5700] (ids:=[]) ⟨rfl,rfl,rfl⟩
 refine kC Z h (Rn Z Y) (fun y3 h=>?_);obtain⟨L1,e4,h⟩:=D1 h;refine JO Z Mz [22000,22001] [7,2] 901 (fun z1=>⟨[(7,.reg 8000 0),(2,.p (.ptr (B6 a)))],[(8500,.vec H6 1 z1.n (fun i=>cI .i64 (z1.g i)) false),(8000,.cells [.vec 8500])]⟩) (idl:=[(8000,8000)]) h (Nc Z Y e4) (fun _=>by kernel_rfl) (fun _=>by kernel_rfl) (fun _=>by kernel_rfl) (fun _=>by kernel_rfl) (fun x1 _ d z1 f h=>?_) (fun z1 h=>?_)
 .refine Lj Z Mz ?_;refine J0 Z Mz [2,4,5] ?_;obtain⟨c5,h⟩:=I5 h;refine N2 c5 ?_;exact f _ [(901,901),(8000,8000),(8500,30000)] _ (z1.app (a.On.g x1.toNat)) Mz h (hle:=klR [(0,.fn (z1.n+(a.On.g x1.toNat).n) (z1.app (a.On.g x1.toNat)).n (Cb z1.n (fun i=>cI .i64 (z1.g i)) (fun i=>cI .i64 ((a.On.g x1.toNat).g i))) (fun i=>cI .i64 ((z1.app (a.On.g x1.toNat)).g i)))] (al1 ⟨rfl,appL (c:=cI .i64) (v:=z1) (w:=a.On.g x1.toNat) same rfl same rfl⟩ al0))
 obtain rfl:=B9 h;exact A6 Z Mz ⟨[(5,pN 0),(4,.vec 8500)],[(8500,.vec H6 1 z1.n (fun i=>cI .i64 (z1.g i)) true)]⟩ [8500] (ids:=[(8500,8500)]) ⟨rfl,rfl,rfl⟩
def Q3 (rec:Pat->Option Pat)(N:Nat)(a:Pat):Option Pat:= W9 N (fun b (x1:Sl Pat) (x2:Int)=>if (decide (x2<(a.L.n:Int))) then if ((0:Int)<=x2/\x2<(a.L.n:Int))then (rec (a.L.g x2.toNat)).bind fun y3=>if ((x1.n+(Sl.of [y3]:Sl Pat).n)*64<=140737488355328/\x1.n+(Sl.of [y3]:Sl Pat).n<=140737488355328)then b (x1.push y3) (wrap .i64 (x2+1)) else none else none else some (Pat.mk a.Kind a.Is a.Not a.Min a.Max x1.n x1.g)) (Sl.nil:Sl Pat) 0
def P3:Nat->Pat->Option Pat
 |0=>fun _=>none
 |N+1=>Q3 (P3 N) N
theorem Jk {rec:Pat->Option Pat}(b:∀{a:Pat}{y:Pat},rec a=some y->FunO S Ap [.p (.agg (E1 a))] [] (.p (.agg (E1 y))) ([]) []){a:Pat}{y:Pat}(h:Q3 rec N a=some y) :FunO S Ap [.p (.agg (E1 a))] [] (.p (.agg (E1 y))) ([]) []:=by
 unfold Q3 at h;refine A3 Z func105 ?_;refine Bo Z Mz 8 ⟨[(7,.p (vSl 7 E1 a.L)),(3,.p AH),(2,.reg 3000 0),(1,.reg 2000 0)],[(3000,.cells [pN 0,pU 0,pU 0,.p (.v (.bool false)),pN 0,pN 0,.p AH]),(2000,.cells ((E1 a).map .p))]⟩ (ids:=[(2000,2000),(3000,3000)]) ?_ (hle:=klR [(0,.fn a.L.n a.L.n (Fs a) (fun i=>E1 (a.L.g i)))] (al1 ⟨rfl,Di a⟩ al0));refine Q5 Z Mz h (fun x1 x2=>⟨[(9,pN x2),(8,pN (a.L.n:Int)),(7,.p (vSl 7 E1 a.L)),(3,.vec 4500),(2,.reg 3000 0),(1,.reg 2000 0)],[(4500,.vec ET 7 x1.n (fun i=>E1 (x1.g i)) false),(3000,.cells [pN 0,pU 0,pU 0,.p (.v (.bool false)),pN 0,pN 0,.p AH]),(2000,.cells ((E1 a).map .p))]⟩) (ids:=[(2000,2000),(3000,3000)]) (fun _ _ _ _ _ d x1 x2 f h=>?_);apply kI Z h<;>intro h
 .obtain⟨c6,h⟩:=I5 h;obtain⟨y3,e3,h⟩:=D1 h;refine F0 Z [] (And.intro c6 Od) (b e3) ?_;obtain⟨c7,h⟩:=I5 h;exact f _ [(2000,2000),(3000,3000),(4500,18000)] _ (x1.push y3) (wrap .i64 (x2+1)) (And.intro Og c7) h (hle:=klR [(3,.fn (x1.n+1) (x1.push y3).n (Cb x1.n (fun i=>E1 (x1.g i)) (J5 [pI .i64 0,pI .u32 0,pI .u32 0,.v (.bool false),pI .i64 0,pI .i64 0,AH] [(0,E1 y3)])) (fun i=>E1 ((x1.push y3).g i)))] (al1 ⟨rfl,Uf (c:=E1) (v:=x1) (x:=y3) (z:=[(pI .i64 0),pI .u32 0,pI .u32 0,.v (.bool false),pI .i64 0,pI .i64 0,AH]) same rfl rfl⟩ al0))
 obtain rfl:=B9 h;exact A6 Z Mz ⟨[(2,.reg 3000 0)],[(3000,.cells [pN a.Kind,pU a.Is.Plus,pU a.Is.Minus,pB a.Not,pN a.Min,pN a.Max,.p (.sl false 7 x1.n (Fs (Pat.mk a.Kind a.Is a.Not a.Min a.Max x1.n x1.g)))])]⟩ [] (ids:=[(3000,3000)]) ⟨rfl,rfl,rfl⟩
theorem EU {a:Pat}{y:Pat}(h:P3 N a=some y) :FunO S Ap [.p (.agg (E1 a))] [] (.p (.agg (E1 y))) ([]) []:=by
 induction N generalizing a y with
 |zero=>cases (show (none:Option Pat)=some y from h)
 |succ N ih=>exact Jk Z Y (fun e=>ih e) h
def U9 (N:Nat)(a:Law):Option Law:= (P3 N a.Left).bind fun y1=>(P3 N a.Right).bind fun y2=>(A5 N a.If).bind fun y3=>(G1 N a.Out).bind fun y4=>some (⟨a.Name,y1,y2,y3,y4,a.Mode⟩:Law)
theorem Lt {a:Law}{y:Law}(h:U9 N a=some y) :FunO S FP [.p (.agg (B3 a))] [] (.p (.agg (B3 y))) ([]) []:=by unfold U9 at h;refine A3 Z func86 ?_;refine J0 Z Mz [2,5] ?_;obtain⟨y1,e1,h⟩:=D1 h;refine Bv Mz (EU Z Y e1) ?_;obtain⟨y2,e2,h⟩:=D1 h;refine Bv Mz (EU Z Y e2) ?_;refine N2 Mz ?_;refine J0 Z Mz [2,5] ?_;obtain⟨y3,e3,h⟩:=D1 h;refine Bv Mz (Ar Z Y e3) ?_;obtain⟨y4,e4,h⟩:=D1 h;refine Bv Mz (Bx Z Y e4) ?_;refine N2 Mz ?_;cases h;exact kR Z
def S1 (N:Nat)(c:A7)(a:Sl Int):Option (Sl Law):= W9 N (fun b (x1:Sl Law) (x2:Int)=>if (decide (x2<(a.n:Int))) then if (((0:Int)<=x2/\x2<(a.n:Int))/\((0:Int)<=(a.g x2.toNat)/\(a.g x2.toNat)<(c.Laws.n:Int)))then (U9 N (c.Laws.g (a.g x2.toNat).toNat)).bind fun y3=>if ((x1.n+(Sl.of [y3]:Sl Law).n)*200<=140737488355328/\x1.n+(Sl.of [y3]:Sl Law).n<=140737488355328)then b (x1.push y3) (wrap .i64 (x2+1)) else none else none else some x1) (Sl.nil:Sl Law) 0
theorem Ov {b:A7}{a:Sl Int}{y:Sl Law}(h:S1 N b a=some y) :FunO S HA [.p (.agg (B6 b)),.p (vSl 1 (cI .i64) a)] [] (.p (vSl 18 B3 y)) ([]) []:=by
 unfold S1 at h;refine A3 Z func60 ?_;refine Q5 Z Mz h (fun x1 x2=>⟨[(10,pN x2),(9,pN (a.n:Int)),(8,.p (vSl 1 (cI .i64) a)),(5,.vec 6500),(2,.reg 3000 0)],[(6500,.vec Ti 18 x1.n (fun i=>B3 (x1.g i)) false),(3000,.cells ((B6 b).map .p))]⟩) (ids:=[(3000,3000)]) (fun _ _ _ _ _ d x1 x2 f h=>?_);apply kI Z h<;>intro h
 .obtain⟨c6,h⟩:=I5 h;obtain⟨y3,e3,h⟩:=D1 h;refine F0 Z [] (And.intro (And.intro c6.1 c6.2) Oe) (Lt Z Y e3) ?_;obtain⟨c7,h⟩:=I5 h;exact f _ [(3000,3000),(6500,23000)] _ (x1.push y3) (wrap .i64 (x2+1)) (And.intro Og c7) h (hle:=klR [(3,.fn (x1.n+1) (x1.push y3).n (Cb x1.n (fun i=>B3 (x1.g i)) (J5 [.str [],pI .i64 0,pI .u32 0,pI .u32 0,.v (.bool false),pI .i64 0,pI .i64 0,AH,pI .i64 0,pI .u32 0,pI .u32 0,.v (.bool false),pI .i64 0,pI .i64 0,AH,AH,AH,pI .i64 0] [(0,B3 y3)])) (fun i=>B3 ((x1.push y3).g i)))] (al1 ⟨rfl,Uf (c:=B3) (v:=x1) (x:=y3) (z:=[(.str []),pI .i64 0,pI .u32 0,pI .u32 0,.v (.bool false),pI .i64 0,pI .i64 0,AH,pI .i64 0,pI .u32 0,pI .u32 0,.v (.bool false),pI .i64 0,pI .i64 0,AH,AH,AH,pI .i64 0]) same rfl rfl⟩ al0))
 obtain rfl:=B9 h;exact A6 Z Mz ⟨[(4,.p (vSl 18 B3 x1))],[]⟩ [] (ids:=[]) ⟨rfl,rfl,rfl⟩
def S2 (N:Nat)(a:A7)(b:Int):Option ((Sl Law)×Int):= (W0 N a b).bind fun y1=>(S1 N a y1.1).bind fun y2=>some (y2,y1.2)
theorem Ow {a:A7}{b:Int}{y:(Sl Law)×Int}(h:S2 N a b=some y) :FunO S Hx [.p (.agg (B6 a)),pN b] [] (.tup [.p (vSl 18 B3 y.1),pN y.2]) ([]) []:=by unfold S2 at h;refine A3 Z func36 ?_;refine kC Z h (Ou Z Y) (fun y1 h=>?_);refine kC Z h (Ov Z Y) (fun y2 h=>?_);cases h;exact kR Z
end Go.AM
namespace Go.AM
open IntKind (wrap)
open Go.Proofs
set_option maxRecDepth 10000
set_option maxHeartbeats 2000000
variable {S:W8}(Z:G8 S Tryz.prog) (Y:Oh S)
abbrev Yh {T:Type}(e:TypeId)(k:Nat)(c:T->List PV)(x:Sl T):Obj:=.vec e k x.n (fun q=>c (x.g q)) false
theorem obPut {T:Type}{e:TypeId}{k n i:Nat}{c:T->List PV}{X:Sl (Sl T)}{z:Sl T}:∀q,q<n->(fun q=>if q=i then Yh e k c z else if q=i then Obj.dead else Yh e k c (X.g q)) q=(fun q=>Yh e k c ((X.upd i z).g q)) q:=fun q _=>by by_cases h:q=i<;>simp[h]
include Z Y
def Z7 (N:Nat)(a:Sl U1):Option (Sl (Sl Int)):= if ((0:Int)<=(a.n:Int)/\(a.n:Int)<=(a.n:Int)/\(a.n:Int)*24<=140737488355328/\(a.n:Int)<=140737488355328)then W9 N (fun b (x:Int) (X:Sl (Sl Int))=>if (decide (x<(a.n:Int))) then if ((0:Int)<=x/\x<(a.n:Int))then if (a.g x.toNat).Parent.toNat<X.n then lt (fun (z:Sl Int)=>b (wrap .i64 (x+1)) (X.upd (a.g x.toNat).Parent.toNat z)) fun k=>if (decide (0<x)) then if (((0:Int)<=(a.g x.toNat).Parent/\(a.g x.toNat).Parent<(X.n:Int))/\(((X.g (a.g x.toNat).Parent.toNat).n+1)*8<=140737488355328/\(X.g (a.g x.toNat).Parent.toNat).n+1<=140737488355328))then k ((X.g (a.g x.toNat).Parent.toNat).push x) else none else k (X.g (a.g x.toNat).Parent.toNat) else none else none else some X) 0 ⟨a.n,fun _=>Sl.nil⟩ else none
theorem Nd {N:Nat}{b:Sl U1}{y:Sl (Sl Int)}(h:Z7 N b=some y) :FunO S Gt [.p (vSl 2 H3 b)] [] (.p (vSl 1 (cL 1 (cI .i64)) y)) [] []:=by
 unfold Z7 at h;refine A3 Z Tryz.func27 ?_;obtain⟨c1,h⟩:=I5 h;refine WG Z c1 9 (.fam 9000 9901 fun i=>Yh H6 1 (cI .i64) ((⟨b.n,fun _=>Sl.nil⟩:Sl (Sl Int)).g i)) (⟨by decide,fun i _=>rfl⟩:1000<=9901/\∀i,i<b.n->YX [AH] (Yh H6 1 (cI .i64) ((⟨b.n,fun _=>Sl.nil⟩:Sl (Sl Int)).g i))) ?_;refine Q5 Z Mz h (fun x X=>⟨[(11,pN x),(10,pN (b.n:Int)),(9,.p (vSl 2 H3 b)),(3,.vec 9000)],[(9901,.rows X.n fun i=>Yh H6 1 (cI .i64) (X.g i)),(9000,.fam Re X.n 9901 none)]⟩) (ids:=[(9901,9901),(9000,9000)]) (fun _ _ _ _ _ j x X f h=>?_);apply kI Z h<;>intro h
 .obtain⟨c2,h⟩:=I5 h;obtain⟨c3,h⟩:=I5 h;refine WG Z (And.intro c2 Ob) 17 (.take 9000 (b.g x.toNat).Parent.toNat 9801) (⟨⟨by decide,rfl⟩,c3⟩:(1000<=9801/\X.n=X.n)/\(b.g x.toNat).Parent.toNat<X.n) ?_;refine QC Z Mz (B2 Z) h 0 (fun z=>⟨[(11,pN x),(10,pN (b.n:Int)),(9,.p (vSl 2 H3 b)),(3,.vec 9000)],
   [(9901,(.rows X.n fun l=>if l=(b.g x.toNat).Parent.toNat then .dead else Yh H6 1 (cI .i64) (X.g l))),(9801,Yh H6 1 (cI .i64) z),(9000,.fam Re X.n 9901 (some ((b.g x.toNat).Parent.toNat,.vec 9801)))]⟩) (fun M k d h=>?_) (fun z h=>?_)
  .apply kI Z h<;>intro h
   .obtain⟨c4,h⟩:=I5 h;refine U0 Z Mz [(0,.n),(1,.n),(2,.l [6000]),(3,.n),(4,.n),(5,.l [6000]),(6,.l [9000]),(7,.l [9000]),(8,.n),(10,.a [29000,9801]),(11,.l [9000]),(12,.a [9000])] ?_;refine Gm (And.intro c4.1 (And.intro c3 (rfl:(b.g x.toNat).Parent.toNat=(b.g x.toNat).Parent.toNat))) (x:=.sl true 1 1 (J5 [pI .i64 0] [(0,cI .i64 x)])) ?_;refine N2 (And.intro (And.intro c4.2 c4.1) (And.intro c3 (rfl:(b.g x.toNat).Parent.toNat=(b.g x.toNat).Parent.toNat))) ?_;exact d _ [(9901,9901),(9801,29000),(9000,9000)] _ ((X.g (b.g x.toNat).Parent.toNat).push x) Mz h (hle:=klR [(5,.fn ((X.g (b.g x.toNat).Parent.toNat).n+1) ((X.g (b.g x.toNat).Parent.toNat).push x).n (Cb (X.g (b.g x.toNat).Parent.toNat).n (fun i=>cI .i64 ((X.g (b.g x.toNat).Parent.toNat).g i)) (J5 [pI .i64 0] [(0,cI .i64 x)])) (fun i=>cI .i64 (((X.g (b.g x.toNat).Parent.toNat).push x).g i)))] (al1 ⟨rfl,Uf (c:=cI .i64) (v:=X.g (b.g x.toNat).Parent.toNat) (x:=x) (z:=[(pI .i64 0)]) same rfl rfl⟩ al0))
   exact d _ [(9901,9901),(9801,9801),(9000,9000)] _ (X.g (b.g x.toNat).Parent.toNat) Mz h
  refine WG Z Mz 30 (.put 9000 9902) (⟨⟨by decide,rfl⟩,c3⟩:(1000<=9902/\X.n=X.n)/\(b.g x.toNat).Parent.toNat<X.n) ?_;exact f _ [(9901,9902),(9000,9000)] _ (wrap .i64 (x+1)) (X.upd (b.g x.toNat).Parent.toNat z) Mz h (hle:=klR [(4,.ob X.n (fun q=>if q=(b.g x.toNat).Parent.toNat then Yh H6 1 (cI .i64) z else if q=(b.g x.toNat).Parent.toNat then .dead else Yh H6 1 (cI .i64) (X.g q)) fun i=>Yh H6 1 (cI .i64) ((X.upd (b.g x.toNat).Parent.toNat z).g i))] (al1 obPut al0))
 refine WG Z Mz 31 (.pub 9000) (⟨rfl,fun i _=>rfl⟩:X.n=X.n/\∀i,i<X.n->(VO (Yh H6 1 (cI .i64) (X.g i))).isSome=true) ?_;obtain rfl:=B9 h;exact A6 Z Mz ⟨[(2,.p (vSl 1 (cL 1 (cI .i64)) X))],[]⟩ [] (ids:=[]) ⟨rfl,rfl,rfl⟩ (hle:=klR [(0,.fn X.n X.n (fun i=>[(VO (Yh H6 1 (cI .i64) (X.g i))).getD default]) (fun i=>cL 1 (cI .i64) (X.g i)))] (al1 ⟨rfl,fun _ _=>rfl⟩ al0))
end Go.AM
namespace Go.AM
open IntKind (wrap)
open Go.Proofs
set_option maxRecDepth 10000
set_option maxHeartbeats 2000000
variable {S:W8}(Z:G8 S Tryz.prog) (Y:Oh S)
include Z Y
def BP (N:Nat)(b:Sl U1):Option (Sl Int):= (Z7 N b).bind fun y1=>W9 N (fun a (x1:Sl Int) (x2:Int)=>if (decide (x2<(y1.n:Int))) then if ((0:Int)<=x2/\x2<(y1.n:Int))then if (((y1.g x2.toNat).n:Int)==0) then if ((x1.n+(Sl.of [x2]:Sl Int).n)*8<=140737488355328/\x1.n+(Sl.of [x2]:Sl Int).n<=140737488355328)then a (x1.push x2) (wrap .i64 (x2+1)) else none else a x1 (wrap .i64 (x2+1)) else none else some x1) Ra 0
theorem Ro {N:Nat}{a:Sl U1}{y:Sl Int}(h:BP N a=some y) :FunO S IN [.p (vSl 2 H3 a)] [] (.vec 0) ([.vec H6 1 y.n (fun i=>cI .i64 (y.g i)) true]) []:=by
 unfold BP at h;refine A3 Z Tryz.func16 ?_;refine kC Z h (Nd Z Y) (fun y1 h=>?_);refine Q5 Z Mz h (fun x1 x2=>⟨[(9,pN x2),(8,pN (y1.n:Int)),(7,.p (vSl 1 (cL 1 (cI .i64)) y1)),(3,.vec 4500)],[(4500,.vec H6 1 x1.n (fun i=>cI .i64 (x1.g i)) false)]⟩) (ids:=[]) (fun _ _ _ _ _ f x1 x2 d h=>?_);apply kI Z h<;>intro h
 .obtain⟨c8,h⟩:=I5 h;refine E7 Z c8 (b:=((y1.g x2.toNat).n:Int)==0) (fun c9=>?_) (fun c9=>?_)
  .replace h:=itT c9 h;obtain⟨c10,h⟩:=I5 h;exact d _ [(4500,21000)] _ (x1.push x2) (wrap .i64 (x2+1)) (And.intro Og c10) h (hle:=klR [(3,.fn (x1.n+1) (x1.push x2).n (Cb x1.n (fun i=>cI .i64 (x1.g i)) (J5 [pI .i64 0] [(0,cI .i64 x2)])) (fun i=>cI .i64 ((x1.push x2).g i)))] (al1 ⟨rfl,Uf (c:=cI .i64) (v:=x1) (x:=x2) (z:=[(pI .i64 0)]) same rfl rfl⟩ al0))
  replace h:=itF c9 h;exact d _ [(4500,4500)] _ x1 (wrap .i64 (x2+1)) Mz h
 obtain rfl:=B9 h;exact A6 Z Mz ⟨[(2,.vec 4500)],[(4500,.vec H6 1 x1.n (fun i=>cI .i64 (x1.g i)) true)]⟩ [4500] (ids:=[(4500,4500)]) ⟨rfl,rfl,rfl⟩
def Ay (N:Nat)(a:Sl U1):Option ((Sl Int)×Int):= (T7 N a).bind fun y1=>if (y1 != 0) then some (Ra,y1) else (BP N a).bind fun y2=>some (y2,0)
theorem Jl {N:Nat}{a:Sl U1}{y:(Sl Int)×Int}(h:Ay N a=some y) :FunO S IL [.p (vSl 2 H3 a)] [] (.tup [.vec 0,pN y.2]) ([.vec H6 1 y.1.n (fun i=>cI .i64 (y.1.g i)) true]) []:=by
 unfold Ay at h;refine A3 Z Tryz.func5 ?_;refine kC Z h (GH Z Y) (fun y1 h=>?_);apply kI Z h<;>intro h
 .obtain rfl:=B9 h;exact A6 Z Mz ⟨[(3,pN y1),(2,.vec 3700)],[(3700,.vec H6 1 Ra.n (fun i=>cI .i64 (Ra.g i)) true)]⟩ [3700] (ids:=[]) ⟨rfl,rfl,rfl⟩
 refine kC Z h (Ro Z Y) (fun y2 h=>?_);obtain rfl:=B9 h;exact A6 Z Mz ⟨[(3,pN 0),(2,.vec 12000)],[(12000,.vec H6 1 y2.n (fun i=>cI .i64 (y2.g i)) true)]⟩ [12000] (ids:=[(12000,12000)]) ⟨rfl,rfl,rfl⟩
end Go.AM
namespace Go.AM
open IntKind (wrap)
open Go.Proofs
def K3 (N:Nat)(a:Tb):Option Bool:= S3 N (fun b (x1:Int)=>if (decide (x1<32)) then if ((0:Int)<=x1/\(0:Int)<=x1)then if ((((G7 .and .u32 (shI .shr .u32 a.Plus x1) 1)==1)&&((G7 .and .u32 (shI .shr .u32 a.Minus x1) 1)==1))||((((G7 .and .u32 (shI .shr .u32 a.Plus x1) 1)==1)||((G7 .and .u32 (shI .shr .u32 a.Minus x1) 1)==1))&&(decide (24<=x1)))) then some false else b (wrap .i64 (x1+1)) else none else some true) 0
def Jm (N:Nat)(a:Int):Option Bool:= some ((decide (0<=a))&&(decide (a<24)))
def BQ (N:Nat)(b:Tb)(a:Int):Option Int:= (K3 N b).bind fun y1=>lt (fun (z1:Bool)=>if z1 then some 0 else if (0:Int)<=a then if ((G7 .and .u32 (shI .shr .u32 b.Plus a) 1)==1) then some 1 else if (0:Int)<=a then if ((G7 .and .u32 (shI .shr .u32 b.Minus a) 1)==1) then some (-1) else some 0 else none else none) fun k1=>if (!y1) then k1 true else (Jm N a).bind fun y3=>k1 (!y3)
def EV (N:Nat)(b:Tb)(a:Int)(c:Int):Option Tb:= if (0:Int)<=a then if (c==1) then if (c==(-1)) then some (⟨G7 .or .u32 (G7 .andNot .u32 b.Plus (shI .shl .u32 1 a)) (shI .shl .u32 1 a),G7 .or .u32 (G7 .andNot .u32 b.Minus (shI .shl .u32 1 a)) (shI .shl .u32 1 a)⟩:Tb) else some (⟨G7 .or .u32 (G7 .andNot .u32 b.Plus (shI .shl .u32 1 a)) (shI .shl .u32 1 a),G7 .andNot .u32 b.Minus (shI .shl .u32 1 a)⟩:Tb) else if (c==(-1)) then some (⟨G7 .andNot .u32 b.Plus (shI .shl .u32 1 a),G7 .or .u32 (G7 .andNot .u32 b.Minus (shI .shl .u32 1 a)) (shI .shl .u32 1 a)⟩:Tb) else some (⟨G7 .andNot .u32 b.Plus (shI .shl .u32 1 a),G7 .andNot .u32 b.Minus (shI .shl .u32 1 a)⟩:Tb) else none
def Z8 (N:Nat)(c:Tb)(a:Tb):Option Bool:= (K3 N c).bind fun y1=>lt (fun (z1:Bool)=>if z1 then some false else S3 N (fun b (x3:Int)=>if (decide (x3<24)) then (BQ N a x3).bind fun d=>lt (fun (z4:Bool)=>if z4 then some false else b (wrap .i64 (x3+1))) fun k4=>if (d != 0) then (BQ N c x3).bind fun f=>k4 (f != d) else k4 false else some true) 0) fun k1=>if (!y1) then k1 true else (K3 N a).bind fun y3=>k1 (!y3)
def Z9 (N:Nat)(d:Tb)(b:Int)(a:Tb):Option (Tb×Int):= (K3 N d).bind fun y1=>lt (fun (z1:Bool)=>if z1 then some ((⟨0,0⟩:Tb),14) else if ((decide (16777215<b))||((G7 .and .u32 b (G7 .or .u32 a.Plus a.Minus)) != 0)) then some ((⟨0,0⟩:Tb),2) else Ak9 N (fun c (x2:Int) (x3:Int) (x4:Int)=>if (decide (x4<24)) then if (0:Int)<=x4 then if ((G7 .and .u32 (shI .shr .u32 b x4) 1)==1) then (EV N (⟨x2,x3⟩:Tb) x4 0).bind fun f=>(BQ N a x4).bind fun j=>if (j != 0) then (BQ N a x4).bind fun l=>(EV N f x4 l).bind fun g=>c g.Plus g.Minus (wrap .i64 (x4+1)) else c f.Plus f.Minus (wrap .i64 (x4+1)) else (BQ N a x4).bind fun m=>if (m != 0) then (BQ N a x4).bind fun n=>(EV N (⟨x2,x3⟩:Tb) x4 n).bind fun i=>c i.Plus i.Minus (wrap .i64 (x4+1)) else c x2 x3 (wrap .i64 (x4+1)) else none else some ((⟨x2,x3⟩:Tb),0)) d.Plus d.Minus 0) fun k1=>if (!y1) then k1 true else (K3 N a).bind fun y3=>k1 (!y3)
def Cn (N:Nat)(d:Tb)(a:Tb)(b:Int):Option (Tb×Int):= (K3 N d).bind fun y1=>lt (fun (z1:Bool)=>if z1 then some ((⟨0,0⟩:Tb),14) else if (decide (16777215<b)) then some ((⟨0,0⟩:Tb),2) else Ak9 N (fun c (x2:Int) (x3:Int) (x4:Int)=>if (decide (x4<24)) then if (0:Int)<=x4 then if ((G7 .and .u32 (shI .shr .u32 b x4) 1)==1) then (BQ N a x4).bind fun y8=>(EV N (⟨x2,x3⟩:Tb) x4 y8).bind fun y9=>c y9.Plus y9.Minus (wrap .i64 (x4+1)) else c x2 x3 (wrap .i64 (x4+1)) else none else some ((⟨x2,x3⟩:Tb),0)) d.Plus d.Minus 0) fun k1=>if (!y1) then k1 true else (K3 N a).bind fun y3=>k1 (!y3)
def Aa (N:Nat)(a:Tb):Option Bool:= some ((((G7 .and .u32 a.Plus a.Minus)==0)&&(decide (a.Plus<16777216)))&&(decide (a.Minus<16777216)))
def Ic (N:Nat)(a:Sl Tb):Option Int:= if (decide (32<(a.n:Int))) then some 11 else S3 N (fun b (x1:Int)=>if (decide (x1<(a.n:Int))) then if ((0:Int)<=x1/\x1<(a.n:Int))then (Aa N (a.g x1.toNat)).bind fun y3=>if (!y3) then some 14 else b (wrap .i64 (x1+1)) else none else some 0) 0
def Ka (N:Nat)(a:Pat):Option Int:= if ((decide (a.Kind<0))||(decide (6<a.Kind))) then some 2 else if ((a.Kind != 1)&&((((a.Is.Plus==0)&&(a.Is.Minus==0)) != true)||a.Not)) then some 2 else lt (fun (z1:Bool)=>if z1 then some 2 else if ((a.Kind != 5)&&((a.Min != 0)||(a.Max != 0))) then some 2 else lt (fun (z2:Bool)=>if z2 then some 2 else (Aa N a.Is).bind fun y1=>if (!y1) then some 14 else some 0) fun k2=>if (a.Kind==5) then if ((a.L.n:Int) != 1) then k2 true else if (decide (a.Min<0)) then k2 true else if (decide (32<a.Min)) then k2 true else if (a.Max != (-1)) then if (decide (a.Max<a.Min)) then k2 true else k2 (decide (32<a.Max)) else k2 false else k2 false) fun k1=>if (a.Kind != 3) then if (a.Kind != 4) then if (a.Kind != 5) then k1 (decide (0<(a.L.n:Int))) else k1 false else k1 false else k1 false
def Nf (N:Nat)(b:Tb)(a:Tb):Option Bool:= some (((G7 .and .u32 b.Plus a.Plus)==a.Plus)&&((G7 .and .u32 b.Minus a.Minus)==a.Minus))
def GX (N:Nat)(a:Int):Option (Sl Int):= if ((0:Int)<=(wrap .i64 (a+1))/\(wrap .i64 (a+1))<=(wrap .i64 (a+1))/\(wrap .i64 (a+1))*8<=140737488355328/\(wrap .i64 (a+1))<=140737488355328)then W9 N (fun b (x1:Sl Int) (x2:Int)=>if (decide (x2<=a)) then if (((0:Int)<=x2/\((0:Int)<=x2/\x2<(x1.n:Int)))/\x2.toNat<x1.n)then b (x1.upd x2.toNat (shI .shl .u64 1 x2)) (wrap .i64 (x2+1)) else none else some x1) (Sl.rep (wrap .i64 (a+1)).toNat 0:Sl Int) 0 else none
def CH (N:Nat)(p_x:Sl Int)(b:Sl Int):Option (Sl Int):= if ((0:Int)<=(p_x.n:Int)/\(p_x.n:Int)<=(p_x.n:Int)/\(p_x.n:Int)*8<=140737488355328/\(p_x.n:Int)<=140737488355328)then W9 N (fun c (x3:Sl Int) (x4:Int)=>if (decide (x4<(p_x.n:Int))) then W9 N (fun a (x7:Sl Int) (x8:Int)=>if (decide (x8<(b.n:Int))) then if (((0:Int)<=x4/\x4<(p_x.n:Int))/\(0:Int)<=x8)then if ((G7 .and .u64 (shI .shr .u64 (p_x.g x4.toNat) x8) 1)==1) then if ((((((0:Int)<=x4/\x4<(x7.n:Int))/\x4.toNat<x7.n)/\((0:Int)<=x8/\x8<(b.n:Int)))/\((0:Int)<=x4/\x4<(x7.n:Int)))/\x4.toNat<x7.n)then a (x7.upd x4.toNat (G7 .or .u64 (x7.g x4.toNat) (b.g x8.toNat))) (wrap .i64 (x8+1)) else none else a x7 (wrap .i64 (x8+1)) else none else c x7 (wrap .i64 (x4+1))) x3 0 else some x3) (Sl.rep (p_x.n:Int).toNat 0:Sl Int) 0 else none
def GY (N:Nat)(p_x:Sl Int)(b:Sl Int):Option (Sl Int):= if ((0:Int)<=(p_x.n:Int)/\(p_x.n:Int)<=(p_x.n:Int)/\(p_x.n:Int)*8<=140737488355328/\(p_x.n:Int)<=140737488355328)then W9 N (fun a (x1:Sl Int) (x2:Int)=>if (decide (x2<(p_x.n:Int))) then if (((((0:Int)<=x2/\x2<(p_x.n:Int))/\((0:Int)<=x2/\x2<(b.n:Int)))/\((0:Int)<=x2/\x2<(x1.n:Int)))/\x2.toNat<x1.n)then a (x1.upd x2.toNat (G7 .or .u64 (p_x.g x2.toNat) (b.g x2.toNat))) (wrap .i64 (x2+1)) else none else some x1) (Sl.rep (p_x.n:Int).toNat 0:Sl Int) 0 else none
def Id (N:Nat)(p_x:Sl Int)(b:Sl Int):Option Bool:= S3 N (fun a (x1:Int)=>if (decide (x1<(p_x.n:Int))) then if (((0:Int)<=x1/\x1<(p_x.n:Int))/\((0:Int)<=x1/\x1<(b.n:Int)))then if ((p_x.g x1.toNat) != (b.g x1.toNat)) then some false else a (wrap .i64 (x1+1)) else none else some true) 0
def Ng (rec:Pat->Option Int)(N:Nat)(a:Pat):Option Int:= W9 N (fun b (x1:Int) (x2:Int)=>if (decide (x2<(a.L.n:Int))) then if ((0:Int)<=x2/\x2<(a.L.n:Int))then (rec (a.L.g x2.toNat)).bind fun y3=>b (wrap .i64 (x1+y3)) (wrap .i64 (x2+1)) else none else some x1) (if (a.Kind==5) then 1 else 0) 0
def Rp:Nat->Pat->Option Int
 |0=>fun _=>none
 |N+1=>Ng (Rp N) N
def CJ (rec:Pat->Int->Option (Int×Int))(N:Nat)(b:Pat)(a:Int):Option (Int×Int):= if (a==40) then some (a,12) else (Ka N b).bind fun y1=>if (y1 != 0) then some (a,y1) else W9 N (fun c (x1:Int) (x2:Int)=>if (decide (x2<(b.L.n:Int))) then if ((0:Int)<=x2/\x2<(b.L.n:Int))then (rec (b.L.g x2.toNat) x1).bind fun y4=>if (y4.2 != 0) then some (y4.1,y4.2) else c y4.1 (wrap .i64 (x2+1)) else none else some (x1,0)) (wrap .i64 (a+1)) 0
def EW:Nat->Pat->Int->Option (Int×Int)
 |0=>fun _ _=>none
 |N+1=>CJ (EW N) N
def DK (N:Nat)(a:Pat):Option Int:= (EW N a 0).bind fun y1=>some y1.2
def EX (N:Nat)(a:Str):Option Bool:= S3 N (fun b (x1:Int)=>if (decide (x1<(a.length:Int))) then if ((0:Int)<=x1/\x1<(a.length:Int))then if (!(((((decide (97<=(CB a x1)))&&(decide ((CB a x1)<=122)))||((decide (65<=(CB a x1)))&&(decide ((CB a x1)<=90))))||((decide (48<=(CB a x1)))&&(decide ((CB a x1)<=57))))||((CB a x1)==45))) then some false else b (wrap .i64 (x1+1)) else none else some ((decide (1<=(a.length:Int)))&&(decide ((a.length:Int)<=24)))) 0
def Kb (N:Nat)(p_x:IK)(a:Int):Option Bool:= lt (fun (z1:Bool)=>if z1 then some false else if ((((G7 .and .u32 p_x.Clear (G7 .or .u32 p_x.Set.Plus p_x.Set.Minus)) != 0)||((G7 .and .u32 p_x.Take (G7 .or .u32 p_x.Set.Plus p_x.Set.Minus)) != 0))||((G7 .and .u32 p_x.Take p_x.Clear) != 0)) then some false else if (p_x.Take==0) then some (p_x.Of==0) else some ((decide (0<=p_x.Of))&&(decide (p_x.Of<a)))) fun k1=>if (decide (p_x.From<(-1))) then k1 true else if (decide (a<=p_x.From)) then k1 true else (K3 N p_x.Set).bind fun y2=>if (!y2) then k1 true else if ((G7 .andNot .u32 p_x.Clear 16777215) != 0) then k1 true else k1 ((G7 .andNot .u32 p_x.Take 16777215) != 0)
def Co (N:Nat)(a:Law):Option Int:= (EX N a.Name).bind fun y1=>lt (fun (z1:Bool)=>if z1 then some 17 else if (((((decide (4<(a.If.n:Int)))||(decide (6<(a.Out.n:Int))))||((wrap .i64 ((a.If.n:Int)+(a.Out.n:Int)))==0))||(decide (a.Mode<1)))||(decide (3<a.Mode))) then some 17 else S3 N (fun b (x2:Int)=>if (decide (x2<(a.If.n:Int))) then if ((0:Int)<=x2/\x2<(a.If.n:Int))then (K3 N (a.If.g x2.toNat)).bind fun y8=>if (!y8) then some 17 else b (wrap .i64 (x2+1)) else none else S3 N (fun c (x3:Int)=>if (decide (x3<(a.Out.n:Int))) then if ((0:Int)<=x3/\x3<(a.Out.n:Int))then (Kb N (a.Out.g x3.toNat) (a.If.n:Int)).bind fun d=>if (!d) then some 17 else c (wrap .i64 (x3+1)) else none else some 0) 0) 0) fun k1=>if (!y1) then k1 true else (DK N a.Left).bind fun y4=>if (y4 != 0) then k1 true else (DK N a.Right).bind fun y5=>k1 (y5 != 0)
def Ie (N:Nat)(a:Sl Law):Option Int:= if (decide (64<(a.n:Int))) then some 12 else S3 N (fun b (x1:Int)=>if (decide (x1<(a.n:Int))) then if ((0:Int)<=x1/\x1<(a.n:Int))then (Co N (a.g x1.toNat)).bind fun y3=>if (y3 != 0) then some 17 else b (wrap .i64 (x1+1)) else none else some 0) 0
def Nh (N:Nat)(a:Law)(b:Sl Tb):Option Int:= (Co N a).bind fun y1=>if (y1 != 0) then some y1 else (Ic N b).bind fun y2=>some y2
def GZ (N:Nat)(a:Pat)(b:Sl Tb):Option Int:= (DK N a).bind fun y1=>if (y1==0) then (Ic N b).bind fun y2=>some y2 else some y1
def FC (rec:Pat->(Sl Tb)->Option (Sl Int))(N:Nat)(a:Pat)(c:Sl Tb):Option (Sl Int):= if ((0:Int)<=(wrap .i64 ((c.n:Int)+1))/\(wrap .i64 ((c.n:Int)+1))<=(wrap .i64 ((c.n:Int)+1))/\(wrap .i64 ((c.n:Int)+1))*8<=140737488355328/\(wrap .i64 ((c.n:Int)+1))<=140737488355328)then W9 N (fun b (x1:Sl Int) (x2:Int)=>if (decide (x2<=(c.n:Int))) then if (a.Kind==0) then if (((0:Int)<=x2/\((0:Int)<=x2/\x2<(x1.n:Int)))/\x2.toNat<x1.n)then b (x1.upd x2.toNat (shI .shl .u64 1 x2)) (wrap .i64 (x2+1)) else none else if (a.Kind==1) then if (decide (x2<(c.n:Int))) then if ((0:Int)<=x2/\x2<(c.n:Int))then (Nf N (c.g x2.toNat) a.Is).bind fun y3=>if ((y3==a.Not) != true) then if (((0:Int)<=(wrap .i64 (x2+1))/\((0:Int)<=x2/\x2<(x1.n:Int)))/\x2.toNat<x1.n)then b (x1.upd x2.toNat (shI .shl .u64 1 (wrap .i64 (x2+1)))) (wrap .i64 (x2+1)) else none else b x1 (wrap .i64 (x2+1)) else none else b x1 (wrap .i64 (x2+1)) else if (a.Kind==2) then if (x2==0) then if (((0:Int)<=x2/\x2<(x1.n:Int))/\x2.toNat<x1.n)then b (x1.upd x2.toNat 1) (wrap .i64 (x2+1)) else none else b x1 (wrap .i64 (x2+1)) else if (a.Kind==6) then if (x2==(c.n:Int)) then if (((0:Int)<=x2/\((0:Int)<=x2/\x2<(x1.n:Int)))/\x2.toNat<x1.n)then b (x1.upd x2.toNat (shI .shl .u64 1 x2)) (wrap .i64 (x2+1)) else none else b x1 (wrap .i64 (x2+1)) else b x1 (wrap .i64 (x2+1)) else if (a.Kind==3) then (GX N (c.n:Int)).bind fun y4=>W9 N (fun i (x3:Sl Int) (x4:Int)=>if (decide (x4<(a.L.n:Int))) then if ((0:Int)<=x4/\x4<(a.L.n:Int))then (rec (a.L.g x4.toNat) c).bind fun y9=>(CH N x3 y9).bind fun o=>i o (wrap .i64 (x4+1)) else none else some x3) y4 0 else if (a.Kind==4) then W9 N (fun j (x5:Sl Int) (x6:Int)=>if (decide (x6<(a.L.n:Int))) then if ((0:Int)<=x6/\x6<(a.L.n:Int))then (rec (a.L.g x6.toNat) c).bind fun q=>(GY N x5 q).bind fun r=>j r (wrap .i64 (x6+1)) else none else some x5) x1 0 else if (a.Kind==5) then if ((0:Int)<=0/\0<(a.L.n:Int))then (rec (a.L.g 0) c).bind fun m=>(GX N (c.n:Int)).bind fun s=>Ak9 N (fun d (x8:Sl Int) (x9:Sl Int) (f:Int)=>if (decide (a.Min<=f)) then (GY N x8 x9).bind fun l=>lt (fun (z3:Bool)=>if z3 then some l else (CH N x9 m).bind fun t=>d l t (wrap .i64 (f+1))) fun k3=>if (f==a.Max) then k3 true else if (decide (a.Min<f)) then (Id N x8 l).bind fun u=>k3 u else k3 false else (CH N x9 m).bind fun v=>d x8 v (wrap .i64 (f+1))) x1 s 0 else none else some x1) (Sl.rep (wrap .i64 ((c.n:Int)+1)).toNat 0:Sl Int) 0 else none
def DL:Nat->Pat->(Sl Tb)->Option (Sl Int)
 |0=>fun _ _=>none
 |N+1=>FC (DL N) N
def GJ (N:Nat)(d:Pat)(c:Sl Tb)(a:Int):Option ((Sl Int)×Int):= (GZ N d c).bind fun y1=>if (y1 != 0) then some (Ra,y1) else if ((decide (a<0))||(decide ((c.n:Int)<a))) then some (Ra,3) else (DL N d c).bind fun y2=>W9 N (fun b (x1:Sl Int) (x2:Int)=>if (decide (x2<=(c.n:Int))) then if ((((0:Int)<=x2/\x2<(y2.n:Int))/\x2.toNat<y2.n)/\(0:Int)<=a)then if ((G7 .and .u64 (shI .shr .u64 (y2.g x2.toNat) a) 1)==1) then if ((x1.n+(Sl.of [x2]:Sl Int).n)*8<=140737488355328/\x1.n+(Sl.of [x2]:Sl Int).n<=140737488355328)then b (x1.push x2) (wrap .i64 (x2+1)) else none else b x1 (wrap .i64 (x2+1)) else none else some (x1,0)) Ra 0
def Kc (N:Nat)(d:Pat)(c:Sl Tb)(a:Int):Option ((Sl Int)×Int):= (GZ N d c).bind fun y1=>if (y1 != 0) then some (Ra,y1) else if ((decide (a<0))||(decide ((c.n:Int)<a))) then some (Ra,3) else (DL N d c).bind fun y2=>W9 N (fun b (x1:Sl Int) (x2:Int)=>if (decide (x2<=(c.n:Int))) then if ((((0:Int)<=a/\a<(y2.n:Int))/\a.toNat<y2.n)/\(0:Int)<=x2)then if ((G7 .and .u64 (shI .shr .u64 (y2.g a.toNat) x2) 1)==1) then if ((x1.n+(Sl.of [x2]:Sl Int).n)*8<=140737488355328/\x1.n+(Sl.of [x2]:Sl Int).n<=140737488355328)then b (x1.push x2) (wrap .i64 (x2+1)) else none else b x1 (wrap .i64 (x2+1)) else none else some (x1,0)) Ra 0
def CK (N:Nat)(a:Law)(c:Sl Tb)(b:Int):Option Bool:= if ((decide (b<0))||(decide ((c.n:Int)<(wrap .i64 (b+(a.If.n:Int)))))) then some false else S3 N (fun d (x1:Int)=>if (decide (x1<(a.If.n:Int))) then if (((0:Int)<=(wrap .i64 (b+x1))/\(wrap .i64 (b+x1))<(c.n:Int))/\((0:Int)<=x1/\x1<(a.If.n:Int)))then (Z8 N (c.g (wrap .i64 (b+x1)).toNat) (a.If.g x1.toNat)).bind fun y3=>if (!y3) then some false else d (wrap .i64 (x1+1)) else none else (GJ N a.Left c b).bind fun y4=>(Kc N a.Right c (wrap .i64 (b+(a.If.n:Int)))).bind fun y5=>some ((decide (0<(y4.1.n:Int)))&&(decide (0<(y5.1.n:Int))))) 0
def DM (N:Nat)(a:Law)(b:Sl Tb):Option (Sl Tb):= W9 N (fun c (x1:Sl Tb) (x2:Int)=>if (decide (x2<(a.Out.n:Int))) then if ((0:Int)<=x2/\x2<(a.Out.n:Int))then if ((decide (0<=(a.Out.g x2.toNat).From))=true->((0:Int)<=(a.Out.g x2.toNat).From/\(a.Out.g x2.toNat).From<(b.n:Int)))then (Z9 N (⟨(if (decide (0<=(a.Out.g x2.toNat).From)) then (b.g (a.Out.g x2.toNat).From.toNat).Plus else 0),(if (decide (0<=(a.Out.g x2.toNat).From)) then (b.g (a.Out.g x2.toNat).From.toNat).Minus else 0)⟩:Tb) (a.Out.g x2.toNat).Clear (a.Out.g x2.toNat).Set).bind fun y5=>if ((a.Out.g x2.toNat).Take != 0) then if ((0:Int)<=(a.Out.g x2.toNat).Of/\(a.Out.g x2.toNat).Of<(b.n:Int))then (Cn N y5.1 (b.g (a.Out.g x2.toNat).Of.toNat) (a.Out.g x2.toNat).Take).bind fun y6=>if ((x1.n+(Sl.of [y6.1]:Sl Tb).n)*8<=140737488355328/\x1.n+(Sl.of [y6.1]:Sl Tb).n<=140737488355328)then c (x1.push y6.1) (wrap .i64 (x2+1)) else none else none else if ((x1.n+(Sl.of [y5.1]:Sl Tb).n)*8<=140737488355328/\x1.n+(Sl.of [y5.1]:Sl Tb).n<=140737488355328)then c (x1.push y5.1) (wrap .i64 (x2+1)) else none else none else none else some x1) Rb 0
def Az (N:Nat)(c:Law)(b:Sl Tb)(a:Int):Option (Sl Tb):= if (((0:Int)<=a/\a<=(b.n:Int))/\((Rc.n+(b.take a.toNat).n)*8<=140737488355328/\Rc.n+(b.take a.toNat).n<=140737488355328))then if ((0:Int)<=a/\a<=(wrap .i64 (a+(c.If.n:Int)))/\(wrap .i64 (a+(c.If.n:Int)))<=(b.n:Int))then (DM N c (b.sub a.toNat (wrap .i64 (a+(c.If.n:Int))).toNat)).bind fun y1=>if (((Rc.app (b.take a.toNat)).n+y1.n)*8<=140737488355328/\(Rc.app (b.take a.toNat)).n+y1.n<=140737488355328)then if (((0:Int)<=(wrap .i64 (a+(c.If.n:Int)))/\(wrap .i64 (a+(c.If.n:Int)))<=(b.n:Int))/\((((Rc.app (b.take a.toNat)).app y1).n+(b.drop (wrap .i64 (a+(c.If.n:Int))).toNat).n)*8<=140737488355328/\((Rc.app (b.take a.toNat)).app y1).n+(b.drop (wrap .i64 (a+(c.If.n:Int))).toNat).n<=140737488355328))then some (((Rc.app (b.take a.toNat)).app y1).app (b.drop (wrap .i64 (a+(c.If.n:Int))).toNat)) else none else none else none else none
def Ni (N:Nat)(a:Law)(b:Sl Tb):Option ((Sl Int)×(Sl (Sl Tb))×Int):= Al0 N (fun c (x2:Sl Int) (x3:Sl (Sl Tb)) (x4:Sl Tb) (x5:Int)=>if (decide (x5<=(b.n:Int))) then (CK N a b x5).bind fun y5=>if (!y5) then lt (fun (z3:Sl Tb)=>c x2 x3 z3 (wrap .i64 (x5+1))) fun k3=>if (decide (x5<(b.n:Int))) then if (((0:Int)<=x5/\x5<(b.n:Int))/\((x4.n+(Sl.of [b.g x5.toNat]:Sl Tb).n)*8<=140737488355328/\x4.n+(Sl.of [b.g x5.toNat]:Sl Tb).n<=140737488355328))then k3 (x4.push (b.g x5.toNat)) else none else k3 x4 else if ((0:Int)<=x5/\x5<=(wrap .i64 (x5+(a.If.n:Int)))/\(wrap .i64 (x5+(a.If.n:Int)))<=(b.n:Int))then (DM N a (b.sub x5.toNat (wrap .i64 (x5+(a.If.n:Int))).toNat)).bind fun y6=>if ((x4.n+y6.n)*8<=140737488355328/\x4.n+y6.n<=140737488355328)then if ((x2.n+(Sl.of [x5]:Sl Int).n)*8<=140737488355328/\x2.n+(Sl.of [x5]:Sl Int).n<=140737488355328)then if ((((Rc.n+(x4.app y6).n)*8<=140737488355328/\Rc.n+(x4.app y6).n<=140737488355328)/\((0:Int)<=(wrap .i64 (x5+(a.If.n:Int)))/\(wrap .i64 (x5+(a.If.n:Int)))<=(b.n:Int)))/\(((Rc.app (x4.app y6)).n+(b.drop (wrap .i64 (x5+(a.If.n:Int))).toNat).n)*8<=140737488355328/\(Rc.app (x4.app y6)).n+(b.drop (wrap .i64 (x5+(a.If.n:Int))).toNat).n<=140737488355328))then if (decide (32<(((Rc.app (x4.app y6)).app (b.drop (wrap .i64 (x5+(a.If.n:Int))).toNat)).n:Int))) then some (Ra,T4,11) else if ((x3.n+(Sl.of [(Rc.app (x4.app y6)).app (b.drop (wrap .i64 (x5+(a.If.n:Int))).toNat)]:Sl (Sl Tb)).n)*24<=140737488355328/\x3.n+(Sl.of [(Rc.app (x4.app y6)).app (b.drop (wrap .i64 (x5+(a.If.n:Int))).toNat)]:Sl (Sl Tb)).n<=140737488355328)then if ((a.If.n:Int)==0) then if (decide ((wrap .i64 (x5+(a.If.n:Int)))<(b.n:Int))) then if (((0:Int)<=(wrap .i64 (x5+(a.If.n:Int)))/\(wrap .i64 (x5+(a.If.n:Int)))<(b.n:Int))/\(((x4.app y6).n+(Sl.of [b.g (wrap .i64 (x5+(a.If.n:Int))).toNat]:Sl Tb).n)*8<=140737488355328/\(x4.app y6).n+(Sl.of [b.g (wrap .i64 (x5+(a.If.n:Int))).toNat]:Sl Tb).n<=140737488355328))then c (x2.push x5) (x3.push ((Rc.app (x4.app y6)).app (b.drop (wrap .i64 (x5+(a.If.n:Int))).toNat))) ((x4.app y6).push (b.g (wrap .i64 (x5+(a.If.n:Int))).toNat)) (wrap .i64 ((wrap .i64 (x5+(a.If.n:Int)))+1)) else none else c (x2.push x5) (x3.push ((Rc.app (x4.app y6)).app (b.drop (wrap .i64 (x5+(a.If.n:Int))).toNat))) (x4.app y6) (wrap .i64 ((wrap .i64 (x5+(a.If.n:Int)))+1)) else c (x2.push x5) (x3.push ((Rc.app (x4.app y6)).app (b.drop (wrap .i64 (x5+(a.If.n:Int))).toNat))) (x4.app y6) (wrap .i64 (x5+(a.If.n:Int))) else none else none else none else none else none else some (x2,x3,0)) Ra T4 Rb 0
def Ig (N:Nat)(b:Law)(c:Sl Tb):Option ((Sl Int)×(Sl (Sl Tb))×Int):= Al0 N (fun a (x1:Sl Tb) (x2:Sl Int) (x3:Sl (Sl Tb)) (x4:Int)=>if (decide ((wrap .i64 (x4+(b.If.n:Int)))<=(x1.n:Int))) then (CK N b x1 x4).bind fun y5=>if (!y5) then a x1 x2 x3 (wrap .i64 (x4+1)) else (Az N b x1 x4).bind fun y6=>if (decide (32<(y6.n:Int))) then some (Ra,T4,11) else if (((x2.n+(Sl.of [x4]:Sl Int).n)*8<=140737488355328/\x2.n+(Sl.of [x4]:Sl Int).n<=140737488355328)/\((x3.n+(Sl.of [y6]:Sl (Sl Tb)).n)*24<=140737488355328/\x3.n+(Sl.of [y6]:Sl (Sl Tb)).n<=140737488355328))then if ((b.If.n:Int)==0) then a y6 (x2.push x4) (x3.push y6) (wrap .i64 ((wrap .i64 (x4+(b.Out.n:Int)))+1)) else a y6 (x2.push x4) (x3.push y6) (wrap .i64 (x4+(b.Out.n:Int))) else none else some (x2,x3,0)) c Ra T4 0
def Ha (N:Nat)(b:Law)(c:Sl Tb):Option ((Sl Int)×(Sl (Sl Tb))×Int):= Al0 N (fun a (x1:Sl Tb) (x2:Sl Int) (x3:Sl (Sl Tb)) (x4:Int)=>if (decide (0<=x4)) then (CK N b x1 x4).bind fun y5=>if (!y5) then a x1 x2 x3 (wrap .i64 (x4-1)) else (Az N b x1 x4).bind fun y6=>if (decide (32<(y6.n:Int))) then some (Ra,T4,11) else if (((x2.n+(Sl.of [x4]:Sl Int).n)*8<=140737488355328/\x2.n+(Sl.of [x4]:Sl Int).n<=140737488355328)/\((x3.n+(Sl.of [y6]:Sl (Sl Tb)).n)*24<=140737488355328/\x3.n+(Sl.of [y6]:Sl (Sl Tb)).n<=140737488355328))then if ((b.If.n:Int)==0) then a y6 (x2.push x4) (x3.push y6) (wrap .i64 ((wrap .i64 (x4-(b.If.n:Int)))-1)) else a y6 (x2.push x4) (x3.push y6) (wrap .i64 (x4-(b.If.n:Int))) else none else some (x2,x3,0)) c Ra T4 (wrap .i64 ((c.n:Int)-(b.If.n:Int)))
def Ih (N:Nat)(a:Law)(b:Sl Tb):Option ((Sl Int)×(Sl (Sl Tb))×Int):= (Nh N a b).bind fun y1=>if (y1 != 0) then some (Ra,T4,y1) else if (a.Mode==1) then (Ni N a b).bind fun y2=>some (y2.1,y2.2.1,y2.2.2) else if (a.Mode==2) then (Ig N a b).bind fun y3=>some (y3.1,y3.2.1,y3.2.2) else (Ha N a b).bind fun y4=>some (y4.1,y4.2.1,y4.2.2)
def Nj (N:Nat)(b:Law)(a:Sl Tb):Option ((Sl Tb)×Int):= (Ih N b a).bind fun y1=>if (y1.2.2 != 0) then some (Rb,y1.2.2) else if ((y1.2.1.n:Int)==0) then if ((Rc.n+a.n)*8<=140737488355328/\Rc.n+a.n<=140737488355328)then some (Rc.app a,0) else none else if ((((0:Int)<=(wrap .i64 ((y1.2.1.n:Int)-1))/\(wrap .i64 ((y1.2.1.n:Int)-1))<(y1.2.1.n:Int))/\(wrap .i64 ((y1.2.1.n:Int)-1)).toNat<y1.2.1.n)/\((Rc.n+(y1.2.1.g (wrap .i64 ((y1.2.1.n:Int)-1)).toNat).n)*8<=140737488355328/\Rc.n+(y1.2.1.g (wrap .i64 ((y1.2.1.n:Int)-1)).toNat).n<=140737488355328))then some (Rc.app (y1.2.1.g (wrap .i64 ((y1.2.1.n:Int)-1)).toNat),0) else none
def Tu (N:Nat)(a:Int):Option Bool:= some (((((decide (97<=a))&&(decide (a<=122)))||((decide (65<=a))&&(decide (a<=90))))||((decide (48<=a))&&(decide (a<=57))))||(a==45))
def Hb (N:Nat)(a:Str):Option Bool:= S3 N (fun b (x1:Int)=>if (decide (x1<(a.length:Int))) then if ((0:Int)<=x1/\x1<(a.length:Int))then (Tu N (CB a x1)).bind fun y3=>if (!y3) then some false else b (wrap .i64 (x1+1)) else none else some ((decide (1<=(a.length:Int)))&&(decide ((a.length:Int)<=24)))) 0
def DN (N:Nat)(a:Sl U1):Option Int:= if ((decide ((a.n:Int)<1))=false->((decide (63<(a.n:Int)))=false->((0:Int)<=0/\0<(a.n:Int))))then if (((decide ((a.n:Int)<1))||(decide (63<(a.n:Int))))||((a.g 0).Parent != (-1))) then some 16 else S3 N (fun b (x3:Int)=>if (decide (x3<(a.n:Int))) then lt (fun (z3:Bool)=>if z3 then some 16 else S3 N (fun c (x7:Int)=>if (decide (x7<x3)) then if (((0:Int)<=x7/\x7<(a.n:Int))/\((0:Int)<=x3/\x3<(a.n:Int)))then if (((a.g x7.toNat).Name==(a.g x3.toNat).Name) != false) then some 16 else c (wrap .i64 (x7+1)) else none else b (wrap .i64 (x3+1))) 0) fun k3=>if (decide (0<x3)) then if ((0:Int)<=x3/\x3<(a.n:Int))then if (decide ((a.g x3.toNat).Parent<0)) then k3 true else if ((0:Int)<=x3/\x3<(a.n:Int))then if (decide (x3<=(a.g x3.toNat).Parent)) then k3 true else if ((0:Int)<=x3/\x3<(a.n:Int))then (Hb N (a.g x3.toNat).Name).bind fun d=>k3 (!d) else none else none else none else if ((0:Int)<=x3/\x3<(a.n:Int))then (Hb N (a.g x3.toNat).Name).bind fun f=>k3 (!f) else none else some 0) 0 else none
def CL (rec:A7->Int->Option (Sl Int))(N:Nat)(b:A7)(a:Int):Option (Sl Int):= if (decide (a<0)) then some Ra else if ((0:Int)<=a/\a<(b.Tree.n:Int))then (rec b (b.Tree.g a.toNat).Parent).bind fun y1=>if (((0:Int)<=a/\a<(b.On.n:Int))/\((y1.n+(b.On.g a.toNat).n)*8<=140737488355328/\y1.n+(b.On.g a.toNat).n<=140737488355328))then some (y1.app (b.On.g a.toNat)) else none else none
def Cp:Nat->A7->Int->Option (Sl Int)
 |0=>fun _ _=>none
 |N+1=>CL (Cp N) N
def FD (N:Nat)(a:A7):Option Int:= (DN N a.Tree).bind fun y1=>if (y1 != 0) then some 16 else if (decide (64<(a.Laws.n:Int))) then some 12 else S3 N (fun d (x1:Int)=>if (decide (x1<(a.Laws.n:Int))) then if ((0:Int)<=x1/\x1<(a.Laws.n:Int))then (Co N (a.Laws.g x1.toNat)).bind fun y4=>if (y4 != 0) then some 17 else d (wrap .i64 (x1+1)) else none else S3 N (fun f (x3:Int)=>if (decide (x3<(a.Laws.n:Int))) then S3 N (fun i (x5:Int)=>if (decide (x5<x3)) then if (((0:Int)<=x3/\x3<(a.Laws.n:Int))/\((0:Int)<=x5/\x5<(a.Laws.n:Int)))then if (((a.Laws.g x3.toNat).Name==(a.Laws.g x5.toNat).Name) != false) then some 6 else i (wrap .i64 (x5+1)) else none else f (wrap .i64 (x3+1))) 0 else if ((a.On.n:Int) != (a.Tree.n:Int)) then some 2 else S3 N (fun j (x6:Int)=>if (decide (x6<(a.On.n:Int))) then (Cp N a x6).bind fun y7=>if (decide (64<(y7.n:Int))) then some 2 else j (wrap .i64 (x6+1)) else S3 N (fun l (x8:Int)=>if (decide (x8<(a.On.n:Int))) then S3 N (fun c (b:Int)=>if ((0:Int)<=x8/\x8<(a.On.n:Int))then if (decide (b<((a.On.g x8.toNat).n:Int))) then if (((0:Int)<=x8/\x8<(a.On.n:Int))/\((0:Int)<=b/\b<((a.On.g x8.toNat).n:Int)))then if (decide (((a.On.g x8.toNat).g b.toNat)<0)) then some 3 else if (((0:Int)<=x8/\x8<(a.On.n:Int))/\((0:Int)<=b/\b<((a.On.g x8.toNat).n:Int)))then if (decide ((a.Laws.n:Int)<=((a.On.g x8.toNat).g b.toNat))) then some 3 else c (wrap .i64 (b+1)) else none else none else l (wrap .i64 (x8+1)) else none) 0 else some 0) 0) 0) 0) 0
def Py (N:Nat)(b:A7)(a:Int):Option Bool:= some ((decide (0<=a))&&(decide (a<(b.Tree.n:Int))))
def Kd (N:Nat)(a:A7)(b:Int):Option ((Sl Int)×Int):= (FD N a).bind fun y1=>if (y1 != 0) then some (Ra,y1) else (Py N a b).bind fun y2=>if (!y2) then some (Ra,3) else (Cp N a b).bind fun y3=>some (y3,0)
def Pz (N:Nat)(a:A7)(c:Int):Option ((Sl Law)×Int):= (Kd N a c).bind fun y1=>W9 N (fun b (x1:Sl Law) (x2:Int)=>if (decide (x2<(y1.1.n:Int))) then if ((((0:Int)<=x2/\x2<(y1.1.n:Int))/\x2.toNat<y1.1.n)/\((0:Int)<=(y1.1.g x2.toNat)/\(y1.1.g x2.toNat)<(a.Laws.n:Int)))then if ((x1.n+(Sl.of [a.Laws.g (y1.1.g x2.toNat).toNat]:Sl Law).n)*200<=140737488355328/\x1.n+(Sl.of [a.Laws.g (y1.1.g x2.toNat).toNat]:Sl Law).n<=140737488355328)then b (x1.push (a.Laws.g (y1.1.g x2.toNat).toNat)) (wrap .i64 (x2+1)) else none else none else some (x1,y1.2)) (Sl.nil:Sl Law) 0
def Ex (N:Nat)(b:Sl U1)(c:Int):Option (Sl Int):= W9 N (fun a (x1:Sl Int) (x2:Int)=>if (decide (x2<(b.n:Int))) then if ((0:Int)<=x2/\x2<(b.n:Int))then if ((b.g x2.toNat).Parent==c) then if ((x1.n+(Sl.of [x2]:Sl Int).n)*8<=140737488355328/\x1.n+(Sl.of [x2]:Sl Int).n<=140737488355328)then a (x1.push x2) (wrap .i64 (x2+1)) else none else a x1 (wrap .i64 (x2+1)) else none else some x1) Ra 0
def Lb (N:Nat)(b:Sl U1):Option ((Sl Int)×Int):= (DN N b).bind fun y1=>if (y1 != 0) then some (Ra,y1) else W9 N (fun a (x1:Sl Int) (x2:Int)=>if (decide (x2<(b.n:Int))) then (Ex N b x2).bind fun y4=>if ((y4.n:Int)==0) then if ((x1.n+(Sl.of [x2]:Sl Int).n)*8<=140737488355328/\x1.n+(Sl.of [x2]:Sl Int).n<=140737488355328)then a (x1.push x2) (wrap .i64 (x2+1)) else none else a x1 (wrap .i64 (x2+1)) else some (x1,0)) Ra 0
end Go.AM
namespace Go.AM
open Go.Proofs.Tryz
variable {N:Nat}
open IntKind (wrap)
open Go.Proofs
set_option maxRecDepth 10000
set_option maxHeartbeats 2000000
variable {S:W8}(Z:G8 S Tryz.prog) (Y:Oh S)
include Z Y
def R7 (N:Nat)(p_x:Int):Option Bool:= some (p_x != p_x)
theorem Ek {p_x:Int}{y:Bool}(h:R7 N p_x=some y) :FunO S Ed [pU p_x] [] (pB y) ([]) []:=by unfold R7 at h;refine A3 Z func99 ?_;cases h;exact kR Z
def J3 (N:Nat)(p_x:Int)(a:Int):Option Int:= (R7 N p_x).bind fun y1=>(R7 N a).bind fun y2=>if y1 then if y2 then some 0 else some (-1) else if y2 then some 1 else if (decide (p_x<a)) then some (-1) else if (decide (a<p_x)) then some 1 else some 0
theorem Dd {p_x:Int}{a:Int}{y:Int}(h:J3 N p_x a=some y) :FunO S Db [pU p_x,pU a] [] (pN y) ([]) []:=by
 unfold J3 at h;refine A3 Z func77 ?_;refine kC Z h (Ek Z Y) (fun y1 h=>?_);refine kC Z h (Ek Z Y) (fun y2 h=>?_);apply kI Z h<;>intro h
 .apply kI Z h<;>intro h
  .cases h;exact kR Z
  cases h;exact kR Z
 apply kI Z h<;>intro h
 .cases h;exact kR Z
 apply kI Z h<;>intro h
 .cases h;exact kR Z
 apply kI Z h<;>intro h
 .cases h;exact kR Z
 cases h;exact kR Z
def CM (N:Nat)(a:Sl Int):Option Int:= S3 N (fun b (x1:Int)=>if (decide (x1<(a.n:Int))) then if ((0:Int)<=x1/\x1<(a.n:Int))then if ((a.g x1.toNat) != 0) then some (a.g x1.toNat) else b (wrap .i64 (x1+1)) else none else some 0) 0
theorem Tv {a:Sl Int}{y:Int}(h:CM N a=some y) :FunO S KV [.p (vSl 1 (cI .i64) a)] [] (pN y) ([]) []:=by
 unfold CM at h;refine A3 Z func76 ?_;refine AF Z Mz h (fun x1=>⟨[(8,pN x1),(7,pN (a.n:Int)),(6,.p (vSl 1 (cI .i64) a)),(3,pN 0)],[]⟩) (ids:=[]) (fun _ _ _ _ _ c x1 d h=>?_);apply kI Z h<;>intro h
 .obtain⟨c8,h⟩:=I5 h;refine E7 Z c8 (b:=(a.g x1.toNat) != 0) (fun c9=>?_) (fun c9=>?_)
  .replace h:=itT c9 h;cases h;exact kR Z
  replace h:=itF c9 h;exact d _ [] _ (wrap .i64 (x1+1)) Mz h
 cases h;exact kR Z
def AA (N:Nat)(a:Tb)(b:Tb):Option Int:= (J3 N a.Plus b.Plus).bind fun y1=>(J3 N a.Minus b.Minus).bind fun y2=>(CM N (Sl.of [y1,y2]:Sl Int)).bind fun y3=>some y3
theorem Rq {a:Tb}{b:Tb}{y:Int}(h:AA N a b=some y) :FunO S IU [.p (.agg (A0 a)),.p (.agg (A0 b))] [] (pN y) ([]) []:=by unfold AA at h;refine A3 Z func55 ?_;refine W7 Z Mz 3 3000 [pI .u32 a.Plus,pI .u32 a.Minus] ?_;refine W7 Z Mz 4 4000 [pI .u32 b.Plus,pI .u32 b.Minus] ?_;refine J0 Z Mz [1,3,4,6,8,9,11] ?_;obtain⟨y1,e1,h⟩:=D1 h;refine Bv Mz (Dd Z Y e1) ?_;obtain⟨y2,e2,h⟩:=D1 h;refine Bv Mz (Dd Z Y e2) ?_;refine Gm Mz (x:=.sl true 1 2 (J5 [pI .i64 0] [(0,cI .i64 y1),(1,cI .i64 y2)])) ?_;obtain⟨y3,e3,h⟩:=D1 h;refine Bv Mz (FunO.le Z (args:=[.p (.sl true 1 2 (J5 [pI .i64 0] [(0,cI .i64 y1),(1,cI .i64 y2)]))]) (by exact⟨Za rfl (fun i c=>match i,c with|0,_=>rfl|1,_=>rfl|_+2,c=>Ln c (by omega)),trivial⟩) (Tv Z Y e3)) ?_;refine N2 Mz ?_;cases h;exact kR Z
def CN (N:Nat)(b:Sl (Sl Law))(d:Sl Tb)(a:Sl Ca):Option Bool:= S3 N (fun c (x2:Int)=>if (decide (x2<(a.n:Int))) then if ((0:Int)<=x2/\x2<(a.n:Int))then if (!(a.g x2.toNat).Has) then c (wrap .i64 (x2+1)) else if ((0:Int)<=x2/\x2<(b.n:Int))then (Q0 N (b.g x2.toNat) d).bind fun y7=>lt (fun (z3:Bool)=>if z3 then some false else c (wrap .i64 (x2+1))) fun k3=>if (y7.2 != 0) then k3 true else (T6 N y7.1 (a.g x2.toNat).W).bind fun y9=>k3 (!y9) else none else none else some true) 0
theorem Tw {c:Sl (Sl Law)}{d:Sl Tb}{a:Sl Ca}{y:Bool}(h:CN N c d a=some y) :FunO S KR [.p (vSl 1 (cL 18 B3) c),.p (vSl 2 A0 d),.p (vSl 2 L7 a)] [] (pB y) ([]) []:=by
 unfold CN at h;refine A3 Z func32 ?_;refine AF Z Mz h (fun x2=>⟨[(13,pN x2),(12,pN (a.n:Int)),(11,.p (vSl 2 L7 a)),(1,.p (vSl 2 A0 d)),(0,.p (vSl 1 (cL 18 B3) c))],[]⟩) (ids:=[]) (fun _ _ _ _ _ j x2 f h=>?_);apply kI Z h<;>intro h
 .obtain⟨c18,h⟩:=I5 h;refine E7 Z (And.intro c18 Ob) (b:=!(a.g x2.toNat).Has) (fun c19=>?_) (fun c19=>?_)
  .replace h:=itT c19 h;exact f _ [] _ (wrap .i64 (x2+1)) Mz h
  replace h:=itF c19 h;obtain⟨c20,h⟩:=I5 h;obtain⟨y7,e7,h⟩:=D1 h;refine F0 Z [] c20 (Na Z Y e7) ?_;refine QC Z Mz (B2 Z) h 0 (fun z3=>⟨[(38,pB z3),(13,pN x2),(12,pN (a.n:Int)),(11,.p (vSl 2 L7 a)),(1,.p (vSl 2 A0 d)),(0,.p (vSl 1 (cL 18 B3) c))],[]⟩) (fun M3 k3 i h=>?_) (fun z3 h=>?_)
  .refine kG Z h (fun h=>?_) (fun h=>?_)
   .exact i _ [] _ true Mz h
   refine kC Z h (Eh Z Y) (fun y9 h=>?_);exact i _ [] _ (!y9) Mz h
  apply kI Z h<;>intro h
  .cases h;exact kR Z
  exact f _ [] _ (wrap .i64 (x2+1)) Mz h
 cases h;exact kR Z
def P4 (N:Nat)(a:Tb):Option Bool:= (G2 N a).bind fun y1=>some (!y1)
theorem Ke {a:Tb}{y:Bool}(h:P4 N a=some y) :FunO S EQ [.p (.agg (A0 a))] [] (pB y) ([]) []:=by unfold P4 at h;refine A3 Z func50 ?_;refine kC Z h (O9 Z Y) (fun y1 h=>?_);cases h;exact kR Z
def F5 (N:Nat)(a:Sl Tb)(c:Tb):Option Int:= S3 N (fun b (x1:Int)=>if (decide (x1<(a.n:Int))) then if ((0:Int)<=x1/\x1<(a.n:Int))then if (((c.Plus==(a.g x1.toNat).Plus)&&(c.Minus==(a.g x1.toNat).Minus)) != false) then some x1 else b (wrap .i64 (x1+1)) else none else some (-1)) 0
theorem AS {b:Sl Tb}{a:Tb}{y:Int}(h:F5 N b a=some y) :FunO S O3 [.p (vSl 2 A0 b),.p (.agg (A0 a))] [] (pN y) ([]) []:=by
 unfold F5 at h;refine A3 Z func72 ?_;refine W7 Z Mz 4 4000 [pI .u32 a.Plus,pI .u32 a.Minus] ?_;refine AF Z Mz h (fun x1=>⟨[(8,pN x1),(7,pN (b.n:Int)),(3,.p (.ptr [pI .u32 a.Plus,pI .u32 a.Minus])),(0,.p (vSl 2 A0 b))],[]⟩) (ids:=[]) (fun _ _ _ _ _ c x1 d h=>?_);apply kI Z h<;>intro h
 .refine J0 Z Mz [0,3,4] ?_;obtain⟨c8,h⟩:=I5 h;refine N2 (And.intro (And.intro (And.intro Ob c8) Ob) (by decide +kernel:Aw7 Tryz.prog A4=true)) ?_;apply kI Z h<;>intro h
  .cases h;exact kR Z
  exact d _ [] _ (wrap .i64 (x1+1)) Mz h
 cases h;exact kR Z
def C5 (N:Nat)(a:Sl Tb)(b:Tb):Option Bool:= (F5 N a b).bind fun y1=>some (decide (0<=y1))
theorem X6 {a:Sl Tb}{b:Tb}{y:Bool}(h:C5 N a b=some y) :FunO S K4 [.p (vSl 2 A0 a),.p (.agg (A0 b))] [] (pB y) ([]) []:=by unfold C5 at h;refine A3 Z func52 ?_;refine kC Z h (AS Z Y) (fun y1 h=>?_);cases h;exact kR Z
def Ab (N:Nat)(a:Sl Tb):Option Int:= if (decide (5<(a.n:Int))) then some 12 else (B0 N a (fun (u1:Tb)=>P4 N u1)).bind fun y1=>if y1 then some 14 else S3 N (fun b (x1:Int)=>if (decide (x1<(a.n:Int))) then if ((0:Int)<=x1/\x1<(a.n:Int))then if ((0:Int)<=x1/\x1<=(a.n:Int))then (C5 N (a.take x1.toNat) (a.g x1.toNat)).bind fun y4=>if y4 then some 6 else b (wrap .i64 (x1+1)) else none else none else some 0) 0
theorem Nk {a:Sl Tb}{y:Int}(h:Ab N a=some y) :FunO S Gu [.p (vSl 2 A0 a)] [] (pN y) ([]) []:=by
 unfold Ab at h;refine A3 Z func30 ?_;apply kI Z h<;>intro h
 .cases h;exact kR Z
 refine kC Z h (F7 Z Y (fun e=>Ke Z Y e)) (fun y1 h=>?_);apply kI Z h<;>intro h
 .cases h;exact kR Z
 refine AF Z Mz h (fun x1=>⟨[(12,pN x1),(11,pN (a.n:Int)),(10,.p (vSl 2 A0 a)),(0,.p (vSl 2 A0 a))],[]⟩) (ids:=[]) (fun _ _ _ _ _ b x1 c h=>?_);apply kI Z h<;>intro h
 .obtain⟨c12,h⟩:=I5 h;refine AB4 Z (And.intro c12 Ob) 5000 [pI .u32 (a.g x1.toNat).Plus,pI .u32 (a.g x1.toNat).Minus] ?_;refine J0 Z Mz [3,4] ?_;obtain⟨c13,h⟩:=I5 h;obtain⟨y4,e4,h⟩:=D1 h;refine Bv (And.intro c13 Ob) (X6 Z Y e4) ?_;refine N2 Mz ?_;apply kI Z h<;>intro h
  .cases h;exact kR Z
  exact c _ [] _ (wrap .i64 (x1+1)) Mz h
 cases h;exact kR Z
def R8 (N:Nat)(a:Ca):Option Bool:= some ((!a.Has)&&(decide (0<(a.W.n:Int))))
theorem Jn {b:Ca}{y:Bool}(h:R8 N b=some y) :FunO S Eb [.p (.agg (L7 b))] [] (pB y) ([]) []:=by unfold R8 at h;refine A3 Z func48 ?_;refine kB Z (B2 Z) Mz Mz 5 (.n (.a (!b.Has)) (.a (decide (0<(b.W.n:Int))))) ?_;cases h;exact kR Z
def E4 (N:Nat)(a:Sl Ca)(c:Ca->Option Bool):Option Int:= S3 N (fun b (x1:Int)=>if (decide (x1<(a.n:Int))) then if ((0:Int)<=x1/\x1<(a.n:Int))then (c (a.g x1.toNat)).bind fun y3=>if y3 then some x1 else b (wrap .i64 (x1+1)) else none else some (-1)) 0
theorem Ac {a:Sl Ca}{c:Ca->Option Bool}{kp_f:Nat}(d:∀{a0:Ca}{b:Bool},c a0=some b->FunO S kp_f [.p (.agg (L7 a0))] [] (pB b) [] []){y:Int}(h:E4 N a c=some y) :FunO S M8 [.p (vSl 2 L7 a),.clo kp_f [] []] [] (pN y) ([]) []:=by
 unfold E4 at h;refine A3 Z func70 ?_;refine AF Z Mz h (fun x1=>⟨[(8,pN x1),(7,pN (a.n:Int)),(1,.clo kp_f [] []),(0,.p (vSl 2 L7 a))],[]⟩) (ids:=[]) (fun _ _ _ _ _ f x1 g h=>?_);apply kI Z h<;>intro h
 .obtain⟨c8,h⟩:=I5 h;obtain⟨y3,e3,h⟩:=D1 h;refine F0 Z [] (And.intro c8 Ob) (d e3) ?_;apply kI Z h<;>intro h
  .cases h;exact kR Z
  exact g _ [] _ (wrap .i64 (x1+1)) Mz h
 cases h;exact kR Z
def B7 (N:Nat)(a:Sl Ca)(b:Ca->Option Bool):Option Bool:= (E4 N a b).bind fun y1=>some (decide (0<=y1))
theorem V2 {a:Sl Ca}{c:Ca->Option Bool}{kp_f:Nat}(d:∀{a0:Ca}{b:Bool},c a0=some b->FunO S kp_f [.p (.agg (L7 a0))] [] (pB b) [] []){y:Bool}(h:B7 N a c=some y) :FunO S J4 [.p (vSl 2 L7 a),.clo kp_f [] []] [] (pB y) ([]) []:=by unfold B7 at h;refine A3 Z func47 ?_;refine kC Z h (Ac Z Y (fun e=>d e)) (fun y1 h=>?_);cases h;exact kR Z
def V4 (N:Nat)(a:Sl Ca)(b:Int):Option Int:= lt (fun (z1:Bool)=>if z1 then some 2 else S3 N (fun c (x2:Int)=>if (decide (x2<(a.n:Int))) then if ((0:Int)<=x2/\x2<(a.n:Int))then (Z0 N (a.g x2.toNat).W).bind fun y5=>if (y5 != 0) then some y5 else c (wrap .i64 (x2+1)) else none else some 0) 0) fun k1=>if ((a.n:Int) != b) then k1 true else (B7 N a (fun (u2:Ca)=>R8 N u2)).bind fun y2=>k1 y2
theorem Lu {a:Sl Ca}{b:Int}{y:Int}(h:V4 N a b=some y) :FunO S FM [.p (vSl 2 L7 a),pN b] [] (pN y) ([]) []:=by
 unfold V4 at h;refine A3 Z func29 ?_;refine QC Z Mz (B2 Z) h 0 (fun z1=>⟨[(15,pB z1),(0,.p (vSl 2 L7 a))],[]⟩) (fun M1 k1 c h=>?_) (fun z1 h=>?_)
 .refine kG Z h (fun h=>?_) (fun h=>?_)
  .exact c _ [] _ true Mz h
  refine kC Z h (V2 Z Y (fun e=>Jn Z Y e)) (fun y2 h=>?_);exact c _ [] _ y2 Mz h
 apply kI Z h<;>intro h
 .cases h;exact kR Z
 refine AF Z Mz h (fun x2=>⟨[(18,pN x2),(17,pN (a.n:Int)),(16,.p (vSl 2 L7 a))],[]⟩) (ids:=[]) (fun _ _ _ _ _ d x2 f h=>?_);apply kI Z h<;>intro h
 .obtain⟨c12,h⟩:=I5 h;obtain⟨y5,e5,h⟩:=D1 h;refine F0 Z [] (And.intro c12 Ob) (GD Z Y e5) ?_;apply kI Z h<;>intro h
  .cases h;exact kR Z
  exact f _ [] _ (wrap .i64 (x2+1)) Mz h
 cases h;exact kR Z
def BR (N:Nat)(a:A7):Option ((Sl (Sl Law))×Int):= (Q1 N a).bind fun y1=>if (y1 != 0) then some ((Sl.nil:Sl (Sl Law)),y1) else (Ay N a.Tree).bind fun y2=>if (y2.2 != 0) then some ((Sl.nil:Sl (Sl Law)),y2.2) else if ((0:Int)<=(y2.1.n:Int)/\(y2.1.n:Int)<=(y2.1.n:Int)/\(y2.1.n:Int)*24<=140737488355328/\(y2.1.n:Int)<=140737488355328)then W9 N (fun b (x1:Sl (Sl Law)) (x2:Int)=>if (decide (x2<(y2.1.n:Int))) then if (((0:Int)<=x2/\x2<(y2.1.n:Int))/\x2.toNat<y2.1.n)then (S2 N a (y2.1.g x2.toNat)).bind fun y5=>if (((0:Int)<=x2/\x2<(x1.n:Int))/\x2.toNat<x1.n)then if (y5.2 != 0) then some ((Sl.nil:Sl (Sl Law)),y5.2) else b (x1.upd x2.toNat y5.1) (wrap .i64 (x2+1)) else none else none else some (x1,0)) (Sl.rep (y2.1.n:Int).toNat (Sl.nil:Sl Law):Sl (Sl Law)) 0 else none
theorem Rr {a:A7}{y:(Sl (Sl Law))×Int}(h:BR N a=some y) :FunO S IP [.p (.agg (B6 a))] [] (.tup [.vec 0,pN y.2]) ([.vec Y9 1 y.1.n (fun i=>cL 18 B3 (y.1.g i)) true]) []:=by
 unfold BR at h;refine A3 Z func21 ?_;refine kC Z h (GI Z Y) (fun y1 h=>?_);apply kI Z h<;>intro h
 .obtain rfl:=B9 h;exact A6 Z Mz ⟨[(3,pN y1),(2,.vec 3700)],[(3700,.vec Y9 1 (Sl.nil:Sl (Sl Law)).n (fun i=>cL 18 B3 ((Sl.nil:Sl (Sl Law)).g i)) true)]⟩ [3700] (ids:=[]) ⟨rfl,rfl,rfl⟩
 refine kC Z h (Jl Z Y) (fun y2 h=>?_);apply kI Z h<;>intro h
 .obtain rfl:=B9 h;exact A6 Z Mz ⟨[(3,pN y2.2),(2,.vec 3700)],[(3700,.vec Y9 1 (Sl.nil:Sl (Sl Law)).n (fun i=>cL 18 B3 ((Sl.nil:Sl (Sl Law)).g i)) true)]⟩ [3700] (ids:=[]) ⟨rfl,rfl,rfl⟩
 obtain⟨c3,h⟩:=I5 h;refine QI Z c3 7 27000 (k:=1) (n:=(y2.1.n:Int).toNat) (e:=Y9) (vw:=false) (fun _=>[AH]) (fun i=>cL 18 B3 ((Sl.rep (y2.1.n:Int).toNat (Sl.nil:Sl Law):Sl (Sl Law)).g i)) (fun i j=>leCc lePN leC0) ?_;refine Q5 Z Mz h (fun x1 x2=>⟨[(29,pN x2),(28,pN (y2.1.n:Int)),(27,.vec 19000),(7,.vec 27000),(1,.reg 2000 0)],[(27000,.vec Y9 1 x1.n (fun i=>cL 18 B3 (x1.g i)) false),(19000,.vec H6 1 y2.1.n (fun i=>cI .i64 (y2.1.g i)) true),(2000,.cells ((B6 a).map .p))]⟩) (ids:=[(2000,2000),(19000,19000),(27000,27000)]) (fun _ _ _ _ _ d x1 x2 f h=>?_);apply kI Z h<;>intro h
 .obtain⟨c13,h⟩:=I5 h;obtain⟨y5,e5,h⟩:=D1 h;refine F0 Z [] c13 (Ow Z Y e5) ?_;obtain⟨c14,h⟩:=I5 h;refine E7 Z (And.intro c14.1 (And.intro (rfl:(1:Nat)=1) (And.intro c14.2 Oa))) (b:=y5.2 != 0) (fun c15=>?_) (fun c15=>?_)
  .replace h:=itT c15 h;obtain rfl:=B9 h;exact A6 Z Mz ⟨[(3,pN y5.2),(2,.vec 3700)],[(3700,.vec Y9 1 (Sl.nil:Sl (Sl Law)).n (fun i=>cL 18 B3 ((Sl.nil:Sl (Sl Law)).g i)) true)]⟩ [3700] (ids:=[]) ⟨rfl,rfl,rfl⟩
  replace h:=itF c15 h;exact f _ [(2000,2000),(19000,19000),(27000,27000)] _ (x1.upd x2.toNat y5.1) (wrap .i64 (x2+1)) Mz h (hle:=klR [(2,.fn x1.n (x1.upd x2.toNat y5.1).n (fun l=>if l=x2.toNat then splice ((fun i=>cL 18 B3 (x1.g i)) l) 0 [vSl 18 B3 y5.1]else (fun i=>cL 18 B3 (x1.g i)) l) (fun i=>cL 18 B3 ((x1.upd x2.toNat y5.1).g i)))] (al1 ⟨rfl,At6 (c:=cL 18 B3) (v:=x1) (x:=y5.1) same (fun _=>by first|rfl|(dsimp only;split<;>rfl))⟩ al0))
 obtain rfl:=B9 h;exact A6 Z Mz ⟨[(3,pN 0),(2,.vec 27000)],[(27000,.vec Y9 1 x1.n (fun i=>cL 18 B3 (x1.g i)) true)]⟩ [27000] (ids:=[(27000,27000)]) ⟨rfl,rfl,rfl⟩
def CO (N:Nat)(c:Sl U1)(a:Sl Int):Option Int:= (T7 N c).bind fun y1=>if (y1 != 0) then some y1 else S3 N (fun b (x1:Int)=>if (decide (x1<(a.n:Int))) then if ((0:Int)<=x1/\x1<(a.n:Int))then if ((decide ((a.g x1.toNat)<0))||(decide ((c.n:Int)<=(a.g x1.toNat)))) then some 3 else b (wrap .i64 (x1+1)) else none else some 0) 0
theorem Tx {c:Sl U1}{b:Sl Int}{y:Int}(h:CO N c b=some y) :FunO S KT [.p (vSl 2 H3 c),.p (vSl 1 (cI .i64) b)] [] (pN y) ([]) []:=by
 unfold CO at h;refine A3 Z func40 ?_;refine kC Z h (GH Z Y) (fun y1 h=>?_);apply kI Z h<;>intro h
 .cases h;exact kR Z
 refine AF Z Mz h (fun x1=>⟨[(15,pN x1),(14,pN (b.n:Int)),(13,.p (vSl 1 (cI .i64) b)),(0,.p (vSl 2 H3 c))],[]⟩) (ids:=[]) (fun _ _ _ _ _ d x1 f h=>?_);apply kI Z h<;>intro h
 .obtain⟨c9,h⟩:=I5 h;refine kB Z (B2 Z) c9 Mz 5 (.o (.a (decide ((b.g x1.toNat)<0))) (.a (decide ((c.n:Int)<=(b.g x1.toNat))))) ?_;apply kI Z h<;>intro h
  .cases h;exact kR Z
  exact f _ [] _ (wrap .i64 (x1+1)) Mz h
 cases h;exact kR Z
def FE (N:Nat)(q0:Int)(q1:Sl U1):Option (List (Int)):= S3 N (fun a (x1:Int)=>if (decide (0<=x1)) then Y4 x1 (if ((0:Int)<=x1/\x1<(q1.n:Int))then a (q1.g x1.toNat).Parent else none) else some []) q0
theorem Vl {q0:Int}{q1:Sl U1}{L:List (Int)}(h:FE N q0 q1=some L) :Dh S Fu [] [.reg 0 0,.reg 1 0] [.cells [pN q0],.cells [.p (vSl 2 H3 q1)]] (L.map (fun (x:Int)=>[pI .i64 x])):=by
 unfold FE at h;refine DY Z func67 ?_;refine Gn Z Mz h (fun x1 L1=>⟨[(2,.reg 1 0),(1,.reg 0 0),(0,.yf 2)],[(2,.yld (L1.map (fun (x:Int)=>[pI .i64 x])) true),(1,.cells [.p (vSl 2 H3 q1)]),(0,.cells [pN x1])]⟩) (ids:=[(0,0),(1,1),(2,2)]) (fun _ _ _ _ _ d x1 L1 f h=>?_);apply kI Z h<;>intro h
 .obtain⟨L4,rfl,c⟩:=Li h;replace h:=c;refine Dy Z Mz (ys:=(fun (x:Int)=>[pI .i64 x]) x1) (rest:=L4.map (fun (x:Int)=>[pI .i64 x])) ?_ ?_
  .refine E7 Z Mz (b:=false) (fun c8=>?_) (fun c8=>?_)
   .exact Bool.noConfusion ((rfl:false=false).symm.trans c8)
   obtain⟨c9,h⟩:=I5 h;exact f _ [(0,0),(1,1),(2,2)] _ (q1.g x1.toNat).Parent L4 c9 h
  refine E7 Z Mz (b:=true) (fun c10=>?_) (fun c10=>?_)
  .exact A6 Z Mz (a:=.tup []) (objs:=[(.cells [pN x1]),.cells [.p (vSl 2 H3 q1)],.yld [] false]) ⟨[],[(2,.yld [] false),(1,.cells [.p (vSl 2 H3 q1)]),(0,.cells [pN x1])]⟩ [0,1,2] (ids:=[(0,0),(1,1),(2,2)]) ⟨false,rfl,rfl,_,rfl⟩
  exact Bool.noConfusion (Og.symm.trans c10)
 obtain rfl:=B9 h;exact A6 Z Mz (a:=.tup []) (objs:=[(.cells [pN x1]),.cells [.p (vSl 2 H3 q1)],.yld [] true]) ⟨[],[(2,.yld [] true),(1,.cells [.p (vSl 2 H3 q1)]),(0,.cells [pN x1])]⟩ [0,1,2] (ids:=[(0,0),(1,1),(2,2)]) ⟨true,rfl,rfl,_,rfl⟩
def Jo (N:Nat)(a:Sl U1)(b:Int):Option (Int×(Sl U1)):= some (b,a)
theorem Aa7 {a:Sl U1}{b:Int}{y:Int×(Sl U1)}(h:Jo N a b=some y) :FunO S SW [.p (vSl 2 H3 a),pN b] [] (.clo Fu [] [.reg 0 0,.reg 1 0]) ([.cells [pN y.1],.cells [.p (vSl 2 H3 y.2)]]) []:=by unfold Jo at h;refine A3 Z func42 ?_;obtain rfl:=B9 h;exact A6 Z Mz ⟨[(4,.clo Fu [] [.reg 4000 0,.reg 3000 0])],[(4000,.cells [pN b]),(3000,.cells [.p (vSl 2 H3 a)])]⟩ [4000,3000] (ids:=[(3000,3000),(4000,4000)]) ⟨rfl,rfl,rfl⟩
def H5 (N:Nat)(a:List (Int)):Option (Sl Int):= O1 a (fun b (x1:Int) (z1:Sl Int)=>if ((z1.n+(Sl.of [x1]:Sl Int).n)*8<=140737488355328/\z1.n+(Sl.of [x1]:Sl Int).n<=140737488355328)then b (z1.push x1) else none) (fun (z1:Sl Int)=>some z1) Ra
theorem CP {d:List (Int)}{a:Int}{b:(Sl U1)}{kp_seq:Nat}(fp_seq:∃fn,AQ3[kp_seq]? = some fn/\fn.body.isSome=true/\(fn.name == "runtime.NumGoroutine")=false)(f:Dh S kp_seq [] [.reg 0 0,.reg 1 0] [(.cells [(pN a)]),(.cells [(.p (vSl 2 H3 b))])] (d.map (fun (x:Int)=>[(pI .i64) x]))){y:(Sl Int)}(h:H5 N d=some y) :FunO S N9 [(.p AH),(.clo kp_seq [] [(.reg 0 0),(.reg 1 0)])] [(.cells [(pN a)]),(.cells [(.p (vSl 2 H3 b))])] (.vec 0) ([(.vec H6 1 y.n (fun i=>(cI .i64) (y.g i)) false)]) [false,false]:=by
 unfold H5 at h;refine A3 Z func66 ?_;refine LJ Z Mz fp_seq [0,1] [2] 901 (fun z1=>⟨[(2,(.reg 3000 0))],[(3500,(.vec H6 1 z1.n (fun i=>(cI .i64) (z1.g i)) false)),(3000,(.cells [(.vec 3500)]))]⟩) (idl:=[(3000,3000)]) h f (fun _=>by kernel_rfl) (fun _=>by kernel_rfl) (fun _=>by kernel_rfl) (fun _=>by kernel_rfl) (fun x1 _ j z1 l h=>?_) (fun z1 h=>?_)
 .refine Lj Z Mz ?_;obtain⟨c1,h⟩:=I5 h;exact l _ [(901,901),(3000,3000),(3500,12000)] _ (z1.push x1) (And.intro Og c1) h (hle:=klR [(0,.fn (z1.n+1) (z1.push x1).n (Cb z1.n (fun i=>(cI .i64) (z1.g i)) (J5 [(pI .i64 0)] [(0,(cI .i64) x1)])) (fun i=>(cI .i64) ((z1.push x1).g i)))] (al1 ⟨rfl,(Uf (c:=(cI .i64)) (v:=z1) (x:=x1) (z:=[(pI .i64 0)]) same rfl rfl)⟩ al0))
 obtain rfl:=B9 h;exact A6 Z Mz ⟨[(4,(.vec 3500))],[(3500,(.vec H6 1 z1.n (fun i=>(cI .i64) (z1.g i)) false))]⟩ [3500] (ids:=[(3500,3500)]) ⟨rfl,rfl,rfl⟩
def R9 (N:Nat)(a:List (Int)):Option (Sl Int):= (H5 N a).bind fun y1=>some y1
theorem GK {c:List (Int)}{a:Int}{b:(Sl U1)}{kp_seq:Nat}(fp_seq:∃fn,AQ3[kp_seq]? = some fn/\fn.body.isSome=true/\(fn.name == "runtime.NumGoroutine")=false)(d:Dh S kp_seq [] [.reg 0 0,.reg 1 0] [(.cells [(pN a)]),(.cells [(.p (vSl 2 H3 b))])] (c.map (fun (x:Int)=>[(pI .i64) x]))){y:(Sl Int)}(h:R9 N c=some y) :FunO S AJ [(.clo kp_seq [] [(.reg 0 0),(.reg 1 0)])] [(.cells [(pN a)]),(.cells [(.p (vSl 2 H3 b))])] (.vec 0) ([(.vec H6 1 y.n (fun i=>(cI .i64) (y.g i)) false)]) [false,false]:=by unfold R9 at h;refine A3 Z func41 ?_;obtain⟨y1,e1,h⟩:=D1 h;refine F0 Z [0,1] Mz (CP Z Y fp_seq d e1) ?_;obtain rfl:=B9 h;exact A6 Z Mz ⟨[(2,(.vec 5000))],[(5000,(.vec H6 1 y1.n (fun i=>(cI .i64) (y1.g i)) false))]⟩ [5000] (ids:=[(5000,5000)]) ⟨rfl,rfl,rfl⟩
def G6 (N:Nat)(b:Sl Int):Option (Sl Int):= Ak9 N (fun a (x1:Sl Int) (x2:Int) (x3:Int)=>if (decide (x2<x3)) then if (((((((((0:Int)<=x3/\x3<(x1.n:Int))/\x3.toNat<x1.n)/\((0:Int)<=x2/\x2<(x1.n:Int)))/\x2.toNat<x1.n)/\((0:Int)<=x2/\x2<(x1.n:Int)))/\x2.toNat<x1.n)/\((0:Int)<=x3/\x3<((x1.upd x2.toNat (x1.g x3.toNat)).n:Int)))/\x3.toNat<(x1.upd x2.toNat (x1.g x3.toNat)).n)then a ((x1.upd x2.toNat (x1.g x3.toNat)).upd x3.toNat (x1.g x2.toNat)) (wrap .i64 (x2+1)) (wrap .i64 (x3-1)) else none else some x1) b 0 (wrap .i64 ((b.n:Int)-1))
theorem DO {a:Sl Int}{y:Sl Int}(h:G6 N a=some y) :FunO S Y6 [.vec 0] [.vec H6 1 a.n (fun i=>cI .i64 (a.g i)) false] (.tup []) ([.vec H6 1 y.n (fun i=>cI .i64 (y.g i)) false]) [true]:=by
 unfold G6 at h;refine A3 Z func43 ?_;refine Wz Z Mz h (fun x1 x2 x3=>⟨[(3,pN x3),(2,pN x2),(0,.vec 0)],[(0,.vec H6 1 x1.n (fun i=>cI .i64 (x1.g i)) false)]⟩) (ids:=[(0,0)]) (fun _ _ _ _ _ b x1 x2 x3 d h=>?_);apply kI Z h<;>intro h
 .refine HX Z Mz ?_;obtain⟨c6,h⟩:=I5 h;refine N2 (And.intro (And.intro (And.intro (And.intro (And.intro (And.intro (And.intro c6.1.1.1.1.1.1.1 c6.1.1.1.1.1.1.2) c6.1.1.1.1.1.2) c6.1.1.1.1.2) c6.1.1.1.2) (And.intro (rfl:(1:Nat)=1) (And.intro c6.1.1.2 Oa))) c6.1.2) (And.intro (rfl:(1:Nat)=1) (And.intro c6.2 Oa))) ?_;exact d _ [(0,0)] _ ((x1.upd x2.toNat (x1.g x3.toNat)).upd x3.toNat (x1.g x2.toNat)) (wrap .i64 (x2+1)) (wrap .i64 (x3-1)) Mz h (hle:=klR [(2,.fn x1.n ((x1.upd x2.toNat (x1.g x3.toNat)).upd x3.toNat (x1.g x2.toNat)).n (fun l=>if l=x3.toNat then splice ((fun l=>if l=x2.toNat then splice ((fun i=>cI .i64 (x1.g i)) l) 0 [pI .i64 (x1.g x3.toNat)]else (fun i=>cI .i64 (x1.g i)) l) l) 0 [pI .i64 (x1.g x2.toNat)]else (fun l=>if l=x2.toNat then splice ((fun i=>cI .i64 (x1.g i)) l) 0 [pI .i64 (x1.g x3.toNat)]else (fun i=>cI .i64 (x1.g i)) l) l) (fun i=>cI .i64 (((x1.upd x2.toNat (x1.g x3.toNat)).upd x3.toNat (x1.g x2.toNat)).g i)))] (al1 ⟨rfl,At6 (c:=cI .i64) (v:=x1.upd x2.toNat (x1.g x3.toNat)) (x:=x1.g x2.toNat) (At6 (c:=cI .i64) (v:=x1) (x:=x1.g x3.toNat) same (fun _=>by first|rfl|(dsimp only;split<;>rfl))) (fun _=>by first|rfl|(dsimp only;split<;>rfl))⟩ al0))
 obtain rfl:=B9 h;exact A6 Z Mz ⟨[],[(0,.vec H6 1 x1.n (fun i=>cI .i64 (x1.g i)) false)]⟩ [0] (ids:=[(0,0)]) ⟨rfl,rfl,rfl⟩
def DP (N:Nat)(a:Sl U1)(b:Int):Option ((Sl Int)×Int):= (CO N a (Sl.of [b]:Sl Int)).bind fun y1=>if (y1 != 0) then some (Ra,y1) else (Jo N a b).bind fun y2=>(FE N y2.1 y2.2).bind fun L1=>(R9 N L1).bind fun y3=>(G6 N y3).bind fun y4=>some (y4,0)
theorem Vm {b:Sl U1}{a:Int}{y:(Sl Int)×Int}(h:DP N b a=some y) :FunO S Mx [.p (vSl 2 H3 b),pN a] [] (.tup [.vec 0,pN y.2]) ([.vec H6 1 y.1.n (fun i=>cI .i64 (y.1.g i)) true]) []:=by
 unfold DP at h;refine A3 Z func24 ?_;refine II Z Og ⟨[(10,.vec 11000),(8,.p (vSl 2 H3 b)),(1,pN a),(0,.p (vSl 2 H3 b))],[(11000,.vec H6 1 (Sl.of [a]:Sl Int).n (fun i=>cI .i64 ((Sl.of [a]:Sl Int).g i)) false)]⟩ (ids:=[(11000,11000)]) ?_ (hle:=klR [(3,.fn 1 (Sl.of [a]:Sl Int).n (J5 [pI .i64 0] [(0,cI .i64 a)]) (fun i=>cI .i64 ((Sl.of [a]:Sl Int).g i)))] (al1 ⟨rfl,(fun i c=>match i,c with|0,_=>rfl|_+1,c=>Ln c (by omega))⟩ al0));refine kC Z h (Tx Z Y) (fun y1 h=>?_);apply kI Z h<;>intro h
 .obtain rfl:=B9 h;exact A6 Z Mz ⟨[(5,pN y1),(4,.vec 5700)],[(5700,.vec H6 1 Ra.n (fun i=>cI .i64 (Ra.g i)) true)]⟩ [5700] (ids:=[]) ⟨rfl,rfl,rfl⟩
 refine kC Z h (Aa7 Z Y) (fun y2 h=>?_);obtain⟨L1,e3,h⟩:=D1 h;obtain⟨y3,e4,h⟩:=D1 h;refine F0 Z [18000,18001] Mz (GK Z Y ⟨_,func67,by decide +kernel,by decide +kernel⟩ (Vl Z Y e3) e4) ?_;obtain⟨y4,e5,h⟩:=D1 h;refine QG Z [19000] Mz (DO Z Y e5) ?_;obtain rfl:=B9 h;exact A6 Z Mz ⟨[(5,pN 0),(4,.vec 19000)],[(19000,.vec H6 1 y4.n (fun i=>cI .i64 (y4.g i)) true)]⟩ [19000] (ids:=[(19000,19000)]) ⟨rfl,rfl,rfl⟩
def S9 (N:Nat)(a:Law):Option Bool:= (Dl N a.Left).bind fun y1=>(Dl N a.Right).bind fun y2=>if (decide ((wrap .i64 (y1+y2))<=30)) then if (decide ((a.If.n:Int)<=10)) then some (decide ((a.Out.n:Int)<=10)) else some false else some false
theorem Kf {a:Law}{y:Bool}(h:S9 N a=some y) :FunO S EP [.p (.agg (B3 a))] [] (pB y) ([]) []:=by
 unfold S9 at h;refine A3 Z func17 ?_;refine W7 Z Mz 2 2000 (B3 a) ?_;refine J0 Z Mz [1,2,4,5,10,16] ?_;obtain⟨y1,e1,h⟩:=D1 h;refine Bv (by decide:(7:Nat)<=17) (Pw Z Y e1) ?_;obtain⟨y2,e2,h⟩:=D1 h;refine Bv (by decide:(7:Nat)<=10) (Pw Z Y e2) ?_;refine HY Mz (b:=decide ((wrap .i64 (y1+y2))<=30)) (fun c1=>?_) (fun c1=>?_)
 .replace h:=itT c1 h;refine HY Mz (b:=decide ((a.If.n:Int)<=10)) (fun c2=>?_) (fun c2=>?_)
  .replace h:=itT c2 h;refine N2 Mz ?_;cases h;exact kR Z
  replace h:=itF c2 h;refine N2 Mz ?_;cases h;exact kR Z
 replace h:=itF c1 h;refine N2 Mz ?_;cases h;exact kR Z
def T0 (N:Nat)(a:A7):Option Bool:= if (((decide (8<(a.Tree.n:Int)))||(decide (6<(a.Laws.n:Int))))||(decide (8<(a.On.n:Int)))) then some false else S3 N (fun b (x1:Int)=>if (decide (x1<(a.Laws.n:Int))) then if ((0:Int)<=x1/\x1<(a.Laws.n:Int))then (S9 N (a.Laws.g x1.toNat)).bind fun y3=>if (!y3) then some false else b (wrap .i64 (x1+1)) else none else S3 N (fun c (x2:Int)=>if (decide (x2<(a.On.n:Int))) then if ((0:Int)<=x2/\x2<(a.On.n:Int))then if (decide (4<((a.On.g x2.toNat).n:Int))) then some false else c (wrap .i64 (x2+1)) else none else some true) 0) 0
theorem Kg {c:A7}{y:Bool}(h:T0 N c=some y) :FunO S EM [.p (.agg (B6 c))] [] (pB y) ([]) []:=by
 unfold T0 at h;refine A3 Z func6 ?_;refine kB Z (B2 Z) Mz Mz 11 (.o (.o (.a (decide (8<(c.Tree.n:Int)))) (.a (decide (6<(c.Laws.n:Int))))) (.a (decide (8<(c.On.n:Int))))) ?_;apply kI Z h<;>intro h
 .cases h;exact kR Z
 refine AF Z Mz h (fun x1=>⟨[(3,pN x1),(1,.reg 2000 0)],[(2000,.cells ((B6 c).map .p))]⟩) (ids:=[(2000,2000)]) (fun _ _ _ _ _ d x1 f h=>?_);apply kI Z h<;>intro h
 .obtain⟨c9,h⟩:=I5 h;obtain⟨y3,e3,h⟩:=D1 h;refine F0 Z [] (And.intro c9 Oe) (Kf Z Y e3) ?_;apply kI Z h<;>intro h
  .cases h;exact kR Z
  exact f _ [(2000,2000)] _ (wrap .i64 (x1+1)) Mz h
 refine AF Z Mz h (fun x2=>⟨[(4,pN x2),(1,.reg 2000 0)],[(2000,.cells ((B6 c).map .p))]⟩) (ids:=[(2000,2000)]) (fun _ _ _ _ _ i x2 j h=>?_);apply kI Z h<;>intro h
 .obtain⟨c18,h⟩:=I5 h;refine E7 Z c18 (b:=decide (4<((c.On.g x2.toNat).n:Int))) (fun c19=>?_) (fun c19=>?_)
  .replace h:=itT c19 h;cases h;exact kR Z
  replace h:=itF c19 h;exact j _ [(2000,2000)] _ (wrap .i64 (x2+1)) Mz h
 cases h;exact kR Z
def I7 (N:Nat)(a:Sl Tb)(o:Int):Option (Sl (Sl Tb)):= Ak9 N (fun j (x9:Sl (Sl Tb)) (q:Int) (l:Int)=>if (decide (l<o)) then W9 N (fun f (m:Sl (Sl Tb)) (c:Int)=>if (decide (c<(x9.n:Int))) then W9 N (fun i (b:Sl (Sl Tb)) (d:Int)=>if (decide (d<(a.n:Int))) then if (((((0:Int)<=c/\c<(b.n:Int))/\c.toNat<b.n)/\((Rc.n+(b.g c.toNat).n)*8<=140737488355328/\Rc.n+(b.g c.toNat).n<=140737488355328))/\((0:Int)<=d/\d<(a.n:Int)))then if ((((Rc.app (b.g c.toNat)).n+(Sl.of [a.g d.toNat]:Sl Tb).n)*8<=140737488355328/\(Rc.app (b.g c.toNat)).n+(Sl.of [a.g d.toNat]:Sl Tb).n<=140737488355328)/\((b.n+(Sl.of [(Rc.app (b.g c.toNat)).push (a.g d.toNat)]:Sl (Sl Tb)).n)*24<=140737488355328/\b.n+(Sl.of [(Rc.app (b.g c.toNat)).push (a.g d.toNat)]:Sl (Sl Tb)).n<=140737488355328))then i (b.push ((Rc.app (b.g c.toNat)).push (a.g d.toNat))) (wrap .i64 (d+1)) else none else none else f b (wrap .i64 (c+1))) m 0 else j m (x9.n:Int) (wrap .i64 (l+1))) x9 q else some x9) (Sl.of [Rb]:Sl (Sl Tb)) 0 0
theorem Kh {b:Sl Tb}{m:Int}{y:Sl (Sl Tb)}(h:I7 N b m=some y) :FunO S EO [.p (vSl 2 A0 b),pN m] [] (.vec 0) ([.vec A8 1 y.n (fun i=>cL 2 A0 (y.g i)) true]) []:=by
 unfold I7 at h;refine A3 Z func10 ?_;refine QI Z Og 5 12000 (k:=1) (n:=1) (e:=A8) (vw:=false) (J5 [AH] [(0,[AH])]) (fun i=>cL 2 A0 ((Sl.of [Rb]:Sl (Sl Tb)).g i)) (fun i r=>match i,r with|0,_=>leCn|_+1,r=>Ln r (by omega)) ?_;refine Wz Z Mz h (fun x9 s o=>⟨[(7,pN o),(6,pN s),(5,.vec 6500),(1,pN m),(0,.p (vSl 2 A0 b))],[(6500,.vec A8 1 x9.n (fun i=>cL 2 A0 (x9.g i)) false)]⟩) (ids:=[(6500,12000)]) (fun _ _ _ _ _ a2 x9 s o a3 h=>?_);apply kI Z h<;>intro h
 .refine Q5 Z Mz h (fun q f=>⟨[(9,pN f),(8,pN (x9.n:Int)),(7,pN o),(5,.vec 6503),(1,pN m),(0,.p (vSl 2 A0 b))],[(6503,.vec A8 1 q.n (fun i=>cL 2 A0 (q.g i)) false)]⟩) (ids:=[(6503,6500)]) (fun _ _ _ _ _ a0 q f t h=>?_);apply kI Z h<;>intro h
  .refine Q5 Z Mz h (fun d j=>⟨[(10,pN j),(9,pN f),(8,pN (x9.n:Int)),(7,pN o),(5,.vec 6501),(1,pN m),(0,.p (vSl 2 A0 b))],[(6501,.vec A8 1 d.n (fun i=>cL 2 A0 (d.g i)) false)]⟩) (ids:=[(6501,6503)]) (fun _ _ _ _ _ a1 d j u h=>?_);apply kI Z h<;>intro h
   .refine U0 Z Mz [(1,.a [33000]),(4,.l [6501]),(5,.l [6501]),(6,.a [38000,33000]),(9,.n),(10,.n),(12,.a [44000,38000]),(13,.w),(14,.a [46000,6501,45000])] ?_;obtain⟨c92,h⟩:=I5 h;refine Gm (And.intro (And.intro (And.intro (And.intro (And.intro Og c92.1.1.1) c92.1.1.2) c92.1.2) c92.2) Ob) (x:=.sl true 2 1 (J5 [pI .u32 0,pI .u32 0] [(0,A0 (b.g j.toNat))])) ?_;obtain⟨c93,h⟩:=I5 h;refine N2 (And.intro (And.intro c93.1 Og) c93.2) ?_;refine QI Z Mz 29 46000 (k:=1) (n:=d.n+1) (e:=A8) (vw:=false) (Cb d.n (fun i=>cL 2 A0 (d.g i)) (J5 [AH] [(0,[.sl false 2 ((0+(d.g f.toNat).n)+1) (Cb (0+(d.g f.toNat).n) (Cb 0 (J5 [pI .u32 0,pI .u32 0] []) (fun i=>A0 ((d.g f.toNat).g i))) (J5 [pI .u32 0,pI .u32 0] [(0,A0 (b.g j.toNat))]))])])) (fun i=>cL 2 A0 ((d.push ((Rc.app (d.g f.toNat)).push (b.g j.toNat))).g i)) (appQ1 (c:=cL 2 A0) (v:=d) (x:=(Rc.app (d.g f.toNat)).push (b.g j.toNat)) same (leC1 rfl (Uf (c:=A0) (v:=Rc.app (d.g f.toNat)) (x:=b.g j.toNat) (z:=[(pI .u32 0),pI .u32 0]) (appL (c:=A0) (v:=Rc) (w:=d.g f.toNat) (fun i r=>Ln r (by omega)) rfl same rfl) rfl rfl))) ?_;exact u _ [(6501,46000)] _ (d.push ((Rc.app (d.g f.toNat)).push (b.g j.toNat))) (wrap .i64 (j+1)) Mz h
   exact t _ [(6503,6501)] _ d (wrap .i64 (f+1)) Mz h
  exact a3 _ [(6500,6503)] _ q (x9.n:Int) (wrap .i64 (o+1)) Mz h
 obtain rfl:=B9 h;exact A6 Z Mz ⟨[(4,.vec 6500)],[(6500,.vec A8 1 x9.n (fun i=>cL 2 A0 (x9.g i)) true)]⟩ [6500] (ids:=[(6500,6500)]) ⟨rfl,rfl,rfl⟩
def S0 (N:Nat)(a:A7)(f:Sl Tb)(i:Int):Option ((Sl Tb)×Bool):= (DP N a.Tree i).bind fun y1=>if (y1.2 != 0) then some (Rb,false) else W9 N (fun b (x3:Sl Tb) (x4:Int)=>if (decide (x4<(y1.1.n:Int))) then if (((0:Int)<=x4/\x4<(y1.1.n:Int))/\x4.toNat<y1.1.n)then if (decide ((y1.1.g x4.toNat)<0)) then some (Rb,false) else if (((0:Int)<=x4/\x4<(y1.1.n:Int))/\x4.toNat<y1.1.n)then if (decide ((a.On.n:Int)<=(y1.1.g x4.toNat))) then some (Rb,false) else if ((((0:Int)<=x4/\x4<(y1.1.n:Int))/\x4.toNat<y1.1.n)/\((0:Int)<=(y1.1.g x4.toNat)/\(y1.1.g x4.toNat)<(a.On.n:Int)))then W9 N (fun c (x7:Sl Tb) (x8:Int)=>if (decide (x8<((a.On.g (y1.1.g x4.toNat).toNat).n:Int))) then if ((0:Int)<=x8/\x8<((a.On.g (y1.1.g x4.toNat).toNat).n:Int))then if (decide (((a.On.g (y1.1.g x4.toNat).toNat).g x8.toNat)<0)) then some (Rb,false) else if ((0:Int)<=x8/\x8<((a.On.g (y1.1.g x4.toNat).toNat).n:Int))then if (decide ((a.Laws.n:Int)<=((a.On.g (y1.1.g x4.toNat).toNat).g x8.toNat))) then some (Rb,false) else if (((0:Int)<=x8/\x8<((a.On.g (y1.1.g x4.toNat).toNat).n:Int))/\((0:Int)<=((a.On.g (y1.1.g x4.toNat).toNat).g x8.toNat)/\((a.On.g (y1.1.g x4.toNat).toNat).g x8.toNat)<(a.Laws.n:Int)))then (P9 N (a.Laws.g ((a.On.g (y1.1.g x4.toNat).toNat).g x8.toNat).toNat) x7).bind fun d=>if (d.2 != 0) then some (Rb,false) else c d.1 (wrap .i64 (x8+1)) else none else none else none else b x7 (wrap .i64 (x4+1))) x3 0 else none else none else none else some (x3,true)) f 0
theorem Jp {a:A7}{c:Sl Tb}{d:Int}{y:(Sl Tb)×Bool}(h:S0 N a c d=some y) :FunO S Ea [.p (.agg (B6 a)),.p (vSl 2 A0 c),pN d] [] (.tup [.p (vSl 2 A0 y.1),pB y.2]) ([]) []:=by
 unfold S0 at h;refine A3 Z func14 ?_;refine W7 Z Mz 6 4000 (B6 a) ?_;refine kC Z h (Vm Z Y) (fun y1 h=>?_);apply kI Z h<;>intro h
 .obtain rfl:=B9 h;exact A6 Z Mz ⟨[(7,pB false),(6,.p (vSl 2 A0 Rb))],[]⟩ [] (ids:=[]) ⟨rfl,rfl,rfl⟩
 refine Q5 Z Mz h (fun x3 x4=>⟨[(10,pN x4),(8,.vec 18000),(3,.p (.ptr (B6 a))),(1,.p (vSl 2 A0 x3))],[(18000,.vec H6 1 y1.1.n (fun i=>cI .i64 (y1.1.g i)) true)]⟩) (ids:=[(18000,18000)]) (fun _ _ _ _ _ f x3 x4 j h=>?_);apply kI Z h<;>intro h
 .refine J0 Z Mz [11] ?_;obtain⟨c57,h⟩:=I5 h;refine HY c57 (b:=decide ((y1.1.g x4.toNat)<0)) (fun c58=>?_) (fun c58=>?_)
  .replace h:=itT c58 h;refine N2 Mz ?_;obtain rfl:=B9 h;exact A6 Z Mz ⟨[(7,pB false),(6,.p (vSl 2 A0 Rb))],[]⟩ [] (ids:=[]) ⟨rfl,rfl,rfl⟩
  replace h:=itF c58 h;obtain⟨c59,h⟩:=I5 h;refine N2 c59 ?_;apply kI Z h<;>intro h
  .obtain rfl:=B9 h;exact A6 Z Mz ⟨[(7,pB false),(6,.p (vSl 2 A0 Rb))],[]⟩ [] (ids:=[]) ⟨rfl,rfl,rfl⟩
  refine J0 Z Mz [1,6,7] ?_;obtain⟨c61,h⟩:=I5 h;refine N2 c61 ?_;refine Q5 Z Mz h (fun x7 x8=>⟨[(12,pN x8),(11,.p (vSl 1 (cI .i64) (a.On.g (y1.1.g x4.toNat).toNat))),(10,pN x4),(8,.vec 18000),(3,.p (.ptr (B6 a))),(1,.p (vSl 2 A0 x7))],[(18000,.vec H6 1 y1.1.n (fun i=>cI .i64 (y1.1.g i)) true)]⟩) (ids:=[(18000,18000)]) (fun _ _ _ _ _ l x7 x8 m h=>?_);apply kI Z h<;>intro h
  .refine J0 Z Mz [2,3,8,9,11] ?_;obtain⟨c77,h⟩:=I5 h;refine HY c77 (b:=decide (((a.On.g (y1.1.g x4.toNat).toNat).g x8.toNat)<0)) (fun c78=>?_) (fun c78=>?_)
   .replace h:=itT c78 h;refine N2 Mz ?_;obtain rfl:=B9 h;exact A6 Z Mz ⟨[(7,pB false),(6,.p (vSl 2 A0 Rb))],[]⟩ [] (ids:=[]) ⟨rfl,rfl,rfl⟩
   replace h:=itF c78 h;obtain⟨c79,h⟩:=I5 h;refine N2 c79 ?_;apply kI Z h<;>intro h
   .obtain rfl:=B9 h;exact A6 Z Mz ⟨[(7,pB false),(6,.p (vSl 2 A0 Rb))],[]⟩ [] (ids:=[]) ⟨rfl,rfl,rfl⟩
   refine J0 Z Mz [1,4,5,6,7,9] ?_;obtain⟨c81,h⟩:=I5 h;obtain⟨o,e10,h⟩:=D1 h;refine Bv (And.intro (And.intro c81.1 c81.2) Oe) (MZ Z Y e10) ?_;refine N2 Mz ?_;apply kI Z h<;>intro h
   .obtain rfl:=B9 h;exact A6 Z Mz ⟨[(7,pB false),(6,.p (vSl 2 A0 Rb))],[]⟩ [] (ids:=[]) ⟨rfl,rfl,rfl⟩
   exact m _ [(18000,18000)] _ o.1 (wrap .i64 (x8+1)) Mz h
  exact j _ [(18000,18000)] _ x7 (wrap .i64 (x4+1)) Mz h
 cases h;exact kR Z
def P5 (N:Nat)(d:A7)(b:Sl Int)(f:Sl Tb)(a:Sl Ca):Option Bool:= S3 N (fun c (x2:Int)=>if (decide (x2<(b.n:Int))) then if ((0:Int)<=x2/\x2<(a.n:Int))then if (!(a.g x2.toNat).Has) then c (wrap .i64 (x2+1)) else if ((0:Int)<=x2/\x2<(b.n:Int))then (S0 N d f (b.g x2.toNat)).bind fun y7=>lt (fun (z3:Bool)=>if z3 then some false else c (wrap .i64 (x2+1))) fun k3=>if (!y7.2) then k3 true else if ((0:Int)<=x2/\x2<(a.n:Int))then (T6 N y7.1 (a.g x2.toNat).W).bind fun y9=>k3 (!y9) else none else none else none else some true) 0
theorem EY {d:A7}{c:Sl Int}{f:Sl Tb}{a:Sl Ca}{y:Bool}(h:P5 N d c f a=some y) :FunO S EN [.p (.agg (B6 d)),.p (vSl 1 (cI .i64) c),.p (vSl 2 A0 f),.p (vSl 2 L7 a)] [] (pB y) ([]) []:=by
 unfold P5 at h;refine A3 Z func9 ?_;refine W7 Z Mz 8 5000 (B6 d) ?_;refine AF Z Mz h (fun x2=>⟨[(9,pN x2),(4,.p (.ptr (B6 d))),(3,.p (vSl 2 L7 a)),(2,.p (vSl 2 A0 f)),(1,.p (vSl 1 (cI .i64) c))],[]⟩) (ids:=[]) (fun _ _ _ _ _ l x2 i h=>?_);apply kI Z h<;>intro h
 .obtain⟨c22,h⟩:=I5 h;refine E7 Z c22 (b:=!(a.g x2.toNat).Has) (fun c23=>?_) (fun c23=>?_)
  .replace h:=itT c23 h;exact i _ [] _ (wrap .i64 (x2+1)) Mz h
  replace h:=itF c23 h;refine J0 Z Mz [0,4,5,6] ?_;obtain⟨c24,h⟩:=I5 h;obtain⟨y7,e7,h⟩:=D1 h;refine Bv (And.intro Oc c24) (Jp Z Y e7) ?_;refine N2 Mz ?_;refine QC Z Mz (B2 Z) h 0 (fun z3=>⟨[(45,pB z3),(9,pN x2),(4,.p (.ptr (B6 d))),(3,.p (vSl 2 L7 a)),(2,.p (vSl 2 A0 f)),(1,.p (vSl 1 (cI .i64) c))],[]⟩) (fun M3 k3 j h=>?_) (fun z3 h=>?_)
  .refine kG Z h (fun h=>?_) (fun h=>?_)
   .exact j _ [] _ true Mz h
   obtain⟨c29,h⟩:=I5 h;obtain⟨y9,e9,h⟩:=D1 h;refine F0 Z [] c29 (Eh Z Y e9) ?_;exact j _ [] _ (!y9) Mz h
  apply kI Z h<;>intro h
  .cases h;exact kR Z
  exact i _ [] _ (wrap .i64 (x2+1)) Mz h
 cases h;exact kR Z
end Go.AM
namespace Go.AM
open Go.Proofs.Tryz
variable {N:Nat}
open IntKind (wrap)
open Go.Proofs
set_option maxRecDepth 10000
set_option maxHeartbeats 2000000
variable {S:W8}(Z:G8 S Tryz.prog) (Y:Oh S)
include Z Y
def Cq (N:Nat)(p_x:Int):Option Int:= if (decide (256<=(if (decide (65536<=(if (decide (4294967296<=p_x)) then shI .shr .u64 p_x 32 else p_x))) then shI .shr .u64 (if (decide (4294967296<=p_x)) then shI .shr .u64 p_x 32 else p_x) 16 else (if (decide (4294967296<=p_x)) then shI .shr .u64 p_x 32 else p_x)))) then if ((0:Int)<=(wrap .u8 (shI .shr .u64 (if (decide (65536<=(if (decide (4294967296<=p_x)) then shI .shr .u64 p_x 32 else p_x))) then shI .shr .u64 (if (decide (4294967296<=p_x)) then shI .shr .u64 p_x 32 else p_x) 16 else (if (decide (4294967296<=p_x)) then shI .shr .u64 p_x 32 else p_x)) 8))/\(wrap .u8 (shI .shr .u64 (if (decide (65536<=(if (decide (4294967296<=p_x)) then shI .shr .u64 p_x 32 else p_x))) then shI .shr .u64 (if (decide (4294967296<=p_x)) then shI .shr .u64 p_x 32 else p_x) 16 else (if (decide (4294967296<=p_x)) then shI .shr .u64 p_x 32 else p_x)) 8))<([0,1,2,2,3,3,3,3,4,4,4,4,4,4,4,4,5,5,5,5,5,5,5,5,5,5,5,5,5,5,5,5,6,6,6,6,6,6,6,6,6,6,6,6,6,6,6,6,6,6,6,6,6,6,6,6,6,6,6,6,6,6,6,6,7,7,7,7,7,7,7,7,7,7,7,7,7,7,7,7,7,7,7,7,7,7,7,7,7,7,7,7,7,7,7,7,7,7,7,7,7,7,7,7,7,7,7,7,7,7,7,7,7,7,7,7,7,7,7,7,7,7,7,7,7,7,7,7,8,8,8,8,8,8,8,8,8,8,8,8,8,8,8,8,8,8,8,8,8,8,8,8,8,8,8,8,8,8,8,8,8,8,8,8,8,8,8,8,8,8,8,8,8,8,8,8,8,8,8,8,8,8,8,8,8,8,8,8,8,8,8,8,8,8,8,8,8,8,8,8,8,8,8,8,8,8,8,8,8,8,8,8,8,8,8,8,8,8,8,8,8,8,8,8,8,8,8,8,8,8,8,8,8,8,8,8,8,8,8,8,8,8,8,8,8,8,8,8,8,8,8,8,8,8,8,8].length:Int))then some (wrap .i64 ((wrap .i64 ((if (decide (65536<=(if (decide (4294967296<=p_x)) then shI .shr .u64 p_x 32 else p_x))) then wrap .i64 (((if (decide (4294967296<=p_x)) then 32 else 0):Int)+16)else ((if (decide (4294967296<=p_x)) then 32 else 0):Int))+8))+(wrap .i64 (CB [0,1,2,2,3,3,3,3,4,4,4,4,4,4,4,4,5,5,5,5,5,5,5,5,5,5,5,5,5,5,5,5,6,6,6,6,6,6,6,6,6,6,6,6,6,6,6,6,6,6,6,6,6,6,6,6,6,6,6,6,6,6,6,6,7,7,7,7,7,7,7,7,7,7,7,7,7,7,7,7,7,7,7,7,7,7,7,7,7,7,7,7,7,7,7,7,7,7,7,7,7,7,7,7,7,7,7,7,7,7,7,7,7,7,7,7,7,7,7,7,7,7,7,7,7,7,7,7,8,8,8,8,8,8,8,8,8,8,8,8,8,8,8,8,8,8,8,8,8,8,8,8,8,8,8,8,8,8,8,8,8,8,8,8,8,8,8,8,8,8,8,8,8,8,8,8,8,8,8,8,8,8,8,8,8,8,8,8,8,8,8,8,8,8,8,8,8,8,8,8,8,8,8,8,8,8,8,8,8,8,8,8,8,8,8,8,8,8,8,8,8,8,8,8,8,8,8,8,8,8,8,8,8,8,8,8,8,8,8,8,8,8,8,8,8,8,8,8,8,8,8,8,8,8,8,8] (wrap .u8 (shI .shr .u64 (if (decide (65536<=(if (decide (4294967296<=p_x)) then shI .shr .u64 p_x 32 else p_x))) then shI .shr .u64 (if (decide (4294967296<=p_x)) then shI .shr .u64 p_x 32 else p_x) 16 else (if (decide (4294967296<=p_x)) then shI .shr .u64 p_x 32 else p_x)) 8)))))) else none else if ((0:Int)<=(wrap .u8 (if (decide (65536<=(if (decide (4294967296<=p_x)) then shI .shr .u64 p_x 32 else p_x))) then shI .shr .u64 (if (decide (4294967296<=p_x)) then shI .shr .u64 p_x 32 else p_x) 16 else (if (decide (4294967296<=p_x)) then shI .shr .u64 p_x 32 else p_x)))/\(wrap .u8 (if (decide (65536<=(if (decide (4294967296<=p_x)) then shI .shr .u64 p_x 32 else p_x))) then shI .shr .u64 (if (decide (4294967296<=p_x)) then shI .shr .u64 p_x 32 else p_x) 16 else (if (decide (4294967296<=p_x)) then shI .shr .u64 p_x 32 else p_x)))<([0,1,2,2,3,3,3,3,4,4,4,4,4,4,4,4,5,5,5,5,5,5,5,5,5,5,5,5,5,5,5,5,6,6,6,6,6,6,6,6,6,6,6,6,6,6,6,6,6,6,6,6,6,6,6,6,6,6,6,6,6,6,6,6,7,7,7,7,7,7,7,7,7,7,7,7,7,7,7,7,7,7,7,7,7,7,7,7,7,7,7,7,7,7,7,7,7,7,7,7,7,7,7,7,7,7,7,7,7,7,7,7,7,7,7,7,7,7,7,7,7,7,7,7,7,7,7,7,8,8,8,8,8,8,8,8,8,8,8,8,8,8,8,8,8,8,8,8,8,8,8,8,8,8,8,8,8,8,8,8,8,8,8,8,8,8,8,8,8,8,8,8,8,8,8,8,8,8,8,8,8,8,8,8,8,8,8,8,8,8,8,8,8,8,8,8,8,8,8,8,8,8,8,8,8,8,8,8,8,8,8,8,8,8,8,8,8,8,8,8,8,8,8,8,8,8,8,8,8,8,8,8,8,8,8,8,8,8,8,8,8,8,8,8,8,8,8,8,8,8,8,8,8,8,8,8].length:Int))then some (wrap .i64 ((if (decide (65536<=(if (decide (4294967296<=p_x)) then shI .shr .u64 p_x 32 else p_x))) then wrap .i64 (((if (decide (4294967296<=p_x)) then 32 else 0):Int)+16)else ((if (decide (4294967296<=p_x)) then 32 else 0):Int))+(wrap .i64 (CB [0,1,2,2,3,3,3,3,4,4,4,4,4,4,4,4,5,5,5,5,5,5,5,5,5,5,5,5,5,5,5,5,6,6,6,6,6,6,6,6,6,6,6,6,6,6,6,6,6,6,6,6,6,6,6,6,6,6,6,6,6,6,6,6,7,7,7,7,7,7,7,7,7,7,7,7,7,7,7,7,7,7,7,7,7,7,7,7,7,7,7,7,7,7,7,7,7,7,7,7,7,7,7,7,7,7,7,7,7,7,7,7,7,7,7,7,7,7,7,7,7,7,7,7,7,7,7,7,8,8,8,8,8,8,8,8,8,8,8,8,8,8,8,8,8,8,8,8,8,8,8,8,8,8,8,8,8,8,8,8,8,8,8,8,8,8,8,8,8,8,8,8,8,8,8,8,8,8,8,8,8,8,8,8,8,8,8,8,8,8,8,8,8,8,8,8,8,8,8,8,8,8,8,8,8,8,8,8,8,8,8,8,8,8,8,8,8,8,8,8,8,8,8,8,8,8,8,8,8,8,8,8,8,8,8,8,8,8,8,8,8,8,8,8,8,8,8,8,8,8,8,8,8,8,8,8] (wrap .u8 (if (decide (65536<=(if (decide (4294967296<=p_x)) then shI .shr .u64 p_x 32 else p_x))) then shI .shr .u64 (if (decide (4294967296<=p_x)) then shI .shr .u64 p_x 32 else p_x) 16 else (if (decide (4294967296<=p_x)) then shI .shr .u64 p_x 32 else p_x))))))) else none
theorem Ki {p_x:Int}{y:Int}(h:Cq N p_x=some y) :FunO S ES [.p (pI .u64 p_x)] [] (pN y) ([]) []:=by
 unfold Cq at h;refine A3 Z func124 ?_;obtain⟨t1,a⟩:∃x:Int,x=(if (decide (4294967296<=p_x)) then shI .shr .u64 p_x 32 else p_x):=⟨_,rfl⟩;obtain⟨t2,c⟩:∃x:Int,x=((if (decide (4294967296<=p_x)) then 32 else 0):Int):=⟨_,rfl⟩;refine UK Z Mz (B2 Z) 0 ⟨[(2,pN t2),(0,.p (pI .u64 t1))],[]⟩ (fun M1 g=>?_) ?_
 .refine E7 Z Mz (b:=decide (4294967296<=p_x)) (fun c2=>?_) (fun c2=>?_)
  .exact g _ [] _ (by decide:(0:Int)<=32) (hle:=klR [(0,.eq (pI .i64 32) (pI .i64 t2)),(1,.eq (pI .u64 (shI .shr .u64 p_x 32)) (pI .u64 t1))] (al1 (by simp only[a,c,c2,Leaf.ok,pm,Lo,Lp]) (al1 (by simp only[a,c,c2,Leaf.ok,pm,Lo,Lp]) al0)))
  exact g _ [] _ Mz (hle:=klR [(0,.eq (pI .i64 0) (pI .i64 t2)),(1,.eq (pI .u64 p_x) (pI .u64 t1))] (al1 (by simp only[a,c,c2,Leaf.ok,pm,Lo,Lp]) (al1 (by simp only[a,c,c2,Leaf.ok,pm,Lo,Lp]) al0)))
 subst c;subst a;obtain⟨t3,d⟩:∃x:Int,x=(if (decide (65536<=(if (decide (4294967296<=p_x)) then shI .shr .u64 p_x 32 else p_x))) then shI .shr .u64 (if (decide (4294967296<=p_x)) then shI .shr .u64 p_x 32 else p_x) 16 else (if (decide (4294967296<=p_x)) then shI .shr .u64 p_x 32 else p_x)):=⟨_,rfl⟩;obtain⟨t4,f⟩:∃x:Int,x=(if (decide (65536<=(if (decide (4294967296<=p_x)) then shI .shr .u64 p_x 32 else p_x))) then wrap .i64 (((if (decide (4294967296<=p_x)) then 32 else 0):Int)+16)else ((if (decide (4294967296<=p_x)) then 32 else 0):Int)):=⟨_,rfl⟩;refine UK Z Mz (B2 Z) 0 ⟨[(2,pN t4),(0,.p (pI .u64 t3))],[]⟩ (fun M2 i=>?_) ?_
 .refine E7 Z Mz (b:=decide (65536<=(if (decide (4294967296<=p_x)) then shI .shr .u64 p_x 32 else p_x))) (fun c4=>?_) (fun c4=>?_)
  .exact i _ [] _ (by decide:(0:Int)<=16) (hle:=klR [(0,.eq (pI .i64 (wrap .i64 (((if (decide (4294967296<=p_x)) then 32 else 0):Int)+16))) (pI .i64 t4)),(1,.eq (pI .u64 (shI .shr .u64 (if (decide (4294967296<=p_x)) then shI .shr .u64 p_x 32 else p_x) 16)) (pI .u64 t3))] (al1 (by simp only[d,f,c4,Leaf.ok,pm,Lo,Lp]) (al1 (by simp only[d,f,c4,Leaf.ok,pm,Lo,Lp]) al0)))
  exact i _ [] _ Mz (hle:=klR [(0,.eq (pI .i64 ((if (decide (4294967296<=p_x)) then 32 else 0):Int)) (pI .i64 t4)),(1,.eq (pI .u64 (if (decide (4294967296<=p_x)) then shI .shr .u64 p_x 32 else p_x)) (pI .u64 t3))] (al1 (by simp only[d,f,c4,Leaf.ok,pm,Lo,Lp]) (al1 (by simp only[d,f,c4,Leaf.ok,pm,Lo,Lp]) al0)))
 subst f;subst d;apply kI Z h<;>intro h
 .obtain⟨c6,h⟩:=I5 h;obtain rfl:=B9 h;exact ZS Z (And.intro (by decide:(0:Int)<=8) c6) [] ⟨rfl,rfl,rfl⟩
 obtain⟨c7,h⟩:=I5 h;obtain rfl:=B9 h;exact ZS Z c7 [] ⟨rfl,rfl,rfl⟩
def BS (N:Nat)(p_x:Int):Option Int:= (Cq N p_x).bind fun y1=>some y1
theorem Nl {p_x:Int}{y:Int}(h:BS N p_x=some y) :FunO S Gy [.p (pI .u64 p_x)] [] (pN y) ([]) []:=by unfold BS at h;refine A3 Z func98 ?_;refine kC Z h (Ki Z Y) (fun y1 h=>?_);cases h;exact kR Z
def D8 (N:Nat)(q0:Sl Tb):Option (List (Tb)):= S3 N (fun a (x1:Int)=>if (decide (x1<(q0.n:Int))) then if ((0:Int)<=x1/\x1<(q0.n:Int))then Y4 (q0.g x1.toNat) (a (wrap .i64 (x1+1))) else none else some []) 0
theorem X7 {q0:Sl Tb}{L:List (Tb)}(h:D8 N q0=some L) :Dh S D7 [] [.reg 0 0] [.cells [.p (vSl 2 A0 q0)]] (L.map (fun (x:Tb)=>[(fun x=>.agg (A0 x)) x])):=by
 unfold D8 at h;refine DY Z func75 ?_;refine Gn Z Mz h (fun x1 L1=>⟨[(7,pN x1),(6,pN (q0.n:Int)),(5,.p (vSl 2 A0 q0)),(0,.yf 1)],[(1,.yld (L1.map (fun (x:Tb)=>[(fun x=>.agg (A0 x)) x])) true),(0,.cells [.p (vSl 2 A0 q0)])]⟩) (ids:=[(0,0),(1,1)]) (fun _ _ _ _ _ d x1 L1 f h=>?_);apply kI Z h<;>intro h
 .obtain⟨c10,h⟩:=I5 h;obtain⟨L4,rfl,c⟩:=Li h;replace h:=c;refine Dy Z (And.intro c10 Ob) (ys:=(fun (x:Tb)=>[(fun x=>.agg (A0 x)) x]) (q0.g x1.toNat)) (rest:=L4.map (fun (x:Tb)=>[(fun x=>.agg (A0 x)) x])) ?_ ?_
  .refine E7 Z Mz (b:=false) (fun c11=>?_) (fun c11=>?_)
   .exact Bool.noConfusion ((rfl:false=false).symm.trans c11)
   exact f _ [(0,0),(1,1)] _ (wrap .i64 (x1+1)) L4 Mz h
  refine E7 Z Mz (b:=true) (fun c12=>?_) (fun c12=>?_)
  .exact A6 Z Mz (a:=.tup []) (objs:=[(.cells [.p (vSl 2 A0 q0)]),.yld [] false]) ⟨[],[(1,.yld [] false),(0,.cells [.p (vSl 2 A0 q0)])]⟩ [0,1] (ids:=[(0,0),(1,1)]) ⟨false,rfl,rfl,_,rfl⟩
  exact Bool.noConfusion (Og.symm.trans c12)
 obtain rfl:=B9 h;exact A6 Z Mz (a:=.tup []) (objs:=[(.cells [.p (vSl 2 A0 q0)]),.yld [] true]) ⟨[],[(1,.yld [] true),(0,.cells [.p (vSl 2 A0 q0)])]⟩ [0,1] (ids:=[(0,0),(1,1)]) ⟨true,rfl,rfl,_,rfl⟩
def E9 (N:Nat)(a:Sl Tb):Option (Sl Tb):= some a
theorem AB {a:Sl Tb}{y:Sl Tb}(h:E9 N a=some y) :FunO S N3 [.p (vSl 2 A0 a)] [] (.clo D7 [] [.reg 0 0]) ([.cells [.p (vSl 2 A0 y)]]) []:=by unfold E9 at h;refine A3 Z func54 ?_;obtain rfl:=B9 h;exact A6 Z Mz ⟨[(2,.clo D7 [] [.reg 2000 0])],[(2000,.cells [.p (vSl 2 A0 a)])]⟩ [2000] (ids:=[(2000,2000)]) ⟨rfl,rfl,rfl⟩
def D2 (N:Nat)(a:List (Tb)):Option (Sl Tb):= O1 a (fun b (x1:Tb) (z1:Sl Tb)=>if ((z1.n+(Sl.of [x1]:Sl Tb).n)*8<=140737488355328/\z1.n+(Sl.of [x1]:Sl Tb).n<=140737488355328)then b (z1.push x1) else none) (fun (z1:Sl Tb)=>some z1) Rb
theorem V5 {b:List (Tb)}{a:(Sl Tb)}{kp_seq:Nat}(fp_seq:∃fn,AQ3[kp_seq]? = some fn/\fn.body.isSome=true/\(fn.name == "runtime.NumGoroutine")=false)(d:Dh S kp_seq [] [.reg 0 0] [(.cells [(.p (vSl 2 A0 a))])] (b.map (fun (x:Tb)=>[(fun x=>.agg (A0 x)) x]))){y:(Sl Tb)}(h:D2 N b=some y) :FunO S J8 [(.p AH),(.clo kp_seq [] [(.reg 0 0)])] [(.cells [(.p (vSl 2 A0 a))])] (.vec 0) ([(.vec A4 2 y.n (fun i=>A0 (y.g i)) false)]) [false]:=by
 unfold D2 at h;refine A3 Z func96 ?_;refine LJ Z Mz fp_seq [0] [2] 901 (fun z1=>⟨[(2,(.reg 3000 0))],[(3500,(.vec A4 2 z1.n (fun i=>A0 (z1.g i)) false)),(3000,(.cells [(.vec 3500)]))]⟩) (idl:=[(3000,3000)]) h d (fun _=>by kernel_rfl) (fun _=>by kernel_rfl) (fun _=>by kernel_rfl) (fun _=>by kernel_rfl) (fun x1 _ f z1 j h=>?_) (fun z1 h=>?_)
 .refine Lj Z Mz ?_;obtain⟨c1,h⟩:=I5 h;exact j _ [(901,901),(3000,3000),(3500,12000)] _ (z1.push x1) (And.intro Og c1) h (hle:=klR [(0,.fn (z1.n+1) (z1.push x1).n (Cb z1.n (fun i=>A0 (z1.g i)) (J5 [(pI .u32 0),(pI .u32 0)] [(0,A0 x1)])) (fun i=>A0 ((z1.push x1).g i)))] (al1 ⟨rfl,(Uf (c:=A0) (v:=z1) (x:=x1) (z:=[(pI .u32 0),(pI .u32 0)]) same rfl rfl)⟩ al0))
 obtain rfl:=B9 h;exact A6 Z Mz ⟨[(4,(.vec 3500))],[(3500,(.vec A4 2 z1.n (fun i=>A0 (z1.g i)) false))]⟩ [3500] (ids:=[(3500,3500)]) ⟨rfl,rfl,rfl⟩
def J2 (N:Nat)(a:List (Tb)):Option (Sl Tb):= (D2 N a).bind fun y1=>some y1
theorem DQ {b:List (Tb)}{a:(Sl Tb)}{kp_seq:Nat}(fp_seq:∃fn,AQ3[kp_seq]? = some fn/\fn.body.isSome=true/\(fn.name == "runtime.NumGoroutine")=false)(c:Dh S kp_seq [] [.reg 0 0] [(.cells [(.p (vSl 2 A0 a))])] (b.map (fun (x:Tb)=>[(fun x=>.agg (A0 x)) x]))){y:(Sl Tb)}(h:J2 N b=some y) :FunO S AG [(.clo kp_seq [] [(.reg 0 0)])] [(.cells [(.p (vSl 2 A0 a))])] (.vec 0) ([(.vec A4 2 y.n (fun i=>A0 (y.g i)) false)]) [false]:=by unfold J2 at h;refine A3 Z func73 ?_;obtain⟨y1,e1,h⟩:=D1 h;refine F0 Z [0] Mz (V5 Z Y fp_seq c e1) ?_;obtain rfl:=B9 h;exact A6 Z Mz ⟨[(2,(.vec 5000))],[(5000,(.vec A4 2 y1.n (fun i=>A0 (y1.g i)) false))]⟩ [5000] (ids:=[(5000,5000)]) ⟨rfl,rfl,rfl⟩
def C7 (N:Nat)(b:Sl Tb)(f:Int)(i:Int)(c:Tb->Tb->Option Int):Option (Sl Tb):= W9 N (fun a (x3:Sl Tb) (x4:Int)=>if (decide (x4<i)) then W9 N (fun d (x7:Sl Tb) (x8:Int)=>if (decide (f<x8)) then if (((((0:Int)<=x8/\x8<(x7.n:Int))/\x8.toNat<x7.n)/\((0:Int)<=(wrap .i64 (x8-1))/\(wrap .i64 (x8-1))<(x7.n:Int)))/\(wrap .i64 (x8-1)).toNat<x7.n)then (c (x7.g x8.toNat) (x7.g (wrap .i64 (x8-1)).toNat)).bind fun y9=>if (decide (y9<0)) then if (((((((((0:Int)<=(wrap .i64 (x8-1))/\(wrap .i64 (x8-1))<(x7.n:Int))/\(wrap .i64 (x8-1)).toNat<x7.n)/\((0:Int)<=x8/\x8<(x7.n:Int)))/\x8.toNat<x7.n)/\((0:Int)<=x8/\x8<(x7.n:Int)))/\x8.toNat<x7.n)/\((0:Int)<=(wrap .i64 (x8-1))/\(wrap .i64 (x8-1))<((x7.upd x8.toNat (x7.g (wrap .i64 (x8-1)).toNat)).n:Int)))/\(wrap .i64 (x8-1)).toNat<(x7.upd x8.toNat (x7.g (wrap .i64 (x8-1)).toNat)).n)then d ((x7.upd x8.toNat (x7.g (wrap .i64 (x8-1)).toNat)).upd (wrap .i64 (x8-1)).toNat (x7.g x8.toNat)) (wrap .i64 (x8-1)) else none else a x7 (wrap .i64 (x4+1)) else none else a x7 (wrap .i64 (x4+1))) x3 x4 else some x3) b (wrap .i64 (f+1))
theorem Ad {a:Sl Tb}{d:Int}{j:Int}{f:Tb->Tb->Option Int}{kp_cmp:Nat}(m:∀{a0:Tb}{a1:Tb}{b:Int},f a0 a1=some b->FunO S kp_cmp [.p (.agg (A0 a0)),.p (.agg (A0 a1))] [] (pN b) [] []){y:Sl Tb}(h:C7 N a d j f=some y) :FunO S M9 [.vec 0,pN d,pN j,.clo kp_cmp [] []] [.vec A4 2 a.n (fun i=>A0 (a.g i)) false] (.tup []) ([.vec A4 2 y.n (fun i=>A0 (y.g i)) false]) [true]:=by
 unfold C7 at h;refine A3 Z func115 ?_;refine Q5 Z Mz h (fun x3 x4=>⟨[(8,pN x4),(3,.clo kp_cmp [] []),(2,pN j),(1,pN d),(0,.vec 0)],[(0,.vec A4 2 x3.n (fun i=>A0 (x3.g i)) false)]⟩) (ids:=[(0,0)]) (fun _ _ _ _ _ q x3 x4 o h=>?_);apply kI Z h<;>intro h
 .refine Q5 Z Mz h (fun x7 x8=>⟨[(9,pN x8),(8,pN x4),(3,.clo kp_cmp [] []),(2,pN j),(1,pN d),(0,.vec 0)],[(0,.vec A4 2 x7.n (fun i=>A0 (x7.g i)) false)]⟩) (ids:=[(0,0)]) (fun _ _ _ _ _ r x7 x8 s h=>?_);refine J0 Z Mz [14] ?_;refine HY Mz (b:=decide (d<x8)) (fun c36=>?_) (fun c36=>?_)
  .replace h:=itT c36 h;obtain⟨c37,h⟩:=I5 h;obtain⟨y9,e9,h⟩:=D1 h;refine Bv (And.intro (And.intro (And.intro (And.intro (And.intro c37.1.1.1 Ob) c37.1.1.2) c37.1.2) Ob) c37.2) (m e9) ?_;refine N2 Mz ?_;apply kI Z h<;>intro h
   .refine HX Z Mz ?_;obtain⟨c39,h⟩:=I5 h;refine N2 (And.intro (And.intro (And.intro (And.intro (And.intro (And.intro (And.intro (And.intro (And.intro c39.1.1.1.1.1.1.1 Ob) c39.1.1.1.1.1.1.2) c39.1.1.1.1.1.2) Ob) c39.1.1.1.1.2) c39.1.1.1.2) (And.intro (rfl:(2:Nat)=2) (And.intro c39.1.1.2 Ob))) c39.1.2) (And.intro (rfl:(2:Nat)=2) (And.intro c39.2 Ob))) ?_;exact s _ [(0,0)] _ ((x7.upd x8.toNat (x7.g (wrap .i64 (x8-1)).toNat)).upd (wrap .i64 (x8-1)).toNat (x7.g x8.toNat)) (wrap .i64 (x8-1)) Mz h (hle:=klR [(5,.fn x7.n ((x7.upd x8.toNat (x7.g (wrap .i64 (x8-1)).toNat)).upd (wrap .i64 (x8-1)).toNat (x7.g x8.toNat)).n (fun l=>if l=(wrap .i64 (x8-1)).toNat then splice ((fun l=>if l=x8.toNat then splice ((fun i=>A0 (x7.g i)) l) 0 [pI .u32 (x7.g (wrap .i64 (x8-1)).toNat).Plus,pI .u32 (x7.g (wrap .i64 (x8-1)).toNat).Minus]else (fun i=>A0 (x7.g i)) l) l) 0 [pI .u32 (x7.g x8.toNat).Plus,pI .u32 (x7.g x8.toNat).Minus]else (fun l=>if l=x8.toNat then splice ((fun i=>A0 (x7.g i)) l) 0 [pI .u32 (x7.g (wrap .i64 (x8-1)).toNat).Plus,pI .u32 (x7.g (wrap .i64 (x8-1)).toNat).Minus]else (fun i=>A0 (x7.g i)) l) l) (fun i=>A0 (((x7.upd x8.toNat (x7.g (wrap .i64 (x8-1)).toNat)).upd (wrap .i64 (x8-1)).toNat (x7.g x8.toNat)).g i)))] (al1 ⟨rfl,At6 (c:=A0) (v:=x7.upd x8.toNat (x7.g (wrap .i64 (x8-1)).toNat)) (x:=x7.g x8.toNat) (At6 (c:=A0) (v:=x7) (x:=x7.g (wrap .i64 (x8-1)).toNat) same (fun _=>by first|rfl|(dsimp only;split<;>rfl))) (fun _=>by first|rfl|(dsimp only;split<;>rfl))⟩ al0))
   exact o _ [(0,0)] _ x7 (wrap .i64 (x4+1)) Mz h
  replace h:=itF c36 h;refine N2 Mz ?_;exact o _ [(0,0)] _ x7 (wrap .i64 (x4+1)) Mz h
 obtain rfl:=B9 h;exact A6 Z Mz ⟨[],[(0,.vec A4 2 x3.n (fun i=>A0 (x3.g i)) false)]⟩ [0] (ids:=[(0,0)]) ⟨rfl,rfl,rfl⟩
def E5 (N:Nat)(b:Sl Tb)(d:Int)(f:Int)(a:Int)(c:Tb->Tb->Option Int):Option (Sl Tb):= S3 N (fun g (x1:Unit)=>if (decide ((wrap .i64 (f-d))<=12)) then (C7 N b d f c).bind fun y2=>some y2 else if (a==0) then none else none) ()
theorem BU {a:Sl Tb}{j:Int}{l:Int}{c:Int}{d:Tb->Tb->Option Int}{kp_cmp:Nat}(f:∀{a0:Tb}{a1:Tb}{b:Int},d a0 a1=some b->FunO S kp_cmp [.p (.agg (A0 a0)),.p (.agg (A0 a1))] [] (pN b) [] []){y:Sl Tb}(h:E5 N a j l c d=some y) :FunO S Q9 [.vec 0,pN j,pN l,pN c,.clo kp_cmp [] []] [.vec A4 2 a.n (fun i=>A0 (a.g i)) false] (.tup []) ([.vec A4 2 y.n (fun i=>A0 (y.g i)) false]) [true]:=by
 unfold E5 at h;refine A3 Z func97 ?_;refine AF Z Mz h (fun x1=>⟨[(11,.p (.v (.bool true))),(10,.p (.v (.bool true))),(4,.clo kp_cmp [] []),(3,pN c),(2,pN l),(1,pN j),(0,.vec 0)],[(0,.vec A4 2 a.n (fun i=>A0 (a.g i)) false)]⟩) (ids:=[(0,0)]) (fun _ _ _ _ _ m x1 o h=>?_);apply kI Z h<;>intro h
 .obtain⟨y2,e2,h⟩:=D1 h;refine QG Z [0] Mz (Ad Z Y (fun e=>f e) e2) ?_;obtain rfl:=B9 h;exact A6 Z Mz ⟨[],[(0,.vec A4 2 y2.n (fun i=>A0 (y2.g i)) false)]⟩ [0] (ids:=[(0,0)]) ⟨rfl,rfl,rfl⟩
 apply kI Z h<;>intro h
 .cases h
 cases h
def D9 (N:Nat)(p_x:Sl Tb)(a:Tb->Tb->Option Int):Option (Sl Tb):= (BS N (wrap .u64 (p_x.n:Int))).bind fun y1=>(E5 N p_x 0 (p_x.n:Int) y1 a).bind fun y2=>some y2
theorem X8 {p_x:Sl Tb}{a:Tb->Tb->Option Int}{kp_cmp:Nat}(c:∀{a0:Tb}{a1:Tb}{b:Int},a a0 a1=some b->FunO S kp_cmp [.p (.agg (A0 a0)),.p (.agg (A0 a1))] [] (pN b) [] []){y:Sl Tb}(h:D9 N p_x a=some y) :FunO S K5 [.vec 0,.clo kp_cmp [] []] [.vec A4 2 p_x.n (fun i=>A0 (p_x.g i)) false] (.tup []) ([.vec A4 2 y.n (fun i=>A0 (y.g i)) false]) [true]:=by unfold D9 at h;refine A3 Z func74 ?_;refine kC Z h (Nl Z Y) (fun y1 h=>?_);obtain⟨y2,e2,h⟩:=D1 h;refine QG Z [0] Mz (BU Z Y (fun e=>c e) e2) ?_;obtain rfl:=B9 h;exact A6 Z Mz ⟨[],[(0,.vec A4 2 y2.n (fun i=>A0 (y2.g i)) false)]⟩ [0] (ids:=[(0,0)]) ⟨rfl,rfl,rfl⟩
def I2 (N:Nat)(a:List (Tb))(b:Tb->Tb->Option Int):Option (Sl Tb):= (J2 N a).bind fun y1=>(D9 N y1 b).bind fun y2=>some y2
theorem CW {c:List (Tb)}{d:Tb->Tb->Option Int}{a:(Sl Tb)}{kp_seq:Nat}{kp_cmp:Nat}(fp_seq:∃fn,AQ3[kp_seq]? = some fn/\fn.body.isSome=true/\(fn.name == "runtime.NumGoroutine")=false)(f:Dh S kp_seq [] [.reg 0 0] [(.cells [(.p (vSl 2 A0 a))])] (c.map (fun (x:Tb)=>[(fun x=>.agg (A0 x)) x])))(j:∀{a0:Tb}{a1:Tb}{b:Int},d a0 a1=some b->FunO S kp_cmp [(.p (.agg (A0 a0))),(.p (.agg (A0 a1)))] [] (pN b) [] []){y:(Sl Tb)}(h:I2 N c d=some y) :FunO S U6 [(.clo kp_seq [] [(.reg 0 0)]),(.clo kp_cmp [] [])] [(.cells [(.p (vSl 2 A0 a))])] (.vec 0) ([(.vec A4 2 y.n (fun i=>A0 (y.g i)) false)]) [false]:=by unfold I2 at h;refine A3 Z func53 ?_;obtain⟨y1,e1,h⟩:=D1 h;refine F0 Z [0] Mz (DQ Z Y fp_seq f e1) ?_;obtain⟨y2,e2,h⟩:=D1 h;refine QG Z [8000] Mz (X8 Z Y (fun e=>j e) e2) ?_;obtain rfl:=B9 h;exact A6 Z Mz ⟨[(4,(.vec 8000))],[(8000,(.vec A4 2 y2.n (fun i=>A0 (y2.g i)) false))]⟩ [8000] (ids:=[(8000,8000)]) ⟨rfl,rfl,rfl⟩
end Go.AM
namespace Go.AM
open Go.Proofs.Tryz
open IntKind (wrap)
open Go.Proofs
set_option maxRecDepth 10000
set_option maxHeartbeats 2000000
variable {S:W8}(Z:G8 S Tryz.prog) (Y:Oh S)
include Z Y
def N1 (N:Nat)(q0:Int)(q1:Sl Tb):Option (List (Sl Tb)):= if ((decide (0<q0))&&((q1.n:Int)==0)) then some [] else if ((0:Int)<=q0/\q0<=q0/\q0*8<=140737488355328/\q0<=140737488355328)then W9 N (fun f (x5:Nat->Int) (x6:Sl Tb)=>W9 N (fun i (c:Sl Tb) (b:Int)=>if (decide (b<(x6.n:Int))) then if ((((((0:Int)<=b/\b<6)/\(0+b.toNat*1)<6)/\((0:Int)<=(x5 (0+b.toNat*1))/\(x5 (0+b.toNat*1))<(q1.n:Int)))/\((0:Int)<=b/\b<(c.n:Int)))/\b.toNat<c.n)then i (c.upd b.toNat (q1.g (x5 (0+b.toNat*1)).toNat)) (wrap .i64 (b+1)) else none else Y4 c (W9 N (fun j (d:Nat->Int) (a:Int)=>if (decide (0<=a)) then if (((0:Int)<=a/\a<6)/\(0+a.toNat*1)<6)then if ((d (0+a.toNat*1))==(wrap .i64 ((q1.n:Int)-1))) then if (((0:Int)<=a/\a<6)/\(0+a.toNat*1)<6)then j (Hw d (0+a.toNat*1) 0) (wrap .i64 (a-1)) else none else if (decide (a<0)) then some [] else if (((((0:Int)<=a/\a<6)/\(0+a.toNat*1)<6)/\((0:Int)<=a/\a<6))/\(0+a.toNat*1)<6)then f (Hw d (0+a.toNat*1) (wrap .i64 ((d (0+a.toNat*1))+1))) c else none else none else if (decide (a<0)) then some [] else if (((((0:Int)<=a/\a<6)/\(0+a.toNat*1)<6)/\((0:Int)<=a/\a<6))/\(0+a.toNat*1)<6)then f (Hw d (0+a.toNat*1) (wrap .i64 ((d (0+a.toNat*1))+1))) c else none) x5 (wrap .i64 (q0-1)))) x6 0) (fun _=>0) (Sl.rep q0.toNat (⟨0,0⟩:Tb):Sl Tb) else none
theorem Nm {N:Nat}{q0:Int}{q1:Sl Tb}{L:List (Sl Tb)}(h:N1 N q0 q1=some L) :Dh S BF [] [.reg 0 0,.reg 1 0] [.cells [pN q0],.cells [.p (vSl 2 A0 q1)]] (L.map (fun (x:Sl Tb)=>Dp A4 2 x.n (fun i=>A0 (x.g i)))):=by
 unfold N1 at h;refine DY Z func56 ?_;refine kB Z (B2 Z) Mz Mz 4 (.n (.a (decide (0<q0))) (.a ((q1.n:Int)==0))) ?_;apply kI Z h<;>intro h
 .obtain rfl:=B9 h;exact A6 Z Mz (a:=.tup []) (objs:=[(.cells [pN q0]),.cells [.p (vSl 2 A0 q1)],.yld [] true]) ⟨[],[(2,.yld [] true),(1,.cells [.p (vSl 2 A0 q1)]),(0,.cells [pN q0])]⟩ [0,1,2] (ids:=[(0,0),(1,1),(2,2)]) ⟨true,rfl,rfl,_,rfl⟩
 refine An6 Z Mz 15 5000 6 (fun i=>pI .i64 ((fun _=>0) i)) ?_;obtain⟨c2,h⟩:=I5 h;refine HZ Z c2 h (fun x5 x6 L1=>⟨[(5,.vec 17000),(4,.reg 5000 0),(2,.reg 1 0),(1,.reg 0 0),(0,.yf 2)],[(17000,.vec A4 2 x6.n (fun i=>A0 (x6.g i)) false),(5000,.arr 6 (fun i=>pI .i64 (x5 i))),(2,.yld (L1.map (fun (x:Sl Tb)=>Dp A4 2 x.n (fun i=>A0 (x.g i)))) true),(1,.cells [.p (vSl 2 A0 q1)]),(0,.cells [pN q0])]⟩) (ids:=[(0,0),(1,1),(2,2),(5000,5000),(17000,17000)]) (fun _ _ _ _ _ r x5 x6 L1 o h=>?_);refine HZ Z Mz h (fun j m L8=>⟨[(19,pN m),(18,pN (x6.n:Int)),(5,.vec 17000),(4,.reg 5000 0),(2,.reg 1 0),(1,.reg 0 0),(0,.yf 2)],[(17000,.vec A4 2 j.n (fun i=>A0 (j.g i)) false),(5000,.arr 6 (fun i=>pI .i64 (x5 i))),(2,.yld (L8.map (fun (x:Sl Tb)=>Dp A4 2 x.n (fun i=>A0 (x.g i)))) true),(1,.cells [.p (vSl 2 A0 q1)]),(0,.cells [pN q0])]⟩) (ids:=[(0,0),(1,1),(2,2),(5000,5000),(17000,17000)]) (fun _ _ _ _ _ s j m L8 t h=>?_);apply kI Z h<;>intro h
 .refine J0 Z Mz [6,7] ?_;obtain⟨c48,h⟩:=I5 h;refine N2 (And.intro (And.intro (And.intro (And.intro (And.intro c48.1.1.1.1 c48.1.1.1.2) c48.1.1.2) Ob) c48.1.2) (And.intro (rfl:(2:Nat)=2) (And.intro c48.2 Ob))) ?_;exact t _ [(0,0),(1,1),(2,2),(5000,5000),(17000,17000)] _ (j.upd m.toNat (q1.g (x5 (0+m.toNat*1)).toNat)) (wrap .i64 (m+1)) L8 Mz h (hle:=klR [(2,.fn j.n (j.upd m.toNat (q1.g (x5 (0+m.toNat*1)).toNat)).n (fun l=>if l=m.toNat then splice ((fun i=>A0 (j.g i)) l) 0 [pI .u32 (q1.g (x5 (0+m.toNat*1)).toNat).Plus,pI .u32 (q1.g (x5 (0+m.toNat*1)).toNat).Minus]else (fun i=>A0 (j.g i)) l) (fun i=>A0 ((j.upd m.toNat (q1.g (x5 (0+m.toNat*1)).toNat)).g i)))] (al1 ⟨rfl,At6 (c:=A0) (v:=j) (x:=q1.g (x5 (0+m.toNat*1)).toNat) same (fun _=>by first|rfl|(dsimp only;split<;>rfl))⟩ al0))
 obtain⟨L9,rfl,q⟩:=Li h;replace h:=q;refine An3 Z Mz (ys:=(fun (x:Sl Tb)=>Dp A4 2 x.n (fun i=>A0 (x.g i))) j) (rest:=L9.map (fun (x:Sl Tb)=>Dp A4 2 x.n (fun i=>A0 (x.g i)))) ?_ ?_
 .refine E7 Z Mz (b:=false) (fun c49=>?_) (fun c49=>?_)
  .exact Bool.noConfusion ((rfl:false=false).symm.trans c49)
  refine HZ Z Mz h (fun d f L10=>⟨[(7,pN f),(5,.vec 17000),(4,.reg 5000 0),(2,.reg 1 0),(1,.reg 0 0),(0,.yf 2)],[(17000,.vec A4 2 j.n (fun i=>A0 (j.g i)) false),(5000,.arr 6 (fun i=>pI .i64 (d i))),(2,.yld (L10.map (fun (x:Sl Tb)=>Dp A4 2 x.n (fun i=>A0 (x.g i)))) true),(1,.cells [.p (vSl 2 A0 q1)]),(0,.cells [pN q0])]⟩) (ids:=[(0,0),(1,1),(2,2),(5000,5000),(17000,17000)]) (fun _ _ _ _ _ u d f L10 w h=>?_);refine HX Z Mz ?_;refine HY Mz (b:=decide (0<=f)) (fun c56=>?_) (fun c56=>?_)
  .replace h:=itT c56 h;obtain⟨c57,h⟩:=I5 h;refine N2 c57 ?_;apply kI Z h<;>intro h
   .obtain⟨c59,h⟩:=I5 h;exact w _ [(0,0),(1,1),(2,2),(5000,5000),(17000,17000)] _ (Hw d (0+f.toNat*1) 0) (wrap .i64 (f-1)) L10 c59 h (hle:=klR [(2,.fn 6 6 (fun i=>[(fun i=>if i=(0+f.toNat*1)then (pI .i64 0)else (fun i=>pI .i64 (d i)) i) i]) (fun i=>[pI .i64 (Hw d (0+f.toNat*1) 0 i)]))] (al1 ⟨rfl,Ag4 (c:=pI .i64) (v:=d) (x:=0) (fun _ _=>rfl) rfl⟩ al0))
   apply kI Z h<;>intro h
   .obtain rfl:=B9 h;exact A6 Z Mz (a:=.tup []) (objs:=[(.cells [pN q0]),.cells [.p (vSl 2 A0 q1)],.yld [] true]) ⟨[],[(2,.yld [] true),(1,.cells [.p (vSl 2 A0 q1)]),(0,.cells [pN q0])]⟩ [0,1,2] (ids:=[(0,0),(1,1),(2,2)]) ⟨true,rfl,rfl,_,rfl⟩
   obtain⟨c61,h⟩:=I5 h;exact o _ [(0,0),(1,1),(2,2),(5000,5000),(17000,17000)] _ (Hw d (0+f.toNat*1) (wrap .i64 ((d (0+f.toNat*1))+1))) j L10 c61 h (hle:=klR [(1,.fn 6 6 (fun i=>[(fun i=>if i=(0+f.toNat*1)then (pI .i64 (wrap .i64 ((d (0+f.toNat*1))+1)))else (fun i=>pI .i64 (d i)) i) i]) (fun i=>[pI .i64 (Hw d (0+f.toNat*1) (wrap .i64 ((d (0+f.toNat*1))+1)) i)]))] (al1 ⟨rfl,Ag4 (c:=pI .i64) (v:=d) (x:=wrap .i64 ((d (0+f.toNat*1))+1)) (fun _ _=>rfl) rfl⟩ al0))
  replace h:=itF c56 h;refine N2 Mz ?_;apply kI Z h<;>intro h
  .obtain rfl:=B9 h;exact A6 Z Mz (a:=.tup []) (objs:=[(.cells [pN q0]),.cells [.p (vSl 2 A0 q1)],.yld [] true]) ⟨[],[(2,.yld [] true),(1,.cells [.p (vSl 2 A0 q1)]),(0,.cells [pN q0])]⟩ [0,1,2] (ids:=[(0,0),(1,1),(2,2)]) ⟨true,rfl,rfl,_,rfl⟩
  obtain⟨c63,h⟩:=I5 h;exact o _ [(0,0),(1,1),(2,2),(5000,5000),(17000,17000)] _ (Hw d (0+f.toNat*1) (wrap .i64 ((d (0+f.toNat*1))+1))) j L10 c63 h (hle:=klR [(1,.fn 6 6 (fun i=>[(fun i=>if i=(0+f.toNat*1)then (pI .i64 (wrap .i64 ((d (0+f.toNat*1))+1)))else (fun i=>pI .i64 (d i)) i) i]) (fun i=>[pI .i64 (Hw d (0+f.toNat*1) (wrap .i64 ((d (0+f.toNat*1))+1)) i)]))] (al1 ⟨rfl,Ag4 (c:=pI .i64) (v:=d) (x:=wrap .i64 ((d (0+f.toNat*1))+1)) (fun _ _=>rfl) rfl⟩ al0))
 refine E7 Z Mz (b:=true) (fun c64=>?_) (fun c64=>?_)
 .exact A6 Z Mz (a:=.tup []) (objs:=[(.cells [pN q0]),.cells [.p (vSl 2 A0 q1)],.yld [] false]) ⟨[],[(2,.yld [] false),(1,.cells [.p (vSl 2 A0 q1)]),(0,.cells [pN q0])]⟩ [0,1,2] (ids:=[(0,0),(1,1),(2,2)]) ⟨false,rfl,rfl,_,rfl⟩
 exact Bool.noConfusion (Og.symm.trans c64)
def BV (N:Nat)(a:Sl Tb)(b:Int):Option (Int×(Sl Tb)):= (E9 N a).bind fun y1=>(D8 N y1).bind fun L1=>(I2 N L1 (fun (u1:Tb) (u2:Tb)=>AA N u1 u2)).bind fun y2=>some (b,y2)
theorem Rs {N:Nat}{a:Sl Tb}{b:Int}{y:Int×(Sl Tb)}(h:BV N a b=some y) :FunO S IQ [.p (vSl 2 A0 a),pN b] [] (.clo BF [] [.reg 0 0,.reg 1 0]) ([.cells [pN y.1],.cells [.p (vSl 2 A0 y.2)]]) []:=by unfold BV at h;refine A3 Z func33 ?_;refine kC Z h (AB Z Y) (fun y1 h=>?_);obtain⟨L1,e2,h⟩:=D1 h;obtain⟨y2,e3,h⟩:=D1 h;refine F0 Z [8000] Mz (CW Z Y ⟨_,func75,by decide +kernel,by decide +kernel⟩ (X7 Z Y e2) (fun e=>Rq Z Y e) e3) ?_;obtain rfl:=B9 h;exact A6 Z Mz ⟨[(4,.clo BF [] [.reg 4000 0,.reg 6000 0])],[(6000,.cells [.p (vSl 2 A0 y2)]),(4000,.cells [pN b])]⟩ [4000,6000] (ids:=[(4000,4000),(6000,6000)]) ⟨rfl,rfl,rfl⟩
end Go.AM
namespace Go.AM
open Go.Proofs.Tryz
variable {N:Nat}
open IntKind (wrap)
open Go.Proofs
set_option maxRecDepth 10000
set_option maxHeartbeats 4000000
variable {S:W8}(Z:G8 S Tryz.prog) (Y:Oh S)
include Z Y
def Q4 (N:Nat)(a:Sl Tb)(q0:Sl (Sl Law))(q1:Sl Ca):Option Bool:= (CN N q0 a q1).bind fun y1=>some y1
theorem Nn {a:Sl Tb}{q0:Sl (Sl Law)}{q1:Sl Ca}{y:Bool}(h:Q4 N a q0 q1=some y) :FunO S P6 [.p (vSl 2 A0 a),.p (.ptr [vSl 1 (cL 18 B3) q0]),.p (.ptr [vSl 2 L7 q1])] [] (pB y) ([]) []:=by unfold Q4 at h;refine A3 Z func31 ?_;refine kC Z h (Tw Z Y) (fun y1 h=>?_);cases h;exact kR Z
def BW (N:Nat)(c:A7)(b:Sl Ca)(a:Sl Tb):Option (Option (Sl (Sl Law))×Int):= (BR N c).bind fun y1=>if (y1.2 != 0) then some (none,y1.2) else (V4 N b (y1.1.n:Int)).bind fun y2=>if (y2 != 0) then some (none,y2) else (Ab N a).bind fun y3=>if (y3 != 0) then some (none,y3) else some (some y1.1,0)
theorem Jq {c:A7}{a:Sl Ca}{b:Sl Tb}{y:Option (Sl (Sl Law))×Int}(h:BW N c a b=some y) :FunO S IO [.p (.agg (B6 c)),.p (vSl 2 L7 a),.p (vSl 2 A0 b)] [] (.tup [At7 y.1 (.p (.agg [AH,.v .nilFunc])) (fun laws=>.agr [.p (vSl 2 A0 b),.clo P6 [] [.p (.ptr [vSl 1 (cL 18 B3) laws]),.p (.ptr [vSl 2 L7 a])]]),pN y.2]) [] []:=by
 unfold BW at h;refine A3 Z func18 ?_;refine kC Z h (Rr Z Y) (fun y1 h=>?_);apply kI Z h<;>intro h
 .cases h;exact kR Z
 refine kC Z h (Lu Z Y) (fun y2 h=>?_);apply kI Z h<;>intro h
 .cases h;exact kR Z
 refine kC Z h (Nk Z Y) (fun y3 h=>?_);apply kI Z h<;>intro h
 .cases h;exact kR Z
 refine Bo Z Mz 36 ⟨[(35,.p (vSl 2 A0 b)),(8,.reg 9000 0),(6,.reg 7000 0),(4,.reg 5000 0)],[(9000,.cells [.p (vSl 1 (cL 18 B3) y1.1)]),(7000,.cells [.p AH,.p (.v .nilFunc)]),(5000,.cells [.p (vSl 2 L7 a)])]⟩ (ids:=[(5000,5000),(7000,7000),(9000,9000)]) ?_;refine W7 Z Mz 36 9000 [vSl 1 (cL 18 B3) y1.1] ?_;refine W7 Z Mz 36 5000 [vSl 2 L7 a] ?_;cases h;exact kR Z
def C9 (N:Nat)(s:Sl Tb):Option (Sl Tb):=if (0+s.n)*8<=140737488355328/\0+s.n<=140737488355328 then some s else none
theorem AC {s y:Sl Tb}(h:C9 N s=some y):FunO S F1 [.p (vSl 2 A0 s)] [] (.vec 0) [.vec A4 2 y.n (fun i=>A0 (y.g i)) false] []:=by
 unfold C9 at h;obtain⟨c1,h⟩:=I5 h;obtain rfl:=B9 h;refine A3 Z func34 ?_;refine Am3 Z Mz 3 (k:=2) (n:=s.n) (f:=fun i=>A0 (s.g i)) (fun a=>?_) ?_
 .obtain⟨n,g⟩:=s;obtain rfl:n=0:=a;exact A6 Z Mz ⟨[(2,.vec 3700)],[(3700,.vec A4 2 0 (fun i=>A0 (g i)) false)]⟩ [3700] (ids:=[]) ⟨rfl,rfl,rfl⟩
 exact A6 Z (And.intro Og c1) ⟨[(2,.vec 8000)],[(8000,.vec A4 2 s.n (fun i=>A0 (s.g i)) false)]⟩ [8000] (ids:=[(8000,8000)]) ⟨rfl,rfl,rfl⟩
  (hle:=klR [(0,.fn (0+s.n) s.n (Cb 0 (J5 [pI .u32 0,pI .u32 0] []) (fun i=>A0 (s.g i))) (fun i=>A0 (s.g i)))] (al1 ⟨AT6 _,fun i _=>by simp[Cb]⟩ al0))
def O8 (N:Nat)(a:Sl Tb)(d:Sl (Sl Law))(b:Sl Ca)(f:Int):Option (Sl (Sl Tb)):= W9 N (fun g (x3:Sl (Sl Tb)) (x4:Int)=>if (decide (x4<7)) then (BV N a x4).bind fun j=>(N1 N j.1 j.2).bind fun L3=>O1 L3 (fun c (x7:Sl Tb) (z3:Sl (Sl Tb))=>if (decide (f<=(z3.n:Int))) then some z3 else (Q4 N x7 d b).bind fun l=>if l then (C9 N x7).bind fun i=>if ((z3.n+(Sl.of [i]:Sl (Sl Tb)).n)*24<=140737488355328/\z3.n+(Sl.of [i]:Sl (Sl Tb)).n<=140737488355328)then c (z3.push i) else none else c z3) (fun (z3:Sl (Sl Tb))=>g z3 (wrap .i64 (x4+1))) x3 else some x3) T4 0
theorem Hk {d:Sl Tb}{o:Sl (Sl Law)}{f:Sl Ca}{j:Int}{y:Sl (Sl Tb)}(h:O8 N d o f j=some y) :FunO S CZ [.agr [.p (vSl 2 A0 d),.clo P6 [] [.p (.ptr [vSl 1 (cL 18 B3) o]),.p (.ptr [vSl 2 L7 f])]],pN j] [] (.vec 0) [.vec A8 1 y.n (fun i=>cL 2 A0 (y.g i)) true] []:=by
 unfold O8 at h;refine A3 Z func19 ?_;refine W7 Z Mz 4 4000 [pI .i64 j] ?_;refine Q5 Z Mz h (fun x3 x4=>⟨[(8,pN x4),(5,.reg 6000 0),(4,.reg 5000 0),(3,.p (.ptr [pI .i64 j])),(2,.reg 3000 0)],[(6501,.vec A8 1 x3.n (fun i=>cL 2 A0 (x3.g i)) false),(6000,.cells [.vec 6501]),(5000,.cells [.p AH]),(3000,.cells [.p (vSl 2 A0 d),.clo P6 [] [.p (.ptr [vSl 1 (cL 18 B3) o]),.p (.ptr [vSl 2 L7 f])]])]⟩) (ids:=[(3000,3000),(5000,5000),(6000,6000)]) (fun _ _ _ _ _ s x3 x4 t h=>?_);apply kI Z h<;>intro h
 .refine kC Z h (Rs Z Y) (fun w h=>?_);obtain⟨L3,e18,h⟩:=D1 h;refine An4 Z Mz (e:=A4) (m:=2) (nT:=fun x=>x.n) (fT:=fun x i=>A0 (x.g i)) [15000,15001] [8,5,4,3,2] 905 906 (fun z3=>⟨[(8,pN x4),(5,.reg 6000 0),(4,.reg 5000 0),(3,.p (.ptr [pI .i64 j])),(2,.reg 3000 0)],[(6500,.vec A8 1 z3.n (fun i=>cL 2 A0 (z3.g i)) false),(6000,.cells [.vec 6500]),(5000,.cells [.p AH]),(3000,.cells [.p (vSl 2 A0 d),.clo P6 [] [.p (.ptr [vSl 1 (cL 18 B3) o]),.p (.ptr [vSl 2 L7 f])]])]⟩) (idl:=[(3000,3000),(5000,5000),(6000,6000),(6500,6501)]) h (Nm Z Y e18) (fun _ _=>⟨rfl,rfl,rfl,rfl,rfl,rfl⟩) (fun x7 _ u z3 r h=>?_) (fun z3 h=>?_)
  .refine AM4 Z Mz ?_;apply kI Z h<;>intro h
   .refine ZX Z Mz ⟨[(8,pN x4),(5,.reg 6000 0),(4,.reg 5000 0),(3,.p (.ptr [pI .i64 j])),(2,.reg 3000 0)],[(6500,.vec A8 1 z3.n (fun i=>cL 2 A0 (z3.g i)) false),(6000,.cells [.vec 6500]),(5000,.cells [.vec 6500]),(3000,.cells [.p (vSl 2 A0 d),.clo P6 [] [.p (.ptr [vSl 1 (cL 18 B3) o]),.p (.ptr [vSl 2 L7 f])]])]⟩ (ids:=[(905,905),(906,906),(3000,3000),(5000,5000),(6000,6000),(6500,6500)]) ?_ ⟨rfl,rfl,rfl,rfl,rfl,rfl⟩;obtain rfl:=B9 h;exact A6 Z Mz ⟨[(4,.reg 5000 0)],[(6500,.vec A8 1 z3.n (fun i=>cL 2 A0 (z3.g i)) true),(5000,.cells [.vec 6500])]⟩ [6500] (ids:=[(5000,5000),(6500,6500)]) ⟨rfl,rfl,rfl⟩
   obtain⟨a0,e20,h⟩:=D1 h;refine AM2 Z Mz Mz (Nn Z Y e20) ?_;apply kI Z h<;>intro h
   .refine U0 Z Mz [(0,.l [6000]),(2,.a [906,28000]),(3,.b [28000,29000]),(4,.a [30000,6500,29000]),(5,.a [6000])] ?_;obtain⟨q,e24,h⟩:=D1 h;refine AC2 Mz Mz (AC Z Y e24) (fun i l _ hl=>match l,hl with|0,_=>rfl|1,_=>rfl|_+2,hl=>Ln hl (by omega)) ?_;obtain⟨c30,h⟩:=I5 h;refine N2 (And.intro Og c30) ?_;exact r _ [(905,905),(906,906),(3000,3000),(5000,5000),(6000,6000),(6500,30000)] _ (z3.push q) Mz h (hle:=klR [(0,.fn (z3.n+1) (z3.push q).n (Cb z3.n (fun i=>cL 2 A0 (z3.g i)) (J5 [AH] [(0,cL 2 A0 q)])) (fun i=>cL 2 A0 ((z3.push q).g i)))] (al1 ⟨rfl,Uf (c:=cL 2 A0) (v:=z3) (x:=q) (z:=[AH]) same rfl rfl⟩ al0))
   exact r _ [(905,905),(906,906),(3000,3000),(5000,5000),(6000,6000),(6500,6500)] _ z3 Mz h
  exact t _ [(3000,3000),(5000,5000),(6000,6000),(6501,6500)] _ z3 (wrap .i64 (x4+1)) Mz h
 obtain rfl:=B9 h;exact A6 Z Mz ⟨[(4,.reg 5000 0)],[(6501,.vec A8 1 x3.n (fun i=>cL 2 A0 (x3.g i)) true),(5000,.cells [.vec 6501])]⟩ [6501] (ids:=[(5000,5000),(6501,6501)]) ⟨rfl,rfl,rfl⟩
end Go.AM
namespace Go.AM
open Go.Proofs
set_option maxRecDepth 10000
set_option maxHeartbeats 4000000
variable {S:W8}(Z:G8 S Tryz.prog) (Y:Oh S)
include Z Y
def Cr (N:Nat)(d:A7)(b:Sl Ca)(a:Sl Tb)(c:Int):Option (Sl (Sl Tb)×Int):= (BW N d b a).bind fun y1=>if (y1.2 != 0) then some (T4,y1.2) else if (decide (c<0)) then some (T4,3) else At7 y1.1 none fun l=>(O8 N a l b c).bind fun y2=>some (y2,0)
theorem No {N:Nat}{d:A7}{b:Sl Ca}{a:Sl Tb}{c:Int}{y:Sl (Sl Tb)×Int}(h:Cr N d b a c=some y) :FunO S Mv [.p (.agg (B6 d)),.p (vSl 2 L7 b),.p (vSl 2 A0 a),pN c] [] (.tup [.vec 0,pN y.2]) [.vec A8 1 y.1.n (fun i=>cL 2 A0 (y.1.g i)) true] []:=by
 unfold Cr at h;refine A3 Z Tryz.func8 ?_;obtain⟨⟨o,e⟩,e1,h⟩:=D1 h;cases o with
 |none=>
  refine F0 Z [] Mz (Jq Z Y e1) ?_;apply kI Z h<;>intro h
  .cases h;exact A6 Z Mz ⟨[(9,pN e),(8,.vec 3700)],[(3700,.vec A8 1 T4.n (fun i=>cL 2 A0 (T4.g i)) true)]⟩ [3700] (ids:=[]) ⟨rfl,rfl,rfl⟩
  apply kI Z h<;>intro h
  .obtain rfl:=B9 h;exact A6 Z Mz ⟨[(9,pN 3),(8,.vec 3700)],[(3700,.vec A8 1 T4.n (fun i=>cL 2 A0 (T4.g i)) true)]⟩ [3700] (ids:=[]) ⟨rfl,rfl,rfl⟩
  cases h
 |some l=>
  refine F0 Z [] Mz (Jq Z Y e1) ?_;apply kI Z h<;>intro h
  .cases h;exact A6 Z Mz ⟨[(9,pN e),(8,.vec 3700)],[(3700,.vec A8 1 T4.n (fun i=>cL 2 A0 (T4.g i)) true)]⟩ [3700] (ids:=[]) ⟨rfl,rfl,rfl⟩
  apply kI Z h<;>intro h
  .cases h;exact A6 Z Mz ⟨[(9,pN 3),(8,.vec 3700)],[(3700,.vec A8 1 T4.n (fun i=>cL 2 A0 (T4.g i)) true)]⟩ [3700] (ids:=[]) ⟨rfl,rfl,rfl⟩
  refine kC Z h (Hk Z Y) (fun y2 h=>?_);obtain rfl:=B9 h;exact A6 Z Mz ⟨[(9,pN 0),(8,.vec 27000)],[(27000,.vec A8 1 y2.n (fun i=>cL 2 A0 (y2.g i)) true)]⟩ [27000] (ids:=[(27000,27000)]) ⟨rfl,rfl,rfl⟩
end Go.AM
namespace Go.AM
open IntKind (wrap)
open Go.Proofs
set_option maxRecDepth 10000
set_option maxHeartbeats 2000000
variable {S:W8}(Z:G8 S Tryz.prog) (Y:Oh S)
include Z Y
def I4 (N:Nat)  : Option Bool:= (Cr N (⟨(Sl.of [(⟨-1,[114]⟩:U1)]:Sl U1),(Sl.nil:Sl Law),(Sl.of [Ra]:Sl (Sl Int))⟩:A7) (Sl.of [(⟨true,(Sl.of [(⟨1,0⟩:Tb)]:Sl Tb)⟩:Ca)]:Sl Ca) (Sl.of [(⟨1,0⟩:Tb)]:Sl Tb) 9).bind fun y1=>lt (fun (z1:Bool)=>some z1) fun k1=>if (y1.2==0) then if ((y1.1.n:Int)==1) then if (((0:Int)<=0/\0<(y1.1.n:Int))/\0<y1.1.n)then (T6 N (y1.1.g 0) (Sl.of [(⟨1,0⟩:Tb)]:Sl Tb)).bind fun y3=>k1 y3 else none else k1 false else k1 false
theorem Bq {N:Nat}    {y:Bool}(h:I4 N  = some y) :FunO S Dz [] [] (pB y) ([]) []:=by
 unfold I4 at h;refine A3 Z Tryz.func7 ?_;refine QI Z (And.intro Og Og) 8 8000 (k:=1) (n:=1) (e:=Re) (vw:=false) (J5 [AH] [(0,[AH])]) (fun i=>cL 1 (cI .i64) ((Sl.of [Ra]:Sl (Sl Int)).g i)) (fun i a=>match i,a with|0,_=>leCn|_+1,a=>Ln a (by omega)) ?_;refine Bo Z Mz 8 ⟨[(7,.p (vSl 1 (cL 1 (cI .i64)) (Sl.of [Ra]:Sl (Sl Int)))),(6,.p (vSl 2 H3 (Sl.of [(⟨-1,[114]⟩:U1)]:Sl U1)))],[]⟩ (ids:=[]) ?_ (hle:=klR [(1,.fn 1 (Sl.of [(⟨-1,[114]⟩:U1)]:Sl U1).n (J5 [pI .i64 0,.str []] [(0,H3 (⟨-1,[114]⟩:U1))]) (fun i=>H3 ((Sl.of [(⟨-1,[114]⟩:U1)]:Sl U1).g i)))] (al1 ⟨rfl,(fun i a=>match i,a with|0,_=>rfl|_+1,a=>Ln a (by omega))⟩ al0));refine Bo Z Og 12 ⟨[(2,.vec 11000),(1,.reg 2000 0)],[(11000,.vec A4 2 (Sl.of [(⟨1,0⟩:Tb)]:Sl Tb).n (fun i=>A0 ((Sl.of [(⟨1,0⟩:Tb)]:Sl Tb).g i)) false),(2000,.cells [.p (vSl 2 H3 (Sl.of [(⟨-1,[114]⟩:U1)]:Sl U1)),.p (vSl 18 B3 (Sl.nil:Sl Law)),.p (vSl 1 (cL 1 (cI .i64)) (Sl.of [Ra]:Sl (Sl Int)))])]⟩ (ids:=[(2000,2000),(11000,11000)]) ?_ (hle:=klR [(0,.fn 1 (Sl.of [(⟨1,0⟩:Tb)]:Sl Tb).n (J5 [pI .u32 0,pI .u32 0] [(0,A0 (⟨1,0⟩:Tb))]) (fun i=>A0 ((Sl.of [(⟨1,0⟩:Tb)]:Sl Tb).g i)))] (al1 ⟨rfl,(fun i a=>match i,a with|0,_=>rfl|_+1,a=>Ln a (by omega))⟩ al0));refine Bo Z Mz 14 ⟨[(13,.p (vSl 2 A0 (Sl.of [(⟨1,0⟩:Tb)]:Sl Tb))),(12,.p (.agg [vSl 2 H3 (Sl.of [(⟨-1,[114]⟩:U1)]:Sl U1),vSl 18 B3 (Sl.nil:Sl Law),vSl 1 (cL 1 (cI .i64)) (Sl.of [Ra]:Sl (Sl Int))])),(2,.p (vSl 2 A0 (Sl.of [(⟨1,0⟩:Tb)]:Sl Tb)))],[]⟩ (ids:=[]) ?_;refine II Z (And.intro Og Og) ⟨[(17,.vec 18000),(15,.vec 16000),(12,.p (.agg [vSl 2 H3 (Sl.of [(⟨-1,[114]⟩:U1)]:Sl U1),vSl 18 B3 (Sl.nil:Sl Law),vSl 1 (cL 1 (cI .i64)) (Sl.of [Ra]:Sl (Sl Int))])),(2,.p (vSl 2 A0 (Sl.of [(⟨1,0⟩:Tb)]:Sl Tb)))],[(18000,.vec A4 2 (Sl.of [(⟨1,0⟩:Tb)]:Sl Tb).n (fun i=>A0 ((Sl.of [(⟨1,0⟩:Tb)]:Sl Tb).g i)) false),(16000,.vec Pu 2 (Sl.of [(⟨true,(Sl.of [(⟨1,0⟩:Tb)]:Sl Tb)⟩:Ca)]:Sl Ca).n (fun i=>L7 ((Sl.of [(⟨true,(Sl.of [(⟨1,0⟩:Tb)]:Sl Tb)⟩:Ca)]:Sl Ca).g i)) false)]⟩ (ids:=[(16000,16000),(18000,18000)]) ?_ (hle:=klR [(2,.fn 1 (Sl.of [(⟨1,0⟩:Tb)]:Sl Tb).n (J5 [pI .u32 0,pI .u32 0] [(0,A0 (⟨1,0⟩:Tb))]) (fun i=>A0 ((Sl.of [(⟨1,0⟩:Tb)]:Sl Tb).g i))),(3,.fn 1 (Sl.of [(⟨true,(Sl.of [(⟨1,0⟩:Tb)]:Sl Tb)⟩:Ca)]:Sl Ca).n (J5 [.v (.bool false),AH] [(0,L7 (⟨true,(Sl.of [(⟨1,0⟩:Tb)]:Sl Tb)⟩:Ca))]) (fun i=>L7 ((Sl.of [(⟨true,(Sl.of [(⟨1,0⟩:Tb)]:Sl Tb)⟩:Ca)]:Sl Ca).g i)))] (al1 ⟨rfl,(fun i a=>match i,a with|0,_=>rfl|_+1,a=>Ln a (by omega))⟩ (al1 ⟨rfl,(fun i a=>match i,a with|0,_=>rfl|_+1,a=>Ln a (by omega))⟩ al0)));refine kC Z h (No Z Y) (fun y1 h=>?_);refine QC Z Mz (B2 Z) h 0 (fun z1=>⟨[(0,pB z1)],[]⟩) (fun M1 k1 b h=>?_) (fun z1 h=>?_)
 .refine kG Z h (fun h=>?_) (fun h=>?_)
  .refine kG Z h (fun h=>?_) (fun h=>?_)
   .obtain⟨c8,h⟩:=I5 h;obtain⟨y3,e3,h⟩:=D1 h;refine F0 Z [] c8 (Eh Z Y e3) ?_;exact b _ [] _ y3 Mz h
   exact b _ [] _ false Mz h
  exact b _ [] _ false Mz h
 cases h;exact kR Z
def I3 (N:Nat)(d:A7)(a:Sl Ca)(b:Sl Tb):Option Bool:= (Ay N d.Tree).bind fun y1=>(T0 N d).bind fun y2=>if ((((!y2)||(decide (2<(b.n:Int))))||(decide (8<(a.n:Int))))||(y1.2 != 0)) then (I4 N ).bind fun y3=>some y3 else (Cr N d a b 1000).bind fun y4=>if (y4.2 != 0) then lt (fun (z1:Bool)=>some z1) fun k1=>if ((y4.1.n:Int)==0) then (I4 N ).bind fun y6=>k1 y6 else k1 false else if ((a.n:Int) != (y1.1.n:Int)) then some false else S3 N (fun i (x2:Int)=>if (decide (x2<(y4.1.n:Int))) then if (((0:Int)<=x2/\x2<(y4.1.n:Int))/\x2.toNat<y4.1.n)then (P5 N d y1.1 (y4.1.g x2.toNat) a).bind fun y9=>if (!y9) then some false else i (wrap .i64 (x2+1)) else none else (I7 N b 3).bind fun c=>S3 N (fun j (x5:Int)=>if (decide (x5<(c.n:Int))) then W9 N (fun f (x8:Bool) (x9:Int)=>if (decide (x9<(y4.1.n:Int))) then if x8 then f true (wrap .i64 (x9+1)) else if (((((0:Int)<=x9/\x9<(y4.1.n:Int))/\x9.toNat<y4.1.n)/\((0:Int)<=x5/\x5<(c.n:Int)))/\x5.toNat<c.n)then (T6 N (y4.1.g x9.toNat) (c.g x5.toNat)).bind fun l=>f l (wrap .i64 (x9+1)) else none else if (((0:Int)<=x5/\x5<(c.n:Int))/\x5.toNat<c.n)then (P5 N d y1.1 (c.g x5.toNat) a).bind fun m=>if ((x8==m) != true) then some false else j (wrap .i64 (x5+1)) else none) false 0 else (I4 N ).bind fun o=>some o) 0) 0
theorem CQ {N:Nat}{f:A7}{c:Sl Ca}{d:Sl Tb}{y:Bool}(h:I3 N f c d=some y) :FunO S N8 [.p (.agg (B6 f)),.p (vSl 2 L7 c),.p (vSl 2 A0 d)] [] (pB y) ([]) []:=by
 unfold I3 at h;refine A3 Z Tryz.func3 ?_;refine W7 Z Mz 6 4000 (B6 f) ?_;refine kC Z h (Jl Z Y) (fun y1 h=>?_);obtain⟨y2,e2,h⟩:=D1 h;refine F0 Z [] Oc (Kg Z Y e2) ?_;refine kB Z (B2 Z) Mz Mz 13 (.o (.o (.o (.a (!y2)) (.a (decide (2<(d.n:Int))))) (.a (decide (8<(c.n:Int))))) (.a (y1.2 != 0))) ?_;apply kI Z h<;>intro h
 .refine kC Z h (Bq Z Y) (fun y3 h=>?_);cases h;exact kR Z
 obtain⟨y4,e4,h⟩:=D1 h;refine F0 Z [] Oc (No Z Y e4) ?_;apply kI Z h<;>intro h
 .refine QC Z Mz (B2 Z) h 0 (fun z1=>⟨[(6,pB z1)],[]⟩) (fun M1 k1 l h=>?_) (fun z1 h=>?_)
  .refine kG Z h (fun h=>?_) (fun h=>?_)
   .refine kC Z h (Bq Z Y) (fun y6 h=>?_);exact l _ [] _ y6 Mz h
   exact l _ [] _ false Mz h
  cases h;exact kR Z
 apply kI Z h<;>intro h
 .cases h;exact kR Z
 refine AF Z Mz h (fun x2=>⟨[(11,pN x2),(9,.vec 45000),(7,.vec 20000),(3,.p (.ptr (B6 f))),(2,.p (vSl 2 A0 d)),(1,.p (vSl 2 L7 c))],[(45000,.vec A8 1 y4.1.n (fun i=>cL 2 A0 (y4.1.g i)) true),(20000,.vec H6 1 y1.1.n (fun i=>cI .i64 (y1.1.g i)) true)]⟩) (ids:=[(20000,20000),(45000,45000)]) (fun _ _ _ _ _ q x2 r h=>?_);apply kI Z h<;>intro h
 .refine J0 Z Mz [0] ?_;obtain⟨c14,h⟩:=I5 h;obtain⟨y9,e9,h⟩:=D1 h;refine WA [] (And.intro (And.intro Oc c14.1) c14.2) (EY Z Y e9) ?_;refine N2 Mz ?_;apply kI Z h<;>intro h
  .cases h;exact kR Z
  exact r _ [(20000,20000),(45000,45000)] _ (wrap .i64 (x2+1)) Mz h
 refine kC Z h (Kh Z Y) (fun j h=>?_);refine AF Z Mz h (fun x5=>⟨[(13,pN x5),(12,.vec 77000),(9,.vec 45000),(7,.vec 20000),(3,.p (.ptr (B6 f))),(1,.p (vSl 2 L7 c))],[(77000,.vec A8 1 j.n (fun i=>cL 2 A0 (j.g i)) true),(45000,.vec A8 1 y4.1.n (fun i=>cL 2 A0 (y4.1.g i)) true),(20000,.vec H6 1 y1.1.n (fun i=>cI .i64 (y1.1.g i)) true)]⟩) (ids:=[(20000,20000),(45000,45000),(77000,77000)]) (fun _ _ _ _ _ s x5 t h=>?_);apply kI Z h<;>intro h
 .refine Q5 Z Mz h (fun x8 x9=>⟨[(15,pN x9),(14,pB x8),(13,pN x5),(12,.vec 77000),(9,.vec 45000),(7,.vec 20000),(3,.p (.ptr (B6 f))),(1,.p (vSl 2 L7 c))],[(77000,.vec A8 1 j.n (fun i=>cL 2 A0 (j.g i)) true),(45000,.vec A8 1 y4.1.n (fun i=>cL 2 A0 (y4.1.g i)) true),(20000,.vec H6 1 y1.1.n (fun i=>cI .i64 (y1.1.g i)) true)]⟩) (ids:=[(20000,20000),(45000,45000),(77000,77000)]) (fun _ _ _ _ _ u x8 x9 m h=>?_);apply kI Z h<;>intro h
  .refine J0 Z Mz [10] ?_;refine HY Mz (b:=x8) (fun c45=>?_) (fun c45=>?_)
   .replace h:=itT c45 h;refine N2 Mz ?_;exact m _ [(20000,20000),(45000,45000),(77000,77000)] _ true (wrap .i64 (x9+1)) Mz h
   replace h:=itF c45 h;obtain⟨c46,h⟩:=I5 h;obtain⟨v,e21,h⟩:=D1 h;refine Bv c46 (Eh Z Y e21) ?_;refine N2 Mz ?_;exact m _ [(20000,20000),(45000,45000),(77000,77000)] _ v (wrap .i64 (x9+1)) Mz h
  refine J0 Z Mz [1] ?_;obtain⟨c47,h⟩:=I5 h;obtain⟨w,e22,h⟩:=D1 h;refine WA [] (And.intro (And.intro Oc c47.1) c47.2) (EY Z Y e22) ?_;refine N2 Mz ?_;apply kI Z h<;>intro h
  .cases h;exact kR Z
  exact t _ [(20000,20000),(45000,45000),(77000,77000)] _ (wrap .i64 (x5+1)) Mz h
 refine kC Z h (Bq Z Y) (fun x h=>?_);cases h;exact kR Z
end Go.AM
namespace Go.AM
open Go.Proofs
def Xo:I4 4194304=some true:=by decide +kernel
end Go.AM
namespace Go.AM
open IntKind (wrap)
open Go.Proofs
def Ao2 {A R:Type}{body:(A->Option R)->A->Option R}(I:Nat->A->Prop)(n:Nat)(I8:R->Prop)
 (b:∀self i a,i<=n->I i a->(i<n->∀a',I (i+1) a' -> ∃r,self a' = some r/\I8 r)->∃r,body self a=some r/\I8 r) :
 ∀(N i:Nat) (a:A),i<=n->I i a->n-i<N->∃r,S3 N body a=some r/\I8 r
 |0,_,_,_,_,h=>by omega
 |N+1,i,a,hi,hI,h=>by rw[BD];exact b _ i a hi hI fun c a' d=>Ao2 I n I8 b N (i+1) a' c d (by omega)
def W5 {A R:Type}{body:(A->Option R)->A->Option R}(I:Nat->A->Prop)(n:Nat)(I8:R->Prop){N:Nat}(c:n<N){a:A}(d:I 0 a)
 (b:∀self i a,i<=n->I i a->(i<n->∀a',I (i+1) a' -> ∃r,self a' = some r/\I8 r)->∃r,body self a=some r/\I8 r):∃r,S3 N body a=some r/\I8 r:=
 Ao2 I n I8 b N 0 a (AZ8 _) d c
def T1 {A B R:Type}{body:(A->B->Option R)->A->B->Option R}(I:Nat->A->B->Prop)(n:Nat)(I8:R->Prop){N:Nat}(g:n<N){a:A}{b:B}(j:I 0 a b)
 (d:∀c i a b,i<=n->I i a b->(i<n->∀a' b',I (i+1) a' b' -> ∃r,c a' b' = some r/\I8 r)->∃r,body c a b=some r/\I8 r):∃r,W9 N body a b=some r/\I8 r:=
 Ao2 (fun i x=>I i x.1 x.2) n I8 (fun c i x l m h=>d (fun a b=>c (a,b)) i x.1 x.2 l m fun hl a' b' f=>h hl (a',b') f) N 0 (a,b) (AZ8 _) j g
def Yi {A B C R:Type}{body:(A->B->C->Option R)->A->B->C->Option R}(I:Nat->A->B->C->Prop)(n:Nat)(I8:R->Prop){N:Nat}(j:n<N){a:A}{b:B}{c:C}(l:I 0 a b c)
 (f:∀d i a b c,i<=n->I i a b c->(i<n->∀a' b' c',I (i+1) a' b' c' -> ∃r,d a' b' c' = some r/\I8 r)->∃r,body d a b c=some r/\I8 r):∃r,Ak9 N body a b c=some r/\I8 r:=
 Ao2 (fun i x=>I i x.1 x.2.1 x.2.2) n I8 (fun d i x m o h=>f (fun a b c=>d (a,b,c)) i x.1 x.2.1 x.2.2 m o fun hl a' b' c' g=>h hl (a',b',c') g) N 0 (a,b,c) (AZ8 _) l j
def B1 {X R:Type}{Q:R->Prop}{o:Option X}{f:X->Option R}{x:X}(h:o=some x)(a:∃r,f x=some r/\Q r):∃r,o.bind f=some r/\Q r:=by subst h;exact a
def ltX {R A:Type}{Q:R->Prop}{k:A->Option R}{f:(A->Option R)->Option R}(h:∃r,f k=some r/\Q r):∃r,lt k f=some r/\Q r:=h
def ifT {R:Type}{Q:R->Prop}{p:Prop}[Decidable p]{a b:Option R}(h:p)(c:∃r,a=some r/\Q r):∃r,(if p then a else b)=some r/\Q r:=by rw[Ll h];exact c
def Da{R:Type}{Q:R->Prop}{p:Prop}[Decidable p]{a b:Option R}(h2:∃ r,a=some r/\Q r)(h:p:=by decide):∃ r,(if p then a else b)=some r/\Q r:=ifT h h2
def Aq{R:Type}{Q:R->Prop}{p:Prop}[Decidable p]{a b:Option R}(h2:∃ r,a=some r/\Q r)(h:p:=by simp):∃ r,(if p then a else b)=some r/\Q r:=ifT h h2
def Ao{R:Type}{Q:R->Prop}{p:Prop}[Decidable p]{a b:Option R}(h2:∃ r,a=some r/\Q r)(h:p:=by simp;omega):∃ r,(if p then a else b)=some r/\Q r:=ifT h h2
def An{R:Type}{Q:R->Prop}{p:Prop}[Decidable p]{a b:Option R}(h2:∃ r,a=some r/\Q r)(h:p:=by omega):∃ r,(if p then a else b)=some r/\Q r:=ifT h h2
def ifF {R:Type}{Q:R->Prop}{p:Prop}[Decidable p]{a b:Option R}(h:¬p)(c:∃r,b=some r/\Q r):∃r,(if p then a else b)=some r/\Q r:=by rw[Lm h];exact c
def H1{R:Type}{Q:R->Prop}{p:Prop}[Decidable p]{a b:Option R}(h2:∃ r,b=some r/\Q r)(h:¬p:=by decide):∃ r,(if p then a else b)=some r/\Q r:=ifF h h2
def Gx{R:Type}{Q:R->Prop}{p:Prop}[Decidable p]{a b:Option R}(h2:∃ r,b=some r/\Q r)(h:¬p:=by simp):∃ r,(if p then a else b)=some r/\Q r:=ifF h h2
def Ec{R:Type}{Q:R->Prop}{p:Prop}[Decidable p]{a b:Option R}(h2:∃ r,b=some r/\Q r)(h:¬p:=by simp;omega):∃ r,(if p then a else b)=some r/\Q r:=ifF h h2
def Dc{R:Type}{Q:R->Prop}{p:Prop}[Decidable p]{a b:Option R}(h2:∃ r,b=some r/\Q r)(h:¬p:=by omega):∃ r,(if p then a else b)=some r/\Q r:=ifF h h2
def E6 {n:Int}(h : -9223372036854775808<=n)(h' : n<=9223372036854775807):IntKind.i64.wrap n=n:=by
 by_cases a:0<=n
 .have h1:n % (2 ^ 64:Int)=n:=Ba5 a (by omega);unfold wrap;simp only[IntKind.bits,IntKind.signed,h1];rw[Lm];simp;omega
 have h1:n % (2 ^ 64:Int)=n+2 ^ 64:=by rw[<- Int.add_emod_right];exact Ba5 (by omega) (by omega)
 unfold wrap;simp only[IntKind.bits,IntKind.signed,h1];rw[Ll]
 .omega
 simp;omega
def B4 {i:Nat}(h:i<1000000000000000000):IntKind.i64.wrap ((i:Int)+1)=((i+1:Nat):Int):=by rw[E6 (by omega) (by omega)];rfl
def Hi{i:Nat}(h:i<1000000000000000000:=by omega):IntKind.i64.wrap ((i:Int)+1)=((i+1:Nat):Int):=B4 h
def wrapP {i:Nat}(a:1<=i)(h:i<1000000000000000000):IntKind.i64.wrap ((i:Int)-1)=((i-1:Nat):Int):=by rw[E6 (by omega) (by omega)];omega
def DU {i j:Nat}(h:i+j<1000000000000000000):IntKind.i64.wrap ((i:Int)+(j:Int))=((i+j:Nat):Int):=by rw[E6 (by omega) (by omega)];rfl
def WN {N n:Nat}(hn:n<=32)(f:1000<=N):∃s,GX N (n:Int)=some s/\s.n=n+1/\TabR n (fun a b=>a=b) s.g:=by
 unfold GX;rw[Hi];refine An ?_;refine T1 (fun i x1 x2=>x2=(i:Int)/\x1.n=n+1/\∀a,a<i->x1.g a=U (1#64 <<< a)) (n+1) _ (by omega) ⟨rfl,by show ((n+1:Nat):Int).toNat=n+1;omega,fun a ha=>Ln ha (by omega)⟩ ?_;rintro c i x1 x2 j ⟨rfl,h1,d⟩ hs;by_cases hl:i<=n
 .refine Ao (ifT ⟨⟨by omega,by omega,by omega⟩,by omega⟩ (hs (by omega) _ _ ⟨Hi,h1,fun a ha=>?_⟩));show (if a=(i:Int).toNat then shI .shl .u64 1 (i:Int)else x1.g a)=_;by_cases e:a=i
  .subst e;rw[Ll (by omega),Tj _ (by omega)]
  rw[Lm (by omega)];exact d a (by omega)
 refine Ec ⟨x1,rfl,h1,fun a ha=>⟨1#64 <<< a,d a (by omega),fun b hb=>?_⟩⟩;rw[GC (by omega) hb,decide_eq_true_eq];omega
def Ao3 {n:Nat}{f:Nat->Int}(h:∀a,a<=n->f a=0):TabR n (fun _ _=>False) f:=fun a ha=>⟨0#64,h a ha,fun b hb=>by simp⟩
def WO {N n:Nat}{R S:Nat->Nat->Prop}{x y:Sl Int}(hn:n<=32)(f:1000<=N)(hx:x.n=n+1)(hy:y.n=n+1)(hR:TabR n R x.g)(Z:TabR n S y.g) :∃s,GY N x y=some s/\s.n=n+1/\TabR n (fun a b=>R a b \/ S a b) s.g:=by
 unfold GY;refine An ?_;refine T1 (fun i x1 x2=>x2=(i:Int)/\x1.n=n+1/\∀a,a<i->x1.g a=G7 .or .u64 (x.g a) (y.g a)) (n+1) _ (by omega) ⟨rfl,by show (x.n:Int).toNat=n+1;omega,fun a ha=>Ln ha (by omega)⟩ ?_;rintro d i x1 x2 j ⟨rfl,h1,c⟩ hs;by_cases hl:i<=n
 .refine Ao (An (hs (by omega) _ _ ⟨Hi,h1,fun a ha=>?_⟩));show (if a=(i:Int).toNat then _ else x1.g a)=_;by_cases e:a=i
  .subst e;rw[Ll (by omega),AQ4]
  rw[Lm (by omega)];exact c a (by omega)
 refine Ec ⟨x1,rfl,h1,fun a ha=>?_⟩;obtain⟨u,e1,g1⟩:=hR a ha;obtain⟨v,e2,g2⟩:=Z a ha;refine⟨u ||| v,by rw[c a (by omega),e1,e2,AP7],fun b hb=>?_⟩;rw[AS3,AS6,g1 b hb,g2 b hb];constructor
 .rintro (⟨h1,c⟩ | ⟨h1,c⟩)
  .exact⟨h1,.inl c⟩
  exact⟨h1,.inr c⟩
 rintro⟨h1,c|c⟩
 .exact .inl ⟨h1,c⟩
 exact .inr ⟨h1,c⟩
def Aa8 {N n:Nat}{x y:Sl Int}(hn:n<=32)(f:1000<=N)(hx:x.n=n+1)(hy:y.n=n+1) :∃b,Id N x y=some b/\(b=true ↔ ∀a,a<=n->x.g a=y.g a):=by
 unfold Id;refine W5 (fun i x1=>x1=(i:Int)/\∀a,a<i->x.g a=y.g a) (n+1) _ (by omega) ⟨rfl,fun a ha=>Ln ha (by omega)⟩ ?_;rintro c i x1 j ⟨rfl,d⟩ hs;by_cases hl:i<=n
 .refine Ao (An ?_);rw[AQ4];by_cases e:x.g i=y.g i
  .refine ifF (by simp[e]) (hs (by omega) _ ⟨Hi,fun a ha=>?_⟩);by_cases h:a=i
   .subst h;exact e
   exact d a (by omega)
  refine ifT (by simp[e]) ⟨false,rfl,by simp;exact⟨i,hl,e⟩⟩
 exact Ec ⟨true,rfl,by simp;exact fun a ha=>d a (by omega)⟩
def PA {N n:Nat}{R S:Nat->Nat->Prop}{x y:Sl Int}(hn:n<=32)(w:1000<=N)(hx:x.n=n+1)(hy:y.n=n+1)(hR:TabR n R x.g)(Z:TabR n S y.g) :∃s,CH N x y=some s/\s.n=n+1/\TabR n (fun a b=>∃c,c<=n/\R a c/\S c b) s.g:=by
 unfold CH;refine An ?_
 let Row (z:BitVec 64) (a j:Nat):Prop:=∀b,b<64->(z.getLsbD b=true↔b<=n/\∃c,c<j/\c<=n/\R a c/\S c b)
 refine T1 (fun i x1 x2=>x2=(i:Int)/\x1.n=n+1/\(∀a,a<i->∃z,x1.g a=U z/\Row z a (n+1))/\∀a,i<=a->x1.g a=0) (n+1) _ (by omega) ⟨rfl,by show (x.n:Int).toNat=n+1;omega,fun a ha=>Ln ha (by omega),fun a _=>rfl⟩ ?_;rintro q i x1 x2 hi ⟨rfl,h1,r,t⟩ hs;by_cases hl:i<=n
 .refine Ao ?_;refine T1 (fun j x7 x8=>x8=(j:Int)/\x7.n=n+1/\(∀a,a<i->∃z,x7.g a=U z/\Row z a (n+1))/\(∃z,x7.g i=U z/\Row z i j)/\∀a,i<a->x7.g a=0) (n+1) _ (by omega)
   ⟨rfl,h1,r,⟨0#64,t i (AQ8 _),fun b hb=>by simp⟩,fun a ha=>t a (by omega)⟩ ?_
  rintro m j x7 x8 hj ⟨rfl,g1,g2,⟨z,g3,g4⟩,g5⟩ l;by_cases f:j<=n
  .refine Ao (An ?_);rw[AQ4,AQ4];have d:=hR.bit hl (b:=j) (by omega);by_cases hc:R i j
   .refine ifT (d.2 ⟨f,hc⟩) (An (l (by omega) _ _ ⟨Hi,g1,fun a ha=>?_,?_,fun a ha=>?_⟩))
    .obtain⟨z',e,o⟩:=g2 a ha;exact⟨z',by show (if a=i then _ else x7.g a)=_;rw[Lm (by omega)];exact e,o⟩
    .obtain⟨v,e,u⟩:=Z j f;refine⟨z ||| v,by show (if i=i then _ else _)=_;rw[Ll rfl,g3,e,AP7],fun b hb=>?_⟩;rw[AS3,AS6,g4 b hb,u b hb];constructor
     .rintro (⟨k1,c,k2,k3⟩ | ⟨k1,k2⟩)
      .exact⟨k1,c,by omega,k3⟩
      exact⟨k1,j,by omega,f,hc,k2⟩
     rintro⟨k1,c,k2,k3,k4,k5⟩;by_cases e:c=j
     .subst e;exact .inr ⟨k1,k5⟩
     exact .inl ⟨k1,c,by omega,k3,k4,k5⟩
    show (if a=i then _ else x7.g a)=_;rw[Lm (by omega)];exact g5 a ha
   refine ifF (fun h=>hc (d.1 h).2) (l (by omega) _ _ ⟨Hi,g1,g2,⟨z,g3,fun b hb=>?_⟩,g5⟩);rw[g4 b hb];constructor
   .rintro⟨k1,c,k2,k3⟩;exact⟨k1,c,by omega,k3⟩
   rintro⟨k1,c,k2,k3,k4,k5⟩;by_cases e:c=j
   .subst e;exact Ln k4 hc
   exact⟨k1,c,by omega,k3,k4,k5⟩
  refine Ec (hs (by omega) _ _ ⟨Hi,g1,fun a ha=>?_,fun a ha=>g5 a (by omega)⟩);by_cases e:a=i
  .subst e;obtain rfl:j=n+1:=by omega
   exact⟨z,g3,g4⟩
  exact g2 a (by omega)
 refine Ec ⟨x1,rfl,h1,fun a ha=>?_⟩;obtain⟨z,e,o⟩:=r a (by omega);refine⟨z,e,fun b hb=>(o b hb).trans ⟨fun⟨k1,c,_,k3⟩=>⟨k1,c,k3⟩,fun⟨k1,c,k3⟩=>⟨k1,c,by omega,k3⟩⟩⟩
end Go.AM
namespace Go.AM
open Go.Proofs
def okP:Nat->Pat->Prop
 |0,_=>False
 |d+1,p=>p.L.n<=40/\(p.Kind=5->p.L.n=1/\0<=p.Min/\p.Min<=32/\(p.Max = -1 \/ (p.Min<=p.Max/\p.Max<=32)))/\∀i,i<p.L.n->okP d (p.L.g i)
def Lw (w:Sl Tb)(p:Pat)(a b:Nat):PR w p a b↔(if p.Kind=0 then a=b
 else if p.Kind=1 then a<w.n/\b=a+1/\(Vb (w.g a) p.Is != p.Not)=true
 else if p.Kind=2 then a=0/\b=0
 else if p.Kind=6 then a=w.n/\b=w.n
 else if p.Kind=3 then Ye w.n (fun i=>PR w (p.L.g i)) p.L.n a b
 else if p.Kind=4 then ∃i,i<p.L.n/\PR w (p.L.g i) a b
 else if p.Kind=5 then ∃k:Nat,p.Min<=k/\(p.Max = -1 \/ (k:Int)<=p.Max)/\HH w.n (PR w (p.L.g 0)) k a b
 else False):=by
 cases p with
 |nil=>simp[PR,Pat.Kind]
 |mk kind is no mn mx m g=>exact AZ7
def R0 (w:Sl Tb)(p:Pat)(a b:Nat):Prop:=if p.Kind=0 then a=b else if p.Kind=1 then a<w.n/\b=a+1/\(Vb (w.g a) p.Is != p.Not)=true else if p.Kind=2 then a=0/\b=0 else if p.Kind=6 then a=w.n/\b=w.n else False
def Av0 {n:Nat}{R:Nat->Nat->Prop}(hR:Fwd n R){mn k:Nat}(hk:mn<k)(h:∀a b,a<=n->b<=n->HH n R k a b->∃j,mn<=j/\j<k/\HH n R j a b){a:Nat}(ha:a<=n) :∀m b,mn<=m->HH n R m a b->∃j,mn<=j/\j<k/\HH n R j a b
 |0,b,hm,hp=>⟨0,hm,by omega,hp⟩
 |m+1,b,hm,hp=>by
  by_cases d:m+1<k
  .exact⟨m+1,hm,d,hp⟩
  obtain⟨c,hc,h1,f⟩:=hp;have hb:=(hR c b hc f).2;obtain⟨j,g1,g2,g3⟩:=Av0 hR hk h ha m c (by omega) h1;by_cases e:j+1<k
  .exact⟨j+1,by omega,e,c,hc,g3,f⟩
  obtain rfl:k=j+1:=by omega
  exact h a b ha hb ⟨c,hc,g3,f⟩
def Np {N:Nat}(hN:1000<=N){w:Sl Tb}(hw:w.n<=32):∀(d:Nat) (p:Pat),okP d p->∀M,N+d<=M->∃t,DL M p w=some t/\t.n=w.n+1/\TabR w.n (PR w p) t.g
 |0,p,h,M,hM=>h.elim
 |d+1,p,⟨hc,h5,hch⟩,0,hM=>by omega
 |d+1,p,⟨hc,h5,hch⟩,M+1,hM=>by
  have ih:=fun i hi=>Np hN hw d (p.L.g i) (hch i hi) M (by omega);show ∃t,FC (DL M) M p w=some t/\_;unfold FC;rw[Hi];refine An ?_;refine T1 (fun i x1 x2=>x2=(i:Int)/\x1.n=w.n+1/\(∀a,a<i->∃z:BitVec 64,x1.g a=U z/\∀b,b<64->(z.getLsbD b=true↔b<=w.n/\R0 w p a b))/\∀a,i<=a->x1.g a=0) (w.n+1) _ (by omega)
   ⟨rfl,by show ((w.n+1:Nat):Int).toNat=w.n+1;omega,fun a ha=>Ln ha (by omega),fun _ _=>rfl⟩ ?_
  rintro self i x1 x2 hi ⟨rfl,h1,l,c⟩ hs;have keep:(∀b,b<=w.n->¬R0 w p i b)->(∀a,a<i+1->∃z:BitVec 64,x1.g a=U z/\∀b,b<64->(z.getLsbD b=true↔b<=w.n/\R0 w p a b)):=by
   intro h a ha;by_cases e:a=i
   .subst e;exact⟨0#64,c a (AQ8 _),fun b hb=>by simp;exact h b⟩
   exact l a (by omega)
  have put:∀(z:BitVec 64) (v:Int),v=U z->(∀b,b<64->(z.getLsbD b=true↔b<=w.n/\R0 w p i b)) ->
   (∀a,a<i+1->∃z:BitVec 64,(x1.upd (i:Int).toNat v).g a=U z/\∀b,b<64->(z.getLsbD b=true↔b<=w.n/\R0 w p a b))/\∀a,i+1<=a->(x1.upd (i:Int).toNat v).g a=0:=by
   intro z v hv hz;refine⟨fun a ha=>?_,fun a ha=>?_⟩
   .by_cases e:a=i
    .subst e;exact⟨z,by show (if a=(a:Int).toNat then v else _)=_;rw[Ll (by omega),hv],hz⟩
    obtain⟨z',e1,e2⟩:=l a (by omega);exact⟨z',by show (if a=(i:Int).toNat then v else x1.g a)=_;rw[Lm (by omega)];exact e1,e2⟩
   show (if a=(i:Int).toNat then v else x1.g a)=0;rw[Lm (by omega)];exact c a (by omega)
  by_cases hl:i<=w.n
  .refine Ao ?_;by_cases k0:p.Kind=0
   .refine ifT (by simp[k0]) (An ?_);obtain⟨p1,p2⟩:=put (1#64 <<< i) _ (Tj i (by omega)) (fun b hb=>by rw[GC (by omega) hb,decide_eq_true_eq];simp only[R0,k0,Lo];omega);exact hs (by omega) _ _ ⟨Hi,h1,p1,p2⟩
   refine ifF (by simp[k0]) ?_;by_cases k1:p.Kind=1
   .refine ifT (by simp[k1]) ?_;have e0:∀b,R0 w p i b↔i<w.n/\b=i+1/\(Vb (w.g i) p.Is != p.Not)=true:=fun b=>by simp only[R0,k1];simp
    by_cases hlt:i<w.n
    .refine Ao (An ?_);refine B1 (x:=Vb (w.g i) p.Is) (by rw[AQ4];rfl) ?_;by_cases hb:Vb (w.g i) p.Is=p.Not
     .refine ifF (by simp[hb]) (hs (by omega) _ _ ⟨Hi,h1,keep fun b _=>?_,fun a ha=>c a (by omega)⟩);rw[e0];simp[hb]
     refine ifT (by simp[hb]) ?_;rw[Hi];refine An ?_;obtain⟨p1,p2⟩:=put (1#64 <<< (i+1)) _ (Tj (i+1) (by omega)) (fun b a0=>by
      rw[GC (by omega) a0,decide_eq_true_eq,e0]
      have:(Vb (w.g i) p.Is != p.Not)=true:=by simp[hb]
      simp only[this,and_true];omega)
     exact hs (by omega) _ _ ⟨rfl,h1,p1,p2⟩
    refine Ec (hs (by omega) _ _ ⟨Hi,h1,keep fun b _=>?_,fun a ha=>c a (by omega)⟩);rw[e0];omega
   refine ifF (by simp[k1]) ?_;by_cases k2:p.Kind=2
   .refine ifT (by simp[k2]) ?_;have e0:∀b,R0 w p i b↔i=0/\b=0:=fun b=>by simp only[R0,k2];simp
    by_cases hz:i=0
    .refine Ao (An ?_);obtain⟨p1,p2⟩:=put 1#64 _ AM9 (fun b a0=>by rw[Va,decide_eq_true_eq,e0];omega);exact hs (by omega) _ _ ⟨Hi,h1,p1,p2⟩
    refine Ec (hs (by omega) _ _ ⟨Hi,h1,keep fun b _=>?_,fun a ha=>c a (by omega)⟩);rw[e0];omega
   refine ifF (by simp[k2]) ?_;by_cases k6:p.Kind=6
   .refine ifT (by simp[k6]) ?_;have e0:∀b,R0 w p i b↔i=w.n/\b=w.n:=fun b=>by simp only[R0,k6];simp
    by_cases hz:i=w.n
    .refine Ao (An ?_);obtain⟨p1,p2⟩:=put (1#64 <<< i) _ (Tj i (by omega)) (fun b hb=>by rw[GC (by omega) hb,decide_eq_true_eq,e0];omega);exact hs (by omega) _ _ ⟨Hi,h1,p1,p2⟩
    refine Ec (hs (by omega) _ _ ⟨Hi,h1,keep fun b _=>?_,fun a ha=>c a (by omega)⟩);rw[e0];omega
   refine ifF (by simp[k6]) (hs (by omega) _ _ ⟨Hi,h1,keep fun b _=>?_,fun a ha=>c a (by omega)⟩);simp[R0,k0,k1,k2,k6]
  refine Ec ?_;have t0:TabR w.n (R0 w p) x1.g:=fun a ha=>l a (by omega);by_cases k3:p.Kind=3
  .refine ifT (by simp[k3]) ?_;obtain⟨s,es,a8,a9⟩:=WN (N:=M) hw (by omega);refine B1 es ?_;refine T1 (fun i (x3:Sl Int) x4=>x4=(i:Int)/\x3.n=w.n+1/\TabR w.n (Ye w.n (fun i=>PR w (p.L.g i)) i) x3.g) p.L.n _ (by omega) ⟨rfl,a8,a9.congr fun a b _ _=>AZ7⟩ ?_;rintro a2 j x3 x4 hj ⟨rfl,g1,g2⟩ m;by_cases a3:j<p.L.n
   .obtain⟨t,et,b0,b1⟩:=ih j a3;refine Ao (An (B1 (by rw[AQ4];exact et) ?_));obtain⟨f,ef,o,a4⟩:=PA (N:=M) hw (by omega) g1 b0 g2 b1;exact B1 ef (m a3 _ _ ⟨Hi,o,a4⟩)
   obtain rfl:j=p.L.n:=by omega
   exact Gx ⟨x3,rfl,g1,g2.congr fun a b _ _=>by rw[Lw];simp[k3]⟩
  refine ifF (by simp[k3]) ?_;by_cases k4:p.Kind=4
  .refine ifT (by simp[k4]) ?_;refine T1 (fun i x3 x4=>x4=(i:Int)/\x3.n=w.n+1/\TabR w.n (fun a b=>∃q,q<i/\PR w (p.L.g q) a b) x3.g) p.L.n _ (by omega) ⟨rfl,h1,t0.congr fun a b _ _=>by simp[R0,k4]⟩ ?_;rintro a2 j x3 x4 hj ⟨rfl,g1,g2⟩ m;by_cases a3:j<p.L.n
   .obtain⟨t,et,b0,b1⟩:=ih j a3;refine Ao (An (B1 (by rw[AQ4];exact et) ?_));obtain⟨f,ef,o,a4⟩:=WO (N:=M) hw (by omega) g1 b0 g2 b1;refine B1 ef (m a3 _ _ ⟨Hi,o,a4.congr fun a b _ _=>⟨?_,?_⟩⟩)
    .rintro (⟨q,h1,l⟩ | h)
     .exact⟨q,by omega,l⟩
     exact⟨j,by omega,h⟩
    rintro⟨q,h1,l⟩;by_cases e:q=j
    .subst e;exact .inr l
    exact .inl ⟨q,by omega,l⟩
   obtain rfl:j=p.L.n:=by omega
   exact Gx ⟨x3,rfl,g1,g2.congr fun a b _ _=>by rw[Lw];simp[k4]⟩
  refine ifF (by simp[k4]) ?_;by_cases k5:p.Kind=5
  .obtain⟨hn1,hm0,hm1,hmx⟩:=h5 k5;refine ifT (by simp[k5]) (An ?_);obtain⟨one,eo,ho1,ho2⟩:=ih 0 (by omega);obtain⟨s,es,a8,a9⟩:=WN (N:=M) hw (by omega);refine B1 eo (B1 es ?_);have hF:=Tm w (p.L.g 0);have fin:∀(t:Sl Int) (k:Nat),t.n=w.n+1->TabR w.n (fun a b=>∃j:Nat,p.Min<=j/\j<k/\HH w.n (PR w (p.L.g 0)) j a b) t.g ->
    (∀a b,a<=w.n->b<=w.n->((∃j:Nat,p.Min<=j/\j<k/\HH w.n (PR w (p.L.g 0)) j a b) ↔ ∃j:Nat,p.Min<=j/\(p.Max = -1 \/ (j:Int)<=p.Max)/\HH w.n (PR w (p.L.g 0)) j a b)) ->
    ∃r,some t=some r/\r.n=w.n+1/\TabR w.n (PR w p) r.g:=by
    intro t k e1 e2 e3;exact⟨t,rfl,e1,e2.congr fun a b ha hb=>(e3 a b ha hb).trans (by rw[Lw];simp[k5])⟩
   refine Yi (fun k (x8 x9:Sl Int) b2=>b2=(k:Int)/\x8.n=w.n+1/\x9.n=w.n+1/\TabR w.n (fun a b=>∃j:Nat,p.Min<=j/\j<k/\HH w.n (PR w (p.L.g 0)) j a b) x8.g/\TabR w.n (HH w.n (PR w (p.L.g 0)) k) x9.g/\(p.Max = -1 \/ (k:Int)<=p.Max)) 33 _ (by omega)
    ⟨rfl,h1,a8,t0.congr fun a b _ _=>by simp[R0,k5],a9.congr fun a b _ _=>AZ7,by omega⟩ ?_
   rintro a2 k x8 x9 b2 hk ⟨rfl,g1,g2,g3,g4,g5⟩ m;obtain⟨f,ef,o,a4⟩:=PA (N:=M) hw (by omega) g2 ho1 g4 ho2;have next:TabR w.n (HH w.n (PR w (p.L.g 0)) (k+1)) f.g:=a4
   by_cases u:p.Min<=(k:Int)
   .refine ifT (by simpa using u) ?_;obtain⟨j,ej,a5,hj2⟩:=WO (N:=M) hw (by omega) g1 g2 g3 g4;have a1:TabR w.n (fun a b=>∃j:Nat,p.Min<=j/\j<k+1/\HH w.n (PR w (p.L.g 0)) j a b) j.g:=hj2.congr fun a b _ _=>by
     constructor
     .rintro (⟨q,h1,l,c⟩ | h)
      .exact⟨q,h1,by omega,c⟩
      exact⟨k,u,by omega,h⟩
     rintro⟨q,h1,l,c⟩;by_cases e:q=k
     .subst e;exact .inr c
     exact .inl ⟨q,h1,by omega,c⟩
    refine B1 ej (ltX ?_);by_cases a6:(k:Int)=p.Max
    .refine ifT (by simp[a6]) (ifT rfl (fin j (k+1) a5 a1 fun a b _ _=>⟨?_,?_⟩))
     .rintro⟨q,h1,l,c⟩;exact⟨q,h1,.inr (by omega),c⟩
     rintro⟨q,h1,l,c⟩;exact⟨q,h1,by omega,c⟩
    refine ifF (by simp[a6]) ?_;by_cases b3:p.Min<(k:Int)
    .refine ifT (by simpa using b3) ?_;obtain⟨b,eb,hb⟩:=Aa8 (N:=M) (x:=x8) (y:=j) hw (by omega) g1 a5;refine B1 eb ?_;by_cases a7:b=true
     .refine ifT a7 (fin j (k+1) a5 a1 fun a b ha a0=>⟨?_,?_⟩)
      .rintro⟨q,h1,l,c⟩;exact⟨q,h1,by omega,c⟩
      rintro⟨q,h1,l,c⟩;have heq:=hb.1 a7;obtain⟨q',k1,k2,k3⟩:=Av0 hF (mn:=p.Min.toNat) (k:=k) (by omega) (fun a b ha a0 hp=>by have e1:=a1.bit ha (b:=b) (by omega);have e2:=g3.bit ha (b:=b) (by omega);rw[<- heq a ha]at e1;obtain⟨_,q,k1,k2,k3⟩:=e2.1 (e1.2 ⟨a0,k,u,by omega,hp⟩);exact⟨q,by omega,k2,k3⟩) ha q b (by omega) c
      exact⟨q',by omega,by omega,k3⟩
     refine ifF a7 (B1 ef ?_);have b4:k<33:=by
      refine Nat.lt_of_le_of_ne hk fun e=>a7 (hb.2 fun a ha=>?_);subst e;refine g3.uniq (a1.congr fun a b ha a0=>⟨?_,?_⟩) ha
      .rintro⟨q,h1,l,c⟩;by_cases e:q=33
       .subst e;exact⟨32,by omega,by omega,Tk hF ha hw c⟩
       exact⟨q,h1,by omega,c⟩
      rintro⟨q,h1,l,c⟩;exact⟨q,h1,by omega,c⟩
     exact m b4 _ _ _ ⟨Hi,a5,o,a1,next,by omega⟩
    refine ifF (by simpa using b3) (Gx (B1 ef (m (by omega) _ _ _ ⟨Hi,a5,o,a1,next,by omega⟩)))
   refine ifF (by simpa using u) (B1 ef (m (by omega) _ _ _ ⟨Hi,g1,o,g3.congr fun a b _ _=>⟨?_,?_⟩,next,by omega⟩))
   .rintro⟨q,h1,l,c⟩;omega
   rintro⟨q,h1,l,c⟩;omega
  refine ifF (by simp[k5]) ⟨x1,rfl,h1,t0.congr fun a b _ _=>?_⟩;rw[Lw];simp[R0,k3,k4,k5]
end Go.AM
