/- Part 6. -/
import Derived.Test.YtodhnkfgkgkngaaGreatDoorKE
import Derived.Test.YtodhnkfgkgkngaaGreatDoorKD
set_option linter.defProp false
set_option linter.unusedSimpArgs false
set_option linter.unusedVariables false
set_option linter.unusedSectionVars false
namespace Go.AM
open Go.Proofs.Tryz
def Dq:(3:Nat)<=3:=by decide
def Di:(1:Nat)<=1:=by decide
variable {N:Nat}
open IntKind (wrap)
def XV:=@Nat.not_lt_zero
open Go.Proofs
set_option maxRecDepth 10000
set_option maxHeartbeats 2000000
variable {S:O7}(Z:E7 S Tryz.prog) (Y:GK S)
include Z Y
def MC (rec:B1->Int->Option (Sl Int))(N:Nat)(b:B1)(a:Int):Option (Sl Int):= if (decide (a<0)) then some Gg else if ((0:Int)<=a/\a<(b.Tree.n:Int))then (rec b (b.Tree.g a.toNat).Parent).bind fun y1=>if (((0:Int)<=a/\a<(b.On.n:Int))/\((y1.n+(b.On.g a.toNat).n)*8<=140737488355328/\y1.n+(b.On.g a.toNat).n<=140737488355328))then some (y1.app (b.On.g a.toNat)) else none else none
def PH:Nat->B1->Int->Option (Sl Int)
 |0=>fun _ _=>none
 |N+1=>MC (PH N) N
def CA (N:Nat)(a:Int):Option Bool:= some (((((decide (97<=a))&&(decide (a<=122)))||((decide (65<=a))&&(decide (a<=90))))||((decide (48<=a))&&(decide (a<=57))))||(a==45))
theorem Lf {b:Int}{y:Bool}(h:CA N b=some y) :FunO S FE [.p (pI .u8 b)] [] (pB y) ([]) []:=by unfold CA at h;refine A4 Z func125 ?_;refine kB Z (B2 Z) Bs Bs 23 (.o (.o (.o (.n (.a (decide (97<=b))) (.a (decide (b<=122)))) (.n (.a (decide (65<=b))) (.a (decide (b<=90))))) (.n (.a (decide (48<=b))) (.a (decide (b<=57))))) (.a (b==45))) ?_;cases h;exact kR Z
def DA (N:Nat)(a:Str):Option Bool:= BV N (fun b (x1:Int)=>if (decide (x1<(a.length:Int))) then if ((0:Int)<=x1/\x1<(a.length:Int))then (CA N (Gz a x1)).bind fun y3=>if (!y3) then some false else b (wrap .i64 (x1+1)) else none else some ((decide (0<(a.length:Int)))&&(decide ((a.length:Int)<=24)))) 0
theorem MD {b:Str}{y:Bool}(h:DA N b=some y) :FunO S GG [.p (.str b)] [] (pB y) ([]) []:=by
 unfold DA at h;refine A4 Z func106 ?_;refine Y8 Z Bs h (fun x1=>⟨[(6,pN x1),(5,pN (b.length:Int)),(0,.p (.str b))],[]⟩) (ids:=[]) (fun _ _ _ _ _ c x1 d h=>?_);apply kI Z h<;>intro h
 .obtain⟨c8,h⟩:=H1 h;obtain⟨y3,e3,h⟩:=B6 h;refine B7 Z [] c8 (Lf Z Y e3) ?_;apply kI Z h<;>intro h
  .cases h;exact kR Z
  exact d _ [] _ (wrap .i64 (x1+1)) Bs h
 refine kB Z (B2 Z) Bs Bs 4 (.n (.a (decide (0<(b.length:Int)))) (.a (decide ((b.length:Int)<=24)))) ?_;cases h;exact kR Z
def Bl (N:Nat)(a:Sl C8):Option Int:= if (((a.n:Int)==0)||(decide (63<(a.n:Int)))) then some 16 else Eg N (fun b (x2:List (Str×Bool)) (x3:Int)=>if (decide (x3<(a.n:Int))) then if ((0:Int)<=x3/\x3<(a.n:Int))then lt (fun (z3:Bool)=>if z3 then some 16 else b (Rg eqS (a.g x3.toNat).Name true x2) (wrap .i64 (x3+1))) fun k3=>if (decide (x3<=(a.g x3.toNat).Parent)) then k3 true else if (decide ((a.g x3.toNat).Parent<(if 0<(wrap .i64 (x3-1))then 0 else (wrap .i64 (x3-1))))) then k3 true else (DA N (a.g x3.toNat).Name).bind fun y6=>if (!y6) then k3 true else VR (LY eqS (a.g x3.toNat).Name x2) (k3 false) fun v6=>k3 v6 else none else some 0) [] 0
theorem GM {c:Sl C8}{y:Int}(h:Bl N c=some y) :FunO S GD [.p (vSl 2 A9 c)] [] (pN y) ([]) []:=by
 unfold Bl at h;refine A4 Z func78 ?_;refine kB Z (B2 Z) Bs Bs 4 (.o (.a ((c.n:Int)==0)) (.a (decide (63<(c.n:Int))))) ?_;apply kI Z h<;>intro h
 .cases h;exact kR Z
 refine N4 Z Bs h (fun x2 x3=>⟨[(17,pN x3),(16,pN (c.n:Int)),(15,.p (vSl 2 A9 c)),(3,.mref 15000)],[(15000,.map (Ll PV.str PV.bb x2))]⟩) (ids:=[(15000,15000)]) (fun _ _ _ _ _ f x2 x3 i h=>?_);apply kI Z h<;>intro h
 .obtain⟨c25,h⟩:=H1 h;refine Lm Z (And.intro c25 Dn) (B2 Z) h 0 (fun z3=>⟨[(45,pB z3),(17,pN x3),(16,pN (c.n:Int)),(15,.p (vSl 2 A9 c)),(5,.reg 6000 0),(3,.mref 15000)],[(15000,.map (Ll PV.str PV.bb x2)),(6000,.cells [pN (c.g x3.toNat).Parent,.p (.str (c.g x3.toNat).Name)])]⟩) (fun M3 k3 d h=>?_) (fun z3 h=>?_)
  .refine kG Z h (fun h=>?_) (fun h=>?_)
   .exact d _ [(6000,6000),(15000,15000)] _ true Bs h
   refine kG Z h (fun h=>?_) (fun h=>?_)
   .exact d _ [(6000,6000),(15000,15000)] _ true Bs h
   refine kC Z h (MD Z Y) (fun y6 h=>?_);refine kG Z h (fun h=>?_) (fun h=>?_)
   .exact d _ [(6000,6000),(15000,15000)] _ true Bs h
   rcases o6:LY eqS (c.g x3.toNat).Name x2 with _|v6
   .replace h:=optN o6 h;refine Hd Z Bs (kt:=Cr) (e:=Tg) (key:=PV.str (c.g x3.toNat).Name) (es:=Ll PV.str PV.bb x2) (x:=.v (.bool false)) (b:=false) (fd:=none) ((Da (kP:=PV.str) (vP:=PV.bb) (eq:=eqS) (fun _ _=>by kernel_rfl) (c.g x3.toNat).Name x2).trans (by rw[o6];rfl)) Bs ?_;exact d _ [(6000,6000),(15000,15000)] _ false Bs h
   replace h:=optS o6 h;refine Hd Z Bs (kt:=Cr) (e:=Tg) (key:=PV.str (c.g x3.toNat).Name) (es:=Ll PV.str PV.bb x2) (x:=PV.bb v6) (b:=true) (fd:=some (PV.bb v6)) ((Da (kP:=PV.str) (vP:=PV.bb) (eq:=eqS) (fun _ _=>by kernel_rfl) (c.g x3.toNat).Name x2).trans (by rw[o6];rfl)) Bs ?_;exact d _ [(6000,6000),(15000,15000)] _ v6 Bs h
  apply kI Z h<;>intro h
  .cases h;exact kR Z
  refine KB Z Bs (kt:=Cr) (key:=PV.str (c.g x3.toNat).Name) (y:=PV.bb true) (es:=Ll PV.str PV.bb x2) (Hc (kP:=PV.str) (vP:=PV.bb) (eq:=eqS) (fun _ _=>by kernel_rfl) (c.g x3.toNat).Name true x2) Bs ?_;exact i _ [(15000,15000)] _ (Rg eqS (c.g x3.toNat).Name true x2) (wrap .i64 (x3+1)) Bs h
 cases h;exact kR Z
def AW (N:Nat)(a:B1):Option Int:= if ((0:Int)<=(a.On.n:Int)/\(a.On.n:Int)<=(a.On.n:Int)/\(a.On.n:Int)*8<=140737488355328/\(a.On.n:Int)<=140737488355328)then fix3 N (fun c (x4:Sl Int) (x5:Bool) (x6:Int)=>if (decide (x6<(a.On.n:Int))) then if ((((0:Int)<=x6/\x6<(a.On.n:Int))/\((0:Int)<=x6/\x6<(x4.n:Int)))/\x6.toNat<x4.n)then if ((0:Int)<=x6/\x6<(a.Tree.n:Int))then lt (fun (z3:Sl Int)=>if (((0:Int)<=x6/\x6<(z3.n:Int))/\x6.toNat<z3.n)then if (decide (64<(z3.g x6.toNat))) then some 2 else Eg N (fun d (f:Bool) (b:Int)=>if (decide (b<((a.On.g x6.toNat).n:Int))) then if ((0:Int)<=b/\b<((a.On.g x6.toNat).n:Int))then d ((f||(decide (((a.On.g x6.toNat).g b.toNat)<0)))||(decide ((a.Laws.n:Int)<=((a.On.g x6.toNat).g b.toNat)))) (wrap .i64 (b+1)) else none else c z3 f (wrap .i64 (x6+1))) x5 0 else none) fun k3=>if (decide (0<=(a.Tree.g x6.toNat).Parent)) then if (((((((0:Int)<=x6/\x6<((x4.upd x6.toNat ((a.On.g x6.toNat).n:Int)).n:Int))/\x6.toNat<(x4.upd x6.toNat ((a.On.g x6.toNat).n:Int)).n)/\((0:Int)<=(a.Tree.g x6.toNat).Parent/\(a.Tree.g x6.toNat).Parent<((x4.upd x6.toNat ((a.On.g x6.toNat).n:Int)).n:Int)))/\(a.Tree.g x6.toNat).Parent.toNat<(x4.upd x6.toNat ((a.On.g x6.toNat).n:Int)).n)/\((0:Int)<=x6/\x6<((x4.upd x6.toNat ((a.On.g x6.toNat).n:Int)).n:Int)))/\x6.toNat<(x4.upd x6.toNat ((a.On.g x6.toNat).n:Int)).n)then k3 ((x4.upd x6.toNat ((a.On.g x6.toNat).n:Int)).upd x6.toNat (wrap .i64 (((x4.upd x6.toNat ((a.On.g x6.toNat).n:Int)).g x6.toNat)+((x4.upd x6.toNat ((a.On.g x6.toNat).n:Int)).g (a.Tree.g x6.toNat).Parent.toNat)))) else none else k3 (x4.upd x6.toNat ((a.On.g x6.toNat).n:Int)) else none else none else if x5 then some 3 else some 0) (Sl.rep (a.On.n:Int).toNat 0:Sl Int) false 0 else none
theorem ID {d:B1}{y:Int}(h:AW N d=some y) :FunO S Dl [.p (.agg (A5 d))] [] (pN y) ([]) []:=by
 unfold AW at h;refine A4 Z func79 ?_;refine J0 Z Bs 2 2000 (A5 d) ?_;obtain⟨c1,h⟩:=H1 h;refine Tc Z c1 h (fun x4 x5 x6=>⟨[(17,pN x6),(16,pN (d.On.n:Int)),(15,.p (vSl 1 (cL 1 (cI .i64)) d.On)),(4,pB x5),(3,.vec 14000),(1,.p (.ptr (A5 d)))],[(14000,.vec C0 1 x4.n (fun i=>cI .i64 (x4.g i)) false)]⟩) (ids:=[(14000,14000)]) (fun _ _ _ _ _ q x4 x5 x6 r h=>?_);apply kI Z h<;>intro h
 .obtain⟨c35,h⟩:=H1 h;refine J5 Z (And.intro (And.intro c35.1.1 c35.1.2) (And.intro (rfl:(1:Nat)=1) (And.intro c35.2 Di))) 27 ⟨[(17,pN x6),(16,pN (d.On.n:Int)),(15,.p (vSl 1 (cL 1 (cI .i64)) d.On)),(6,.p (vSl 1 (cI .i64) (d.On.g x6.toNat))),(5,pN x6),(4,pB x5),(3,.vec 14000),(1,.p (.ptr (A5 d)))],[(14000,.vec C0 1 (x4.upd x6.toNat ((d.On.g x6.toNat).n:Int)).n (fun i=>cI .i64 ((x4.upd x6.toNat ((d.On.g x6.toNat).n:Int)).g i)) false)]⟩ (ids:=[(14000,14000)]) ?_ (hle:=klR [(7,.fn x4.n (x4.upd x6.toNat ((d.On.g x6.toNat).n:Int)).n (fun l=>if l=x6.toNat then splice ((fun i=>cI .i64 (x4.g i)) l) 0 [pI .i64 ((d.On.g x6.toNat).n:Int)]else (fun i=>cI .i64 (x4.g i)) l) (fun i=>cI .i64 ((x4.upd x6.toNat ((d.On.g x6.toNat).n:Int)).g i)))] (al1 ⟨rfl,Uy (c:=cI .i64) (v:=x4) (x:=((d.On.g x6.toNat).n:Int)) same (fun _=>by first|rfl|(dsimp only;split<;>rfl))⟩ al0));obtain⟨c36,h⟩:=H1 h;refine Lm Z c36 (B2 Z) h 0 (fun z3=>⟨[(17,pN x6),(16,pN (d.On.n:Int)),(15,.p (vSl 1 (cL 1 (cI .i64)) d.On)),(6,.p (vSl 1 (cI .i64) (d.On.g x6.toNat))),(5,pN x6),(4,pB x5),(3,.vec 14000),(1,.p (.ptr (A5 d)))],[(14000,.vec C0 1 z3.n (fun i=>cI .i64 (z3.g i)) false)]⟩) (fun M3 k3 m h=>?_) (fun z3 h=>?_)
  .apply kI Z h<;>intro h
   .refine HO Z Bs ?_;obtain⟨c41,h⟩:=H1 h;refine K0 (And.intro (And.intro (And.intro (And.intro (And.intro c41.1.1.1.1.1 c41.1.1.1.1.2) c41.1.1.1.2) c41.1.1.2) c41.1.2) (And.intro (rfl:(1:Nat)=1) (And.intro c41.2 Di))) ?_;exact m _ [(14000,14000)] _ ((x4.upd x6.toNat ((d.On.g x6.toNat).n:Int)).upd x6.toNat (wrap .i64 (((x4.upd x6.toNat ((d.On.g x6.toNat).n:Int)).g x6.toNat)+((x4.upd x6.toNat ((d.On.g x6.toNat).n:Int)).g (d.Tree.g x6.toNat).Parent.toNat)))) Bs h (hle:=klR [(7,.fn (x4.upd x6.toNat ((d.On.g x6.toNat).n:Int)).n ((x4.upd x6.toNat ((d.On.g x6.toNat).n:Int)).upd x6.toNat (wrap .i64 (((x4.upd x6.toNat ((d.On.g x6.toNat).n:Int)).g x6.toNat)+((x4.upd x6.toNat ((d.On.g x6.toNat).n:Int)).g (d.Tree.g x6.toNat).Parent.toNat)))).n (fun l=>if l=x6.toNat then splice ((fun i=>cI .i64 ((x4.upd x6.toNat ((d.On.g x6.toNat).n:Int)).g i)) l) 0 [pI .i64 (wrap .i64 (((x4.upd x6.toNat ((d.On.g x6.toNat).n:Int)).g x6.toNat)+((x4.upd x6.toNat ((d.On.g x6.toNat).n:Int)).g (d.Tree.g x6.toNat).Parent.toNat)))]else (fun i=>cI .i64 ((x4.upd x6.toNat ((d.On.g x6.toNat).n:Int)).g i)) l) (fun i=>cI .i64 (((x4.upd x6.toNat ((d.On.g x6.toNat).n:Int)).upd x6.toNat (wrap .i64 (((x4.upd x6.toNat ((d.On.g x6.toNat).n:Int)).g x6.toNat)+((x4.upd x6.toNat ((d.On.g x6.toNat).n:Int)).g (d.Tree.g x6.toNat).Parent.toNat)))).g i)))] (al1 ⟨rfl,Uy (c:=cI .i64) (v:=x4.upd x6.toNat ((d.On.g x6.toNat).n:Int)) (x:=wrap .i64 (((x4.upd x6.toNat ((d.On.g x6.toNat).n:Int)).g x6.toNat)+((x4.upd x6.toNat ((d.On.g x6.toNat).n:Int)).g (d.Tree.g x6.toNat).Parent.toNat))) same (fun _=>by first|rfl|(dsimp only;split<;>rfl))⟩ al0))
   exact m _ [(14000,14000)] _ (x4.upd x6.toNat ((d.On.g x6.toNat).n:Int)) Bs h
  obtain⟨c42,h⟩:=H1 h;refine D7 Z c42 (b:=decide (64<(z3.g x6.toNat))) (fun c43=>?_) (fun c43=>?_)
  .replace h:=itT c43 h;cases h;exact kR Z
  replace h:=itF c43 h;refine N4 Z Bs h (fun j f=>⟨[(52,pN f),(51,pN ((d.On.g x6.toNat).n:Int)),(50,.p (vSl 1 (cI .i64) (d.On.g x6.toNat))),(17,pN x6),(16,pN (d.On.n:Int)),(15,.p (vSl 1 (cL 1 (cI .i64)) d.On)),(4,pB j),(3,.vec 14000),(1,.p (.ptr (A5 d)))],[(14000,.vec C0 1 z3.n (fun i=>cI .i64 (z3.g i)) false)]⟩) (ids:=[(14000,14000)]) (fun _ _ _ _ _ s j f t h=>?_);apply kI Z h<;>intro h
  .obtain⟨c49,h⟩:=H1 h;refine kB Z (B2 Z) c49 Bs 10 (.o (.o (.a j) (.a (decide (((d.On.g x6.toNat).g f.toNat)<0)))) (.a (decide ((d.Laws.n:Int)<=((d.On.g x6.toNat).g f.toNat))))) ?_;exact t _ [(14000,14000)] _ ((j||(decide (((d.On.g x6.toNat).g f.toNat)<0)))||(decide ((d.Laws.n:Int)<=((d.On.g x6.toNat).g f.toNat)))) (wrap .i64 (f+1)) Bs h
  exact r _ [(14000,14000)] _ z3 j (wrap .i64 (x6+1)) Bs h
 apply kI Z h<;>intro h
 .cases h;exact kR Z
 cases h;exact kR Z
def D5 (N:Nat)(a:B1):Option Int:= (Bl N a.Tree).bind fun y1=>if (y1 != 0) then some 16 else if (decide (64<(a.Laws.n:Int))) then some 12 else Eg N (fun b (x1:List (Str×Int)) (x2:Int)=>if (decide (x2<(a.Laws.n:Int))) then if ((0:Int)<=x2/\x2<(a.Laws.n:Int))then (AU N (a.Laws.g x2.toNat)).bind fun y4=>if (y4 != 0) then some 17 else VR (LY eqS (a.Laws.g x2.toNat).Name x1) (b (Rg eqS (a.Laws.g x2.toNat).Name (wrap .i64 (0+1)) x1) (wrap .i64 (x2+1))) fun v3=>b (Rg eqS (a.Laws.g x2.toNat).Name (wrap .i64 (v3+1)) x1) (wrap .i64 (x2+1)) else none else if (decide (((Ll PV.str (pI .i64) x1).length:Int)<(a.Laws.n:Int))) then some 6 else if ((a.On.n:Int) != (a.Tree.n:Int)) then some 2 else (AW N a).bind fun y5=>some y5) [] 0
theorem J8 {a:B1}{y:Int}(h:D5 N a=some y) :FunO S Dg [.p (.agg (A5 a))] [] (pN y) ([]) []:=by
 unfold D5 at h;refine A4 Z func30 ?_;refine kC Z h (GM Z Y) (fun y1 h=>?_);apply kI Z h<;>intro h
 .cases h;exact kR Z
 apply kI Z h<;>intro h
 .cases h;exact kR Z
 refine N4 Z Bs h (fun x1 x2=>⟨[(18,pN x2),(17,pN (a.Laws.n:Int)),(16,.p (vSl 18 A8 a.Laws)),(3,.mref 15000),(1,.reg 2000 0)],[(15000,.map (Ll PV.str (pI .i64) x1)),(2000,.cells ((A5 a).map .p))]⟩) (ids:=[(2000,2000),(15000,15000)]) (fun _ _ _ _ _ d x1 x2 c h=>?_);apply kI Z h<;>intro h
 .obtain⟨c10,h⟩:=H1 h;obtain⟨y4,e4,h⟩:=B6 h;refine B7 Z [] (And.intro c10 Fx) (EO Z Y e4) ?_;apply kI Z h<;>intro h
  .cases h;exact kR Z
  rcases o3:LY eqS (a.Laws.g x2.toNat).Name x1 with _|v3
  .replace h:=optN o3 h;refine Hd Z Bs (kt:=Cr) (e:=C0) (key:=PV.str (a.Laws.g x2.toNat).Name) (es:=Ll PV.str (pI .i64) x1) (x:=pI .i64 0) (b:=false) (fd:=none) ((Da (kP:=PV.str) (vP:=pI .i64) (eq:=eqS) (fun _ _=>by kernel_rfl) (a.Laws.g x2.toNat).Name x1).trans (by rw[o3];rfl)) Bs ?_;refine KB Z Bs (kt:=Cr) (key:=PV.str (a.Laws.g x2.toNat).Name) (y:=pI .i64 (wrap .i64 (0+1))) (es:=Ll PV.str (pI .i64) x1) (Hc (kP:=PV.str) (vP:=pI .i64) (eq:=eqS) (fun _ _=>by kernel_rfl) (a.Laws.g x2.toNat).Name (wrap .i64 (0+1)) x1) Bs ?_;exact c _ [(2000,2000),(15000,15000)] _ (Rg eqS (a.Laws.g x2.toNat).Name (wrap .i64 (0+1)) x1) (wrap .i64 (x2+1)) Bs h
  replace h:=optS o3 h;refine Hd Z Bs (kt:=Cr) (e:=C0) (key:=PV.str (a.Laws.g x2.toNat).Name) (es:=Ll PV.str (pI .i64) x1) (x:=pI .i64 v3) (b:=true) (fd:=some (pI .i64 v3)) ((Da (kP:=PV.str) (vP:=pI .i64) (eq:=eqS) (fun _ _=>by kernel_rfl) (a.Laws.g x2.toNat).Name x1).trans (by rw[o3];rfl)) Bs ?_;refine KB Z Bs (kt:=Cr) (key:=PV.str (a.Laws.g x2.toNat).Name) (y:=pI .i64 (wrap .i64 (v3+1))) (es:=Ll PV.str (pI .i64) x1) (Hc (kP:=PV.str) (vP:=pI .i64) (eq:=eqS) (fun _ _=>by kernel_rfl) (a.Laws.g x2.toNat).Name (wrap .i64 (v3+1)) x1) Bs ?_;exact c _ [(2000,2000),(15000,15000)] _ (Rg eqS (a.Laws.g x2.toNat).Name (wrap .i64 (v3+1)) x1) (wrap .i64 (x2+1)) Bs h
 apply kI Z h<;>intro h
 .cases h;exact kR Z
 apply kI Z h<;>intro h
 .cases h;exact kR Z
 refine kC Z h (ID Z Y) (fun y5 h=>?_);cases h;exact kR Z
def T4 (N:Nat)(b:B1)(a:Int):Option Bool:= some ((decide (0<=a))&&(decide (a<(b.Tree.n:Int))))
theorem BF {c:B1}{b:Int}{y:Bool}(h:T4 N c b=some y) :FunO S El [.p (.agg (A5 c)),pN b] [] (pB y) ([]) []:=by unfold T4 at h;refine A4 Z func59 ?_;refine kB Z (B2 Z) Bs Bs 6 (.n (.a (decide (0<=b))) (.a (decide (b<(c.Tree.n:Int))))) ?_;cases h;exact kR Z
def W6 (N:Nat)(q0:Int)(q1:Sl C8):Option (List (Int)):= Eg N (fun a (x1:Int) (x2:Sl Int)=>if (decide (0<=x1)) then if (((x2.n+(Sl.of [x1]:Sl Int).n)*8<=140737488355328/\x2.n+(Sl.of [x1]:Sl Int).n<=140737488355328)/\((0:Int)<=x1/\x1<(q1.n:Int)))then a (q1.g x1.toNat).Parent (x2.push x1) else none else BV N (fun b (x3:Int)=>if (decide (0<=x3)) then if (((0:Int)<=x3/\x3<(x2.n:Int))/\x3.toNat<x2.n)then HQ (x2.g x3.toNat) (b (wrap .i64 (x3-1))) else none else some []) (wrap .i64 ((x2.n:Int)-1))) q0 Gg
theorem DB {q0:Int}{q1:Sl C8}{L:List (Int)}(h:W6 N q0 q1=some L) :EI S W3 [] [.reg 0 0,.reg 1 0] [.cells [pN q0],.cells [.p (vSl 2 A9 q1)]] (L.map (fun (x:Int)=>[pI .i64 x])):=by
 unfold W6 at h;refine Ft Z func90 ?_;refine KD Z Bs h (fun x1 x2 L1=>⟨[(4,.vec 5500),(2,.reg 1 0),(1,.reg 0 0),(0,.yf 2)],[(5500,.vec C0 1 x2.n (fun i=>cI .i64 (x2.g i)) false),(2,.yld (L1.map (fun (x:Int)=>[pI .i64 x])) true),(1,.cells [.p (vSl 2 A9 q1)]),(0,.cells [pN x1])]⟩) (ids:=[(0,0),(1,1),(2,2)]) (fun _ _ _ _ _ f x1 x2 L1 j h=>?_);apply kI Z h<;>intro h
 .obtain⟨c4,h⟩:=H1 h;exact j _ [(0,0),(1,1),(2,2),(5500,17000)] _ (q1.g x1.toNat).Parent (x2.push x1) L1 (And.intro (And.intro Gf c4.1) c4.2) h (hle:=klR [(0,.fn (x2.n+1) (x2.push x1).n (V7 x2.n (fun i=>cI .i64 (x2.g i)) (B8 [pI .i64 0] [(0,cI .i64 x1)])) (fun i=>cI .i64 ((x2.push x1).g i)))] (al1 ⟨rfl,MI (c:=cI .i64) (v:=x2) (x:=x1) (z:=[(pI .i64 0)]) same rfl rfl⟩ al0))
 refine Ge Z Bs h (fun x3 L2=>⟨[(5,pN x3),(4,.vec 5500),(0,.yf 2)],[(5500,.vec C0 1 x2.n (fun i=>cI .i64 (x2.g i)) false),(2,.yld (L2.map (fun (x:Int)=>[pI .i64 x])) true),(1,.cells [.p (vSl 2 A9 q1)]),(0,.cells [pN x1])]⟩) (ids:=[(0,0),(1,1),(2,2),(5500,5500)]) (fun _ _ _ _ _ l x3 L2 m h=>?_);apply kI Z h<;>intro h
 .obtain⟨c14,h⟩:=H1 h;obtain⟨L5,rfl,d⟩:=KC h;replace h:=d;refine Ci Z c14 (ys:=(fun (x:Int)=>[pI .i64 x]) (x2.g x3.toNat)) (rest:=L5.map (fun (x:Int)=>[pI .i64 x])) ?_ ?_
  .refine D7 Z Bs (b:=false) (fun c15=>?_) (fun c15=>?_)
   .exact Bool.noConfusion ((rfl:false=false).symm.trans c15)
   exact m _ [(0,0),(1,1),(2,2),(5500,5500)] _ (wrap .i64 (x3-1)) L5 Bs h
  refine D7 Z Bs (b:=true) (fun c16=>?_) (fun c16=>?_)
  .exact A6 Z Bs (a:=.tup []) (objs:=[(.cells [pN x1]),.cells [.p (vSl 2 A9 q1)],.yld [] false]) ⟨[],[(2,.yld [] false),(1,.cells [.p (vSl 2 A9 q1)]),(0,.cells [pN x1])]⟩ [0,1,2] (ids:=[(0,0),(1,1),(2,2)]) ⟨false,rfl,rfl,_,rfl⟩
  exact Bool.noConfusion (Gf.symm.trans c16)
 obtain rfl:=C6 h;exact A6 Z Bs (a:=.tup []) (objs:=[(.cells [pN x1]),.cells [.p (vSl 2 A9 q1)],.yld [] true]) ⟨[],[(2,.yld [] true),(1,.cells [.p (vSl 2 A9 q1)]),(0,.cells [pN x1])]⟩ [0,1,2] (ids:=[(0,0),(1,1),(2,2)]) ⟨true,rfl,rfl,_,rfl⟩
def AC (N:Nat)(a:Sl C8)(b:Int):Option (Int×(Sl C8)):= some (b,a)
theorem FP {a:Sl C8}{b:Int}{y:Int×(Sl C8)}(h:AC N a b=some y) :FunO S Fy [.p (vSl 2 A9 a),pN b] [] (.clo W3 [] [.reg 0 0,.reg 1 0]) ([.cells [pN y.1],.cells [.p (vSl 2 A9 y.2)]]) []:=by unfold AC at h;refine A4 Z func60 ?_;obtain rfl:=C6 h;exact A6 Z Bs ⟨[(4,.clo W3 [] [.reg 4000 0,.reg 3000 0])],[(4000,.cells [pN b]),(3000,.cells [.p (vSl 2 A9 a)])]⟩ [4000,3000] (ids:=[(3000,3000),(4000,4000)]) ⟨rfl,rfl,rfl⟩
def O1 (N:Nat)(a:B1)(c:Int):Option ((Sl Int)×Int):= (D5 N a).bind fun y1=>if (y1 != 0) then some (Gg,y1) else (T4 N a c).bind fun y2=>if (!y2) then some (Gg,3) else (AC N a.Tree c).bind fun y3=>(W6 N y3.1 y3.2).bind fun L1=>Z8 L1 (fun b (x1:Int) (z1:Sl Int)=>if (((0:Int)<=x1/\x1<(a.On.n:Int))/\((z1.n+(a.On.g x1.toNat).n)*8<=140737488355328/\z1.n+(a.On.g x1.toNat).n<=140737488355328))then b (z1.app (a.On.g x1.toNat)) else none) (fun (z1:Sl Int)=>some (z1,0)) Gg
theorem Y3 {a:B1}{b:Int}{y:(Sl Int)×Int}(h:O1 N a b=some y) :FunO S Ek [.p (.agg (A5 a)),pN b] [] (.tup [.vec 0,pN y.2]) ([.vec C0 1 y.1.n (fun i=>cI .i64 (y.1.g i)) true]) []:=by
 unfold O1 at h;refine A4 Z func33 ?_;refine J0 Z Bs 4 3000 (A5 a) ?_;obtain⟨y1,e1,h⟩:=B6 h;refine B7 Z [] Dq (J8 Z Y e1) ?_;apply kI Z h<;>intro h
 .obtain rfl:=C6 h;exact A6 Z Bs ⟨[(5,pN y1),(4,.vec 5700)],[(5700,.vec C0 1 Gg.n (fun i=>cI .i64 (Gg.g i)) true)]⟩ [5700] (ids:=[]) ⟨rfl,rfl,rfl⟩
 obtain⟨y2,e2,h⟩:=B6 h;refine B7 Z [] Dq (BF Z Y e2) ?_;apply kI Z h<;>intro h
 .obtain rfl:=C6 h;exact A6 Z Bs ⟨[(5,pN 3),(4,.vec 5700)],[(5700,.vec C0 1 Gg.n (fun i=>cI .i64 (Gg.g i)) true)]⟩ [5700] (ids:=[]) ⟨rfl,rfl,rfl⟩
 refine kC Z h (FP Z Y) (fun y3 h=>?_);obtain⟨L1,e4,h⟩:=B6 h;refine EL Z Bs [22000,22001] [7,2] 901 (fun z1=>⟨[(7,.reg 8000 0),(2,.p (.ptr (A5 a)))],[(8500,.vec C0 1 z1.n (fun i=>cI .i64 (z1.g i)) false),(8000,.cells [.vec 8500])]⟩) (idl:=[(8000,8000)]) h (DB Z Y e4) (fun _=>by kernel_rfl) (fun _=>by kernel_rfl) (fun _=>by kernel_rfl) (fun _=>by kernel_rfl) (fun x1 _ d z1 f h=>?_) (fun z1 h=>?_)
 .refine HS Z Bs ?_;refine I8 Z Bs [2,4,5] ?_;obtain⟨c5,h⟩:=H1 h;refine K0 c5 ?_;exact f _ [(901,901),(8000,8000),(8500,30000)] _ (z1.app (a.On.g x1.toNat)) Bs h (hle:=klR [(0,.fn (z1.n+(a.On.g x1.toNat).n) (z1.app (a.On.g x1.toNat)).n (V7 z1.n (fun i=>cI .i64 (z1.g i)) (fun i=>cI .i64 ((a.On.g x1.toNat).g i))) (fun i=>cI .i64 ((z1.app (a.On.g x1.toNat)).g i)))] (al1 ⟨rfl,appL (c:=cI .i64) (v:=z1) (w:=a.On.g x1.toNat) same rfl same rfl⟩ al0))
 obtain rfl:=C6 h;exact A6 Z Bs ⟨[(5,pN 0),(4,.vec 8500)],[(8500,.vec C0 1 z1.n (fun i=>cI .i64 (z1.g i)) true)]⟩ [8500] (ids:=[(8500,8500)]) ⟨rfl,rfl,rfl⟩
def U2 (rec:Pat->Option Pat)(N:Nat)(a:Pat):Option Pat:= Eg N (fun b (x1:Sl Pat) (x2:Int)=>if (decide (x2<(a.L.n:Int))) then if ((0:Int)<=x2/\x2<(a.L.n:Int))then (rec (a.L.g x2.toNat)).bind fun y3=>if ((x1.n+(Sl.of [y3]:Sl Pat).n)*64<=140737488355328/\x1.n+(Sl.of [y3]:Sl Pat).n<=140737488355328)then b (x1.push y3) (wrap .i64 (x2+1)) else none else none else some (Pat.mk a.Kind a.Is a.Not a.Min a.Max x1.n x1.g)) (Sl.nil:Sl Pat) 0
def R5:Nat->Pat->Option Pat
 |0=>fun _=>none
 |N+1=>U2 (R5 N) N
theorem FQ {rec:Pat->Option Pat}(b:∀{a:Pat}{y:Pat},rec a=some y->FunO S Q7 [.p (.agg (C7 a))] [] (.p (.agg (C7 y))) ([]) []){a:Pat}{y:Pat}(h:U2 rec N a=some y) :FunO S Q7 [.p (.agg (C7 a))] [] (.p (.agg (C7 y))) ([]) []:=by
 unfold U2 at h;refine A4 Z func96 ?_;refine J5 Z Bs 8 ⟨[(7,.p (vSl 7 C7 a.L)),(3,.p E3),(2,.reg 3000 0),(1,.reg 2000 0)],[(3000,.cells [pN 0,pU 0,pU 0,.p (.v (.bool false)),pN 0,pN 0,.p E3]),(2000,.cells ((C7 a).map .p))]⟩ (ids:=[(2000,2000),(3000,3000)]) ?_ (hle:=klR [(0,.fn a.L.n a.L.n (Dd a) (fun i=>C7 (a.L.g i)))] (al1 ⟨rfl,Cl a⟩ al0));refine N4 Z Bs h (fun x1 x2=>⟨[(9,pN x2),(8,pN (a.L.n:Int)),(7,.p (vSl 7 C7 a.L)),(3,.vec 4500),(2,.reg 3000 0),(1,.reg 2000 0)],[(4500,.vec Ds 7 x1.n (fun i=>C7 (x1.g i)) false),(3000,.cells [pN 0,pU 0,pU 0,.p (.v (.bool false)),pN 0,pN 0,.p E3]),(2000,.cells ((C7 a).map .p))]⟩) (ids:=[(2000,2000),(3000,3000)]) (fun _ _ _ _ _ d x1 x2 f h=>?_);apply kI Z h<;>intro h
 .obtain⟨c6,h⟩:=H1 h;obtain⟨y3,e3,h⟩:=B6 h;refine B7 Z [] (And.intro c6 Ea) (b e3) ?_;obtain⟨c7,h⟩:=H1 h;exact f _ [(2000,2000),(3000,3000),(4500,18000)] _ (x1.push y3) (wrap .i64 (x2+1)) (And.intro Gf c7) h (hle:=klR [(3,.fn (x1.n+1) (x1.push y3).n (V7 x1.n (fun i=>C7 (x1.g i)) (B8 [pI .i64 0,pI .u32 0,pI .u32 0,.v (.bool false),pI .i64 0,pI .i64 0,E3] [(0,C7 y3)])) (fun i=>C7 ((x1.push y3).g i)))] (al1 ⟨rfl,MI (c:=C7) (v:=x1) (x:=y3) (z:=[(pI .i64 0),pI .u32 0,pI .u32 0,.v (.bool false),pI .i64 0,pI .i64 0,E3]) same rfl rfl⟩ al0))
 obtain rfl:=C6 h;exact A6 Z Bs ⟨[(2,.reg 3000 0)],[(3000,.cells [pN a.Kind,pU a.Is.Plus,pU a.Is.Minus,pB a.Not,pN a.Min,pN a.Max,.p (.sl false 7 x1.n (Dd (Pat.mk a.Kind a.Is a.Not a.Min a.Max x1.n x1.g)))])]⟩ [] (ids:=[(3000,3000)]) ⟨rfl,rfl,rfl⟩
theorem BY {a:Pat}{y:Pat}(h:R5 N a=some y) :FunO S Q7 [.p (.agg (C7 a))] [] (.p (.agg (C7 y))) ([]) []:=by
 induction N generalizing a y with
 |zero=>cases (show (none:Option Pat)=some y from h)
 |succ N ih=>exact FQ Z Y (fun e=>ih e) h
def T8 (N:Nat)(a:Law):Option Law:= (R5 N a.Left).bind fun y1=>(R5 N a.Right).bind fun y2=>(A7 N a.If).bind fun y3=>(G4 N a.Out).bind fun y4=>some (⟨a.Name,y1,y2,y3,y4,a.Mode⟩:Law)
theorem CS {a:Law}{y:Law}(h:T8 N a=some y) :FunO S CM [.p (.agg (A8 a))] [] (.p (.agg (A8 y))) ([]) []:=by unfold T8 at h;refine A4 Z func73 ?_;refine I8 Z Bs [2,5] ?_;obtain⟨y1,e1,h⟩:=B6 h;refine Y9 Bs (BY Z Y e1) ?_;obtain⟨y2,e2,h⟩:=B6 h;refine Y9 Bs (BY Z Y e2) ?_;refine K0 Bs ?_;refine I8 Z Bs [2,5] ?_;obtain⟨y3,e3,h⟩:=B6 h;refine Y9 Bs (R0 Z Y e3) ?_;obtain⟨y4,e4,h⟩:=B6 h;refine Y9 Bs (V5 Z Y e4) ?_;refine K0 Bs ?_;cases h;exact kR Z
def Y4 (N:Nat)(c:B1)(a:Sl Int):Option (Sl Law):= Eg N (fun b (x1:Sl Law) (x2:Int)=>if (decide (x2<(a.n:Int))) then if (((0:Int)<=x2/\x2<(a.n:Int))/\((0:Int)<=(a.g x2.toNat)/\(a.g x2.toNat)<(c.Laws.n:Int)))then (T8 N (c.Laws.g (a.g x2.toNat).toNat)).bind fun y3=>if ((x1.n+(Sl.of [y3]:Sl Law).n)*200<=140737488355328/\x1.n+(Sl.of [y3]:Sl Law).n<=140737488355328)then b (x1.push y3) (wrap .i64 (x2+1)) else none else none else some x1) (Sl.nil:Sl Law) 0
theorem Ew {b:B1}{a:Sl Int}{y:Sl Law}(h:Y4 N b a=some y) :FunO S Em [.p (.agg (A5 b)),.p (vSl 1 (cI .i64) a)] [] (.p (vSl 18 A8 y)) ([]) []:=by
 unfold Y4 at h;refine A4 Z func61 ?_;refine N4 Z Bs h (fun x1 x2=>⟨[(10,pN x2),(9,pN (a.n:Int)),(8,.p (vSl 1 (cI .i64) a)),(5,.vec 6500),(2,.reg 3000 0)],[(6500,.vec K6 18 x1.n (fun i=>A8 (x1.g i)) false),(3000,.cells ((A5 b).map .p))]⟩) (ids:=[(3000,3000)]) (fun _ _ _ _ _ d x1 x2 f h=>?_);apply kI Z h<;>intro h
 .obtain⟨c6,h⟩:=H1 h;obtain⟨y3,e3,h⟩:=B6 h;refine B7 Z [] (And.intro (And.intro c6.1 c6.2) Fx) (CS Z Y e3) ?_;obtain⟨c7,h⟩:=H1 h;exact f _ [(3000,3000),(6500,23000)] _ (x1.push y3) (wrap .i64 (x2+1)) (And.intro Gf c7) h (hle:=klR [(3,.fn (x1.n+1) (x1.push y3).n (V7 x1.n (fun i=>A8 (x1.g i)) (B8 [.str [],pI .i64 0,pI .u32 0,pI .u32 0,.v (.bool false),pI .i64 0,pI .i64 0,E3,pI .i64 0,pI .u32 0,pI .u32 0,.v (.bool false),pI .i64 0,pI .i64 0,E3,E3,E3,pI .i64 0] [(0,A8 y3)])) (fun i=>A8 ((x1.push y3).g i)))] (al1 ⟨rfl,MI (c:=A8) (v:=x1) (x:=y3) (z:=[(.str []),pI .i64 0,pI .u32 0,pI .u32 0,.v (.bool false),pI .i64 0,pI .i64 0,E3,pI .i64 0,pI .u32 0,pI .u32 0,.v (.bool false),pI .i64 0,pI .i64 0,E3,E3,E3,pI .i64 0]) same rfl rfl⟩ al0))
 obtain rfl:=C6 h;exact A6 Z Bs ⟨[(4,.p (vSl 18 A8 x1))],[]⟩ [] (ids:=[]) ⟨rfl,rfl,rfl⟩
def W7 (N:Nat)(a:B1)(b:Sl A1):Option Int:= (D5 N a).bind fun y1=>if (y1 != 0) then some y1 else (K8 N b).bind fun y2=>some y2
theorem DC {a:B1}{b:Sl A1}{y:Int}(h:W7 N a b=some y) :FunO S Dk [.p (.agg (A5 a)),.p (vSl 2 A0 b)] [] (pN y) ([]) []:=by
 unfold W7 at h;refine A4 Z func58 ?_;refine kC Z h (J8 Z Y) (fun y1 h=>?_);apply kI Z h<;>intro h
 .cases h;exact kR Z
 refine kC Z h (Bh Z Y) (fun y2 h=>?_);cases h;exact kR Z
def N5 (N:Nat)(a:B1)(c:Sl A1)(d:Int):Option ((Sl A1)×Int):= (W7 N a c).bind fun y1=>if (y1 != 0) then some ((Sl.nil:Sl A1),y1) else (T4 N a d).bind fun y2=>if (!y2) then some ((Sl.nil:Sl A1),3) else (AC N a.Tree d).bind fun y3=>(W6 N y3.1 y3.2).bind fun L1=>Z8 L1 (fun b (x1:Int) (z1:Sl A1)=>if ((0:Int)<=x1/\x1<(a.On.n:Int))then (Y4 N a (a.On.g x1.toNat)).bind fun y8=>(W5 N y8 z1).bind fun y9=>if (y9.2 != 0) then some ((Sl.nil:Sl A1),y9.2) else b y9.1 else none) (fun (z1:Sl A1)=>some (z1,0)) c
theorem V4 {a:B1}{b:Sl A1}{c:Int}{y:(Sl A1)×Int}(h:N5 N a b c=some y) :FunO S GA [.p (.agg (A5 a)),.p (vSl 2 A0 b),pN c] [] (.tup [.p (vSl 2 A0 y.1),pN y.2]) ([]) []:=by
 unfold N5 at h;refine A4 Z func14 ?_;refine J0 Z Bs 4 4000 (A5 a) ?_;obtain⟨y1,e1,h⟩:=B6 h;refine B7 Z [] Dq (DC Z Y e1) ?_;apply kI Z h<;>intro h
 .obtain rfl:=C6 h;exact A6 Z Bs ⟨[(7,.reg 8000 0),(6,.reg 7000 0)],[(8000,.cells [pN y1]),(7000,.cells [.p (vSl 2 A0 (Sl.nil:Sl A1))])]⟩ [] (ids:=[(7000,7000),(8000,8000)]) ⟨rfl,rfl,rfl⟩
 obtain⟨y2,e2,h⟩:=B6 h;refine B7 Z [] Dq (BF Z Y e2) ?_;apply kI Z h<;>intro h
 .obtain rfl:=C6 h;exact A6 Z Bs ⟨[(7,.reg 8000 0),(6,.reg 7000 0)],[(8000,.cells [pN 3]),(7000,.cells [.p (vSl 2 A0 (Sl.nil:Sl A1))])]⟩ [] (ids:=[(7000,7000),(8000,8000)]) ⟨rfl,rfl,rfl⟩
 refine kC Z h (FP Z Y) (fun y3 h=>?_);obtain⟨L1,e4,h⟩:=B6 h;refine EL Z Bs [25000,25001] [7,6,4,3] 901 (fun z1=>⟨[(7,.reg 8000 0),(6,.reg 7000 0),(4,.reg 5000 0),(3,.p (.ptr (A5 a)))],[(8000,.cells [pN 0]),(7000,.cells [.p E3]),(5000,.cells [.p (vSl 2 A0 z1)])]⟩) (idl:=[(5000,5000),(7000,7000),(8000,8000)]) h (DB Z Y e4) (fun _=>by kernel_rfl) (fun _=>by kernel_rfl) (fun _=>by kernel_rfl) (fun _=>by kernel_rfl) (fun x1 _ d z1 f h=>?_) (fun z1 h=>?_)
 .refine HS Z Bs ?_;refine I8 Z Bs [0,2,4,5,6,8] ?_;obtain⟨c7,h⟩:=H1 h;obtain⟨y8,e9,h⟩:=B6 h;refine Y9 (And.intro Dq c7) (Ew Z Y e9) ?_;obtain⟨y9,e10,h⟩:=B6 h;refine Y9 Bs (Dz Z Y e10) ?_;refine K0 Bs ?_;apply kI Z h<;>intro h
  .refine He Z Bs ⟨[(7,.reg 8000 0),(6,.reg 7000 0),(4,.reg 5000 0),(3,.p (.ptr (A5 a)))],[(8000,.cells [pN y9.2]),(7000,.cells [.p E3]),(5000,.cells [.p (vSl 2 A0 y9.1)])]⟩ (ids:=[(901,901),(5000,5000),(7000,7000),(8000,8000)]) ?_;obtain rfl:=C6 h;exact A6 Z Bs ⟨[(7,.reg 8000 0),(6,.reg 7000 0)],[(8000,.cells [pN y9.2]),(7000,.cells [.p (vSl 2 A0 (Sl.nil:Sl A1))])]⟩ [] (ids:=[(7000,7000),(8000,8000)]) ⟨rfl,rfl,rfl⟩
  exact f _ [(901,901),(5000,5000),(7000,7000),(8000,8000)] _ y9.1 Bs h
 cases h;exact kR Z
end Go.AM
namespace Go.AM
open IntKind (wrap)
open Go.Proofs
set_option maxRecDepth 10000
set_option maxHeartbeats 2000000
variable {S:O7}(Z:E7 S Tryz.prog) (Y:GK S)
abbrev DE {T:Type}(e:TypeId)(k:Nat)(c:T->List PV)(x:Sl T):Obj:=.vec e k x.n (fun q=>c (x.g q)) false
theorem obPut {T:Type}{e:TypeId}{k n i:Nat}{c:T->List PV}{X:Sl (Sl T)}{z:Sl T}:∀q,q<n->(fun q=>if q=i then DE e k c z else if q=i then Obj.dead else DE e k c (X.g q)) q=(fun q=>DE e k c ((X.upd i z).g q)) q:=fun q _=>by by_cases h:q=i<;>simp[h]
include Z Y
def AX (N:Nat)(a:Sl C8):Option (Sl (Sl Int)):= if ((0:Int)<=(a.n:Int)/\(a.n:Int)<=(a.n:Int)/\(a.n:Int)*24<=140737488355328/\(a.n:Int)<=140737488355328)then Eg N (fun b (x:Int) (X:Sl (Sl Int))=>if (decide (x<(a.n:Int))) then if ((0:Int)<=x/\x<(a.n:Int))then if (a.g x.toNat).Parent.toNat<X.n then lt (fun (z:Sl Int)=>b (wrap .i64 (x+1)) (X.upd (a.g x.toNat).Parent.toNat z)) fun k=>if (decide (0<x)) then if (((0:Int)<=(a.g x.toNat).Parent/\(a.g x.toNat).Parent<(X.n:Int))/\(((X.g (a.g x.toNat).Parent.toNat).n+1)*8<=140737488355328/\(X.g (a.g x.toNat).Parent.toNat).n+1<=140737488355328))then k ((X.g (a.g x.toNat).Parent.toNat).push x) else none else k (X.g (a.g x.toNat).Parent.toNat) else none else none else some X) 0 ⟨a.n,fun _=>Sl.nil⟩ else none
theorem IE {N:Nat}{b:Sl C8}{y:Sl (Sl Int)}(h:AX N b=some y) :FunO S Dm [.p (vSl 2 A9 b)] [] (.p (vSl 1 (cL 1 (cI .i64)) y)) [] []:=by
 unfold AX at h;refine A4 Z Tryz.func107 ?_;obtain⟨c1,h⟩:=H1 h;refine Fu Z c1 9 (.fam 9000 9901 fun i=>DE C0 1 (cI .i64) ((⟨b.n,fun _=>Sl.nil⟩:Sl (Sl Int)).g i)) (⟨by decide,fun i _=>rfl⟩:1000<=9901/\∀i,i<b.n->NT [E3] (DE C0 1 (cI .i64) ((⟨b.n,fun _=>Sl.nil⟩:Sl (Sl Int)).g i))) ?_;refine N4 Z Bs h (fun x X=>⟨[(11,pN x),(10,pN (b.n:Int)),(9,.p (vSl 2 A9 b)),(3,.vec 9000)],[(9901,.rows X.n fun i=>DE C0 1 (cI .i64) (X.g i)),(9000,.fam T7 X.n 9901 none)]⟩) (ids:=[(9901,9901),(9000,9000)]) (fun _ _ _ _ _ j x X f h=>?_);apply kI Z h<;>intro h
 .obtain⟨c2,h⟩:=H1 h;obtain⟨c3,h⟩:=H1 h;refine Fu Z (And.intro c2 Dn) 17 (.take 9000 (b.g x.toNat).Parent.toNat 9801) (⟨⟨by decide,rfl⟩,c3⟩:(1000<=9801/\X.n=X.n)/\(b.g x.toNat).Parent.toNat<X.n) ?_;refine Lm Z Bs (B2 Z) h 0 (fun z=>⟨[(11,pN x),(10,pN (b.n:Int)),(9,.p (vSl 2 A9 b)),(3,.vec 9000)],
   [(9901,(.rows X.n fun l=>if l=(b.g x.toNat).Parent.toNat then .dead else DE C0 1 (cI .i64) (X.g l))),(9801,DE C0 1 (cI .i64) z),(9000,.fam T7 X.n 9901 (some ((b.g x.toNat).Parent.toNat,.vec 9801)))]⟩) (fun M k d h=>?_) (fun z h=>?_)
  .apply kI Z h<;>intro h
   .obtain⟨c4,h⟩:=H1 h;refine G8 Z Bs [(0,.n),(1,.n),(2,.l [6000]),(3,.n),(4,.n),(5,.l [6000]),(6,.l [9000]),(7,.l [9000]),(8,.n),(10,.a [29000,9801]),(11,.l [9000]),(12,.a [9000])] ?_;refine Bq (And.intro c4.1 (And.intro c3 (rfl:(b.g x.toNat).Parent.toNat=(b.g x.toNat).Parent.toNat))) (x:=.sl true 1 1 (B8 [pI .i64 0] [(0,cI .i64 x)])) ?_;refine K0 (And.intro (And.intro c4.2 c4.1) (And.intro c3 (rfl:(b.g x.toNat).Parent.toNat=(b.g x.toNat).Parent.toNat))) ?_;exact d _ [(9901,9901),(9801,29000),(9000,9000)] _ ((X.g (b.g x.toNat).Parent.toNat).push x) Bs h (hle:=klR [(5,.fn ((X.g (b.g x.toNat).Parent.toNat).n+1) ((X.g (b.g x.toNat).Parent.toNat).push x).n (V7 (X.g (b.g x.toNat).Parent.toNat).n (fun i=>cI .i64 ((X.g (b.g x.toNat).Parent.toNat).g i)) (B8 [pI .i64 0] [(0,cI .i64 x)])) (fun i=>cI .i64 (((X.g (b.g x.toNat).Parent.toNat).push x).g i)))] (al1 ⟨rfl,MI (c:=cI .i64) (v:=X.g (b.g x.toNat).Parent.toNat) (x:=x) (z:=[(pI .i64 0)]) same rfl rfl⟩ al0))
   exact d _ [(9901,9901),(9801,9801),(9000,9000)] _ (X.g (b.g x.toNat).Parent.toNat) Bs h
  refine Fu Z Bs 30 (.put 9000 9902) (⟨⟨by decide,rfl⟩,c3⟩:(1000<=9902/\X.n=X.n)/\(b.g x.toNat).Parent.toNat<X.n) ?_;exact f _ [(9901,9902),(9000,9000)] _ (wrap .i64 (x+1)) (X.upd (b.g x.toNat).Parent.toNat z) Bs h (hle:=klR [(4,.ob X.n (fun q=>if q=(b.g x.toNat).Parent.toNat then DE C0 1 (cI .i64) z else if q=(b.g x.toNat).Parent.toNat then .dead else DE C0 1 (cI .i64) (X.g q)) fun i=>DE C0 1 (cI .i64) ((X.upd (b.g x.toNat).Parent.toNat z).g i))] (al1 obPut al0))
 refine Fu Z Bs 31 (.pub 9000) (⟨rfl,fun i _=>rfl⟩:X.n=X.n/\∀i,i<X.n->(Lk (DE C0 1 (cI .i64) (X.g i))).isSome=true) ?_;obtain rfl:=C6 h;exact A6 Z Bs ⟨[(2,.p (vSl 1 (cL 1 (cI .i64)) X))],[]⟩ [] (ids:=[]) ⟨rfl,rfl,rfl⟩ (hle:=klR [(0,.fn X.n X.n (fun i=>[(Lk (DE C0 1 (cI .i64) (X.g i))).getD default]) (fun i=>cL 1 (cI .i64) (X.g i)))] (al1 ⟨rfl,fun _ _=>rfl⟩ al0))
end Go.AM
namespace Go.AM
open IntKind (wrap)
open Go.Proofs
set_option maxRecDepth 10000
set_option maxHeartbeats 2000000
variable {S:O7}(Z:E7 S Tryz.prog) (Y:GK S)
include Z Y
def CB (N:Nat)(b:Sl C8):Option (Sl Int):= (AX N b).bind fun y1=>Eg N (fun a (x1:Sl Int) (x2:Int)=>if (decide (x2<(y1.n:Int))) then if ((0:Int)<=x2/\x2<(y1.n:Int))then if (((y1.g x2.toNat).n:Int)==0) then if ((x1.n+(Sl.of [x2]:Sl Int).n)*8<=140737488355328/\x1.n+(Sl.of [x2]:Sl Int).n<=140737488355328)then a (x1.push x2) (wrap .i64 (x2+1)) else none else a x1 (wrap .i64 (x2+1)) else none else some x1) Gg 0
theorem Lg {N:Nat}{a:Sl C8}{y:Sl Int}(h:CB N a=some y) :FunO S FA [.p (vSl 2 A9 a)] [] (.vec 0) ([.vec C0 1 y.n (fun i=>cI .i64 (y.g i)) true]) []:=by
 unfold CB at h;refine A4 Z Tryz.func80 ?_;refine kC Z h (IE Z Y) (fun y1 h=>?_);refine N4 Z Bs h (fun x1 x2=>⟨[(9,pN x2),(8,pN (y1.n:Int)),(7,.p (vSl 1 (cL 1 (cI .i64)) y1)),(3,.vec 4500)],[(4500,.vec C0 1 x1.n (fun i=>cI .i64 (x1.g i)) false)]⟩) (ids:=[]) (fun _ _ _ _ _ f x1 x2 d h=>?_);apply kI Z h<;>intro h
 .obtain⟨c8,h⟩:=H1 h;refine D7 Z c8 (b:=((y1.g x2.toNat).n:Int)==0) (fun c9=>?_) (fun c9=>?_)
  .replace h:=itT c9 h;obtain⟨c10,h⟩:=H1 h;exact d _ [(4500,21000)] _ (x1.push x2) (wrap .i64 (x2+1)) (And.intro Gf c10) h (hle:=klR [(3,.fn (x1.n+1) (x1.push x2).n (V7 x1.n (fun i=>cI .i64 (x1.g i)) (B8 [pI .i64 0] [(0,cI .i64 x2)])) (fun i=>cI .i64 ((x1.push x2).g i)))] (al1 ⟨rfl,MI (c:=cI .i64) (v:=x1) (x:=x2) (z:=[(pI .i64 0)]) same rfl rfl⟩ al0))
  replace h:=itF c9 h;exact d _ [(4500,4500)] _ x1 (wrap .i64 (x2+1)) Bs h
 obtain rfl:=C6 h;exact A6 Z Bs ⟨[(2,.vec 4500)],[(4500,.vec C0 1 x1.n (fun i=>cI .i64 (x1.g i)) true)]⟩ [4500] (ids:=[(4500,4500)]) ⟨rfl,rfl,rfl⟩
def G5 (N:Nat)(a:Sl C8):Option ((Sl Int)×Int):= (Bl N a).bind fun y1=>if (y1 != 0) then some (Gg,y1) else (CB N a).bind fun y2=>some (y2,0)
theorem CC {N:Nat}{a:Sl C8}{y:(Sl Int)×Int}(h:G5 N a=some y) :FunO S Fw [.p (vSl 2 A9 a)] [] (.tup [.vec 0,pN y.2]) ([.vec C0 1 y.1.n (fun i=>cI .i64 (y.1.g i)) true]) []:=by
 unfold G5 at h;refine A4 Z Tryz.func31 ?_;refine kC Z h (GM Z Y) (fun y1 h=>?_);apply kI Z h<;>intro h
 .obtain rfl:=C6 h;exact A6 Z Bs ⟨[(3,pN y1),(2,.vec 3700)],[(3700,.vec C0 1 Gg.n (fun i=>cI .i64 (Gg.g i)) true)]⟩ [3700] (ids:=[]) ⟨rfl,rfl,rfl⟩
 refine kC Z h (Lg Z Y) (fun y2 h=>?_);obtain rfl:=C6 h;exact A6 Z Bs ⟨[(3,pN 0),(2,.vec 12000)],[(12000,.vec C0 1 y2.n (fun i=>cI .i64 (y2.g i)) true)]⟩ [12000] (ids:=[(12000,12000)]) ⟨rfl,rfl,rfl⟩
end Go.AM
namespace Go.AM
open Go.Proofs.Tryz
variable {N:Nat}
open IntKind (wrap)
open Go.Proofs
set_option maxRecDepth 10000
set_option maxHeartbeats 2000000
variable {S:O7}(Z:E7 S Tryz.prog) (Y:GK S)
include Z Y
def X7 (N:Nat)(a:Sl Int)(b:Sl Int):Option Bool:= if ((a.n:Int) != (b.n:Int)) then some false else BV N (fun c (x1:Int)=>if (decide (x1<(a.n:Int))) then if (((0:Int)<=x1/\x1<(a.n:Int))/\((0:Int)<=x1/\x1<(b.n:Int)))then if ((a.g x1.toNat) != (b.g x1.toNat)) then some false else c (wrap .i64 (x1+1)) else none else some true) 0
theorem CD {a:Sl Int}{b:Sl Int}{y:Bool}(h:X7 N a b=some y) :FunO S Ib [.p (vSl 1 (cI .i64) a),.p (vSl 1 (cI .i64) b)] [] (pB y) ([]) []:=by
 unfold X7 at h;refine A4 Z func34 ?_;apply kI Z h<;>intro h
 .cases h;exact kR Z
 refine Y8 Z Bs h (fun x1=>⟨[(5,pN x1),(1,.p (vSl 1 (cI .i64) b)),(0,.p (vSl 1 (cI .i64) a))],[]⟩) (ids:=[]) (fun _ _ _ _ _ c x1 d h=>?_);apply kI Z h<;>intro h
 .refine I8 Z Bs [2,3,6,7] ?_;obtain⟨c9,h⟩:=H1 h;refine K0 c9 ?_;apply kI Z h<;>intro h
  .cases h;exact kR Z
  exact d _ [] _ (wrap .i64 (x1+1)) Bs h
 cases h;exact kR Z
def U3 (N:Nat)  : Option A1:= some (⟨5,2⟩:A1)
theorem X8    {y:A1}(h:U3 N  = some y) :FunO S QV [] [] (.p (.agg (A0 y))) ([]) []:=by unfold U3 at h;refine A4 Z func35 ?_;cases h;exact kR Z
def Gk (N:Nat)  : Option A1:= some (⟨2,5⟩:A1)
theorem Lh    {y:A1}(h:Gk N  = some y) :FunO S QW [] [] (.p (.agg (A0 y))) ([]) []:=by unfold Gk at h;refine A4 Z func36 ?_;cases h;exact kR Z
def ET (N:Nat)  : Option A1:= some (⟨3,4⟩:A1)
theorem IF    {y:A1}(h:ET N  = some y) :FunO S QX [] [] (.p (.agg (A0 y))) ([]) []:=by unfold ET at h;refine A4 Z func49 ?_;cases h;exact kR Z
def L0 (N:Nat)  : Option B1:= some (⟨(Sl.of [(⟨-1,[112,114,111,116,111]⟩:C8),(⟨0,[119,101,115,116]⟩:C8),(⟨0,[101,97,115,116]⟩:C8),(⟨1,[110,111,114,116,104]⟩:C8),(⟨1,[115,111,117,116,104]⟩:C8)]:Sl C8),(Sl.of [(⟨[118,111,105,99,105,110,103],Pat.mk 1 (⟨4,0⟩:A1) false 0 0 (Sl.nil:Sl Pat).n (Sl.nil:Sl Pat).g,Pat.mk 1 (⟨4,0⟩:A1) false 0 0 (Sl.nil:Sl Pat).n (Sl.nil:Sl Pat).g,(Sl.of [(⟨2,0⟩:A1)]:Sl A1),(Sl.of [(⟨0,0,(⟨1,0⟩:A1),0,0⟩:P5)]:Sl P5),1⟩:Law),(⟨[97,112,111,99,111,112,101],Pat.mk 0 (⟨0,0⟩:A1) false 0 0 (Sl.nil:Sl Pat).n (Sl.nil:Sl Pat).g,Pat.mk 6 (⟨0,0⟩:A1) false 0 0 (Sl.nil:Sl Pat).n (Sl.nil:Sl Pat).g,(Sl.of [(⟨4,0⟩:A1)]:Sl A1),(Sl.nil:Sl P5),1⟩:Law)]:Sl Law),(Sl.of [Gg,(Sl.of [0]:Sl Int),(Sl.of [1,0]:Sl Int),(Sl.of [1]:Sl Int),Gg]:Sl (Sl Int))⟩:B1)
theorem CE    {y:B1}(h:L0 N  = some y) :FunO S Cm [] [] (.p (.agg (A5 y))) ([]) []:=by unfold L0 at h;refine A4 Z func47 ?_;refine J5 Z Gf 10 ⟨[(9,.vec 10000),(1,.reg 2000 0),(0,.reg 1000 0)],[(10000,.vec E2 2 (Sl.of [(⟨-1,[112,114,111,116,111]⟩:C8),(⟨0,[119,101,115,116]⟩:C8),(⟨0,[101,97,115,116]⟩:C8),(⟨1,[110,111,114,116,104]⟩:C8),(⟨1,[115,111,117,116,104]⟩:C8)]:Sl C8).n (fun i=>A9 ((Sl.of [(⟨-1,[112,114,111,116,111]⟩:C8),(⟨0,[119,101,115,116]⟩:C8),(⟨0,[101,97,115,116]⟩:C8),(⟨1,[110,111,114,116,104]⟩:C8),(⟨1,[115,111,117,116,104]⟩:C8)]:Sl C8).g i)) false),(2000,.cells [pN 1,pU 4,pU 0,pB false,pN 0,pN 0,.p (vSl 7 C7 (Sl.nil:Sl Pat))]),(1000,.cells [.p E3,.p E3,.p E3])]⟩ (ids:=[(1000,1000),(2000,2000),(10000,10000)]) ?_ (hle:=klR [(0,.fn 5 (Sl.of [(⟨-1,[112,114,111,116,111]⟩:C8),(⟨0,[119,101,115,116]⟩:C8),(⟨0,[101,97,115,116]⟩:C8),(⟨1,[110,111,114,116,104]⟩:C8),(⟨1,[115,111,117,116,104]⟩:C8)]:Sl C8).n (B8 [pI .i64 0,.str []] [(0,A9 (⟨-1,[112,114,111,116,111]⟩:C8)),(1,A9 (⟨0,[119,101,115,116]⟩:C8)),(2,A9 (⟨0,[101,97,115,116]⟩:C8)),(3,A9 (⟨1,[110,111,114,116,104]⟩:C8)),(4,A9 (⟨1,[115,111,117,116,104]⟩:C8))]) (fun i=>A9 ((Sl.of [(⟨-1,[112,114,111,116,111]⟩:C8),(⟨0,[119,101,115,116]⟩:C8),(⟨0,[101,97,115,116]⟩:C8),(⟨1,[110,111,114,116,104]⟩:C8),(⟨1,[115,111,117,116,104]⟩:C8)]:Sl C8).g i)))] (al1 ⟨rfl,(fun i a=>match i,a with|0,_=>rfl|1,_=>rfl|2,_=>rfl|3,_=>rfl|4,_=>rfl|_+5,a=>Ba a (by omega))⟩ al0));refine J5 Z (And.intro Gf Gf) 17 ⟨[(16,.p (vSl 6 K3 (Sl.of [(⟨0,0,(⟨1,0⟩:A1),0,0⟩:P5)]:Sl P5))),(13,.p (vSl 2 A0 (Sl.of [(⟨2,0⟩:A1)]:Sl A1))),(11,.p (.agg [pI .i64 1,pI .u32 4,pI .u32 0,.bb false,pI .i64 0,pI .i64 0,vSl 7 C7 (Sl.nil:Sl Pat)])),(10,.p (.agg [pI .i64 1,pI .u32 4,pI .u32 0,.bb false,pI .i64 0,pI .i64 0,vSl 7 C7 (Sl.nil:Sl Pat)])),(9,.vec 10000),(0,.reg 1000 0)],[(10000,.vec E2 2 (Sl.of [(⟨-1,[112,114,111,116,111]⟩:C8),(⟨0,[119,101,115,116]⟩:C8),(⟨0,[101,97,115,116]⟩:C8),(⟨1,[110,111,114,116,104]⟩:C8),(⟨1,[115,111,117,116,104]⟩:C8)]:Sl C8).n (fun i=>A9 ((Sl.of [(⟨-1,[112,114,111,116,111]⟩:C8),(⟨0,[119,101,115,116]⟩:C8),(⟨0,[101,97,115,116]⟩:C8),(⟨1,[110,111,114,116,104]⟩:C8),(⟨1,[115,111,117,116,104]⟩:C8)]:Sl C8).g i)) false),(1000,.cells [.p E3,.p E3,.p E3])]⟩ (ids:=[(1000,1000),(10000,10000)]) ?_ (hle:=klR [(0,.fn 1 (Sl.of [(⟨0,0,(⟨1,0⟩:A1),0,0⟩:P5)]:Sl P5).n (B8 [pI .i64 0,pI .u32 0,pI .u32 0,pI .u32 0,pI .u32 0,pI .i64 0] [(0,K3 (⟨0,0,(⟨1,0⟩:A1),0,0⟩:P5))]) (fun i=>K3 ((Sl.of [(⟨0,0,(⟨1,0⟩:A1),0,0⟩:P5)]:Sl P5).g i))),(1,.fn 1 (Sl.of [(⟨2,0⟩:A1)]:Sl A1).n (B8 [pI .u32 0,pI .u32 0] [(0,A0 (⟨2,0⟩:A1))]) (fun i=>A0 ((Sl.of [(⟨2,0⟩:A1)]:Sl A1).g i)))] (al1 ⟨rfl,(fun i a=>match i,a with|0,_=>rfl|_+1,a=>Ba a (by omega))⟩ (al1 ⟨rfl,(fun i a=>match i,a with|0,_=>rfl|_+1,a=>Ba a (by omega))⟩ al0)));refine J5 Z Gf 21 ⟨[(20,.p (vSl 2 A0 (Sl.of [(⟨4,0⟩:A1)]:Sl A1))),(18,.p (.agg [pI .i64 6,pI .u32 0,pI .u32 0,.v (.bool false),pI .i64 0,pI .i64 0,E3])),(17,.p (.agg [.str [118,111,105,99,105,110,103],pI .i64 1,pI .u32 4,pI .u32 0,.bb false,pI .i64 0,pI .i64 0,vSl 7 C7 (Sl.nil:Sl Pat),pI .i64 1,pI .u32 4,pI .u32 0,.bb false,pI .i64 0,pI .i64 0,vSl 7 C7 (Sl.nil:Sl Pat),vSl 2 A0 (Sl.of [(⟨2,0⟩:A1)]:Sl A1),vSl 6 K3 (Sl.of [(⟨0,0,(⟨1,0⟩:A1),0,0⟩:P5)]:Sl P5),pI .i64 1])),(9,.vec 10000),(0,.reg 1000 0)],[(10000,.vec E2 2 (Sl.of [(⟨-1,[112,114,111,116,111]⟩:C8),(⟨0,[119,101,115,116]⟩:C8),(⟨0,[101,97,115,116]⟩:C8),(⟨1,[110,111,114,116,104]⟩:C8),(⟨1,[115,111,117,116,104]⟩:C8)]:Sl C8).n (fun i=>A9 ((Sl.of [(⟨-1,[112,114,111,116,111]⟩:C8),(⟨0,[119,101,115,116]⟩:C8),(⟨0,[101,97,115,116]⟩:C8),(⟨1,[110,111,114,116,104]⟩:C8),(⟨1,[115,111,117,116,104]⟩:C8)]:Sl C8).g i)) false),(1000,.cells [.p E3,.p E3,.p E3])]⟩ (ids:=[(1000,1000),(10000,10000)]) ?_ (hle:=klR [(0,.fn 1 (Sl.of [(⟨4,0⟩:A1)]:Sl A1).n (B8 [pI .u32 0,pI .u32 0] [(0,A0 (⟨4,0⟩:A1))]) (fun i=>A0 ((Sl.of [(⟨4,0⟩:A1)]:Sl A1).g i)))] (al1 ⟨rfl,(fun i a=>match i,a with|0,_=>rfl|_+1,a=>Ba a (by omega))⟩ al0));refine HT Z Gf 23 23000 (k:=18) (n:=2) (e:=K6) (vw:=false) (B8 [.str [],pI .i64 0,pI .u32 0,pI .u32 0,.v (.bool false),pI .i64 0,pI .i64 0,E3,pI .i64 0,pI .u32 0,pI .u32 0,.v (.bool false),pI .i64 0,pI .i64 0,E3,E3,E3,pI .i64 0] [(0,[.str [118,111,105,99,105,110,103],pI .i64 1,pI .u32 4,pI .u32 0,.bb false,pI .i64 0,pI .i64 0,vSl 7 C7 (Sl.nil:Sl Pat),pI .i64 1,pI .u32 4,pI .u32 0,.bb false,pI .i64 0,pI .i64 0,vSl 7 C7 (Sl.nil:Sl Pat),vSl 2 A0 (Sl.of [(⟨2,0⟩:A1)]:Sl A1),vSl 6 K3 (Sl.of [(⟨0,0,(⟨1,0⟩:A1),0,0⟩:P5)]:Sl P5),pI .i64 1]),(1,[.str [97,112,111,99,111,112,101],pI .i64 0,pI .u32 0,pI .u32 0,.v (.bool false),pI .i64 0,pI .i64 0,E3,pI .i64 6,pI .u32 0,pI .u32 0,.v (.bool false),pI .i64 0,pI .i64 0,E3,vSl 2 A0 (Sl.of [(⟨4,0⟩:A1)]:Sl A1),E3,pI .i64 1])]) (fun i=>A8 ((Sl.of [(⟨[118,111,105,99,105,110,103],Pat.mk 1 (⟨4,0⟩:A1) false 0 0 (Sl.nil:Sl Pat).n (Sl.nil:Sl Pat).g,Pat.mk 1 (⟨4,0⟩:A1) false 0 0 (Sl.nil:Sl Pat).n (Sl.nil:Sl Pat).g,(Sl.of [(⟨2,0⟩:A1)]:Sl A1),(Sl.of [(⟨0,0,(⟨1,0⟩:A1),0,0⟩:P5)]:Sl P5),1⟩:Law),(⟨[97,112,111,99,111,112,101],Pat.mk 0 (⟨0,0⟩:A1) false 0 0 (Sl.nil:Sl Pat).n (Sl.nil:Sl Pat).g,Pat.mk 6 (⟨0,0⟩:A1) false 0 0 (Sl.nil:Sl Pat).n (Sl.nil:Sl Pat).g,(Sl.of [(⟨4,0⟩:A1)]:Sl A1),(Sl.nil:Sl P5),1⟩:Law)]:Sl Law).g i)) (fun i a=>match i,a with|0,_=>(J9 (.inl rfl) (J9 (.inl rfl) (J9 (.inl rfl) (J9 (.inl rfl) (J9 (.inl rfl) (J9 (.inl rfl) (J9 (.inl rfl) (J9 (.inl rfl) (J9 (.inl rfl) (J9 (.inl rfl) (J9 (.inl rfl) (J9 (.inl rfl) (J9 (.inl rfl) (J9 (.inl rfl) (J9 (.inl rfl) (J9 (.inl rfl) (J9 (.inl rfl) (J9 (.inl rfl) Rq))))))))))))))))))|1,_=>(J9 (.inl rfl) (J9 (.inl rfl) (J9 (.inl rfl) (J9 (.inl rfl) (J9 Uu (J9 (.inl rfl) (J9 (.inl rfl) (J9 PJ (J9 (.inl rfl) (J9 (.inl rfl) (J9 (.inl rfl) (J9 Uu (J9 (.inl rfl) (J9 (.inl rfl) (J9 PJ (J9 (.inl rfl) (J9 PJ (J9 (.inl rfl) Rq))))))))))))))))))|_+2,a=>Ba a (by omega)) ?_;refine J5 Z (And.intro (And.intro Gf Gf) Gf) 26 ⟨[(25,.vec 26000),(24,.vec 25000),(23,.vec 24000),(22,.vec 23000),(9,.vec 10000),(0,.reg 1000 0)],[(26000,.vec C0 1 (Sl.of [1]:Sl Int).n (fun i=>cI .i64 ((Sl.of [1]:Sl Int).g i)) true),(25000,.vec C0 1 (Sl.of [1,0]:Sl Int).n (fun i=>cI .i64 ((Sl.of [1,0]:Sl Int).g i)) true),(24000,.vec C0 1 (Sl.of [0]:Sl Int).n (fun i=>cI .i64 ((Sl.of [0]:Sl Int).g i)) true),(23000,.vec K6 18 (Sl.of [(⟨[118,111,105,99,105,110,103],Pat.mk 1 (⟨4,0⟩:A1) false 0 0 (Sl.nil:Sl Pat).n (Sl.nil:Sl Pat).g,Pat.mk 1 (⟨4,0⟩:A1) false 0 0 (Sl.nil:Sl Pat).n (Sl.nil:Sl Pat).g,(Sl.of [(⟨2,0⟩:A1)]:Sl A1),(Sl.of [(⟨0,0,(⟨1,0⟩:A1),0,0⟩:P5)]:Sl P5),1⟩:Law),(⟨[97,112,111,99,111,112,101],Pat.mk 0 (⟨0,0⟩:A1) false 0 0 (Sl.nil:Sl Pat).n (Sl.nil:Sl Pat).g,Pat.mk 6 (⟨0,0⟩:A1) false 0 0 (Sl.nil:Sl Pat).n (Sl.nil:Sl Pat).g,(Sl.of [(⟨4,0⟩:A1)]:Sl A1),(Sl.nil:Sl P5),1⟩:Law)]:Sl Law).n (fun i=>A8 ((Sl.of [(⟨[118,111,105,99,105,110,103],Pat.mk 1 (⟨4,0⟩:A1) false 0 0 (Sl.nil:Sl Pat).n (Sl.nil:Sl Pat).g,Pat.mk 1 (⟨4,0⟩:A1) false 0 0 (Sl.nil:Sl Pat).n (Sl.nil:Sl Pat).g,(Sl.of [(⟨2,0⟩:A1)]:Sl A1),(Sl.of [(⟨0,0,(⟨1,0⟩:A1),0,0⟩:P5)]:Sl P5),1⟩:Law),(⟨[97,112,111,99,111,112,101],Pat.mk 0 (⟨0,0⟩:A1) false 0 0 (Sl.nil:Sl Pat).n (Sl.nil:Sl Pat).g,Pat.mk 6 (⟨0,0⟩:A1) false 0 0 (Sl.nil:Sl Pat).n (Sl.nil:Sl Pat).g,(Sl.of [(⟨4,0⟩:A1)]:Sl A1),(Sl.nil:Sl P5),1⟩:Law)]:Sl Law).g i)) false),(10000,.vec E2 2 (Sl.of [(⟨-1,[112,114,111,116,111]⟩:C8),(⟨0,[119,101,115,116]⟩:C8),(⟨0,[101,97,115,116]⟩:C8),(⟨1,[110,111,114,116,104]⟩:C8),(⟨1,[115,111,117,116,104]⟩:C8)]:Sl C8).n (fun i=>A9 ((Sl.of [(⟨-1,[112,114,111,116,111]⟩:C8),(⟨0,[119,101,115,116]⟩:C8),(⟨0,[101,97,115,116]⟩:C8),(⟨1,[110,111,114,116,104]⟩:C8),(⟨1,[115,111,117,116,104]⟩:C8)]:Sl C8).g i)) false),(1000,.cells [.p E3,.p E3,.p E3])]⟩ (ids:=[(1000,1000),(10000,10000),(23000,23000),(24000,24000),(25000,25000),(26000,26000)]) ?_ (hle:=klR [(0,.fn 1 (Sl.of [1]:Sl Int).n (B8 [pI .i64 0] [(0,cI .i64 1)]) (fun i=>cI .i64 ((Sl.of [1]:Sl Int).g i))),(1,.fn 2 (Sl.of [1,0]:Sl Int).n (B8 [pI .i64 0] [(0,cI .i64 1),(1,cI .i64 0)]) (fun i=>cI .i64 ((Sl.of [1,0]:Sl Int).g i))),(2,.fn 1 (Sl.of [0]:Sl Int).n (B8 [pI .i64 0] [(0,cI .i64 0)]) (fun i=>cI .i64 ((Sl.of [0]:Sl Int).g i)))] (al1 ⟨rfl,(fun i a=>match i,a with|0,_=>rfl|_+1,a=>Ba a (by omega))⟩ (al1 ⟨rfl,(fun i a=>match i,a with|0,_=>rfl|1,_=>rfl|_+2,a=>Ba a (by omega))⟩ (al1 ⟨rfl,(fun i a=>match i,a with|0,_=>rfl|_+1,a=>Ba a (by omega))⟩ al0))));refine HT Z Gf 27 27000 (k:=1) (n:=5) (e:=T7) (vw:=false) (B8 [E3] [(0,[E3]),(1,cL 1 (cI .i64) (Sl.of [0]:Sl Int)),(2,cL 1 (cI .i64) (Sl.of [1,0]:Sl Int)),(3,cL 1 (cI .i64) (Sl.of [1]:Sl Int)),(4,[E3])]) (fun i=>cL 1 (cI .i64) ((Sl.of [Gg,(Sl.of [0]:Sl Int),(Sl.of [1,0]:Sl Int),(Sl.of [1]:Sl Int),Gg]:Sl (Sl Int)).g i)) (fun i a=>match i,a with|0,_=>Vt|1,_=>Nr _|2,_=>Nr _|3,_=>Nr _|4,_=>Vt|_+5,a=>Ba a (by omega)) ?_;refine J5 Z Bs 27 ⟨[(26,.p (vSl 1 (cL 1 (cI .i64)) (Sl.of [Gg,(Sl.of [0]:Sl Int),(Sl.of [1,0]:Sl Int),(Sl.of [1]:Sl Int),Gg]:Sl (Sl Int)))),(22,.p (vSl 18 A8 (Sl.of [(⟨[118,111,105,99,105,110,103],Pat.mk 1 (⟨4,0⟩:A1) false 0 0 (Sl.nil:Sl Pat).n (Sl.nil:Sl Pat).g,Pat.mk 1 (⟨4,0⟩:A1) false 0 0 (Sl.nil:Sl Pat).n (Sl.nil:Sl Pat).g,(Sl.of [(⟨2,0⟩:A1)]:Sl A1),(Sl.of [(⟨0,0,(⟨1,0⟩:A1),0,0⟩:P5)]:Sl P5),1⟩:Law),(⟨[97,112,111,99,111,112,101],Pat.mk 0 (⟨0,0⟩:A1) false 0 0 (Sl.nil:Sl Pat).n (Sl.nil:Sl Pat).g,Pat.mk 6 (⟨0,0⟩:A1) false 0 0 (Sl.nil:Sl Pat).n (Sl.nil:Sl Pat).g,(Sl.of [(⟨4,0⟩:A1)]:Sl A1),(Sl.nil:Sl P5),1⟩:Law)]:Sl Law))),(9,.p (vSl 2 A9 (Sl.of [(⟨-1,[112,114,111,116,111]⟩:C8),(⟨0,[119,101,115,116]⟩:C8),(⟨0,[101,97,115,116]⟩:C8),(⟨1,[110,111,114,116,104]⟩:C8),(⟨1,[115,111,117,116,104]⟩:C8)]:Sl C8))),(0,.reg 1000 0)],[(1000,.cells [.p E3,.p E3,.p E3])]⟩ (ids:=[(1000,1000)]) ?_;cases h;exact kR Z
def EU (N:Nat)(a:Sl (Sl A1))(b:Sl (Sl A1)):Option Bool:= if ((a.n:Int) != (b.n:Int)) then some false else BV N (fun c (x1:Int)=>if (decide (x1<(a.n:Int))) then if (((0:Int)<=x1/\x1<(a.n:Int))/\((0:Int)<=x1/\x1<(b.n:Int)))then (U1 N (a.g x1.toNat) (b.g x1.toNat)).bind fun y3=>if (!y3) then some false else c (wrap .i64 (x1+1)) else none else some true) 0
theorem NP {a:Sl (Sl A1)}{b:Sl (Sl A1)}{y:Bool}(h:EU N a b=some y) :FunO S HY [.p (vSl 1 (cL 2 A0) a),.p (vSl 1 (cL 2 A0) b)] [] (pB y) ([]) []:=by
 unfold EU at h;refine A4 Z func21 ?_;apply kI Z h<;>intro h
 .cases h;exact kR Z
 refine Y8 Z Bs h (fun x1=>⟨[(5,pN x1),(1,.p (vSl 1 (cL 2 A0) b)),(0,.p (vSl 1 (cL 2 A0) a))],[]⟩) (ids:=[]) (fun _ _ _ _ _ c x1 d h=>?_);apply kI Z h<;>intro h
 .refine I8 Z Bs [2,3,6,7,8] ?_;obtain⟨c9,h⟩:=H1 h;obtain⟨y3,e3,h⟩:=B6 h;refine Y9 c9 (AQ Z Y e3) ?_;refine K0 Bs ?_;apply kI Z h<;>intro h
  .cases h;exact kR Z
  exact d _ [] _ (wrap .i64 (x1+1)) Bs h
 cases h;exact kR Z
def L7 (N:Nat)(a:Sl Int)(c:Int):Option Int:= BV N (fun b (x1:Int)=>if (decide (x1<(a.n:Int))) then if ((0:Int)<=x1/\x1<(a.n:Int))then if (c==(a.g x1.toNat)) then some x1 else b (wrap .i64 (x1+1)) else none else some (-1)) 0
theorem BG {a:Sl Int}{c:Int}{y:Int}(h:L7 N a c=some y) :FunO S S8 [.p (vSl 1 (cI .i64) a),pN c] [] (pN y) ([]) []:=by
 unfold L7 at h;refine A4 Z func112 ?_;refine Y8 Z Bs h (fun x1=>⟨[(8,pN x1),(7,pN (a.n:Int)),(1,pN c),(0,.p (vSl 1 (cI .i64) a))],[]⟩) (ids:=[]) (fun _ _ _ _ _ d x1 f h=>?_);apply kI Z h<;>intro h
 .obtain⟨c8,h⟩:=H1 h;refine D7 Z c8 (b:=c==(a.g x1.toNat)) (fun c9=>?_) (fun c9=>?_)
  .replace h:=itT c9 h;cases h;exact kR Z
  replace h:=itF c9 h;exact f _ [] _ (wrap .i64 (x1+1)) Bs h
 cases h;exact kR Z
def G0 (N:Nat)(a:Sl Int)(b:Int):Option Bool:= (L7 N a b).bind fun y1=>some (decide (0<=y1))
theorem P0 {a:Sl Int}{b:Int}{y:Bool}(h:G0 N a b=some y) :FunO S O8 [.p (vSl 1 (cI .i64) a),pN b] [] (pB y) ([]) []:=by unfold G0 at h;refine A4 Z func83 ?_;refine kC Z h (BG Z Y) (fun y1 h=>?_);cases h;exact kR Z
def Q3 (N:Nat)(a:B1)(b:Int):Option ((Sl Int)×Int):= (D5 N a).bind fun y1=>if (y1 != 0) then some (Gg,y1) else if ((decide (b<0))||(decide ((a.Laws.n:Int)<=b))) then some (Gg,3) else Eg N (fun c (x5:Sl Int) (x6:Int)=>if (decide (x6<(a.Tree.n:Int))) then if (((0:Int)<=x6/\x6<(a.Tree.n:Int))/\((0:Int)<=x6/\x6<(a.On.n:Int)))then (G0 N (a.On.g x6.toNat) b).bind fun d=>lt (fun (z4:Bool)=>if z4 then if ((x5.n+(Sl.of [x6]:Sl Int).n)*8<=140737488355328/\x5.n+(Sl.of [x6]:Sl Int).n<=140737488355328)then c (x5.push x6) (wrap .i64 (x6+1)) else none else c x5 (wrap .i64 (x6+1))) fun k4=>if d then k4 true else (G0 N x5 (a.Tree.g x6.toNat).Parent).bind fun f=>k4 f else none else some (x5,0)) Gg 0
theorem AY {d:B1}{b:Int}{y:(Sl Int)×Int}(h:Q3 N d b=some y) :FunO S Dj [.p (.agg (A5 d)),pN b] [] (.tup [.vec 0,pN y.2]) ([.vec C0 1 y.1.n (fun i=>cI .i64 (y.1.g i)) true]) []:=by
 unfold Q3 at h;refine A4 Z func48 ?_;refine kC Z h (J8 Z Y) (fun y1 h=>?_);apply kI Z h<;>intro h
 .obtain rfl:=C6 h;exact A6 Z Bs ⟨[(5,pN y1),(4,.vec 5700)],[(5700,.vec C0 1 Gg.n (fun i=>cI .i64 (Gg.g i)) true)]⟩ [5700] (ids:=[]) ⟨rfl,rfl,rfl⟩
 refine kB Z (B2 Z) Bs Bs 6 (.o (.a (decide (b<0))) (.a (decide ((d.Laws.n:Int)<=b)))) ?_;apply kI Z h<;>intro h
 .obtain rfl:=C6 h;exact A6 Z Bs ⟨[(5,pN 3),(4,.vec 5700)],[(5700,.vec C0 1 Gg.n (fun i=>cI .i64 (Gg.g i)) true)]⟩ [5700] (ids:=[]) ⟨rfl,rfl,rfl⟩
 refine N4 Z Bs h (fun x5 x6=>⟨[(27,pN x6),(26,pN (d.Tree.n:Int)),(25,.p (vSl 2 A9 d.Tree)),(7,.vec 8501),(2,.reg 3000 0),(1,pN b)],[(8501,.vec C0 1 x5.n (fun i=>cI .i64 (x5.g i)) true),(3000,.cells ((A5 d).map .p))]⟩) (ids:=[(3000,3000)]) (fun _ _ _ _ _ l x5 x6 f h=>?_);apply kI Z h<;>intro h
 .obtain⟨c22,h⟩:=H1 h;obtain⟨q,e11,h⟩:=B6 h;refine B7 Z [] (And.intro (And.intro c22.1 Dn) c22.2) (P0 Z Y e11) ?_;refine Lm Z Bs (B2 Z) h 0 (fun z4=>⟨[(44,pB z4),(27,pN x6),(26,pN (d.Tree.n:Int)),(25,.p (vSl 2 A9 d.Tree)),(8,pN x6),(7,.vec 8501),(2,.reg 3000 0),(1,pN b)],[(8501,.vec C0 1 x5.n (fun i=>cI .i64 (x5.g i)) true),(3000,.cells ((A5 d).map .p))]⟩) (fun M4 k4 j h=>?_) (fun z4 h=>?_)
  .refine kG Z h (fun h=>?_) (fun h=>?_)
   .exact j _ [(3000,3000),(8501,8501)] _ true Bs h
   refine kC Z h (P0 Z Y) (fun m h=>?_);exact j _ [(3000,3000),(8501,8501)] _ m Bs h
  apply kI Z h<;>intro h
  .obtain⟨c27,h⟩:=H1 h;exact f _ [(3000,3000),(8501,49000)] _ (x5.push x6) (wrap .i64 (x6+1)) (And.intro Gf c27) h (hle:=klR [(4,.fn (x5.n+1) (x5.push x6).n (V7 x5.n (fun i=>cI .i64 (x5.g i)) (B8 [pI .i64 0] [(0,cI .i64 x6)])) (fun i=>cI .i64 ((x5.push x6).g i)))] (al1 ⟨rfl,MI (c:=cI .i64) (v:=x5) (x:=x6) (z:=[(pI .i64 0)]) same rfl rfl⟩ al0))
  exact f _ [(3000,3000),(8501,8501)] _ x5 (wrap .i64 (x6+1)) Bs h
 obtain rfl:=C6 h;exact A6 Z Bs ⟨[(5,pN 0),(4,.vec 8501)],[(8501,.vec C0 1 x5.n (fun i=>cI .i64 (x5.g i)) true)]⟩ [8501] (ids:=[(8501,8501)]) ⟨rfl,rfl,rfl⟩
def G6 (N:Nat)(a:B1)(c:Sl A1):Option (Sl O4):= if ((0:Int)<=(a.Tree.n:Int)/\(a.Tree.n:Int)<=(a.Tree.n:Int)/\(a.Tree.n:Int)*32<=140737488355328/\(a.Tree.n:Int)<=140737488355328)then Eg N (fun b (x1:Sl O4) (x2:Int)=>if (decide (x2<(a.Tree.n:Int))) then if ((0:Int)<=x2/\x2<(a.Tree.n:Int))then if ((decide (0<=(a.Tree.g x2.toNat).Parent))=true->(((0:Int)<=(a.Tree.g x2.toNat).Parent/\(a.Tree.g x2.toNat).Parent<(x1.n:Int))/\(a.Tree.g x2.toNat).Parent.toNat<x1.n))then if ((if (decide (0<=(a.Tree.g x2.toNat).Parent)) then (x1.g (a.Tree.g x2.toNat).Parent.toNat).e else 0)==0) then if ((0:Int)<=x2/\x2<(a.On.n:Int))then (Y4 N a (a.On.g x2.toNat)).bind fun y5=>(W5 N y5 (if (decide (0<=(a.Tree.g x2.toNat).Parent)) then (x1.g (a.Tree.g x2.toNat).Parent.toNat).w else c)).bind fun y6=>if (((0:Int)<=x2/\x2<(x1.n:Int))/\x2.toNat<x1.n)then b (x1.upd x2.toNat (⟨y6.1,y6.2⟩:O4)) (wrap .i64 (x2+1)) else none else none else if (((0:Int)<=x2/\x2<(x1.n:Int))/\x2.toNat<x1.n)then b (x1.upd x2.toNat (⟨(if (decide (0<=(a.Tree.g x2.toNat).Parent)) then (x1.g (a.Tree.g x2.toNat).Parent.toNat).w else c),(if (decide (0<=(a.Tree.g x2.toNat).Parent)) then (x1.g (a.Tree.g x2.toNat).Parent.toNat).e else 0)⟩:O4)) (wrap .i64 (x2+1)) else none else none else none else some x1) (Sl.rep (a.Tree.n:Int).toNat (⟨(Sl.nil:Sl A1),0⟩:O4):Sl O4) 0 else none
theorem CF {a:B1}{d:Sl A1}{y:Sl O4}(h:G6 N a d=some y) :FunO S Fz [.p (.agg (A5 a)),.p (vSl 2 A0 d)] [] (.vec 0) ([.vec D6 2 y.n (fun i=>G9 (y.g i)) true]) []:=by
 unfold G6 at h;refine A4 Z func65 ?_;refine J0 Z Bs 4 3000 (A5 a) ?_;obtain⟨c1,h⟩:=H1 h;refine HT Z c1 5 13000 (k:=2) (n:=(a.Tree.n:Int).toNat) (e:=D6) (vw:=false) (fun _=>[E3,pI .i64 0]) (fun i=>G9 ((Sl.rep (a.Tree.n:Int).toNat (⟨(Sl.nil:Sl A1),0⟩:O4):Sl O4).g i)) (fun i r=>J9 PJ (J9 (.inl rfl) Rq)) ?_;refine N4 Z Bs h (fun x1 x2=>⟨[(16,pN x2),(15,pN (a.Tree.n:Int)),(14,.p (vSl 2 A9 a.Tree)),(5,.vec 13000),(2,.p (.ptr (A5 a))),(1,.p (vSl 2 A0 d))],[(13000,.vec D6 2 x1.n (fun i=>G9 (x1.g i)) false)]⟩) (ids:=[(13000,13000)]) (fun _ _ _ _ _ q x1 x2 m h=>?_);apply kI Z h<;>intro h
 .obtain⟨c17,h⟩:=H1 h;refine J0 Z (And.intro c17 Dn) 21 8000 [pI .i64 (a.Tree.g x2.toNat).Parent,.str (a.Tree.g x2.toNat).Name] ?_;obtain⟨c19,h⟩:=H1 h;obtain⟨t5,f⟩:∃x:Sl A1,x=(if (decide (0<=(a.Tree.g x2.toNat).Parent)) then (x1.g (a.Tree.g x2.toNat).Parent.toNat).w else d):=⟨_,rfl⟩;obtain⟨t6,j⟩:∃x:Int,x=(if (decide (0<=(a.Tree.g x2.toNat).Parent)) then (x1.g (a.Tree.g x2.toNat).Parent.toNat).e else 0):=⟨_,rfl⟩;refine Py Z Bs (B2 Z) 0 ⟨[(16,pN x2),(15,pN (a.Tree.n:Int)),(14,.p (vSl 2 A9 a.Tree)),(8,.reg 9000 0),(6,pN x2),(5,.vec 13000),(2,.p (.ptr (A5 a))),(1,.p (vSl 2 A0 d))],[(13000,.vec D6 2 x1.n (fun i=>G9 (x1.g i)) false),(9000,.cells [.p (vSl 2 A0 t5),pN t6])]⟩ (fun M3 o=>?_) ?_
  .refine D7 Z Bs (b:=decide (0<=(a.Tree.g x2.toNat).Parent)) (fun c20=>?_) (fun c20=>?_)
   .exact o _ [(9000,9000),(13000,13000)] _ (And.intro (And.intro (c19 c20).1 Dn) (c19 c20).2) (hle:=klR [(7,.fn (x1.g (a.Tree.g x2.toNat).Parent.toNat).w.n t5.n (fun i=>A0 ((x1.g (a.Tree.g x2.toNat).Parent.toNat).w.g i)) (fun i=>A0 (t5.g i))),(8,.eq (pI .i64 (x1.g (a.Tree.g x2.toNat).Parent.toNat).e) (pI .i64 t6))] (al1 (by have e:=f;simp only[c20,pm,Be,Br]at e;subst e;exact⟨rfl,fun _ _=>rfl⟩) (al1 (by simp only[f,j,c20,Leaf.ok,pm,Be,Br]) al0)))
   exact o _ [(9000,9000),(13000,13000)] _ Bs (hle:=klR [(7,.fn d.n t5.n (fun i=>A0 (d.g i)) (fun i=>A0 (t5.g i))),(8,.eq (pI .i64 0) (pI .i64 t6))] (al1 (by have e:=f;simp only[c20,pm,Be,Br]at e;subst e;exact⟨rfl,fun _ _=>rfl⟩) (al1 (by simp only[f,j,c20,Leaf.ok,pm,Be,Br]) al0)))
  subst j;subst f;apply kI Z h<;>intro h
  .refine I8 Z Bs [0,2,4,5,6,9] ?_;obtain⟨c22,h⟩:=H1 h;obtain⟨y5,e5,h⟩:=B6 h;refine Y9 (And.intro Dq c22) (Ew Z Y e5) ?_;obtain⟨y6,e6,h⟩:=B6 h;refine Y9 Bs (Dz Z Y e6) ?_;refine K0 Bs ?_;obtain⟨c23,h⟩:=H1 h;exact m _ [(13000,13000)] _ (x1.upd x2.toNat (⟨y6.1,y6.2⟩:O4)) (wrap .i64 (x2+1)) (And.intro c23.1 (And.intro (rfl:(2:Nat)=2) (And.intro c23.2 Dn))) h (hle:=klR [(5,.fn x1.n (x1.upd x2.toNat (⟨y6.1,y6.2⟩:O4)).n (fun l=>if l=x2.toNat then splice ((fun i=>G9 (x1.g i)) l) 0 [vSl 2 A0 y6.1,pI .i64 y6.2]else (fun i=>G9 (x1.g i)) l) (fun i=>G9 ((x1.upd x2.toNat (⟨y6.1,y6.2⟩:O4)).g i)))] (al1 ⟨rfl,Uy (c:=G9) (v:=x1) (x:=(⟨y6.1,y6.2⟩:O4)) same (fun _=>by first|rfl|(dsimp only;split<;>rfl))⟩ al0))
  obtain⟨c24,h⟩:=H1 h;exact m _ [(13000,13000)] _ (x1.upd x2.toNat (⟨(if (decide (0<=(a.Tree.g x2.toNat).Parent)) then (x1.g (a.Tree.g x2.toNat).Parent.toNat).w else d),(if (decide (0<=(a.Tree.g x2.toNat).Parent)) then (x1.g (a.Tree.g x2.toNat).Parent.toNat).e else 0)⟩:O4)) (wrap .i64 (x2+1)) (And.intro c24.1 (And.intro (rfl:(2:Nat)=2) (And.intro c24.2 Dn))) h (hle:=klR [(5,.fn x1.n (x1.upd x2.toNat (⟨(if (decide (0<=(a.Tree.g x2.toNat).Parent)) then (x1.g (a.Tree.g x2.toNat).Parent.toNat).w else d),(if (decide (0<=(a.Tree.g x2.toNat).Parent)) then (x1.g (a.Tree.g x2.toNat).Parent.toNat).e else 0)⟩:O4)).n (fun l=>if l=x2.toNat then splice ((fun i=>G9 (x1.g i)) l) 0 [vSl 2 A0 (if (decide (0<=(a.Tree.g x2.toNat).Parent)) then (x1.g (a.Tree.g x2.toNat).Parent.toNat).w else d),pI .i64 (if (decide (0<=(a.Tree.g x2.toNat).Parent)) then (x1.g (a.Tree.g x2.toNat).Parent.toNat).e else 0)]else (fun i=>G9 (x1.g i)) l) (fun i=>G9 ((x1.upd x2.toNat (⟨(if (decide (0<=(a.Tree.g x2.toNat).Parent)) then (x1.g (a.Tree.g x2.toNat).Parent.toNat).w else d),(if (decide (0<=(a.Tree.g x2.toNat).Parent)) then (x1.g (a.Tree.g x2.toNat).Parent.toNat).e else 0)⟩:O4)).g i)))] (al1 ⟨rfl,Uy (c:=G9) (v:=x1) (x:=(⟨(if (decide (0<=(a.Tree.g x2.toNat).Parent)) then (x1.g (a.Tree.g x2.toNat).Parent.toNat).w else d),(if (decide (0<=(a.Tree.g x2.toNat).Parent)) then (x1.g (a.Tree.g x2.toNat).Parent.toNat).e else 0)⟩:O4)) same (fun _=>by first|rfl|(dsimp only;split<;>rfl))⟩ al0))
 obtain rfl:=C6 h;exact A6 Z Bs ⟨[(4,.vec 13000)],[(13000,.vec D6 2 x1.n (fun i=>G9 (x1.g i)) true)]⟩ [13000] (ids:=[(13000,13000)]) ⟨rfl,rfl,rfl⟩
def AZ (N:Nat)(b:B1)(c:Sl A1):Option ((Sl (Sl A1))×Int):= (W7 N b c).bind fun y1=>if (y1 != 0) then some ((Sl.nil:Sl (Sl A1)),y1) else (G6 N b c).bind fun y2=>Eg N (fun a (x1:Sl (Sl A1)) (x2:Int)=>if (decide (x2<(y2.n:Int))) then if (((0:Int)<=x2/\x2<(y2.n:Int))/\x2.toNat<y2.n)then if ((y2.g x2.toNat).e != 0) then some ((Sl.nil:Sl (Sl A1)),(y2.g x2.toNat).e) else (A7 N (y2.g x2.toNat).w).bind fun y5=>if ((x1.n+(Sl.of [y5]:Sl (Sl A1)).n)*24<=140737488355328/\x1.n+(Sl.of [y5]:Sl (Sl A1)).n<=140737488355328)then a (x1.push y5) (wrap .i64 (x2+1)) else none else none else some (x1,0)) (Sl.nil:Sl (Sl A1)) 0
theorem IG {a:B1}{b:Sl A1}{y:(Sl (Sl A1))×Int}(h:AZ N a b=some y) :FunO S Df [.p (.agg (A5 a)),.p (vSl 2 A0 b)] [] (.tup [.vec 0,pN y.2]) ([.vec B0 1 y.1.n (fun i=>cL 2 A0 (y.1.g i)) true]) []:=by
 unfold AZ at h;refine A4 Z func16 ?_;refine J0 Z Bs 4 3000 (A5 a) ?_;obtain⟨y1,e1,h⟩:=B6 h;refine B7 Z [] Dq (DC Z Y e1) ?_;apply kI Z h<;>intro h
 .obtain rfl:=C6 h;exact A6 Z Bs ⟨[(5,pN y1),(4,.vec 5700)],[(5700,.vec B0 1 (Sl.nil:Sl (Sl A1)).n (fun i=>cL 2 A0 ((Sl.nil:Sl (Sl A1)).g i)) true)]⟩ [5700] (ids:=[]) ⟨rfl,rfl,rfl⟩
 obtain⟨y2,e2,h⟩:=B6 h;refine B7 Z [] Dq (CF Z Y e2) ?_;refine N4 Z Bs h (fun x1 x2=>⟨[(20,pN x2),(19,pN (y2.n:Int)),(18,.vec 19000),(7,.vec 8500)],[(19000,.vec D6 2 y2.n (fun i=>G9 (y2.g i)) true),(8500,.vec B0 1 x1.n (fun i=>cL 2 A0 (x1.g i)) false)]⟩) (ids:=[(19000,19000)]) (fun _ _ _ _ _ d x1 x2 f h=>?_);apply kI Z h<;>intro h
 .obtain⟨c9,h⟩:=H1 h;refine J0 Z (And.intro (And.intro c9.1 Dn) c9.2) 24 10000 [vSl 2 A0 (y2.g x2.toNat).w,pI .i64 (y2.g x2.toNat).e] ?_;apply kI Z h<;>intro h
  .refine I8 Z Bs [1] ?_;refine K0 Bs ?_;obtain rfl:=C6 h;exact A6 Z Bs ⟨[(5,pN (y2.g x2.toNat).e),(4,.vec 5700)],[(5700,.vec B0 1 (Sl.nil:Sl (Sl A1)).n (fun i=>cL 2 A0 ((Sl.nil:Sl (Sl A1)).g i)) true)]⟩ [5700] (ids:=[]) ⟨rfl,rfl,rfl⟩
  refine kC Z h (E9 Z Y) (fun y5 h=>?_);obtain⟨c11,h⟩:=H1 h;exact f _ [(8500,35000),(19000,19000)] _ (x1.push y5) (wrap .i64 (x2+1)) (And.intro Gf c11) h (hle:=klR [(3,.fn (x1.n+1) (x1.push y5).n (V7 x1.n (fun i=>cL 2 A0 (x1.g i)) (B8 [E3] [(0,cL 2 A0 y5)])) (fun i=>cL 2 A0 ((x1.push y5).g i)))] (al1 ⟨rfl,MI (c:=cL 2 A0) (v:=x1) (x:=y5) (z:=[E3]) same rfl rfl⟩ al0))
 obtain rfl:=C6 h;exact A6 Z Bs ⟨[(5,pN 0),(4,.vec 8500)],[(8500,.vec B0 1 x1.n (fun i=>cL 2 A0 (x1.g i)) true)]⟩ [8500] (ids:=[(8500,8500)]) ⟨rfl,rfl,rfl⟩
def Af (N:Nat)(b:B1)(c:Sl A1):Option ((Sl (Sl A1))×Int):= (AZ N b c).bind fun y1=>if (y1.2 != 0) then some ((Sl.nil:Sl (Sl A1)),y1.2) else (G5 N b.Tree).bind fun y2=>Eg N (fun a (x1:Sl (Sl A1)) (x2:Int)=>if (decide (x2<(y2.1.n:Int))) then if ((((((0:Int)<=x2/\x2<(y2.1.n:Int))/\x2.toNat<y2.1.n)/\((0:Int)<=(y2.1.g x2.toNat)/\(y2.1.g x2.toNat)<(y1.1.n:Int)))/\(y2.1.g x2.toNat).toNat<y1.1.n)/\((x1.n+(Sl.of [y1.1.g (y2.1.g x2.toNat).toNat]:Sl (Sl A1)).n)*24<=140737488355328/\x1.n+(Sl.of [y1.1.g (y2.1.g x2.toNat).toNat]:Sl (Sl A1)).n<=140737488355328))then a (x1.push (y1.1.g (y2.1.g x2.toNat).toNat)) (wrap .i64 (x2+1)) else none else some (x1,y2.2)) (Sl.nil:Sl (Sl A1)) 0
theorem GX {a:B1}{b:Sl A1}{y:(Sl (Sl A1))×Int}(h:Af N a b=some y) :FunO S CL [.p (.agg (A5 a)),.p (vSl 2 A0 b)] [] (.tup [.vec 0,pN y.2]) ([.vec B0 1 y.1.n (fun i=>cL 2 A0 (y.1.g i)) true]) []:=by
 unfold Af at h;refine A4 Z func18 ?_;refine kC Z h (IG Z Y) (fun y1 h=>?_);apply kI Z h<;>intro h
 .obtain rfl:=C6 h;exact A6 Z Bs ⟨[(5,pN y1.2),(4,.vec 5700)],[(5700,.vec B0 1 (Sl.nil:Sl (Sl A1)).n (fun i=>cL 2 A0 ((Sl.nil:Sl (Sl A1)).g i)) true)]⟩ [5700] (ids:=[]) ⟨rfl,rfl,rfl⟩
 refine kC Z h (CC Z Y) (fun y2 h=>?_);refine N4 Z Bs h (fun x1 x2=>⟨[(29,pN x2),(28,pN (y2.1.n:Int)),(27,.vec 25000),(9,.vec 10500),(7,pN y2.2),(6,.vec 16000)],[(25000,.vec C0 1 y2.1.n (fun i=>cI .i64 (y2.1.g i)) true),(16000,.vec B0 1 y1.1.n (fun i=>cL 2 A0 (y1.1.g i)) true),(10500,.vec B0 1 x1.n (fun i=>cL 2 A0 (x1.g i)) false)]⟩) (ids:=[(16000,16000),(25000,25000)]) (fun _ _ _ _ _ d x1 x2 f h=>?_);apply kI Z h<;>intro h
 .obtain⟨c5,h⟩:=H1 h;exact f _ [(10500,40000),(16000,16000),(25000,25000)] _ (x1.push (y1.1.g (y2.1.g x2.toNat).toNat)) (wrap .i64 (x2+1)) (And.intro (And.intro (And.intro (And.intro (And.intro c5.1.1.1.1 c5.1.1.1.2) c5.1.1.2) c5.1.2) Gf) c5.2) h (hle:=klR [(5,.fn (x1.n+1) (x1.push (y1.1.g (y2.1.g x2.toNat).toNat)).n (V7 x1.n (fun i=>cL 2 A0 (x1.g i)) (B8 [E3] [(0,cL 2 A0 (y1.1.g (y2.1.g x2.toNat).toNat))])) (fun i=>cL 2 A0 ((x1.push (y1.1.g (y2.1.g x2.toNat).toNat)).g i)))] (al1 ⟨rfl,MI (c:=cL 2 A0) (v:=x1) (x:=y1.1.g (y2.1.g x2.toNat).toNat) (z:=[E3]) same rfl rfl⟩ al0))
 obtain rfl:=C6 h;exact A6 Z Bs ⟨[(5,pN y2.2),(4,.vec 10500)],[(10500,.vec B0 1 x1.n (fun i=>cL 2 A0 (x1.g i)) true)]⟩ [10500] (ids:=[(10500,10500)]) ⟨rfl,rfl,rfl⟩
def T5 (N:Nat)(f:B1)(i:B1)(b:Sl (Sl A1)):Option (Bool×Int):= (D5 N f).bind fun o=>if (o != 0) then some (false,o) else (D5 N i).bind fun q=>if (q != 0) then some (false,q) else if (decide (256<(b.n:Int))) then some (false,12) else BV N (fun j (x1:Int)=>if (decide (x1<(b.n:Int))) then if ((0:Int)<=x1/\x1<(b.n:Int))then (K8 N (b.g x1.toNat)).bind fun y5=>if (y5 != 0) then some (false,y5) else j (wrap .i64 (x1+1)) else none else (G5 N f.Tree).bind fun y6=>(G5 N i.Tree).bind fun y7=>if ((y6.1.n:Int) != (y7.1.n:Int)) then some (false,2) else BV N (fun l (x6:Int)=>if (decide (x6<(b.n:Int))) then if ((0:Int)<=x6/\x6<(b.n:Int))then (G6 N f (b.g x6.toNat)).bind fun c=>(G6 N i (b.g x6.toNat)).bind fun d=>BV N (fun m (a:Int)=>if (decide (a<(y6.1.n:Int))) then if (((((((((0:Int)<=a/\a<(y6.1.n:Int))/\a.toNat<y6.1.n)/\((0:Int)<=(y6.1.g a.toNat)/\(y6.1.g a.toNat)<(c.n:Int)))/\(y6.1.g a.toNat).toNat<c.n)/\((0:Int)<=a/\a<(y7.1.n:Int)))/\a.toNat<y7.1.n)/\((0:Int)<=(y7.1.g a.toNat)/\(y7.1.g a.toNat)<(d.n:Int)))/\(y7.1.g a.toNat).toNat<d.n)then lt (fun (z9:Bool)=>if z9 then some (false,0) else m (wrap .i64 (a+1))) fun k9=>if ((c.g (y6.1.g a.toNat).toNat).e != (d.g (y7.1.g a.toNat).toNat).e) then k9 true else (U9 N (c.g (y6.1.g a.toNat).toNat).w (d.g (y7.1.g a.toNat).toNat).w).bind fun r=>k9 (!r) else none else l (wrap .i64 (x6+1))) 0 else none else some (true,0)) 0) 0
theorem BH {j:B1}{f:B1}{d:Sl (Sl A1)}{y:Bool×Int}(h:T5 N j f d=some y) :FunO S Ei [.p (.agg (A5 j)),.p (.agg (A5 f)),.p (vSl 1 (cL 2 A0) d)] [] (.tup [pB y.1,pN y.2]) ([]) []:=by
 unfold T5 at h;refine A4 Z func23 ?_;refine J0 Z Bs 4 4000 (A5 j) ?_;refine J0 Z Bs 6 5000 (A5 f) ?_;refine Sp Z (And.intro Dq Dq) 2 (unrT [fun t=>t=⟨[(28,pN 0),(27,.p (.agg [vSl 2 A9 j.Tree,vSl 18 A8 j.Laws,vSl 1 (cL 1 (cI .i64)) j.On,vSl 2 A9 f.Tree,vSl 18 A8 f.Laws,vSl 1 (cL 1 (cI .i64)) f.On])),(4,.p (.ptr (A5 f))),(3,.p (.ptr (A5 j))),(2,.p (vSl 1 (cL 2 A0) d))],[]⟩/\(
  (D5 N j).bind fun z=>
  if (z != 0) then
   some (false,z)
  else
   (D5 N f).bind fun v=>
   if (v != 0) then
    some (false,v)
   else
    if (decide (256<(d.n:Int))) then
     some (false,12)
    else
     BV N (fun q (x1:Int)=>
      if (decide (x1<(d.n:Int))) then
       if ((0:Int)<=x1/\x1<(d.n:Int))then
        (K8 N (d.g x1.toNat)).bind fun y5=>
        if (y5 != 0) then
         some (false,y5)
        else
         q (wrap .i64 (x1+1))
       else none
      else
       (G5 N j.Tree).bind fun y6=>
       (G5 N f.Tree).bind fun y7=>
       if ((y6.1.n:Int) != (y7.1.n:Int)) then
        some (false,2)
       else
        BV N (fun r (x6:Int)=>
         if (decide (x6<(d.n:Int))) then
          if ((0:Int)<=x6/\x6<(d.n:Int))then
           (G6 N j (d.g x6.toNat)).bind fun m=>
           (G6 N f (d.g x6.toNat)).bind fun o=>
           BV N (fun s (c:Int)=>
            if (decide (c<(y6.1.n:Int))) then
             if (((((((((0:Int)<=c/\c<(y6.1.n:Int))/\c.toNat<y6.1.n)/\((0:Int)<=(y6.1.g c.toNat)/\(y6.1.g c.toNat)<(m.n:Int)))/\(y6.1.g c.toNat).toNat<m.n)/\((0:Int)<=c/\c<(y7.1.n:Int)))/\c.toNat<y7.1.n)/\((0:Int)<=(y7.1.g c.toNat)/\(y7.1.g c.toNat)<(o.n:Int)))/\(y7.1.g c.toNat).toNat<o.n)then
              lt (fun (z9:Bool)=>
               if z9 then
                some (false,0)
               else
                s (wrap .i64 (c+1))
               ) fun k9=>
               if ((m.g (y6.1.g c.toNat).toNat).e != (o.g (y7.1.g c.toNat).toNat).e) then
                k9 true
               else
                (U9 N (m.g (y6.1.g c.toNat).toNat).w (o.g (y7.1.g c.toNat).toNat).w).bind fun u=>
                k9 (!u)
             else none
            else
             r (wrap .i64 (x6+1))
            ) 0
          else none
         else
          some (true,0)
         ) 0
      ) 0
  )=some y,fun t=>t=⟨[(28,pN 1),(27,.p (.agg [vSl 2 A9 j.Tree,vSl 18 A8 j.Laws,vSl 1 (cL 1 (cI .i64)) j.On,vSl 2 A9 f.Tree,vSl 18 A8 f.Laws,vSl 1 (cL 1 (cI .i64)) f.On])),(4,.p (.ptr (A5 f))),(3,.p (.ptr (A5 j))),(2,.p (vSl 1 (cL 2 A0) d))],[]⟩/\(
   (D5 N f).bind fun v=>
   if (v != 0) then
    some (false,v)
   else
    if (decide (256<(d.n:Int))) then
     some (false,12)
    else
     BV N (fun q (x1:Int)=>
      if (decide (x1<(d.n:Int))) then
       if ((0:Int)<=x1/\x1<(d.n:Int))then
        (K8 N (d.g x1.toNat)).bind fun y5=>
        if (y5 != 0) then
         some (false,y5)
        else
         q (wrap .i64 (x1+1))
       else none
      else
       (G5 N j.Tree).bind fun y6=>
       (G5 N f.Tree).bind fun y7=>
       if ((y6.1.n:Int) != (y7.1.n:Int)) then
        some (false,2)
       else
        BV N (fun r (x6:Int)=>
         if (decide (x6<(d.n:Int))) then
          if ((0:Int)<=x6/\x6<(d.n:Int))then
           (G6 N j (d.g x6.toNat)).bind fun m=>
           (G6 N f (d.g x6.toNat)).bind fun o=>
           BV N (fun s (c:Int)=>
            if (decide (c<(y6.1.n:Int))) then
             if (((((((((0:Int)<=c/\c<(y6.1.n:Int))/\c.toNat<y6.1.n)/\((0:Int)<=(y6.1.g c.toNat)/\(y6.1.g c.toNat)<(m.n:Int)))/\(y6.1.g c.toNat).toNat<m.n)/\((0:Int)<=c/\c<(y7.1.n:Int)))/\c.toNat<y7.1.n)/\((0:Int)<=(y7.1.g c.toNat)/\(y7.1.g c.toNat)<(o.n:Int)))/\(y7.1.g c.toNat).toNat<o.n)then
              lt (fun (z9:Bool)=>
               if z9 then
                some (false,0)
               else
                s (wrap .i64 (c+1))
               ) fun k9=>
               if ((m.g (y6.1.g c.toNat).toNat).e != (o.g (y7.1.g c.toNat).toNat).e) then
                k9 true
               else
                (U9 N (m.g (y6.1.g c.toNat).toNat).w (o.g (y7.1.g c.toNat).toNat).w).bind fun u=>
                k9 (!u)
             else none
            else
             r (wrap .i64 (x6+1))
            ) 0
          else none
         else
          some (true,0)
         ) 0
      ) 0
  )=some y,fun t=>t=⟨[(28,pN 2),(27,.p (.agg [vSl 2 A9 j.Tree,vSl 18 A8 j.Laws,vSl 1 (cL 1 (cI .i64)) j.On,vSl 2 A9 f.Tree,vSl 18 A8 f.Laws,vSl 1 (cL 1 (cI .i64)) f.On])),(4,.p (.ptr (A5 f))),(3,.p (.ptr (A5 j))),(2,.p (vSl 1 (cL 2 A0) d))],[]⟩/\(
   if (decide (256<(d.n:Int))) then
    some (false,12)
   else
    BV N (fun q (x1:Int)=>
     if (decide (x1<(d.n:Int))) then
      if ((0:Int)<=x1/\x1<(d.n:Int))then
       (K8 N (d.g x1.toNat)).bind fun y5=>
       if (y5 != 0) then
        some (false,y5)
       else
        q (wrap .i64 (x1+1))
      else none
     else
      (G5 N j.Tree).bind fun y6=>
      (G5 N f.Tree).bind fun y7=>
      if ((y6.1.n:Int) != (y7.1.n:Int)) then
       some (false,2)
      else
       BV N (fun r (x6:Int)=>
        if (decide (x6<(d.n:Int))) then
         if ((0:Int)<=x6/\x6<(d.n:Int))then
          (G6 N j (d.g x6.toNat)).bind fun m=>
          (G6 N f (d.g x6.toNat)).bind fun o=>
          BV N (fun s (c:Int)=>
           if (decide (c<(y6.1.n:Int))) then
            if (((((((((0:Int)<=c/\c<(y6.1.n:Int))/\c.toNat<y6.1.n)/\((0:Int)<=(y6.1.g c.toNat)/\(y6.1.g c.toNat)<(m.n:Int)))/\(y6.1.g c.toNat).toNat<m.n)/\((0:Int)<=c/\c<(y7.1.n:Int)))/\c.toNat<y7.1.n)/\((0:Int)<=(y7.1.g c.toNat)/\(y7.1.g c.toNat)<(o.n:Int)))/\(y7.1.g c.toNat).toNat<o.n)then
             lt (fun (z9:Bool)=>
              if z9 then
               some (false,0)
              else
               s (wrap .i64 (c+1))
              ) fun k9=>
              if ((m.g (y6.1.g c.toNat).toNat).e != (o.g (y7.1.g c.toNat).toNat).e) then
               k9 true
              else
               (U9 N (m.g (y6.1.g c.toNat).toNat).w (o.g (y7.1.g c.toNat).toNat).w).bind fun u=>
               k9 (!u)
            else none
           else
            r (wrap .i64 (x6+1))
           ) 0
         else none
        else
         some (true,0)
        ) 0
     ) 0
  )=some y]) ⟨[(28,pN 0),(27,.p (.agg [vSl 2 A9 j.Tree,vSl 18 A8 j.Laws,vSl 1 (cL 1 (cI .i64)) j.On,vSl 2 A9 f.Tree,vSl 18 A8 f.Laws,vSl 1 (cL 1 (cI .i64)) f.On])),(4,.p (.ptr (A5 f))),(3,.p (.ptr (A5 j))),(2,.p (vSl 1 (cL 2 A0) d))],[]⟩ (ids:=[]) ⟨rfl,h⟩ (fun _ _ _ _ i _ t hi ht a0=>?_)
 rcases i with _|_|_|i
 .obtain⟨rfl,h⟩:=ht;refine D7 Z Bs (b:=decide ((0:Int)<2)) (fun c80=>?_) (fun c80=>?_)
  .refine J0 Z (And.intro (by decide:(3:Nat)<=6) (by decide:(0:Int)<=0/\(0:Int)<2)) 31 10000 (A5 j) ?_;obtain⟨z,e33,h⟩:=B6 h;refine B7 Z [] Dq (J8 Z Y e33) ?_;apply kI Z h<;>intro h
   .cases h;exact kR Z
   exact a0 _ [] _ _ Bs rfl ⟨rfl,h⟩
  exact Bool.noConfusion ((by decide:decide ((0:Int)<2)=true).symm.trans c80)
 .obtain⟨rfl,h⟩:=ht;refine D7 Z Bs (b:=decide ((1:Int)<2)) (fun c78=>?_) (fun c78=>?_)
  .refine J0 Z (And.intro Dq (by decide:(0:Int)<=1/\(1:Int)<2)) 31 10000 (A5 f) ?_;obtain⟨v,e32,h⟩:=B6 h;refine B7 Z [] Dq (J8 Z Y e32) ?_;apply kI Z h<;>intro h
   .cases h;exact kR Z
   exact a0 _ [] _ _ Bs rfl ⟨rfl,h⟩
  exact Bool.noConfusion ((by decide:decide ((1:Int)<2)=true).symm.trans c78)
 .obtain⟨rfl,h⟩:=ht;refine D7 Z Bs (b:=decide ((2:Int)<2)) (fun c6=>?_) (fun c6=>?_)
  .exact Bool.noConfusion ((by decide:decide ((2:Int)<2)=false).symm.trans c6)
  apply kI Z h<;>intro h
  .cases h;exact kR Z
  refine Y8 Z Bs h (fun x1=>⟨[(42,pN x1),(41,pN (d.n:Int)),(40,.p (vSl 1 (cL 2 A0) d)),(4,.p (.ptr (A5 f))),(3,.p (.ptr (A5 j))),(2,.p (vSl 1 (cL 2 A0) d))],[]⟩) (ids:=[]) (fun _ _ _ _ _ q x1 hb2 h=>?_);apply kI Z h<;>intro h
  .obtain⟨c15,h⟩:=H1 h;obtain⟨y5,e5,h⟩:=B6 h;refine B7 Z [] c15 (Bh Z Y e5) ?_;apply kI Z h<;>intro h
   .cases h;exact kR Z
   exact hb2 _ [] _ (wrap .i64 (x1+1)) Bs h
  refine kC Z h (CC Z Y) (fun y6 h=>?_);refine kC Z h (CC Z Y) (fun y7 h=>?_);apply kI Z h<;>intro h
  .cases h;exact kR Z
  refine Y8 Z Bs h (fun x6=>⟨[(71,pN x6),(70,pN (d.n:Int)),(69,.p (vSl 1 (cL 2 A0) d)),(16,.vec 62000),(14,.vec 56000),(4,.p (.ptr (A5 f))),(3,.p (.ptr (A5 j)))],[(62000,.vec C0 1 y7.1.n (fun i=>cI .i64 (y7.1.g i)) true),(56000,.vec C0 1 y6.1.n (fun i=>cI .i64 (y6.1.g i)) true)]⟩) (ids:=[(56000,56000),(62000,62000)]) (fun _ _ _ _ _ r x6 a1 h=>?_);apply kI Z h<;>intro h
  .obtain⟨c59,h⟩:=H1 h;refine G8 Z c59 [(0,.n),(3,.n)] ?_;obtain⟨m,e24,h⟩:=B6 h;refine HP [] Dq (CF Z Y e24) ?_;obtain⟨o,e25,h⟩:=B6 h;refine HP [] Dq (CF Z Y e25) ?_;refine K0 Bs ?_;refine Y8 Z Bs h (fun c=>⟨[(83,pN c),(82,pN (y6.1.n:Int)),(71,pN x6),(70,pN (d.n:Int)),(69,.p (vSl 1 (cL 2 A0) d)),(21,.vec 81000),(20,.vec 78000),(16,.vec 62000),(14,.vec 56000),(4,.p (.ptr (A5 f))),(3,.p (.ptr (A5 j)))],[(81000,.vec D6 2 o.n (fun i=>G9 (o.g i)) true),(78000,.vec D6 2 m.n (fun i=>G9 (m.g i)) true),(62000,.vec C0 1 y7.1.n (fun i=>cI .i64 (y7.1.g i)) true),(56000,.vec C0 1 y6.1.n (fun i=>cI .i64 (y6.1.g i)) true)]⟩) (ids:=[(56000,56000),(62000,62000),(78000,78000),(81000,81000)]) (fun _ _ _ _ _ s c a2 h=>?_);apply kI Z h<;>intro h
   .refine G8 Z Bs [(3,.l [56000]),(4,.l [56000]),(5,.l [78000]),(6,.l [78000]),(10,.l [62000]),(11,.l [62000]),(12,.l [81000]),(13,.l [81000]),(14,.a [24000]),(15,.a [25000]),(16,.a [24000]),(17,.a [25000])] ?_;obtain⟨c73,h⟩:=H1 h;refine K0 (And.intro (And.intro (And.intro (And.intro (And.intro (And.intro (And.intro (And.intro (And.intro c73.1.1.1.1.1.1.1 c73.1.1.1.1.1.1.2) c73.1.1.1.1.1.2) Dn) c73.1.1.1.1.2) c73.1.1.1.2) c73.1.1.2) c73.1.2) Dn) c73.2) ?_;refine J0 Z Bs 100 24000 [vSl 2 A0 (m.g (y6.1.g c.toNat).toNat).w,pI .i64 (m.g (y6.1.g c.toNat).toNat).e] ?_;refine J0 Z Bs 100 25000 [vSl 2 A0 (o.g (y7.1.g c.toNat).toNat).w,pI .i64 (o.g (y7.1.g c.toNat).toNat).e] ?_;refine Lm Z Bs (B2 Z) h 0 (fun z9=>⟨[(112,pB z9),(83,pN c),(82,pN (y6.1.n:Int)),(71,pN x6),(70,pN (d.n:Int)),(69,.p (vSl 1 (cL 2 A0) d)),(21,.vec 81000),(20,.vec 78000),(16,.vec 62000),(14,.vec 56000),(4,.p (.ptr (A5 f))),(3,.p (.ptr (A5 j)))],[(81000,.vec D6 2 o.n (fun i=>G9 (o.g i)) true),(78000,.vec D6 2 m.n (fun i=>G9 (m.g i)) true),(62000,.vec C0 1 y7.1.n (fun i=>cI .i64 (y7.1.g i)) true),(56000,.vec C0 1 y6.1.n (fun i=>cI .i64 (y6.1.g i)) true)]⟩) (fun M9 k9 x h=>?_) (fun z9 h=>?_)
    .refine kG Z h (fun h=>?_) (fun h=>?_)
     .exact x _ [(56000,56000),(62000,62000),(78000,78000),(81000,81000)] _ true Bs h
     refine kC Z h (My Z Y) (fun u h=>?_);exact x _ [(56000,56000),(62000,62000),(78000,78000),(81000,81000)] _ (!u) Bs h
    apply kI Z h<;>intro h
    .cases h;exact kR Z
    exact a2 _ [(56000,56000),(62000,62000),(78000,78000),(81000,81000)] _ (wrap .i64 (c+1)) Bs h
   exact a1 _ [(56000,56000),(62000,62000)] _ (wrap .i64 (x6+1)) Bs h
  cases h;exact kR Z
 exact Ba hi (by omega)
end Go.AM
namespace Go.AM
open Go.Proofs.Tryz
variable {N:Nat}
open IntKind (wrap)
open Go.Proofs
set_option maxRecDepth 10000
set_option maxHeartbeats 2000000
variable {S:O7}(Z:E7 S Tryz.prog) (Y:GK S)
theorem Vz {T:Type}{e:TypeId}{k:Nat}{c:T->List PV}{X:Sl (Sl T)}{z:Sl T}:∀q,q<X.n+1->(fun q=>if q=X.n then DE e k c z else DE e k c (X.g q)) q=(fun q=>DE e k c ((X.push z).g q)) q:=fun q a=>by
 show (if q=X.n then DE e k c z else DE e k c (X.g q))=DE e k c (if q<X.n then X.g q else z);by_cases h:q=X.n
 .rw[Au h,Ay (by omega)]
 rw[Ay h,Au (by omega)]
theorem Ur {T:Type}{e:TypeId}{k n i:Nat}{c:T->List PV}{X:Sl (Sl T)}{z:Sl T}:∀q,q<n->(Lk (if q=i then DE e k c z else if q=i then Obj.dead else DE e k c (X.g q))).isSome=true:=fun q _=>by
 by_cases h:q=i
 .rw[Au h];rfl
 rw[Ay h,Ay h];rfl
theorem VA {T:Type}{e:TypeId}{k n i:Nat}{c:T->List PV}{X:Sl (Sl T)}{z:Sl T}:∀q,q<n->[(Lk (if q=i then DE e k c z else if q=i then Obj.dead else DE e k c (X.g q))).getD default]=cL k c ((X.upd i z).g q):=fun q _=>by
 show _=cL k c (if q=i then z else X.g q);by_cases h:q=i
 .rw[Au h,Au h];rfl
 rw[Ay h,Ay h,Ay h];rfl
include Z Y
def F9 (N:Nat)(s:Sl C8):Option (Sl C8):=if (0+s.n)*24<=140737488355328/\0+s.n<=140737488355328 then some s else none
theorem U4 {s y:Sl C8}(h:F9 N s=some y):FunO S J6 [.p (vSl 2 A9 s)] [] (.vec 0) [.vec E2 2 y.n (fun i=>A9 (y.g i)) true] []:=by
 unfold F9 at h;obtain⟨c1,h⟩:=H1 h;obtain rfl:=C6 h;refine A4 Z func72 ?_;refine QP Z Bs 3 (k:=2) (n:=s.n) (f:=fun i=>A9 (s.g i)) (fun a=>?_) ?_
 .obtain⟨n,g⟩:=s;obtain rfl:n=0:=a;exact A6 Z Bs ⟨[(2,.vec 3700)],[(3700,.vec E2 2 0 (fun i=>A9 (g i)) true)]⟩ [3700] (ids:=[]) ⟨rfl,rfl,rfl⟩
 exact A6 Z (And.intro Gf c1) ⟨[(2,.vec 8000)],[(8000,.vec E2 2 s.n (fun i=>A9 (s.g i)) true)]⟩ [8000] (ids:=[(8000,8000)]) ⟨rfl,rfl,rfl⟩
  (hle:=klR [(0,.fn (0+s.n) s.n (V7 0 (B8 [pI .i64 0,.str []] []) (fun i=>A9 (s.g i))) (fun i=>A9 (s.g i)))] (al1 ⟨WG _,fun i _=>by simp[V7]⟩ al0))
def M0 (N:Nat)(s:Sl Int):Option (Sl Int):=if (0+s.n)*8<=140737488355328/\0+s.n<=140737488355328 then some s else none
theorem BI {s y:Sl Int}(h:M0 N s=some y):FunO S S7 [.p (vSl 1 (cI .i64) s)] [] (.vec 0) [.vec C0 1 y.n (fun i=>cI .i64 (y.g i)) false] []:=by
 unfold M0 at h;obtain⟨c1,h⟩:=H1 h;obtain rfl:=C6 h;refine A4 Z func74 ?_;refine QP Z Bs 3 (k:=1) (n:=s.n) (f:=fun i=>cI .i64 (s.g i)) (fun a=>?_) ?_
 .obtain⟨n,g⟩:=s;obtain rfl:n=0:=a;exact A6 Z Bs ⟨[(2,.vec 3700)],[(3700,.vec C0 1 0 (fun i=>cI .i64 (g i)) false)]⟩ [3700] (ids:=[]) ⟨rfl,rfl,rfl⟩
 exact A6 Z (And.intro Gf c1) ⟨[(2,.vec 8000)],[(8000,.vec C0 1 s.n (fun i=>cI .i64 (s.g i)) false)]⟩ [8000] (ids:=[(8000,8000)]) ⟨rfl,rfl,rfl⟩
  (hle:=klR [(0,.fn (0+s.n) s.n (V7 0 (B8 [pI .i64 0] []) (fun i=>cI .i64 (s.g i))) (fun i=>cI .i64 (s.g i)))] (al1 ⟨WG _,fun i _=>by simp[V7]⟩ al0))
def O2 (N:Nat)(c:B1)(b:Int)(a:Int):Option (B1×Int):= (D5 N c).bind fun y1=>if (y1 != 0) then some ((⟨(Sl.nil:Sl C8),(Sl.nil:Sl Law),(Sl.nil:Sl (Sl Int))⟩:B1),y1) else (T4 N c b).bind fun y2=>if ((!y2)=false->((decide (a<0))=false->((0:Int)<=b/\b<(c.On.n:Int))))then if (((!y2)||(decide (a<0)))||(decide ((wrap .i64 (((c.On.g b.toNat).n:Int)-1))<=a))) then some ((⟨(Sl.nil:Sl C8),(Sl.nil:Sl Law),(Sl.nil:Sl (Sl Int))⟩:B1),3) else (F9 N c.Tree).bind fun y3=>Eg N (fun d (x1:Sl Law) (x2:Int)=>if (decide (x2<(c.Laws.n:Int))) then if ((0:Int)<=x2/\x2<(c.Laws.n:Int))then (T8 N (c.Laws.g x2.toNat)).bind fun y6=>if ((x1.n+(Sl.of [y6]:Sl Law).n)*200<=140737488355328/\x1.n+(Sl.of [y6]:Sl Law).n<=140737488355328)then d (x1.push y6) (wrap .i64 (x2+1)) else none else none else Eg N (fun f (x3:Sl (Sl Int)) (x4:Int)=>if (decide (x4<(c.On.n:Int))) then if ((0:Int)<=x4/\x4<(c.On.n:Int))then (M0 N (c.On.g x4.toNat)).bind fun y9=>if ((x3.n+(Sl.of [y9]:Sl (Sl Int)).n)*24<=140737488355328/\x3.n+(Sl.of [y9]:Sl (Sl Int)).n<=140737488355328)then f (x3.push y9) (wrap .i64 (x4+1)) else none else none else if b.toNat<x3.n then if (((0:Int)<=b/\b<(x3.n:Int))/\((0:Int)<=a/\a<((x3.g b.toNat).n:Int))/\((0:Int)<=(wrap .i64 (a+1))/\(wrap .i64 (a+1))<((x3.g b.toNat).n:Int)))then some ((⟨y3,x1,x3.upd b.toNat (((x3.g b.toNat).upd a.toNat ((x3.g b.toNat).g (wrap .i64 (a+1)).toNat)).upd (wrap .i64 (a+1)).toNat ((x3.g b.toNat).g a.toNat))⟩:B1),0) else none else none) (Sl.nil:Sl (Sl Int)) 0) (Sl.nil:Sl Law) 0 else none
theorem Y5 {j:B1}{f:Int}{d:Int}{y:B1×Int}(h:O2 N j f d=some y) :FunO S Ej [.p (.agg (A5 j)),pN f,pN d] [] (.tup [.p (.agg (A5 y.1)),pN y.2]) ([]) []:=by
 unfold O2 at h;refine A4 Z func27 ?_;refine J0 Z Bs 6 4000 (A5 j) ?_;obtain⟨y1,e1,h⟩:=B6 h;refine B7 Z [] Dq (J8 Z Y e1) ?_;apply kI Z h<;>intro h
 .obtain rfl:=C6 h;exact A6 Z Bs ⟨[(7,pN y1),(6,.reg 7000 0)],[(7000,.cells [.p (vSl 2 A9 (Sl.nil:Sl C8)),.p (vSl 18 A8 (Sl.nil:Sl Law)),.p (vSl 1 (cL 1 (cI .i64)) (Sl.nil:Sl (Sl Int)))])]⟩ [] (ids:=[(7000,7000)]) ⟨rfl,rfl,rfl⟩
 obtain⟨y2,e2,h⟩:=B6 h;refine B7 Z [] Dq (BF Z Y e2) ?_;obtain⟨c2,h⟩:=H1 h;refine kB Z (B2 Z) Bs c2 14 (.o (.o (.a (!y2)) (.a (decide (d<0)))) (.a (decide ((wrap .i64 (((j.On.g f.toNat).n:Int)-1))<=d)))) ?_;apply kI Z h<;>intro h
 .obtain rfl:=C6 h;exact A6 Z Bs ⟨[(7,pN 3),(6,.reg 7000 0)],[(7000,.cells [.p (vSl 2 A9 (Sl.nil:Sl C8)),.p (vSl 18 A8 (Sl.nil:Sl Law)),.p (vSl 1 (cL 1 (cI .i64)) (Sl.nil:Sl (Sl Int)))])]⟩ [] (ids:=[(7000,7000)]) ⟨rfl,rfl,rfl⟩
 refine kC Z h (U4 Z Y) (fun y3 h=>?_);refine N4 Z Bs h (fun x1 x2=>⟨[(48,pN x2),(47,pN (j.Laws.n:Int)),(46,.p (vSl 18 A8 j.Laws)),(9,.reg 10000 0),(6,.reg 7000 0),(3,.p (.ptr (A5 j))),(2,pN d),(1,pN f)],[(44000,.vec E2 2 y3.n (fun i=>A9 (y3.g i)) true),(10500,.vec K6 18 x1.n (fun i=>A8 (x1.g i)) false),(10000,.cells [.vec 44000,.vec 10500,.p E3]),(7000,.cells [.p E3,.p E3,.p E3])]⟩) (ids:=[(7000,7000),(10000,10000),(44000,44000)]) (fun _ _ _ _ _ m x1 x2 r h=>?_);apply kI Z h<;>intro h
 .obtain⟨c11,h⟩:=H1 h;refine Uc Z (And.intro c11 Fx) 12000 (A8 (j.Laws.g x2.toNat)) ?_;refine I8 Z Bs [2,3] ?_;obtain⟨y6,e6,h⟩:=B6 h;refine Y9 Fx (CS Z Y e6) ?_;refine Bq Bs (x:=.sl true 18 1 (B8 [.str [],pI .i64 0,pI .u32 0,pI .u32 0,.v (.bool false),pI .i64 0,pI .i64 0,E3,pI .i64 0,pI .u32 0,pI .u32 0,.v (.bool false),pI .i64 0,pI .i64 0,E3,E3,E3,pI .i64 0] [(0,A8 y6)])) ?_;obtain⟨c12,h⟩:=H1 h;refine K0 c12 ?_;exact r _ [(7000,7000),(10000,10000),(10500,58000),(44000,44000)] _ (x1.push y6) (wrap .i64 (x2+1)) Bs h (hle:=klR [(7,.fn (x1.n+1) (x1.push y6).n (V7 x1.n (fun i=>A8 (x1.g i)) (B8 [.str [],pI .i64 0,pI .u32 0,pI .u32 0,.v (.bool false),pI .i64 0,pI .i64 0,E3,pI .i64 0,pI .u32 0,pI .u32 0,.v (.bool false),pI .i64 0,pI .i64 0,E3,E3,E3,pI .i64 0] [(0,A8 y6)])) (fun i=>A8 ((x1.push y6).g i)))] (al1 ⟨rfl,MI (c:=A8) (v:=x1) (x:=y6) (z:=[(.str []),pI .i64 0,pI .u32 0,pI .u32 0,.v (.bool false),pI .i64 0,pI .i64 0,E3,pI .i64 0,pI .u32 0,pI .u32 0,.v (.bool false),pI .i64 0,pI .i64 0,E3,E3,E3,pI .i64 0]) same rfl rfl⟩ al0))
 refine J5 Z Bs 60 ⟨[(9,.reg 10000 0),(6,.reg 7000 0),(3,.p (.ptr (A5 j))),(2,pN d),(1,pN f)],[(44000,.vec E2 2 y3.n (fun i=>A9 (y3.g i)) true),(10501,.vec T7 1 0 (fun _=>[]) false),(10500,.vec K6 18 x1.n (fun i=>A8 (x1.g i)) false),(10000,.cells [.vec 44000,.vec 10500,.vec 10501]),(7000,.cells [.p E3,.p E3,.p E3])]⟩ (ids:=[(7000,7000),(10000,10000),(10500,10500),(44000,44000)]) ?_;refine Fu Z Bs 60 (.fam 10501 10901 fun i=>DE C0 1 (cI .i64) ((Sl.nil:Sl (Sl Int)).g i)) (⟨by decide,fun i u=>Ba u (XV i)⟩:1000<=10901/\∀i,i<0->NT ((fun _=>[]) i) (DE C0 1 (cI .i64) ((Sl.nil:Sl (Sl Int)).g i))) ?_;refine N4 Z Bs h (fun x3 x4=>⟨[(63,pN x4),(62,pN (j.On.n:Int)),(61,.p (vSl 1 (cL 1 (cI .i64)) j.On)),(9,.reg 10000 0),(6,.reg 7000 0),(2,pN d),(1,pN f)],[(44000,.vec E2 2 y3.n (fun i=>A9 (y3.g i)) true),(10901,.rows x3.n fun i=>DE C0 1 (cI .i64) (x3.g i)),(10501,.fam T7 x3.n 10901 none),(10500,.vec K6 18 x1.n (fun i=>A8 (x1.g i)) false),(10000,.cells [.vec 44000,.vec 10500,.vec 10501]),(7000,.cells [.p E3,.p E3,.p E3])]⟩) (ids:=[(7000,7000),(10000,10000),(10500,10500),(10501,10501),(10901,10901),(44000,44000)]) (fun _ _ _ _ _ s x3 x4 t h=>?_);apply kI Z h<;>intro h
 .obtain⟨c20,h⟩:=H1 h;refine G8 Z c20 [(1,.l [10000]),(3,.b [71000]),(4,.b [72000,71000])] ?_;obtain⟨y9,e9,h⟩:=B6 h;refine HP [] Bs (BI Z Y e9) ?_;obtain⟨c21,h⟩:=H1 h;refine K0 c21 ?_;refine Fu Z Bs 74 (.psh 73000 10902) (⟨by decide,rfl,rfl⟩:1000<=10902/\x3.n+1=x3.n+1/\x3.n=x3.n) ?_;exact t _ [(7000,7000),(10000,10000),(10500,10500),(10501,73000),(10901,10902),(44000,44000)] _ (x3.push y9) (wrap .i64 (x4+1)) Bs h (hle:=klR [(7,.ob (x3.n+1) (fun q=>if q=x3.n then DE C0 1 (cI .i64) y9 else DE C0 1 (cI .i64) (x3.g q)) (fun i=>DE C0 1 (cI .i64) ((x3.push y9).g i)))] (al1 Vz al0))
 obtain⟨cT,h⟩:=H1 h;obtain⟨⟨c30,c31,c32⟩,h⟩:=H1 h;refine Fu Z Bs 75 (.take 10501 f.toNat 10801) (⟨⟨by decide,rfl⟩,cT⟩:(1000<=10801/\x3.n=x3.n)/\f.toNat<x3.n) ?_;refine G8 Z (And.intro c30 (And.intro cT (rfl:f.toNat=f.toNat))) [(8,.l [10801]),(9,.l [10801]),(12,.l [10801]),(13,.l [10801]),(14,.l [10801]),(15,.a [10801]),(16,.l [10801]),(17,.a [10801])] ?_;have l1:(wrap .i64 (d+1)).toNat<(x3.g f.toNat).n:=by omega
 have l2:d.toNat<(x3.g f.toNat).n:=by omega
 refine K0 (And.intro (And.intro (And.intro (And.intro (And.intro (And.intro (And.intro c32 l1) c31) l2) c31) (And.intro (rfl:(1:Nat)=1) (And.intro l2 Di))) c32) (And.intro (rfl:(1:Nat)=1) (And.intro l1 Di))) ?_;refine J5 Z Bs 96 ⟨[(9,.reg 10000 0),(6,.reg 7000 0)],[(44000,.vec E2 2 y3.n (fun i=>A9 (y3.g i)) true),(10901,(.rows x3.n fun l=>if l=f.toNat then .dead else DE C0 1 (cI .i64) (x3.g l))),(10801,DE C0 1 (cI .i64) (((x3.g f.toNat).upd d.toNat ((x3.g f.toNat).g (wrap .i64 (d+1)).toNat)).upd (wrap .i64 (d+1)).toNat ((x3.g f.toNat).g d.toNat))),(10501,.fam T7 x3.n 10901 (some (f.toNat,.vec 10801))),(10500,.vec K6 18 x1.n (fun i=>A8 (x1.g i)) false),(10000,.cells [.vec 44000,.vec 10500,.vec 10501]),(7000,.cells [.p E3,.p E3,.p E3])]⟩ (ids:=[(7000,7000),(10000,10000),(10500,10500),(10501,10501),(10801,10801),(10901,10901),(44000,44000)]) ?_ (hle:=klR [(3,.fn (x3.g f.toNat).n (((x3.g f.toNat).upd d.toNat ((x3.g f.toNat).g (wrap .i64 (d+1)).toNat)).upd (wrap .i64 (d+1)).toNat ((x3.g f.toNat).g d.toNat)).n (fun l=>if l=(wrap .i64 (d+1)).toNat then splice ((fun l=>if l=d.toNat then splice ((fun i=>cI .i64 ((x3.g f.toNat).g i)) l) 0 [pI .i64 ((x3.g f.toNat).g (wrap .i64 (d+1)).toNat)]else (fun i=>cI .i64 ((x3.g f.toNat).g i)) l) l) 0 [pI .i64 ((x3.g f.toNat).g d.toNat)]else (fun l=>if l=d.toNat then splice ((fun i=>cI .i64 ((x3.g f.toNat).g i)) l) 0 [pI .i64 ((x3.g f.toNat).g (wrap .i64 (d+1)).toNat)]else (fun i=>cI .i64 ((x3.g f.toNat).g i)) l) l) (fun i=>cI .i64 ((((x3.g f.toNat).upd d.toNat ((x3.g f.toNat).g (wrap .i64 (d+1)).toNat)).upd (wrap .i64 (d+1)).toNat ((x3.g f.toNat).g d.toNat)).g i)))] (al1 ⟨rfl,Uy (c:=cI .i64) (v:=(x3.g f.toNat).upd d.toNat ((x3.g f.toNat).g (wrap .i64 (d+1)).toNat)) (x:=(x3.g f.toNat).g d.toNat) (Uy (c:=cI .i64) (v:=x3.g f.toNat) (x:=(x3.g f.toNat).g (wrap .i64 (d+1)).toNat) same (fun _=>by first|rfl|(dsimp only;split<;>rfl))) (fun _=>by first|rfl|(dsimp only;split<;>rfl))⟩ al0));refine Fu Z Bs 96 (.put 10501 10902) (⟨⟨by decide,rfl⟩,cT⟩:(1000<=10902/\x3.n=x3.n)/\f.toNat<x3.n) ?_;refine Fu Z Bs 96 (.pub 10501) (⟨rfl,Ur⟩:x3.n=x3.n/\∀q,q<x3.n->(Lk (if q=f.toNat then DE C0 1 (cI .i64) (((x3.g f.toNat).upd d.toNat ((x3.g f.toNat).g (wrap .i64 (d+1)).toNat)).upd (wrap .i64 (d+1)).toNat ((x3.g f.toNat).g d.toNat))else if q=f.toNat then Obj.dead else DE C0 1 (cI .i64) (x3.g q))).isSome=true) ?_;obtain rfl:=C6 h;exact A6 Z Bs ⟨[(7,pN 0),(6,.reg 7000 0)],[(7000,.cells [.p (vSl 2 A9 y3),.p (vSl 18 A8 x1),.p (vSl 1 (cL 1 (cI .i64)) (x3.upd f.toNat (((x3.g f.toNat).upd d.toNat ((x3.g f.toNat).g (wrap .i64 (d+1)).toNat)).upd (wrap .i64 (d+1)).toNat ((x3.g f.toNat).g d.toNat))))])]⟩ [] (ids:=[(7000,7000)]) ⟨rfl,rfl,rfl⟩ (hle:=klR [(3,.fn x3.n (x3.upd f.toNat (((x3.g f.toNat).upd d.toNat ((x3.g f.toNat).g (wrap .i64 (d+1)).toNat)).upd (wrap .i64 (d+1)).toNat ((x3.g f.toNat).g d.toNat))).n (fun q=>[(Lk (if q=f.toNat then DE C0 1 (cI .i64) (((x3.g f.toNat).upd d.toNat ((x3.g f.toNat).g (wrap .i64 (d+1)).toNat)).upd (wrap .i64 (d+1)).toNat ((x3.g f.toNat).g d.toNat))else if q=f.toNat then Obj.dead else DE C0 1 (cI .i64) (x3.g q))).getD default]) (fun i=>cL 1 (cI .i64) ((x3.upd f.toNat (((x3.g f.toNat).upd d.toNat ((x3.g f.toNat).g (wrap .i64 (d+1)).toNat)).upd (wrap .i64 (d+1)).toNat ((x3.g f.toNat).g d.toNat))).g i)))] (al1 ⟨rfl,VA⟩ al0))
end Go.AM
namespace Go.AM
open Go.Proofs
set_option maxRecDepth 10000
set_option maxHeartbeats 2000000
variable {S:O7}(Z:E7 S Tryz.prog) (Y:GK S)
include Z Y
end Go.AM
namespace Go.AM
open Go.Proofs
set_option maxRecDepth 10000
set_option maxHeartbeats 2000000
variable {S:O7}(Z:E7 S Tryz.prog) (Y:GK S)
include Z Y
end Go.AM
namespace Go.AM
open Go.Proofs
set_option maxRecDepth 10000
set_option maxHeartbeats 2000000
variable {S:O7}(Z:E7 S Tryz.prog) (Y:GK S)
include Z Y
def EV (N:Nat)  : Option Bool:= (L0 N ).bind fun y1=>(U3 N ).bind fun y2=>(Gk N ).bind fun y3=>(U3 N ).bind fun y4=>(O1 N y1 3).bind fun y5=>(N5 N y1 (Sl.of [y2,y3,y4]:Sl A1) 3).bind fun y6=>(Af N y1 (Sl.of [y2,y3,y4]:Sl A1)).bind fun y7=>(Q3 N y1 1).bind fun y8=>(O2 N y1 2 0).bind fun y9=>(N5 N y9.1 (Sl.of [y2,y3,y4]:Sl A1) 2).bind fun a=>(T5 N y1 y9.1 (Sl.of [(Sl.of [y2,y3,y4]:Sl A1)]:Sl (Sl A1))).bind fun b=>lt (fun (z1:Bool)=>some z1) fun k1=>if (y5.2==0) then if (y6.2==0) then if (y7.2==0) then if (y8.2==0) then if (y9.2==0) then if (a.2==0) then if (b.2==0) then (X7 N y5.1 (Sl.of [0,1]:Sl Int)).bind fun c=>if c then (U3 N ).bind fun d=>(ET N ).bind fun f=>(U1 N y6.1 (Sl.of [d,f]:Sl A1)).bind fun g=>if g then (U3 N ).bind fun i=>(Gk N ).bind fun j=>(U3 N ).bind fun l=>(ET N ).bind fun m=>(U3 N ).bind fun n=>(ET N ).bind fun o=>(U3 N ).bind fun q=>(EU N y7.1 (Sl.of [(Sl.of [i,j]:Sl A1),(Sl.of [l,m]:Sl A1),(Sl.of [n,o,q]:Sl A1)]:Sl (Sl A1))).bind fun r=>if r then (X7 N y8.1 (Sl.of [2,3]:Sl Int)).bind fun s=>if s then (U3 N ).bind fun t=>(ET N ).bind fun u=>(U1 N a.1 (Sl.of [t,u]:Sl A1)).bind fun v=>if v then k1 (!b.1) else k1 false else k1 false else k1 false else k1 false else k1 false else k1 false else k1 false else k1 false else k1 false else k1 false else k1 false else k1 false
theorem NQ {N:Nat}    {y:Bool}(h:EV N  = some y) :FunO S HV [] [] (pB y) ([]) []:=by
 unfold EV at h;refine A4 Z Tryz.func13 ?_;refine kC Z h (CE Z Y) (fun y1 h=>?_);refine kC Z h (X8 Z Y) (fun y2 h=>?_);refine kC Z h (Lh Z Y) (fun y3 h=>?_);refine kC Z h (X8 Z Y) (fun y4 h=>?_);obtain⟨y5,e5,h⟩:=B6 h;refine B7 Z [] Gf (Y3 Z Y e5) ?_;refine W9 Z Bs ⟨[(29,.vec 22000),(28,.p (.agg (A5 y1))),(4,pN y5.2),(3,.vec 25000),(2,.vec 22000),(1,.reg 2000 0)],[(25000,.vec C0 1 y5.1.n (fun i=>cI .i64 (y5.1.g i)) true),(22000,.vec B3 2 (Sl.of [y2,y3,y4]:Sl A1).n (fun i=>A0 ((Sl.of [y2,y3,y4]:Sl A1).g i)) false),(2000,.cells ((A5 y1).map .p))]⟩ (ids:=[(2000,2000),(22000,22000),(25000,25000)]) ?_ (hle:=klR [(3,.fn 3 (Sl.of [y2,y3,y4]:Sl A1).n (B8 [pI .u32 0,pI .u32 0] [(0,A0 y2),(1,A0 y3),(2,A0 y4)]) (fun i=>A0 ((Sl.of [y2,y3,y4]:Sl A1).g i)))] (al1 ⟨rfl,(fun i a=>match i,a with|0,_=>rfl|1,_=>rfl|2,_=>rfl|_+3,a=>Ba a (by omega))⟩ al0));refine kC Z h (V4 Z Y) (fun y6 h=>?_);refine kC Z h (GX Z Y) (fun y7 h=>?_);refine kC Z h (AY Z Y) (fun y8 h=>?_);refine kC Z h (Y5 Z Y) (fun y9 h=>?_);refine kC Z h (V4 Z Y) (fun q h=>?_);refine W9 Z Gf ⟨[(59,.vec 60000),(57,.p (.agg (A5 y9.1))),(56,.p (.agg (A5 y1))),(14,pN q.2),(13,.p (vSl 2 A0 q.1)),(12,pN y9.2),(10,pN y8.2),(9,.vec 42000),(8,pN y7.2),(7,.vec 37000),(6,pN y6.2),(5,.p (vSl 2 A0 y6.1)),(4,pN y5.2),(3,.vec 25000)],[(60000,.vec B0 1 (Sl.of [(Sl.of [y2,y3,y4]:Sl A1)]:Sl (Sl A1)).n (fun i=>cL 2 A0 ((Sl.of [(Sl.of [y2,y3,y4]:Sl A1)]:Sl (Sl A1)).g i)) false),(42000,.vec C0 1 y8.1.n (fun i=>cI .i64 (y8.1.g i)) true),(37000,.vec B0 1 y7.1.n (fun i=>cL 2 A0 (y7.1.g i)) true),(25000,.vec C0 1 y5.1.n (fun i=>cI .i64 (y5.1.g i)) true)]⟩ (ids:=[(25000,25000),(37000,37000),(42000,42000),(60000,60000)]) ?_ (hle:=klR [(10,.fn 1 (Sl.of [(Sl.of [y2,y3,y4]:Sl A1)]:Sl (Sl A1)).n (B8 [E3] [(0,cL 2 A0 (Sl.of [y2,y3,y4]:Sl A1))]) (fun i=>cL 2 A0 ((Sl.of [(Sl.of [y2,y3,y4]:Sl A1)]:Sl (Sl A1)).g i)))] (al1 ⟨rfl,(fun i a=>match i,a with|0,_=>rfl|_+1,a=>Ba a (by omega))⟩ al0));refine kC Z h (BH Z Y) (fun r h=>?_);refine Lm Z Bs (B2 Z) h 0 (fun z1=>⟨[(0,pB z1)],[]⟩) (fun M1 k1 b h=>?_) (fun z1 h=>?_)
 .refine kG Z h (fun h=>?_) (fun h=>?_)
  .refine kG Z h (fun h=>?_) (fun h=>?_)
   .refine kG Z h (fun h=>?_) (fun h=>?_)
    .refine kG Z h (fun h=>?_) (fun h=>?_)
     .refine kG Z h (fun h=>?_) (fun h=>?_)
      .refine kG Z h (fun h=>?_) (fun h=>?_)
       .refine kG Z h (fun h=>?_) (fun h=>?_)
        .refine W9 Z Gf ⟨[(91,.vec 92000),(90,.vec 25000),(89,.p (.v (.bool true))),(15,pB r.1),(13,.p (vSl 2 A0 q.1)),(9,.vec 42000),(7,.vec 37000),(5,.p (vSl 2 A0 y6.1))],[(92000,.vec C0 1 (Sl.of [0,1]:Sl Int).n (fun i=>cI .i64 ((Sl.of [0,1]:Sl Int).g i)) false),(42000,.vec C0 1 y8.1.n (fun i=>cI .i64 (y8.1.g i)) true),(37000,.vec B0 1 y7.1.n (fun i=>cL 2 A0 (y7.1.g i)) true),(25000,.vec C0 1 y5.1.n (fun i=>cI .i64 (y5.1.g i)) true)]⟩ (ids:=[(25000,25000),(37000,37000),(42000,42000),(92000,92000)]) ?_ (hle:=klR [(4,.fn 2 (Sl.of [0,1]:Sl Int).n (B8 [pI .i64 0] [(0,cI .i64 0),(1,cI .i64 1)]) (fun i=>cI .i64 ((Sl.of [0,1]:Sl Int).g i)))] (al1 ⟨rfl,(fun i a=>match i,a with|0,_=>rfl|1,_=>rfl|_+2,a=>Ba a (by omega))⟩ al0));refine kC Z h (CD Z Y) (fun x h=>?_);refine kG Z h (fun h=>?_) (fun h=>?_)
         .refine kC Z h (X8 Z Y) (fun s h=>?_);refine kC Z h (IF Z Y) (fun t h=>?_);refine W9 Z Gf ⟨[(98,.vec 99000),(95,.p (vSl 2 A0 y6.1)),(94,.p (.v (.bool true))),(15,pB r.1),(13,.p (vSl 2 A0 q.1)),(9,.vec 42000),(7,.vec 37000)],[(99000,.vec B3 2 (Sl.of [s,t]:Sl A1).n (fun i=>A0 ((Sl.of [s,t]:Sl A1).g i)) false),(42000,.vec C0 1 y8.1.n (fun i=>cI .i64 (y8.1.g i)) true),(37000,.vec B0 1 y7.1.n (fun i=>cL 2 A0 (y7.1.g i)) true)]⟩ (ids:=[(37000,37000),(42000,42000),(99000,99000)]) ?_ (hle:=klR [(4,.fn 2 (Sl.of [s,t]:Sl A1).n (B8 [pI .u32 0,pI .u32 0] [(0,A0 s),(1,A0 t)]) (fun i=>A0 ((Sl.of [s,t]:Sl A1).g i)))] (al1 ⟨rfl,(fun i a=>match i,a with|0,_=>rfl|1,_=>rfl|_+2,a=>Ba a (by omega))⟩ al0));refine kC Z h (AQ Z Y) (fun z h=>?_);refine kG Z h (fun h=>?_) (fun h=>?_)
          .refine kC Z h (X8 Z Y) (fun c h=>?_);refine kC Z h (Lh Z Y) (fun d h=>?_);obtain⟨f,e34,h⟩:=B6 h;refine B7 Z [] Gf (X8 Z Y e34) ?_;refine kC Z h (IF Z Y) (fun j h=>?_);obtain⟨l,e36,h⟩:=B6 h;refine B7 Z [] Gf (X8 Z Y e36) ?_;refine kC Z h (IF Z Y) (fun m h=>?_);refine kC Z h (X8 Z Y) (fun o h=>?_);refine J5 Z Gf 113 ⟨[(112,.vec 113000),(108,.vec 109000),(105,.vec 106000),(102,.vec 37000),(101,.p (.v (.bool true))),(15,pB r.1),(13,.p (vSl 2 A0 q.1)),(9,.vec 42000)],[(113000,.vec B3 2 (Sl.of [l,m,o]:Sl A1).n (fun i=>A0 ((Sl.of [l,m,o]:Sl A1).g i)) true),(109000,.vec B3 2 (Sl.of [f,j]:Sl A1).n (fun i=>A0 ((Sl.of [f,j]:Sl A1).g i)) true),(106000,.vec B3 2 (Sl.of [c,d]:Sl A1).n (fun i=>A0 ((Sl.of [c,d]:Sl A1).g i)) true),(42000,.vec C0 1 y8.1.n (fun i=>cI .i64 (y8.1.g i)) true),(37000,.vec B0 1 y7.1.n (fun i=>cL 2 A0 (y7.1.g i)) true)]⟩ (ids:=[(37000,37000),(42000,42000),(106000,106000),(109000,109000),(113000,113000)]) ?_ (hle:=klR [(3,.fn 3 (Sl.of [l,m,o]:Sl A1).n (B8 [pI .u32 0,pI .u32 0] [(0,A0 l),(1,A0 m),(2,A0 o)]) (fun i=>A0 ((Sl.of [l,m,o]:Sl A1).g i))),(4,.fn 2 (Sl.of [f,j]:Sl A1).n (B8 [pI .u32 0,pI .u32 0] [(0,A0 f),(1,A0 j)]) (fun i=>A0 ((Sl.of [f,j]:Sl A1).g i))),(5,.fn 2 (Sl.of [c,d]:Sl A1).n (B8 [pI .u32 0,pI .u32 0] [(0,A0 c),(1,A0 d)]) (fun i=>A0 ((Sl.of [c,d]:Sl A1).g i)))] (al1 ⟨rfl,(fun i a=>match i,a with|0,_=>rfl|1,_=>rfl|2,_=>rfl|_+3,a=>Ba a (by omega))⟩ (al1 ⟨rfl,(fun i a=>match i,a with|0,_=>rfl|1,_=>rfl|_+2,a=>Ba a (by omega))⟩ (al1 ⟨rfl,(fun i a=>match i,a with|0,_=>rfl|1,_=>rfl|_+2,a=>Ba a (by omega))⟩ al0))));refine W9 Z Gf ⟨[(113,.vec 114000),(102,.vec 37000),(101,.p (.v (.bool true))),(15,pB r.1),(13,.p (vSl 2 A0 q.1)),(9,.vec 42000)],[(114000,.vec B0 1 (Sl.of [(Sl.of [c,d]:Sl A1),(Sl.of [f,j]:Sl A1),(Sl.of [l,m,o]:Sl A1)]:Sl (Sl A1)).n (fun i=>cL 2 A0 ((Sl.of [(Sl.of [c,d]:Sl A1),(Sl.of [f,j]:Sl A1),(Sl.of [l,m,o]:Sl A1)]:Sl (Sl A1)).g i)) false),(42000,.vec C0 1 y8.1.n (fun i=>cI .i64 (y8.1.g i)) true),(37000,.vec B0 1 y7.1.n (fun i=>cL 2 A0 (y7.1.g i)) true)]⟩ (ids:=[(37000,37000),(42000,42000),(114000,114000)]) ?_ (hle:=klR [(3,.fn 3 (Sl.of [(Sl.of [c,d]:Sl A1),(Sl.of [f,j]:Sl A1),(Sl.of [l,m,o]:Sl A1)]:Sl (Sl A1)).n (B8 [E3] [(0,cL 2 A0 (Sl.of [c,d]:Sl A1)),(1,cL 2 A0 (Sl.of [f,j]:Sl A1)),(2,cL 2 A0 (Sl.of [l,m,o]:Sl A1))]) (fun i=>cL 2 A0 ((Sl.of [(Sl.of [c,d]:Sl A1),(Sl.of [f,j]:Sl A1),(Sl.of [l,m,o]:Sl A1)]:Sl (Sl A1)).g i)))] (al1 ⟨rfl,(fun i a=>match i,a with|0,_=>rfl|1,_=>rfl|2,_=>rfl|_+3,a=>Ba a (by omega))⟩ al0));refine kC Z h (NP Z Y) (fun a0 h=>?_);refine kG Z h (fun h=>?_) (fun h=>?_)
           .refine W9 Z Gf ⟨[(118,.vec 119000),(117,.vec 42000),(116,.p (.v (.bool true))),(15,pB r.1),(13,.p (vSl 2 A0 q.1))],[(119000,.vec C0 1 (Sl.of [2,3]:Sl Int).n (fun i=>cI .i64 ((Sl.of [2,3]:Sl Int).g i)) false),(42000,.vec C0 1 y8.1.n (fun i=>cI .i64 (y8.1.g i)) true)]⟩ (ids:=[(42000,42000),(119000,119000)]) ?_ (hle:=klR [(3,.fn 2 (Sl.of [2,3]:Sl Int).n (B8 [pI .i64 0] [(0,cI .i64 2),(1,cI .i64 3)]) (fun i=>cI .i64 ((Sl.of [2,3]:Sl Int).g i)))] (al1 ⟨rfl,(fun i a=>match i,a with|0,_=>rfl|1,_=>rfl|_+2,a=>Ba a (by omega))⟩ al0));refine kC Z h (CD Z Y) (fun a1 h=>?_);refine kG Z h (fun h=>?_) (fun h=>?_)
            .refine kC Z h (X8 Z Y) (fun u h=>?_);refine kC Z h (IF Z Y) (fun w h=>?_);refine W9 Z Gf ⟨[(125,.vec 126000),(122,.p (vSl 2 A0 q.1)),(121,.p (.v (.bool true))),(15,pB r.1)],[(126000,.vec B3 2 (Sl.of [u,w]:Sl A1).n (fun i=>A0 ((Sl.of [u,w]:Sl A1).g i)) false)]⟩ (ids:=[(126000,126000)]) ?_ (hle:=klR [(3,.fn 2 (Sl.of [u,w]:Sl A1).n (B8 [pI .u32 0,pI .u32 0] [(0,A0 u),(1,A0 w)]) (fun i=>A0 ((Sl.of [u,w]:Sl A1).g i)))] (al1 ⟨rfl,(fun i a=>match i,a with|0,_=>rfl|1,_=>rfl|_+2,a=>Ba a (by omega))⟩ al0));refine kC Z h (AQ Z Y) (fun a2 h=>?_);refine kG Z h (fun h=>?_) (fun h=>?_)
             .exact b _ [] _ (!r.1) Bs h
             exact b _ [] _ false Bs h
            exact b _ [] _ false Bs h
           exact b _ [] _ false Bs h
          exact b _ [] _ false Bs h
         exact b _ [] _ false Bs h
        exact b _ [] _ false Bs h
       exact b _ [] _ false Bs h
      exact b _ [] _ false Bs h
     exact b _ [] _ false Bs h
    exact b _ [] _ false Bs h
   exact b _ [] _ false Bs h
  exact b _ [] _ false Bs h
 cases h;exact kR Z
end Go.AM
namespace Go.AM
open Go.Proofs
set_option maxRecDepth 10000
set_option maxHeartbeats 2000000
variable {S:O7}(Z:E7 S Tryz.prog) (Y:GK S)
include Z Y
end Go.AM
namespace Go.AM
open Go.Proofs
set_option maxRecDepth 10000
set_option maxHeartbeats 2000000
variable {S:O7}(Z:E7 S Tryz.prog) (Y:GK S)
include Z Y
end Go.AM
namespace Go.AM
open Go.Proofs
set_option maxRecDepth 10000
set_option maxHeartbeats 2000000
variable {S:O7}(Z:E7 S Tryz.prog) (Y:GK S)
include Z Y
end Go.AM
namespace Go.AM
open Go.Proofs.Tryz
open Go.Proofs
set_option maxRecDepth 10000
set_option maxHeartbeats 4000000
variable {S:O7}(Z:E7 S Tryz.prog) (Y:GK S)
include Z Y
theorem Js {N:Nat}    {y:B1}(h:L0 N  = some y) :FunO S Cm [] [] (.agr [.vec 0,.vec 1,.vec 2]) [.vec E2 2 y.Tree.n (fun i=>A9 (y.Tree.g i)) false,.vec K6 18 y.Laws.n (fun i=>A8 (y.Laws.g i)) false,.vec T7 1 y.On.n (fun i=>cL 1 (cI .i64) (y.On.g i)) false] []:=by unfold L0 at h;refine A4 Z func47 ?_;refine J5 Z Gf 10 ⟨[(9,.vec 10000),(1,.reg 2000 0),(0,.reg 1000 0)],[(10000,.vec E2 2 (Sl.of [(⟨-1,[112,114,111,116,111]⟩:C8),(⟨0,[119,101,115,116]⟩:C8),(⟨0,[101,97,115,116]⟩:C8),(⟨1,[110,111,114,116,104]⟩:C8),(⟨1,[115,111,117,116,104]⟩:C8)]:Sl C8).n (fun i=>A9 ((Sl.of [(⟨-1,[112,114,111,116,111]⟩:C8),(⟨0,[119,101,115,116]⟩:C8),(⟨0,[101,97,115,116]⟩:C8),(⟨1,[110,111,114,116,104]⟩:C8),(⟨1,[115,111,117,116,104]⟩:C8)]:Sl C8).g i)) false),(2000,.cells [pN 1,pU 4,pU 0,pB false,pN 0,pN 0,.p (vSl 7 C7 (Sl.nil:Sl Pat))]),(1000,.cells [.p E3,.p E3,.p E3])]⟩ (ids:=[(1000,1000),(2000,2000),(10000,10000)]) ?_ (hle:=klR [(0,.fn 5 (Sl.of [(⟨-1,[112,114,111,116,111]⟩:C8),(⟨0,[119,101,115,116]⟩:C8),(⟨0,[101,97,115,116]⟩:C8),(⟨1,[110,111,114,116,104]⟩:C8),(⟨1,[115,111,117,116,104]⟩:C8)]:Sl C8).n (B8 [pI .i64 0,.str []] [(0,A9 (⟨-1,[112,114,111,116,111]⟩:C8)),(1,A9 (⟨0,[119,101,115,116]⟩:C8)),(2,A9 (⟨0,[101,97,115,116]⟩:C8)),(3,A9 (⟨1,[110,111,114,116,104]⟩:C8)),(4,A9 (⟨1,[115,111,117,116,104]⟩:C8))]) (fun i=>A9 ((Sl.of [(⟨-1,[112,114,111,116,111]⟩:C8),(⟨0,[119,101,115,116]⟩:C8),(⟨0,[101,97,115,116]⟩:C8),(⟨1,[110,111,114,116,104]⟩:C8),(⟨1,[115,111,117,116,104]⟩:C8)]:Sl C8).g i)))] (al1 ⟨rfl,(fun i a=>match i,a with|0,_=>rfl|1,_=>rfl|2,_=>rfl|3,_=>rfl|4,_=>rfl|_+5,a=>Ba a (by omega))⟩ al0));refine J5 Z (And.intro Gf Gf) 17 ⟨[(16,.p (vSl 6 K3 (Sl.of [(⟨0,0,(⟨1,0⟩:A1),0,0⟩:P5)]:Sl P5))),(13,.p (vSl 2 A0 (Sl.of [(⟨2,0⟩:A1)]:Sl A1))),(11,.p (.agg [pI .i64 1,pI .u32 4,pI .u32 0,.bb false,pI .i64 0,pI .i64 0,vSl 7 C7 (Sl.nil:Sl Pat)])),(10,.p (.agg [pI .i64 1,pI .u32 4,pI .u32 0,.bb false,pI .i64 0,pI .i64 0,vSl 7 C7 (Sl.nil:Sl Pat)])),(9,.vec 10000),(0,.reg 1000 0)],[(10000,.vec E2 2 (Sl.of [(⟨-1,[112,114,111,116,111]⟩:C8),(⟨0,[119,101,115,116]⟩:C8),(⟨0,[101,97,115,116]⟩:C8),(⟨1,[110,111,114,116,104]⟩:C8),(⟨1,[115,111,117,116,104]⟩:C8)]:Sl C8).n (fun i=>A9 ((Sl.of [(⟨-1,[112,114,111,116,111]⟩:C8),(⟨0,[119,101,115,116]⟩:C8),(⟨0,[101,97,115,116]⟩:C8),(⟨1,[110,111,114,116,104]⟩:C8),(⟨1,[115,111,117,116,104]⟩:C8)]:Sl C8).g i)) false),(1000,.cells [.p E3,.p E3,.p E3])]⟩ (ids:=[(1000,1000),(10000,10000)]) ?_ (hle:=klR [(0,.fn 1 (Sl.of [(⟨0,0,(⟨1,0⟩:A1),0,0⟩:P5)]:Sl P5).n (B8 [pI .i64 0,pI .u32 0,pI .u32 0,pI .u32 0,pI .u32 0,pI .i64 0] [(0,K3 (⟨0,0,(⟨1,0⟩:A1),0,0⟩:P5))]) (fun i=>K3 ((Sl.of [(⟨0,0,(⟨1,0⟩:A1),0,0⟩:P5)]:Sl P5).g i))),(1,.fn 1 (Sl.of [(⟨2,0⟩:A1)]:Sl A1).n (B8 [pI .u32 0,pI .u32 0] [(0,A0 (⟨2,0⟩:A1))]) (fun i=>A0 ((Sl.of [(⟨2,0⟩:A1)]:Sl A1).g i)))] (al1 ⟨rfl,(fun i a=>match i,a with|0,_=>rfl|_+1,a=>Ba a (by omega))⟩ (al1 ⟨rfl,(fun i a=>match i,a with|0,_=>rfl|_+1,a=>Ba a (by omega))⟩ al0)));refine J5 Z Gf 21 ⟨[(20,.p (vSl 2 A0 (Sl.of [(⟨4,0⟩:A1)]:Sl A1))),(18,.p (.agg [pI .i64 6,pI .u32 0,pI .u32 0,.v (.bool false),pI .i64 0,pI .i64 0,E3])),(17,.p (.agg [.str [118,111,105,99,105,110,103],pI .i64 1,pI .u32 4,pI .u32 0,.bb false,pI .i64 0,pI .i64 0,vSl 7 C7 (Sl.nil:Sl Pat),pI .i64 1,pI .u32 4,pI .u32 0,.bb false,pI .i64 0,pI .i64 0,vSl 7 C7 (Sl.nil:Sl Pat),vSl 2 A0 (Sl.of [(⟨2,0⟩:A1)]:Sl A1),vSl 6 K3 (Sl.of [(⟨0,0,(⟨1,0⟩:A1),0,0⟩:P5)]:Sl P5),pI .i64 1])),(9,.vec 10000),(0,.reg 1000 0)],[(10000,.vec E2 2 (Sl.of [(⟨-1,[112,114,111,116,111]⟩:C8),(⟨0,[119,101,115,116]⟩:C8),(⟨0,[101,97,115,116]⟩:C8),(⟨1,[110,111,114,116,104]⟩:C8),(⟨1,[115,111,117,116,104]⟩:C8)]:Sl C8).n (fun i=>A9 ((Sl.of [(⟨-1,[112,114,111,116,111]⟩:C8),(⟨0,[119,101,115,116]⟩:C8),(⟨0,[101,97,115,116]⟩:C8),(⟨1,[110,111,114,116,104]⟩:C8),(⟨1,[115,111,117,116,104]⟩:C8)]:Sl C8).g i)) false),(1000,.cells [.p E3,.p E3,.p E3])]⟩ (ids:=[(1000,1000),(10000,10000)]) ?_ (hle:=klR [(0,.fn 1 (Sl.of [(⟨4,0⟩:A1)]:Sl A1).n (B8 [pI .u32 0,pI .u32 0] [(0,A0 (⟨4,0⟩:A1))]) (fun i=>A0 ((Sl.of [(⟨4,0⟩:A1)]:Sl A1).g i)))] (al1 ⟨rfl,(fun i a=>match i,a with|0,_=>rfl|_+1,a=>Ba a (by omega))⟩ al0));refine HT Z Gf 23 23000 (k:=18) (n:=2) (e:=K6) (vw:=false) (B8 [.str [],pI .i64 0,pI .u32 0,pI .u32 0,.v (.bool false),pI .i64 0,pI .i64 0,E3,pI .i64 0,pI .u32 0,pI .u32 0,.v (.bool false),pI .i64 0,pI .i64 0,E3,E3,E3,pI .i64 0] [(0,[.str [118,111,105,99,105,110,103],pI .i64 1,pI .u32 4,pI .u32 0,.bb false,pI .i64 0,pI .i64 0,vSl 7 C7 (Sl.nil:Sl Pat),pI .i64 1,pI .u32 4,pI .u32 0,.bb false,pI .i64 0,pI .i64 0,vSl 7 C7 (Sl.nil:Sl Pat),vSl 2 A0 (Sl.of [(⟨2,0⟩:A1)]:Sl A1),vSl 6 K3 (Sl.of [(⟨0,0,(⟨1,0⟩:A1),0,0⟩:P5)]:Sl P5),pI .i64 1]),(1,[.str [97,112,111,99,111,112,101],pI .i64 0,pI .u32 0,pI .u32 0,.v (.bool false),pI .i64 0,pI .i64 0,E3,pI .i64 6,pI .u32 0,pI .u32 0,.v (.bool false),pI .i64 0,pI .i64 0,E3,vSl 2 A0 (Sl.of [(⟨4,0⟩:A1)]:Sl A1),E3,pI .i64 1])]) (fun i=>A8 ((Sl.of [(⟨[118,111,105,99,105,110,103],Pat.mk 1 (⟨4,0⟩:A1) false 0 0 (Sl.nil:Sl Pat).n (Sl.nil:Sl Pat).g,Pat.mk 1 (⟨4,0⟩:A1) false 0 0 (Sl.nil:Sl Pat).n (Sl.nil:Sl Pat).g,(Sl.of [(⟨2,0⟩:A1)]:Sl A1),(Sl.of [(⟨0,0,(⟨1,0⟩:A1),0,0⟩:P5)]:Sl P5),1⟩:Law),(⟨[97,112,111,99,111,112,101],Pat.mk 0 (⟨0,0⟩:A1) false 0 0 (Sl.nil:Sl Pat).n (Sl.nil:Sl Pat).g,Pat.mk 6 (⟨0,0⟩:A1) false 0 0 (Sl.nil:Sl Pat).n (Sl.nil:Sl Pat).g,(Sl.of [(⟨4,0⟩:A1)]:Sl A1),(Sl.nil:Sl P5),1⟩:Law)]:Sl Law).g i)) (fun i a=>match i,a with|0,_=>(J9 (.inl rfl) (J9 (.inl rfl) (J9 (.inl rfl) (J9 (.inl rfl) (J9 (.inl rfl) (J9 (.inl rfl) (J9 (.inl rfl) (J9 (.inl rfl) (J9 (.inl rfl) (J9 (.inl rfl) (J9 (.inl rfl) (J9 (.inl rfl) (J9 (.inl rfl) (J9 (.inl rfl) (J9 (.inl rfl) (J9 (.inl rfl) (J9 (.inl rfl) (J9 (.inl rfl) Rq))))))))))))))))))|1,_=>(J9 (.inl rfl) (J9 (.inl rfl) (J9 (.inl rfl) (J9 (.inl rfl) (J9 Uu (J9 (.inl rfl) (J9 (.inl rfl) (J9 PJ (J9 (.inl rfl) (J9 (.inl rfl) (J9 (.inl rfl) (J9 Uu (J9 (.inl rfl) (J9 (.inl rfl) (J9 PJ (J9 (.inl rfl) (J9 PJ (J9 (.inl rfl) Rq))))))))))))))))))|_+2,a=>Ba a (by omega)) ?_;refine J5 Z (And.intro (And.intro Gf Gf) Gf) 26 ⟨[(25,.vec 26000),(24,.vec 25000),(23,.vec 24000),(22,.vec 23000),(9,.vec 10000),(0,.reg 1000 0)],[(26000,.vec C0 1 (Sl.of [1]:Sl Int).n (fun i=>cI .i64 ((Sl.of [1]:Sl Int).g i)) true),(25000,.vec C0 1 (Sl.of [1,0]:Sl Int).n (fun i=>cI .i64 ((Sl.of [1,0]:Sl Int).g i)) true),(24000,.vec C0 1 (Sl.of [0]:Sl Int).n (fun i=>cI .i64 ((Sl.of [0]:Sl Int).g i)) true),(23000,.vec K6 18 (Sl.of [(⟨[118,111,105,99,105,110,103],Pat.mk 1 (⟨4,0⟩:A1) false 0 0 (Sl.nil:Sl Pat).n (Sl.nil:Sl Pat).g,Pat.mk 1 (⟨4,0⟩:A1) false 0 0 (Sl.nil:Sl Pat).n (Sl.nil:Sl Pat).g,(Sl.of [(⟨2,0⟩:A1)]:Sl A1),(Sl.of [(⟨0,0,(⟨1,0⟩:A1),0,0⟩:P5)]:Sl P5),1⟩:Law),(⟨[97,112,111,99,111,112,101],Pat.mk 0 (⟨0,0⟩:A1) false 0 0 (Sl.nil:Sl Pat).n (Sl.nil:Sl Pat).g,Pat.mk 6 (⟨0,0⟩:A1) false 0 0 (Sl.nil:Sl Pat).n (Sl.nil:Sl Pat).g,(Sl.of [(⟨4,0⟩:A1)]:Sl A1),(Sl.nil:Sl P5),1⟩:Law)]:Sl Law).n (fun i=>A8 ((Sl.of [(⟨[118,111,105,99,105,110,103],Pat.mk 1 (⟨4,0⟩:A1) false 0 0 (Sl.nil:Sl Pat).n (Sl.nil:Sl Pat).g,Pat.mk 1 (⟨4,0⟩:A1) false 0 0 (Sl.nil:Sl Pat).n (Sl.nil:Sl Pat).g,(Sl.of [(⟨2,0⟩:A1)]:Sl A1),(Sl.of [(⟨0,0,(⟨1,0⟩:A1),0,0⟩:P5)]:Sl P5),1⟩:Law),(⟨[97,112,111,99,111,112,101],Pat.mk 0 (⟨0,0⟩:A1) false 0 0 (Sl.nil:Sl Pat).n (Sl.nil:Sl Pat).g,Pat.mk 6 (⟨0,0⟩:A1) false 0 0 (Sl.nil:Sl Pat).n (Sl.nil:Sl Pat).g,(Sl.of [(⟨4,0⟩:A1)]:Sl A1),(Sl.nil:Sl P5),1⟩:Law)]:Sl Law).g i)) false),(10000,.vec E2 2 (Sl.of [(⟨-1,[112,114,111,116,111]⟩:C8),(⟨0,[119,101,115,116]⟩:C8),(⟨0,[101,97,115,116]⟩:C8),(⟨1,[110,111,114,116,104]⟩:C8),(⟨1,[115,111,117,116,104]⟩:C8)]:Sl C8).n (fun i=>A9 ((Sl.of [(⟨-1,[112,114,111,116,111]⟩:C8),(⟨0,[119,101,115,116]⟩:C8),(⟨0,[101,97,115,116]⟩:C8),(⟨1,[110,111,114,116,104]⟩:C8),(⟨1,[115,111,117,116,104]⟩:C8)]:Sl C8).g i)) false),(1000,.cells [.p E3,.p E3,.p E3])]⟩ (ids:=[(1000,1000),(10000,10000),(23000,23000),(24000,24000),(25000,25000),(26000,26000)]) ?_ (hle:=klR [(0,.fn 1 (Sl.of [1]:Sl Int).n (B8 [pI .i64 0] [(0,cI .i64 1)]) (fun i=>cI .i64 ((Sl.of [1]:Sl Int).g i))),(1,.fn 2 (Sl.of [1,0]:Sl Int).n (B8 [pI .i64 0] [(0,cI .i64 1),(1,cI .i64 0)]) (fun i=>cI .i64 ((Sl.of [1,0]:Sl Int).g i))),(2,.fn 1 (Sl.of [0]:Sl Int).n (B8 [pI .i64 0] [(0,cI .i64 0)]) (fun i=>cI .i64 ((Sl.of [0]:Sl Int).g i)))] (al1 ⟨rfl,(fun i a=>match i,a with|0,_=>rfl|_+1,a=>Ba a (by omega))⟩ (al1 ⟨rfl,(fun i a=>match i,a with|0,_=>rfl|1,_=>rfl|_+2,a=>Ba a (by omega))⟩ (al1 ⟨rfl,(fun i a=>match i,a with|0,_=>rfl|_+1,a=>Ba a (by omega))⟩ al0))));refine HT Z Gf 27 27000 (k:=1) (n:=5) (e:=T7) (vw:=false) (B8 [E3] [(0,[E3]),(1,cL 1 (cI .i64) (Sl.of [0]:Sl Int)),(2,cL 1 (cI .i64) (Sl.of [1,0]:Sl Int)),(3,cL 1 (cI .i64) (Sl.of [1]:Sl Int)),(4,[E3])]) (fun i=>cL 1 (cI .i64) ((Sl.of [Gg,(Sl.of [0]:Sl Int),(Sl.of [1,0]:Sl Int),(Sl.of [1]:Sl Int),Gg]:Sl (Sl Int)).g i)) (fun i a=>match i,a with|0,_=>Vt|1,_=>Nr _|2,_=>Nr _|3,_=>Nr _|4,_=>Vt|_+5,a=>Ba a (by omega)) ?_;obtain rfl:=C6 h;exact A6 Z Bs ⟨[(0,.reg 1000 0)],[(27000,.vec T7 1 (Sl.of [Gg,(Sl.of [0]:Sl Int),(Sl.of [1,0]:Sl Int),(Sl.of [1]:Sl Int),Gg]:Sl (Sl Int)).n (fun i=>cL 1 (cI .i64) ((Sl.of [Gg,(Sl.of [0]:Sl Int),(Sl.of [1,0]:Sl Int),(Sl.of [1]:Sl Int),Gg]:Sl (Sl Int)).g i)) false),(23000,.vec K6 18 (Sl.of [(⟨[118,111,105,99,105,110,103],Pat.mk 1 (⟨4,0⟩:A1) false 0 0 (Sl.nil:Sl Pat).n (Sl.nil:Sl Pat).g,Pat.mk 1 (⟨4,0⟩:A1) false 0 0 (Sl.nil:Sl Pat).n (Sl.nil:Sl Pat).g,(Sl.of [(⟨2,0⟩:A1)]:Sl A1),(Sl.of [(⟨0,0,(⟨1,0⟩:A1),0,0⟩:P5)]:Sl P5),1⟩:Law),(⟨[97,112,111,99,111,112,101],Pat.mk 0 (⟨0,0⟩:A1) false 0 0 (Sl.nil:Sl Pat).n (Sl.nil:Sl Pat).g,Pat.mk 6 (⟨0,0⟩:A1) false 0 0 (Sl.nil:Sl Pat).n (Sl.nil:Sl Pat).g,(Sl.of [(⟨4,0⟩:A1)]:Sl A1),(Sl.nil:Sl P5),1⟩:Law)]:Sl Law).n (fun i=>A8 ((Sl.of [(⟨[118,111,105,99,105,110,103],Pat.mk 1 (⟨4,0⟩:A1) false 0 0 (Sl.nil:Sl Pat).n (Sl.nil:Sl Pat).g,Pat.mk 1 (⟨4,0⟩:A1) false 0 0 (Sl.nil:Sl Pat).n (Sl.nil:Sl Pat).g,(Sl.of [(⟨2,0⟩:A1)]:Sl A1),(Sl.of [(⟨0,0,(⟨1,0⟩:A1),0,0⟩:P5)]:Sl P5),1⟩:Law),(⟨[97,112,111,99,111,112,101],Pat.mk 0 (⟨0,0⟩:A1) false 0 0 (Sl.nil:Sl Pat).n (Sl.nil:Sl Pat).g,Pat.mk 6 (⟨0,0⟩:A1) false 0 0 (Sl.nil:Sl Pat).n (Sl.nil:Sl Pat).g,(Sl.of [(⟨4,0⟩:A1)]:Sl A1),(Sl.nil:Sl P5),1⟩:Law)]:Sl Law).g i)) false),(10000,.vec E2 2 (Sl.of [(⟨-1,[112,114,111,116,111]⟩:C8),(⟨0,[119,101,115,116]⟩:C8),(⟨0,[101,97,115,116]⟩:C8),(⟨1,[110,111,114,116,104]⟩:C8),(⟨1,[115,111,117,116,104]⟩:C8)]:Sl C8).n (fun i=>A9 ((Sl.of [(⟨-1,[112,114,111,116,111]⟩:C8),(⟨0,[119,101,115,116]⟩:C8),(⟨0,[101,97,115,116]⟩:C8),(⟨1,[110,111,114,116,104]⟩:C8),(⟨1,[115,111,117,116,104]⟩:C8)]:Sl C8).g i)) false),(1000,.cells [.vec 10000,.vec 23000,.vec 27000])]⟩ [10000,23000,27000] (ids:=[(1000,1000),(10000,10000),(23000,23000),(27000,27000)]) ⟨rfl,rfl,rfl⟩
abbrev zL:List PV:=[(.str []),pI .i64 0,pI .u32 0,pI .u32 0,.v (.bool false),pI .i64 0,pI .i64 0,E3,pI .i64 0,pI .u32 0,pI .u32 0,.v (.bool false),pI .i64 0,pI .i64 0,E3,E3,E3,pI .i64 0]
abbrev L_ (h:B1):Nat->List PV:=fun i=>A8 (h.Laws.g i)
abbrev O_ (h:B1):Nat->List PV:=fun i=>cL 1 (cI .i64) (h.On.g i)
abbrev hO (h:B1):List Obj:=[.cells [.vec 1,.vec 2,.vec 3],.vec E2 2 h.Tree.n (fun i=>A9 (h.Tree.g i)) false,.vec K6 18 h.Laws.n (L_ h) false,.vec T7 1 h.On.n (O_ h) false]
def VB:Law:=⟨[],Pat.nil,Pat.nil,Sl.nil,Sl.nil,0⟩
abbrev hOk (S:O7)(f:FuncId)(h:B1)(a b c:PV):Prop:=FunO S f [.reg 0 0] (hO h) (.tup []) [.cells [.p a,.p b,.p c]] [true,false,false,false]
theorem w_ch1 {h:B1}:hOk S Aj h (vSl 2 A9 h.Tree) (.sl false 18 h.Laws.n (L_ h)) (.sl false 1 h.On.n (O_ h)):=by refine A4 Z func37 ?_;exact A6 Z Bs ⟨[],[(0,.cells [.p (vSl 2 A9 h.Tree),.p (.sl false 18 h.Laws.n (L_ h)),.p (.sl false 1 h.On.n (O_ h))])]⟩ [0] (ids:=[(0,0)]) ⟨rfl,rfl,rfl⟩
theorem w_ch2 {h:B1}:hOk S Ak h (.sl false 2 0 (fun _=>[])) (.sl false 18 65 (fun _=>zL)) (.sl false 1 h.On.n (O_ h)):=by refine A4 Z func38 ?_;refine G8 Z Bs [(2,.n),(5,.a [0]),(8,.a [0])] ?_;refine QT Bs (show (0:Int)<=65/\(65:Int)<=65/\(65:Int)*200<=140737488355328/\(65:Int)<=140737488355328 from by decide) (x:=.sl true 18 65 (fun _=>zL)) ?_;refine K0 Bs ?_;exact A6 Z Bs ⟨[],[(0,.cells [.p (.sl false 2 0 (fun _=>[])),.p (.sl false 18 65 (fun _=>zL)),.p (.sl false 1 h.On.n (O_ h))])]⟩ [0] (ids:=[(0,0)]) ⟨rfl,rfl,rfl⟩
theorem w_ch3 {h:B1}:hOk S Al h (vSl 2 A9 h.Tree) (.sl false 18 65 (fun _=>zL)) (.sl false 1 h.On.n (O_ h)):=by refine A4 Z func39 ?_;exact A6 Z (show (0:Int)<=65/\(65:Int)<=65/\(65:Int)*200<=140737488355328/\(65:Int)<=140737488355328 from by decide) ⟨[],[(0,.cells [.p (vSl 2 A9 h.Tree),.p (.sl false 18 65 (fun _=>zL)),.p (.sl false 1 h.On.n (O_ h))])]⟩ [0] (ids:=[(0,0)]) ⟨rfl,rfl,rfl⟩
theorem w_ch4 {h:B1}(b:0<h.Laws.n)(h1:(h.Laws.n+2)*200<=140737488355328/\h.Laws.n+2<=140737488355328):hOk S Am h (vSl 2 A9 h.Tree) (.sl false 18 (h.Laws.n+2) (V7 h.Laws.n (L_ h) (B8 zL [(0,A8 (h.Laws.g 0)),(1,zL)]))) (.sl false 1 h.On.n (O_ h)):=by
 refine A4 Z func40 ?_;refine G8 Z Bs [(4,.l [0]),(8,.l [0]),(9,.l [2]),(10,.l [2]),(12,.n),(13,.a [2,16000]),(16,.a [0])] ?_;have c:(0:Int)<=0/\(0:Int)<(h.Laws.n:Int):=by omega
 refine Bq (And.intro (And.intro c Fx) b) (x:=.sl true 18 2 (B8 zL [(0,A8 (h.Laws.g 0)),(1,zL)])) ?_;refine K0 h1 ?_;exact A6 Z Bs ⟨[],[(0,.cells [.p (vSl 2 A9 h.Tree),.p (.sl false 18 (h.Laws.n+2) (V7 h.Laws.n (L_ h) (B8 zL [(0,A8 (h.Laws.g 0)),(1,zL)]))),.p (.sl false 1 h.On.n (O_ h))])]⟩ [0] (ids:=[(0,0)]) ⟨rfl,rfl,rfl⟩
theorem w_ch5 {h:B1}(b:0<h.Laws.n)(h1:(h.Laws.n+1)*200<=140737488355328/\h.Laws.n+1<=140737488355328):hOk S An h (vSl 2 A9 h.Tree) (.sl false 18 (h.Laws.n+1) (V7 h.Laws.n (L_ h) (B8 zL [(0,A8 (h.Laws.g 0))]))) (.sl false 1 0 (fun _=>[])):=by
 refine A4 Z func41 ?_;refine G8 Z Bs [(5,.l [0]),(9,.l [0]),(10,.l [2]),(11,.l [2]),(12,.n),(13,.a [2,16000]),(16,.a [0]),(19,.a [0])] ?_;have c:(0:Int)<=0/\(0:Int)<(h.Laws.n:Int):=by omega
 refine Bq (And.intro (And.intro c Fx) b) (x:=.sl true 18 1 (B8 zL [(0,A8 (h.Laws.g 0))])) ?_;refine K0 h1 ?_;exact A6 Z Bs ⟨[],[(0,.cells [.p (vSl 2 A9 h.Tree),.p (.sl false 18 (h.Laws.n+1) (V7 h.Laws.n (L_ h) (B8 zL [(0,A8 (h.Laws.g 0))]))),.p (.sl false 1 0 (fun _=>[]))])]⟩ [0] (ids:=[(0,0)]) ⟨rfl,rfl,rfl⟩
theorem w_ch6 {h:B1}(a:(0:Int)<=4/\(4:Int)<=(h.On.n:Int)):hOk S Ao h (vSl 2 A9 h.Tree) (.sl false 18 h.Laws.n (L_ h)) (.sl false 1 (min 4 h.On.n) (O_ h)):=by refine A4 Z func42 ?_;exact A6 Z a ⟨[],[(0,.cells [.p (vSl 2 A9 h.Tree),.p (.sl false 18 h.Laws.n (L_ h)),.p (.sl false 1 (min 4 h.On.n) (O_ h))])]⟩ [0] (ids:=[(0,0)]) ⟨rfl,rfl,rfl⟩
theorem w_ch7 {h:B1}(c:0<h.On.n)(d:3<h.On.n):hOk S Ap h (vSl 2 A9 h.Tree) (.sl false 18 h.Laws.n (L_ h)) (.sl false 1 h.On.n (fun l=>if l=3 then splice ((fun l=>if l=0 then splice (O_ h l) 0 [.sl true 1 1 (B8 [pI .i64 0] [(0,[pI .i64 2])])]else O_ h l) l) 0 [.sl true 1 63 (fun _=>[pI .i64 0])]else (fun l=>if l=0 then splice (O_ h l) 0 [.sl true 1 1 (B8 [pI .i64 0] [(0,[pI .i64 2])])]else O_ h l) l)):=by
 refine A4 Z func43 ?_;refine G8 Z Bs [(3,.l [0]),(7,.l [0]),(8,.n),(9,.n),(10,.l [3]),(11,.a [3]),(12,.l [3]),(13,.a [3])] ?_;have f:(0:Int)<=0/\(0:Int)<(h.On.n:Int):=by omega
 have b:(0:Int)<=3/\(3:Int)<(h.On.n:Int):=by omega
 refine Bq Bs (x:=.sl true 1 1 (B8 [pI .i64 0] [(0,[pI .i64 2])])) ?_;refine QT Bs (show (0:Int)<=63/\(63:Int)<=63/\(63:Int)*8<=140737488355328/\(63:Int)<=140737488355328 from by decide) (x:=.sl true 1 63 (fun _=>[pI .i64 0])) ?_;refine K0 (And.intro (And.intro (And.intro f (And.intro (rfl:(1:Nat)=1) (And.intro c Di))) b) (And.intro (rfl:(1:Nat)=1) (And.intro d Di))) ?_;exact A6 Z Bs ⟨[],[(0,.cells [.p (vSl 2 A9 h.Tree),.p (.sl false 18 h.Laws.n (L_ h)),.p (.sl false 1 h.On.n (fun l=>if l=3 then splice ((fun l=>if l=0 then splice (O_ h l) 0 [.sl true 1 1 (B8 [pI .i64 0] [(0,[pI .i64 2])])]else O_ h l) l) 0 [.sl true 1 63 (fun _=>[pI .i64 0])]else (fun l=>if l=0 then splice (O_ h l) 0 [.sl true 1 1 (B8 [pI .i64 0] [(0,[pI .i64 2])])]else O_ h l) l))])]⟩ [0] (ids:=[(0,0)]) ⟨rfl,rfl,rfl⟩
theorem w_ch8 {h:B1}(b:3<h.On.n):hOk S Aq h (vSl 2 A9 h.Tree) (.sl false 18 h.Laws.n (L_ h)) (.sl false 1 h.On.n (fun l=>if l=3 then splice (O_ h l) 0 [.sl true 1 63 (fun _=>[pI .i64 0])]else O_ h l)):=by
 refine A4 Z func44 ?_;refine G8 Z Bs [(3,.l [0]),(4,.n),(5,.l [3]),(6,.a [3])] ?_;have c:(0:Int)<=3/\(3:Int)<(h.On.n:Int):=by omega
 refine QT Bs (show (0:Int)<=63/\(63:Int)<=63/\(63:Int)*8<=140737488355328/\(63:Int)<=140737488355328 from by decide) (x:=.sl true 1 63 (fun _=>[pI .i64 0])) ?_;refine K0 (And.intro c (And.intro (rfl:(1:Nat)=1) (And.intro b Di))) ?_;exact A6 Z Bs ⟨[],[(0,.cells [.p (vSl 2 A9 h.Tree),.p (.sl false 18 h.Laws.n (L_ h)),.p (.sl false 1 h.On.n (fun l=>if l=3 then splice (O_ h l) 0 [.sl true 1 63 (fun _=>[pI .i64 0])]else O_ h l))])]⟩ [0] (ids:=[(0,0)]) ⟨rfl,rfl,rfl⟩
theorem w_ch9 {h:B1}(a:0<h.On.n):hOk S Ar h (vSl 2 A9 h.Tree) (.sl false 18 h.Laws.n (L_ h)) (.sl false 1 h.On.n (fun l=>if l=0 then splice (O_ h l) 0 [.sl false 1 3 (B8 [pI .i64 0] [(0,[pI .i64 0]),(1,[pI .i64 1]),(2,[pI .i64 2])])]else O_ h l)):=by
 refine A4 Z func45 ?_;have b:(0:Int)<=0/\(0:Int)<(h.On.n:Int):=by omega
 refine J5 Z Gf 7 ⟨[(6,.p (.sl false 1 3 (B8 [pI .i64 0] [(0,[pI .i64 0]),(1,[pI .i64 1]),(2,[pI .i64 2])]))),(5,.vec 3)],[(3,.vec T7 1 h.On.n (O_ h) false),(2,.vec K6 18 h.Laws.n (L_ h) false),(1,.vec E2 2 h.Tree.n (fun i=>A9 (h.Tree.g i)) false),(0,.cells [.vec 1,.vec 2,.vec 3])]⟩ (ids:=[(0,0),(1,1),(2,2),(3,3)]) ?_;exact A6 Z (And.intro b (And.intro (rfl:(1:Nat)=1) (And.intro a Di))) ⟨[],[(0,.cells [.p (vSl 2 A9 h.Tree),.p (.sl false 18 h.Laws.n (L_ h)),.p (.sl false 1 h.On.n (fun l=>if l=0 then splice (O_ h l) 0 [.sl false 1 3 (B8 [pI .i64 0] [(0,[pI .i64 0]),(1,[pI .i64 1]),(2,[pI .i64 2])])]else O_ h l))])]⟩ [0] (ids:=[(0,0)]) ⟨rfl,rfl,rfl⟩
theorem VC {h:B1}(a:4<h.On.n):hOk S Z0 h (vSl 2 A9 h.Tree) (.sl false 18 h.Laws.n (L_ h)) (.sl false 1 h.On.n (fun l=>if l=4 then splice (O_ h l) 0 [.sl false 1 1 (B8 [pI .i64 0] [(0,[pI .i64 (-1)])])]else O_ h l)):=by
 refine A4 Z func46 ?_;have b:(0:Int)<=4/\(4:Int)<(h.On.n:Int):=by omega
 refine J5 Z Gf 7 ⟨[(6,.p (.sl false 1 1 (B8 [pI .i64 0] [(0,[pI .i64 (-1)])]))),(5,.vec 3)],[(3,.vec T7 1 h.On.n (O_ h) false),(2,.vec K6 18 h.Laws.n (L_ h) false),(1,.vec E2 2 h.Tree.n (fun i=>A9 (h.Tree.g i)) false),(0,.cells [.vec 1,.vec 2,.vec 3])]⟩ (ids:=[(0,0),(1,1),(2,2),(3,3)]) ?_;exact A6 Z (And.intro b (And.intro (rfl:(1:Nat)=1) (And.intro a Di))) ⟨[],[(0,.cells [.p (vSl 2 A9 h.Tree),.p (.sl false 18 h.Laws.n (L_ h)),.p (.sl false 1 h.On.n (fun l=>if l=4 then splice (O_ h l) 0 [.sl false 1 1 (B8 [pI .i64 0] [(0,[pI .i64 (-1)])])]else O_ h l))])]⟩ [0] (ids:=[(0,0)]) ⟨rfl,rfl,rfl⟩
end Go.AM
namespace Go.AM
open IntKind (wrap)
open Go.Proofs
set_option maxRecDepth 10000
set_option maxHeartbeats 20000000
variable {S:O7}(Z:E7 S Tryz.prog) (Y:GK S)
theorem leH {T:Sl C8}{L:Sl Law}{O:Sl (Sl Int)}{a:PV}{nL nO:Nat}{fL fO:Nat->List PV}(ha:leQ a (vSl 2 A9 T))(h1:nL=L.n)(b:∀i,i<nL->leC (fL i) (A8 (L.g i)))(c:nO=O.n)(d:∀i,i<nO->leC (fO i) (cL 1 (cI .i64) (O.g i))):leC [a,.sl false 18 nL fL,.sl false 1 nO fO] (A5 ⟨T,L,O⟩):=
 VK ha (VK (leQs h1 b) (VK (leQs c d) Rq))
theorem leZL:leC zL (A8 VB):=J9 (.inl rfl) (J9 (.inl rfl) (J9 (.inl rfl) (J9 (.inl rfl) (J9 Uu (J9 (.inl rfl) (J9 (.inl rfl) (J9 PJ (J9 (.inl rfl) (J9 (.inl rfl) (J9 (.inl rfl) (J9 Uu (J9 (.inl rfl) (J9 (.inl rfl) (J9 PJ (J9 PJ (J9 PJ (J9 (.inl rfl) Rq)))))))))))))))))
def chM (f:Nat)(h:B1):Option B1:= if f=37 then some h else if f=38 then some ⟨(Sl.nil:Sl C8),Sl.rep 65 VB,h.On⟩ else if f=39 then some ⟨h.Tree,Sl.rep 65 VB,h.On⟩ else if f=40 then if 0<h.Laws.n/\(h.Laws.n+2)*200<=140737488355328/\h.Laws.n+2<=140737488355328 then some ⟨h.Tree,(h.Laws.push (h.Laws.g 0)).push VB,h.On⟩else none else if f=41 then if 0<h.Laws.n/\(h.Laws.n+1)*200<=140737488355328/\h.Laws.n+1<=140737488355328 then some ⟨h.Tree,h.Laws.push (h.Laws.g 0),(Sl.nil:Sl (Sl Int))⟩else none else if f=42 then if (0:Int)<=4/\(4:Int)<=(h.On.n:Int)then some ⟨h.Tree,h.Laws,h.On.take 4⟩else none else if f=43 then if 0<h.On.n/\3<h.On.n then some ⟨h.Tree,h.Laws,(h.On.upd 0 (Sl.of [2])).upd 3 (Sl.rep 63 0)⟩else none else if f=44 then if 3<h.On.n then some ⟨h.Tree,h.Laws,h.On.upd 3 (Sl.rep 63 0)⟩else none else if f=45 then if 0<h.On.n then some ⟨h.Tree,h.Laws,h.On.upd 0 (Sl.of [0,1,2])⟩else none else if f=46 then if 4<h.On.n then some ⟨h.Tree,h.Laws,h.On.upd 4 (Sl.of [-1])⟩else none else none
theorem VD {O:Sl (Sl Int)}{i:Nat}{r:PV}{z:Sl Int}{f:Nat->List PV}(a:∀l,l<O.n->∃x,f l=[x]/\leC (f l) (cL 1 (cI .i64) (O.g l)))(b:leC [r] (cL 1 (cI .i64) z)):∀l,l<O.n->∃x,(fun l=>if l=i then splice (f l) 0 [r]else f l) l=[x]/\leC ((fun l=>if l=i then splice (f l) 0 [r]else f l) l) (cL 1 (cI .i64) ((O.upd i z).g l)):=fun l hl=>by
 obtain⟨x,hx,hle⟩:=a l hl;by_cases h:l=i
 .have e1:(fun l=>if l=i then splice (f l) 0 [r]else f l) l=[r]:=by show (if l=i then splice (f l) 0 [r]else f l)=_;rw[Au h,hx];rfl
  have e2:(O.upd i z).g l=z:=Au h;rw[e1,e2];exact⟨r,rfl,b⟩
 have e1:(fun l=>if l=i then splice (f l) 0 [r]else f l) l=f l:=Ay h;have e2:(O.upd i z).g l=O.g l:=Ay h;rw[e1,e2];exact⟨x,hx,hle⟩
theorem OO (O:Sl (Sl Int))(i:Nat)(r:PV)(z:Sl Int)(f:Nat->List PV)(a:∀l,l<O.n->∃x,f l=[x]/\leC (f l) (cL 1 (cI .i64) (O.g l)))(b:leC [r] (cL 1 (cI .i64) z))(l:Nat)(hl:l<O.n):leC (if l=i then splice (f l) 0 [r]else f l) (cL 1 (cI .i64) ((O.upd i z).g l)):=by obtain⟨_,_,c⟩:=VD (i:=i) a b l hl;exact c
theorem VU {h:B1}:∀l,l<h.On.n->∃x,O_ h l=[x]/\leC (O_ h l) (cL 1 (cI .i64) (h.On.g l)):=fun l _=>⟨_,rfl,Nr _⟩
theorem ME {α : Type}{p:Prop}[Decidable p]{a b:Option α}{c : α}(e:(if p then a else b)=some c):(p/\a=some c) \/ (¬p/\b=some c):=by
 by_cases hp:p
 .rw[Au hp]at e;exact .inl ⟨hp,e⟩
 rw[Ay hp]at e;exact .inr ⟨hp,e⟩
include Z Y in
theorem SE {f:Nat}{h h' : B1}(e:chM f h=some h'):∃n1 f1 n2 f2 n3 f3,leC [.sl false 2 n1 f1,.sl false 18 n2 f2,.sl false 1 n3 f3] (A5 h')/\hOk S f h (.sl false 2 n1 f1) (.sl false 18 n2 f2) (.sl false 1 n3 f3):=by
 have idL:∀i,i<h.Laws.n->leC (L_ h i) (A8 (h.Laws.g i)):=fun i _=>Nr _;have idO:∀i,i<h.On.n->leC (O_ h i) (cL 1 (cI .i64) (h.On.g i)):=fun i _=>Nr _;have idT:leQ (vSl 2 A9 h.Tree) (vSl 2 A9 h.Tree):=.p (.inl rfl);unfold chM at e;rcases ME e with⟨a,e⟩ | ⟨-,e⟩
 .have c:=a;subst c;cases e;exact⟨_,_,_,_,_,_,leH idT rfl idL rfl idO,w_ch1 Z Y⟩
 rcases ME e with⟨a,e⟩ | ⟨-,e⟩
 .have c:=a;subst c;cases e;exact⟨_,_,_,_,_,_,leH (.p (.inr (.inl ⟨_,_,_,_,_,rfl,rfl,fun i b=>Ba b (XV i)⟩))) rfl (fun i _=>leZL) rfl idO,w_ch2 Z Y⟩
 rcases ME e with⟨a,e⟩ | ⟨-,e⟩
 .have c:=a;subst c;cases e;exact⟨_,_,_,_,_,_,leH idT rfl (fun i _=>leZL) rfl idO,w_ch3 Z Y⟩
 rcases ME e with⟨a,e⟩ | ⟨-,e⟩
 .rcases ME e with⟨hc,e1⟩ | ⟨-,e1⟩
  .have e2:=Ww e1;subst e2;subst a;refine⟨_,_,_,_,_,_,leH idT rfl (fun i b=>?_) rfl idO,w_ch4 Z Y hc.1 hc.2⟩;have d : i<h.Laws.n+1+1:=b;show leC (if i<h.Laws.n then A8 (h.Laws.g i)else B8 zL [(0,A8 (h.Laws.g 0)),(1,zL)] (i-h.Laws.n)) (A8 (if i<h.Laws.n+1 then (if i<h.Laws.n then h.Laws.g i else h.Laws.g 0)else VB));by_cases h1:i<h.Laws.n
   .rw[Au h1,Au (by omega),Au h1];exact Nr _
   rw[Ay h1];by_cases j:i<h.Laws.n+1
   .rw[Au j,Ay h1,show i-h.Laws.n=0 by omega];exact Nr _
   rw[Ay j,show i-h.Laws.n=1 by omega];exact leZL
  cases e1
 rcases ME e with⟨a,e⟩ | ⟨-,e⟩
 .rcases ME e with⟨hc,e1⟩ | ⟨-,e1⟩
  .have e2:=Ww e1;subst e2;subst a;refine⟨_,_,_,_,_,_,leH idT rfl (fun i b=>?_) rfl (fun i b=>Ba b (XV i)),w_ch5 Z Y hc.1 hc.2⟩;have d : i<h.Laws.n+1:=b;show leC (if i<h.Laws.n then A8 (h.Laws.g i)else B8 zL [(0,A8 (h.Laws.g 0))] (i-h.Laws.n)) (A8 (if i<h.Laws.n then h.Laws.g i else h.Laws.g 0));by_cases h1:i<h.Laws.n
   .rw[Au h1,Au h1];exact Nr _
   rw[Ay h1,Ay h1,show i-h.Laws.n=0 by omega];exact Nr _
  cases e1
 rcases ME e with⟨a,e⟩ | ⟨-,e⟩
 .rcases ME e with⟨hc,e1⟩ | ⟨-,e1⟩
  .have e2:=Ww e1;subst e2;subst a;exact⟨_,_,_,_,_,_,leH idT rfl idL (by show min 4 h.On.n=4;omega) (fun i b=>Nr _),w_ch6 Z Y hc⟩
  cases e1
 have r2:leC [.sl true 1 1 (B8 [pI .i64 0] [(0,[pI .i64 2])])] (cL 1 (cI .i64) (Sl.of [2])):=VL rfl (fun i b=>match i,b with|0,_=>rfl|_+1,b=>Ba b (by omega));have r63:leC [.sl true 1 63 (fun _=>[pI .i64 0])] (cL 1 (cI .i64) (Sl.rep 63 0)):=VL rfl (fun _ _=>rfl);have r3:leC [.sl false 1 3 (B8 [pI .i64 0] [(0,[pI .i64 0]),(1,[pI .i64 1]),(2,[pI .i64 2])])] (cL 1 (cI .i64) (Sl.of [0,1,2])):=VL rfl (fun i b=>match i,b with|0,_=>rfl|1,_=>rfl|2,_=>rfl|_+3,b=>Ba b (by omega));have rm:leC [.sl false 1 1 (B8 [pI .i64 0] [(0,[pI .i64 (-1)])])] (cL 1 (cI .i64) (Sl.of [-1])):=VL rfl (fun i b=>match i,b with|0,_=>rfl|_+1,b=>Ba b (by omega));rcases ME e with⟨a,e⟩ | ⟨-,e⟩
 .rcases ME e with⟨hc,e1⟩ | ⟨-,e1⟩
  .have e2:=Ww e1;subst e2;subst a;exact⟨_,_,_,_,_,_,leH idT rfl idL rfl (OO (h.On.upd 0 (Sl.of [2])) 3 _ (Sl.rep 63 0) _ (VD (i:=0) (VU (h:=h)) r2) r63),w_ch7 Z Y hc.1 hc.2⟩
  cases e1
 rcases ME e with⟨a,e⟩ | ⟨-,e⟩
 .rcases ME e with⟨hc,e1⟩ | ⟨-,e1⟩
  .have e2:=Ww e1;subst e2;subst a;exact⟨_,_,_,_,_,_,leH idT rfl idL rfl (OO h.On 3 _ (Sl.rep 63 0) _ (VU (h:=h)) r63),w_ch8 Z Y hc⟩
  cases e1
 rcases ME e with⟨a,e⟩ | ⟨-,e⟩
 .rcases ME e with⟨hc,e1⟩ | ⟨-,e1⟩
  .have e2:=Ww e1;subst e2;subst a;exact⟨_,_,_,_,_,_,leH idT rfl idL rfl (OO h.On 0 _ (Sl.of [0,1,2]) _ (VU (h:=h)) r3),w_ch9 Z Y hc⟩
  cases e1
 rcases ME e with⟨a,e⟩ | ⟨-,e⟩
 .rcases ME e with⟨hc,e1⟩ | ⟨-,e1⟩
  .have e2:=Ww e1;subst e2;subst a;exact⟨_,_,_,_,_,_,leH idT rfl idL rfl (OO h.On 4 _ (Sl.of [-1]) _ (VU (h:=h)) rm),VC Z Y hc⟩
  cases e1
 cases e
def cdK (i:Nat):Int:=[0,16,12,17,6,2,2,0,3,3].getD i 0
def tbK (i:Nat):List PV:=[(.v (.func (.func (37+i)) #[] #[])),pI .i64 (cdK i)]
include Z Y
def W8 (N:Nat)  : Option Bool:= (U3 N ).bind fun y1=>(Gk N ).bind fun y2=>(U3 N ).bind fun y3=>BV N (fun c (x1:Int)=>if (decide (x1<10)) then if ((0:Int)<=x1/\x1<10)then (L0 N).bind fun l=>(chM (37+x1.toNat) l).bind fun a=>(O1 N a 9).bind fun d=>if ((0:Int)<=33/\(33:Int)<=33/\(33:Int)*8<=140737488355328/\(33:Int)<=140737488355328)then (N5 N a (Sl.rep 33 (⟨0,0⟩:A1):Sl A1) 9).bind fun f=>(Q3 N a 9).bind fun g=>if ((0:Int)<=257/\(257:Int)<=257/\(257:Int)*24<=140737488355328/\(257:Int)<=140737488355328)then (T5 N a a (Sl.rep 257 (Sl.nil:Sl A1):Sl (Sl A1))).bind fun i=>(O2 N a 9 9).bind fun j=>(D5 N a).bind fun m=>if (m != (cdK x1.toNat)) then some false else if ((((cdK x1.toNat)==0)&&(((((d.2 != 3)||(f.2 != 11))||(g.2 != 3))||(i.2 != 12))||(j.2 != 3)))||(((cdK x1.toNat) != 0)&&(((((d.2 != (cdK x1.toNat))||(f.2 != (cdK x1.toNat)))||(g.2 != (cdK x1.toNat)))||(i.2 != (cdK x1.toNat)))||(j.2 != (cdK x1.toNat))))) then some false else c (wrap .i64 (x1+1)) else none else none else none else (L0 N ).bind fun y4=>(O1 N y4 2).bind fun y5=>(O1 N y4 0).bind fun y6=>(N5 N y4 (Sl.of [y1,y2,y3]:Sl A1) 1).bind fun y7=>(N5 N y4 (Sl.of [y1,y2,y3]:Sl A1) 2).bind fun y8=>(Q3 N y4 0).bind fun y9=>(O2 N y4 1 0).bind fun o=>(O2 N y4 2 1).bind fun q=>(N5 N y4 (Sl.of [y1,y2,y3]:Sl A1) 5).bind fun r=>(L0 N ).bind fun b=>if (((0:Int)<=4/\4<=(b.Tree.n:Int))/\((0:Int)<=4/\4<=(b.On.n:Int)))then (T5 N y4 (⟨b.Tree.take 4,b.Laws,b.On.take 4⟩:B1) (Sl.nil:Sl (Sl A1))).bind fun s=>(X7 N y5.1 (Sl.of [1,0]:Sl Int)).bind fun t=>lt (fun (z1:Bool)=>some z1) fun k1=>if t then if (y5.2==0) then if ((y6.1.n:Int)==0) then if (y6.2==0) then (U3 N ).bind fun u=>(ET N ).bind fun v=>(U3 N ).bind fun w=>(U1 N y7.1 (Sl.of [u,v,w]:Sl A1)).bind fun x=>if x then if (y7.2==0) then (U3 N ).bind fun y=>(Gk N ).bind fun z=>(U1 N y8.1 (Sl.of [y,z]:Sl A1)).bind fun a0=>if a0 then if (y8.2==0) then (X7 N y9.1 (Sl.of [1,2,3,4]:Sl Int)).bind fun a1=>if a1 then if (y9.2==0) then if (o.2==3) then if (q.2==3) then if (r.2==3) then if (s.2==2) then (EV N ).bind fun a2=>k1 a2 else k1 false else k1 false else k1 false else k1 false else k1 false else k1 false else k1 false else k1 false else k1 false else k1 false else k1 false else k1 false else k1 false else k1 false else none) 0
theorem EZ {N:Nat}    {y:Bool}(h:W8 N  = some y) :FunO S V6 [] [] (pB y) ([]) []:=by
 unfold W8 at h;refine A4 Z Tryz.func9 ?_;refine kC Z h (X8 Z Y) (fun y1 h=>?_);refine kC Z h (Lh Z Y) (fun y2 h=>?_);refine kC Z h (X8 Z Y) (fun y3 h=>?_);refine Y8 Z (And.intro Gf Gf) h (fun x1=>⟨[(51,pN x1),(50,pN 10),(49,.p (.sl false 2 10 tbK)),(1,.p (vSl 2 A0 (Sl.of [y1,y2,y3]:Sl A1)))],[]⟩) (ids:=[]) (fun _ _ _ _ _ a3 x1 a4 h=>?_) (hle:=klR [(2,.fn 10 10 (B8 [.v .nilFunc,pI .i64 0] [(0,[.v (.func (.func 37) #[] #[]),pI .i64 0]),(1,[.v (.func (.func 38) #[] #[]),pI .i64 16]),(2,[.v (.func (.func 39) #[] #[]),pI .i64 12]),(3,[.v (.func (.func 40) #[] #[]),pI .i64 17]),(4,[.v (.func (.func 41) #[] #[]),pI .i64 6]),(5,[.v (.func (.func 42) #[] #[]),pI .i64 2]),(6,[.v (.func (.func 43) #[] #[]),pI .i64 2]),(7,[.v (.func (.func 44) #[] #[]),pI .i64 0]),(8,[.v (.func (.func 45) #[] #[]),pI .i64 3]),(9,[.v (.func (.func 46) #[] #[]),pI .i64 3])]) tbK),(3,.fn 3 (Sl.of [y1,y2,y3]:Sl A1).n (B8 [pI .u32 0,pI .u32 0] [(0,A0 y1),(1,A0 y2),(2,A0 y3)]) (fun i=>A0 ((Sl.of [y1,y2,y3]:Sl A1).g i)))] (al1 ⟨rfl,(fun i c=>match i,c with|0,_=>rfl|1,_=>rfl|2,_=>rfl|3,_=>rfl|4,_=>rfl|5,_=>rfl|6,_=>rfl|7,_=>rfl|8,_=>rfl|9,_=>rfl|_+10,c=>Ba c (by omega))⟩ (al1 ⟨rfl,(fun i c=>match i,c with|0,_=>rfl|1,_=>rfl|2,_=>rfl|_+3,c=>Ba c (by omega))⟩ al0)));apply kI Z h<;>intro h
 .obtain⟨c0,h⟩:=H1 h;refine J0 Z (And.intro c0 Dn) 55 4000 [.v (.func (.func (37+x1.toNat)) #[] #[]),pI .i64 (cdK x1.toNat)] ?_;obtain⟨a6,e40,h⟩:=B6 h;refine B7 Z [] Bs (Js Z Y e40) ?_;obtain⟨a7,e41,h⟩:=B6 h;obtain⟨n1,f1,n2,f2,n3,f3,d,hF⟩:=SE Z Y e41;refine B7 Z [5000,56000,56001,56002] Bs hF ?_;refine J0 Z Bs 60 5000 [.sl false 2 n1 f1,.sl false 18 n2 f2,.sl false 1 n3 f3] ?_;obtain⟨z,e51,h⟩:=B6 h;refine B7 Z [] Dq (FunO.le Z (args:=[.p (.agg [.sl false 2 n1 f1,.sl false 18 n2 f2,.sl false 1 n3 f3]),pN 9]) (by exact⟨Hm d,⟨.inl rfl,trivial⟩⟩) (Y3 Z Y e51)) ?_;refine I8 Z Bs [0] ?_;obtain⟨c1,h⟩:=H1 h;obtain⟨a0,e52,h⟩:=B6 h;refine HP [] (And.intro Dq c1) (FunO.le Z (args:=[.p (.agg [.sl false 2 n1 f1,.sl false 18 n2 f2,.sl false 1 n3 f3]),.p (.sl false 2 33 (fun _=>A0 ⟨0,0⟩)),pN 9]) (by exact⟨Hm d,⟨SQ rfl (fun _ _=>Nr _),⟨.inl rfl,trivial⟩⟩⟩) (V4 Z Y e52)) ?_;refine K0 Bs ?_;obtain⟨a1,e53,h⟩:=B6 h;refine B7 Z [] Dq (FunO.le Z (args:=[.p (.agg [.sl false 2 n1 f1,.sl false 18 n2 f2,.sl false 1 n3 f3]),pN 9]) (by exact⟨Hm d,⟨.inl rfl,trivial⟩⟩) (AY Z Y e53)) ?_;refine I8 Z Bs [0,1] ?_;obtain⟨c2,h⟩:=H1 h;obtain⟨a2,e54,h⟩:=B6 h;refine HP [] (And.intro (And.intro Dq Dq) c2) (FunO.le Z (args:=[.p (.agg [.sl false 2 n1 f1,.sl false 18 n2 f2,.sl false 1 n3 f3]),.p (.agg [.sl false 2 n1 f1,.sl false 18 n2 f2,.sl false 1 n3 f3]),.p (.sl false 1 257 (fun _=>[E3]))]) (by exact⟨Hm d,⟨Hm d,⟨SQ rfl (fun _ _=>Vt),trivial⟩⟩⟩) (BH Z Y e54)) ?_;refine K0 Bs ?_;obtain⟨w,e55,h⟩:=B6 h;refine B7 Z [] Dq (FunO.le Z (args:=[.p (.agg [.sl false 2 n1 f1,.sl false 18 n2 f2,.sl false 1 n3 f3]),pN 9,pN 9]) (by exact⟨Hm d,⟨.inl rfl,⟨.inl rfl,trivial⟩⟩⟩) (Y5 Z Y e55)) ?_;refine J0 Z Bs 14 14000 (A5 w.1) ?_;refine I8 Z Bs [0,1] ?_;obtain⟨y56,e56,h⟩:=B6 h;refine Y9 Dq (FunO.le Z (args:=[.p (.agg [.sl false 2 n1 f1,.sl false 18 n2 f2,.sl false 1 n3 f3])]) (by exact⟨Hm d,trivial⟩) (J8 Z Y e56)) ?_;refine K0 Bs ?_;apply kI Z h<;>intro h
  .cases h;exact kR Z
  refine kB Z (B2 Z) Bs Bs 54 (.o (.n (.a ((cdK x1.toNat)==0)) (.o (.o (.o (.o (.a (z.2 != 3)) (.a (a0.2 != 11))) (.a (a1.2 != 3))) (.a (a2.2 != 12))) (.a (w.2 != 3)))) (.n (.a ((cdK x1.toNat) != 0)) (.o (.o (.o (.o (.a (z.2 != (cdK x1.toNat))) (.a (a0.2 != (cdK x1.toNat)))) (.a (a1.2 != (cdK x1.toNat)))) (.a (a2.2 != (cdK x1.toNat)))) (.a (w.2 != (cdK x1.toNat)))))) ?_;apply kI Z h<;>intro h
  .cases h;exact kR Z
  exact a4 _ [] _ (wrap .i64 (x1+1)) Bs h
 obtain⟨y4,e4,h⟩:=B6 h;refine B7 Z [] Bs (CE Z Y e4) ?_;refine J0 Z Bs 153 16000 (A5 y4) ?_;obtain⟨y5,e5,h⟩:=B6 h;refine B7 Z [] Dq (Y3 Z Y e5) ?_;obtain⟨y6,e6,h⟩:=B6 h;refine B7 Z [] Dq (Y3 Z Y e6) ?_;obtain⟨y7,e7,h⟩:=B6 h;refine B7 Z [] Dq (V4 Z Y e7) ?_;obtain⟨y8,e8,h⟩:=B6 h;refine B7 Z [] Dq (V4 Z Y e8) ?_;obtain⟨y9,e9,h⟩:=B6 h;refine B7 Z [] Dq (AY Z Y e9) ?_;obtain⟨f,e10,h⟩:=B6 h;refine B7 Z [] Dq (Y5 Z Y e10) ?_;refine J0 Z Bs 27 27000 (A5 f.1) ?_;obtain⟨j,e11,h⟩:=B6 h;refine B7 Z [] Dq (Y5 Z Y e11) ?_;refine J0 Z Bs 29 29000 (A5 j.1) ?_;obtain⟨t,e12,h⟩:=B6 h;refine B7 Z [] Dq (V4 Z Y e12) ?_;refine kC Z h (CE Z Y) (fun x h=>?_);refine HO Z Bs ?_;obtain⟨c1,h⟩:=H1 h;refine K0 c1 ?_;obtain⟨u,e14,h⟩:=B6 h;refine B7 Z [] Dq (FunO.le Z (args:=[(.p (.agg (A5 y4))),.p (.agg [vSl 2 A9 (x.Tree.take 4),vSl 18 A8 x.Laws,vSl 1 (cL 1 (cI .i64)) (x.On.take 4)]),.p E3]) (by exact⟨.inl rfl,⟨.inl rfl,⟨Vu,trivial⟩⟩⟩) (BH Z Y e14)) ?_;refine W9 Z Gf ⟨[(211,.vec 212000),(210,.vec 155000),(34,pN u.2),(31,pN t.2),(29,pN j.2),(27,pN f.2),(25,pN y9.2),(24,.vec 177000),(23,pN y8.2),(22,.p (vSl 2 A0 y8.1)),(21,pN y7.2),(20,.p (vSl 2 A0 y7.1)),(19,pN y6.2),(18,.vec 160000),(17,pN y5.2)],[(212000,.vec C0 1 (Sl.of [1,0]:Sl Int).n (fun i=>cI .i64 ((Sl.of [1,0]:Sl Int).g i)) false),(177000,.vec C0 1 y9.1.n (fun i=>cI .i64 (y9.1.g i)) true),(160000,.vec C0 1 y6.1.n (fun i=>cI .i64 (y6.1.g i)) true),(155000,.vec C0 1 y5.1.n (fun i=>cI .i64 (y5.1.g i)) true)]⟩ (ids:=[(155000,155000),(160000,160000),(177000,177000),(212000,212000)]) ?_ (hle:=klR [(11,.fn 2 (Sl.of [1,0]:Sl Int).n (B8 [pI .i64 0] [(0,cI .i64 1),(1,cI .i64 0)]) (fun i=>cI .i64 ((Sl.of [1,0]:Sl Int).g i)))] (al1 ⟨rfl,(fun i c=>match i,c with|0,_=>rfl|1,_=>rfl|_+2,c=>Ba c (by omega))⟩ al0));refine kC Z h (CD Z Y) (fun y15 h=>?_);refine Lm Z Bs (B2 Z) h 0 (fun z1=>⟨[(0,pB z1)],[]⟩) (fun M1 k1 b h=>?_) (fun z1 h=>?_)
 .refine kG Z h (fun h=>?_) (fun h=>?_)
  .refine kG Z h (fun h=>?_) (fun h=>?_)
   .refine kG Z h (fun h=>?_) (fun h=>?_)
    .refine kG Z h (fun h=>?_) (fun h=>?_)
     .refine kC Z h (X8 Z Y) (fun l h=>?_);refine kC Z h (IF Z Y) (fun m h=>?_);refine kC Z h (X8 Z Y) (fun q h=>?_);refine W9 Z Gf ⟨[(231,.vec 232000),(227,.p (vSl 2 A0 y7.1)),(226,.p (.v (.bool true))),(34,pN u.2),(31,pN t.2),(29,pN j.2),(27,pN f.2),(25,pN y9.2),(24,.vec 177000),(23,pN y8.2),(22,.p (vSl 2 A0 y8.1)),(21,pN y7.2)],[(232000,.vec B3 2 (Sl.of [l,m,q]:Sl A1).n (fun i=>A0 ((Sl.of [l,m,q]:Sl A1).g i)) false),(177000,.vec C0 1 y9.1.n (fun i=>cI .i64 (y9.1.g i)) true)]⟩ (ids:=[(177000,177000),(232000,232000)]) ?_ (hle:=klR [(10,.fn 3 (Sl.of [l,m,q]:Sl A1).n (B8 [pI .u32 0,pI .u32 0] [(0,A0 l),(1,A0 m),(2,A0 q)]) (fun i=>A0 ((Sl.of [l,m,q]:Sl A1).g i)))] (al1 ⟨rfl,(fun i c=>match i,c with|0,_=>rfl|1,_=>rfl|2,_=>rfl|_+3,c=>Ba c (by omega))⟩ al0));refine kC Z h (AQ Z Y) (fun y28 h=>?_);refine kG Z h (fun h=>?_) (fun h=>?_)
      .refine kG Z h (fun h=>?_) (fun h=>?_)
       .refine kC Z h (X8 Z Y) (fun r h=>?_);refine kC Z h (Lh Z Y) (fun s h=>?_);refine W9 Z Gf ⟨[(242,.vec 243000),(239,.p (vSl 2 A0 y8.1)),(238,.p (.v (.bool true))),(34,pN u.2),(31,pN t.2),(29,pN j.2),(27,pN f.2),(25,pN y9.2),(24,.vec 177000),(23,pN y8.2)],[(243000,.vec B3 2 (Sl.of [r,s]:Sl A1).n (fun i=>A0 ((Sl.of [r,s]:Sl A1).g i)) false),(177000,.vec C0 1 y9.1.n (fun i=>cI .i64 (y9.1.g i)) true)]⟩ (ids:=[(177000,177000),(243000,243000)]) ?_ (hle:=klR [(8,.fn 2 (Sl.of [r,s]:Sl A1).n (B8 [pI .u32 0,pI .u32 0] [(0,A0 r),(1,A0 s)]) (fun i=>A0 ((Sl.of [r,s]:Sl A1).g i)))] (al1 ⟨rfl,(fun i c=>match i,c with|0,_=>rfl|1,_=>rfl|_+2,c=>Ba c (by omega))⟩ al0));refine kC Z h (AQ Z Y) (fun y31 h=>?_);refine kG Z h (fun h=>?_) (fun h=>?_)
        .refine kG Z h (fun h=>?_) (fun h=>?_)
         .refine W9 Z Gf ⟨[(251,.vec 252000),(250,.vec 177000),(249,.p (.v (.bool true))),(34,pN u.2),(31,pN t.2),(29,pN j.2),(27,pN f.2),(25,pN y9.2)],[(252000,.vec C0 1 (Sl.of [1,2,3,4]:Sl Int).n (fun i=>cI .i64 ((Sl.of [1,2,3,4]:Sl Int).g i)) false),(177000,.vec C0 1 y9.1.n (fun i=>cI .i64 (y9.1.g i)) true)]⟩ (ids:=[(177000,177000),(252000,252000)]) ?_ (hle:=klR [(6,.fn 4 (Sl.of [1,2,3,4]:Sl Int).n (B8 [pI .i64 0] [(0,cI .i64 1),(1,cI .i64 2),(2,cI .i64 3),(3,cI .i64 4)]) (fun i=>cI .i64 ((Sl.of [1,2,3,4]:Sl Int).g i)))] (al1 ⟨rfl,(fun i c=>match i,c with|0,_=>rfl|1,_=>rfl|2,_=>rfl|3,_=>rfl|_+4,c=>Ba c (by omega))⟩ al0));refine kC Z h (CD Z Y) (fun y32 h=>?_);refine kG Z h (fun h=>?_) (fun h=>?_)
          .refine kG Z h (fun h=>?_) (fun h=>?_)
           .refine kG Z h (fun h=>?_) (fun h=>?_)
            .refine kG Z h (fun h=>?_) (fun h=>?_)
             .refine kG Z h (fun h=>?_) (fun h=>?_)
              .refine kG Z h (fun h=>?_) (fun h=>?_)
               .refine kC Z h (NQ Z Y) (fun a5 h=>?_);exact b _ [] _ a5 Bs h
               exact b _ [] _ false Bs h
              exact b _ [] _ false Bs h
             exact b _ [] _ false Bs h
            exact b _ [] _ false Bs h
           exact b _ [] _ false Bs h
          exact b _ [] _ false Bs h
         exact b _ [] _ false Bs h
        exact b _ [] _ false Bs h
       exact b _ [] _ false Bs h
      exact b _ [] _ false Bs h
     exact b _ [] _ false Bs h
    exact b _ [] _ false Bs h
   exact b _ [] _ false Bs h
  exact b _ [] _ false Bs h
 cases h;exact kR Z
end Go.AM
namespace Go.AM
open Go.Proofs
set_option maxRecDepth 10000
set_option maxHeartbeats 2000000
variable {S:O7}(Z:E7 S Tryz.prog) (Y:GK S)
include Z Y
end Go.AM
namespace Go.AM
set_option maxRecDepth 1000000
end Go.AM
namespace Go.AM
open Go.Proofs
end Go.AM
namespace Go.AM
open Go.Proofs
end Go.AM
namespace Go.AM
open Go.Proofs
abbrev sOf (x y:BitVec 32):A1:=⟨(x.toNat:Int),(y.toNat:Int)⟩
def vB (p m:BitVec 32):Bool:=decide (∀i:Fin 32,¬(p.getLsbD i=true/\m.getLsbD i=true)/\(24<=i.1->p.getLsbD i=false/\m.getLsbD i=false))
def gB (p m:BitVec 32)(f:Nat):Int:=if p.getLsbD f then 1 else if m.getLsbD f then -1 else 0
end Go.AM
namespace Go.AM
open Go.Proofs
def vS (s:A1):Prop:=∃p m:BitVec 32,s=sOf p m/\vB p m=true
def nodeP (p:Pat):Prop:= (0<=p.Kind/\p.Kind<=6)/\(p.Kind≠1->(p.Is.Plus=0/\p.Is.Minus=0)/\p.Not=false)/\(p.Kind≠3->p.Kind≠4->p.Kind≠5->p.L.n=0)/\(p.Kind≠5->p.Min=0/\p.Max=0) /\ (p.Kind=5->p.L.n=1/\0<=p.Min/\p.Min<=32/\(p.Max = -1 \/ (p.Min<=p.Max/\p.Max<=32)))/\vS p.Is
def chk:Nat->List Pat->Prop
 |0,l=>l=[]
 |_+1,[]=>True
 |k+1,p::l=>nodeP p/\chk k (p.L.toList++l)
end Go.AM
namespace Go.AM
open Go.Proofs
end Go.AM
namespace Go.AM
open Go.Proofs
end Go.AM
namespace Go.AM
open Go.Proofs
end Go.AM
namespace Go.AM
open Go.Proofs
end Go.AM
namespace Go.AM
open Go.Proofs
end Go.AM
namespace Go.AM
open Go.Proofs
end Go.AM
namespace Go.AM
open Go.Proofs
end Go.AM
namespace Go.AM
open Go.Proofs
end Go.AM
namespace Go.AM
open Go.Proofs
end Go.AM
namespace Go.AM
open Go.Proofs
end Go.AM
namespace Go.AM
open Go.Proofs
end Go.AM
namespace Go.AM
open Go.Proofs
abbrev nameT (y:Int):Bool:=((((decide (97<=y))&&(decide (y<=122)))||((decide (65<=y))&&(decide (y<=90))))||((decide (48<=y))&&(decide (y<=57))))||(y==45)
end Go.AM
namespace Go.AM
open Go.Proofs
def VE (N:Nat)(l:Law):Prop:=PF N l.Name=some true/\chk 40 [l.Left]/\chk 40 [l.Right]/\l.If.n<=4/\l.Out.n<=6/\l.If.n+l.Out.n≠0/\1<=l.Mode/\l.Mode<=3/\(∀i,i<l.If.n->vS (l.If.g i))/\∀i,i<l.Out.n->DM N (l.Out.g i) l.If.n=some true
end Go.AM
namespace Go.AM
open Go.Proofs
end Go.AM
namespace Go.AM
open Go.Proofs
end Go.AM
namespace Go.AM
open Go.Proofs
end Go.AM
namespace Go.AM
open Go.Proofs
end Go.AM
namespace Go.AM
open Go.Proofs
end Go.AM
namespace Go.AM
open Go.Proofs
end Go.AM
namespace Go.AM
open Go.Proofs
def nameB (s:Str):Bool:=(decide (1<=s.length)&&decide (s.length<=24))&&s.all fun c=>nameT ((c.toNat:Nat):Int)
def nodeK (t:Sl C8)(v:Nat):Prop:=(v=0->(t.g 0).Parent = -1)/\(0<v->0<=(t.g v).Parent/\(t.g v).Parent<v)/\nameB (t.g v).Name=true/\∀u,u<v->(t.g u).Name≠(t.g v).Name
def VF (t:Sl C8):Prop:=1<=t.n/\t.n<=63/\∀v,v<t.n->nodeK t v
end Go.AM
namespace Go.AM
open Go.Proofs
def VG (h:B1)(v:Nat):Sl Int:= if hp:0<=(h.Tree.g v).Parent/\(h.Tree.g v).Parent<v then (VG h (h.Tree.g v).Parent.toNat).app (h.On.g v)else Gg.app (h.On.g v)
termination_by v
decreasing_by omega
def longL (h:B1):Prop:=∃v,v<h.On.n/\64<(VG h v).n
def badL (h:B1)(v:Nat):Prop:=∃k,k<(h.On.g v).n/\((h.On.g v).g k<0 \/ (h.Laws.n:Int)<=(h.On.g v).g k)
end Go.AM
namespace Go.AM
open Go.Proofs
def dupB (h:B1)(i:Nat):Prop:=∃u v,u<v/\v<i/\(h.Laws.g u).Name=(h.Laws.g v).Name
open Classical in
noncomputable def hres (N:Nat) (h:B1):Int:= if ¬VF h.Tree then 16 else if 64<h.Laws.n then 12 else if ∃i,i<h.Laws.n/\¬VE N (h.Laws.g i)then 17 else if dupB h h.Laws.n then 6 else if h.On.n≠h.Tree.n then 2 else if longL h then 2 else if ∃v,v<h.On.n/\badL h v then 3 else 0
end Go.AM
namespace Go.AM
open Go.Proofs
end Go.AM
namespace Go.AM
open Go.Proofs
end Go.AM
namespace Go.AM
open Go.Proofs
end Go.AM
namespace Go.AM
open Go.Proofs
end Go.AM
namespace Go.AM
open Go.Proofs
end Go.AM
namespace Go.AM
open Go.Proofs
end Go.AM
namespace Go.AM
open Go.Proofs
end Go.AM
namespace Go.AM
open Go.Proofs
end Go.AM
namespace Go.AM
open Go.Proofs
end Go.AM
namespace Go.AM
open Go.Proofs
end Go.AM
namespace Go.AM
open Go.Proofs
end Go.AM
namespace Go.AM
open Go.Proofs
end Go.AM
namespace Go.AM
open Go.Proofs
end Go.AM
namespace Go.AM
open Go.Proofs
end Go.AM
namespace Go.AM
open Go.Proofs
end Go.AM
namespace Go.AM
open Go.Proofs
end Go.AM
namespace Go.AM
open Go.Proofs
end Go.AM
namespace Go.AM
open Go.Proofs
end Go.AM
namespace Go.AM
open Go.Proofs
end Go.AM
namespace Go.AM
open Go.Proofs
end Go.AM
namespace Go.AM
set_option maxRecDepth 100000
def MJ:W8 4194304=some true:=by decide +kernel
end Go.AM
