/- What a law's walk and its plain proof need, part 6: no condition of its own. -/
import Derived.Test.YtfcfdofmgkpmbaaGreatDoorNE
import Derived.Test.YtfcfdofmgkpmbaaGreatDoorND
set_option linter.defProp false
set_option linter.unusedSimpArgs false
set_option linter.unusedVariables false
set_option linter.unusedSectionVars false
namespace Go.AM
variable {N:Nat}
open IntKind (wrap)
open Go.Proofs
set_option maxRecDepth 10000
set_option maxHeartbeats 2000000
variable {S:Q8}(hS:H1 S Tryz.prog) (hL:GL S)
include hS hL
def Y7 (rec:A9->Int->Option (Sl Int))(N:Nat)(b:A9)(a:Int):Option (Sl Int):= if (decide (a<0)) then some (Sl.nil:Sl Int) else if ((0:Int)<=a/\a<(b.Tree.n:Int))then (rec b (b.Tree.g a.toNat).Parent).bind fun y1=>if (((0:Int)<=a/\a<(b.On.n:Int))/\((y1.n+(b.On.g a.toNat).n)*8<=140737488355328/\y1.n+(b.On.g a.toNat).n<=140737488355328))then some (y1.app (b.On.g a.toNat)) else none else none
def Bu:Nat->A9->Int->Option (Sl Int)
 |0=>fun _ _=>none
 |N+1=>Y7 (Bu N) N
def Gs (N:Nat)(a:Int):Option Bool:= some (((((decide (97<=a))&&(decide (a<=122)))||((decide (65<=a))&&(decide (a<=90))))||((decide (48<=a))&&(decide (a<=57))))||(a==45))
theorem Sj {b:Int}{y:Bool}(h:Gs N b=some y) :FunO S JV [.p (pI .u8 b)] [] (pB y) ([]) []:=by unfold Gs at h;refine A6 hS Tryz.func152 ?_;refine kB hS (A5 hS) Df Df 23 (.o (.o (.o (.n (.a (decide (97<=b))) (.a (decide (b<=122)))) (.n (.a (decide (65<=b))) (.a (decide (b<=90))))) (.n (.a (decide (48<=b))) (.a (decide (b<=57))))) (.a (b==45))) ?_;cases h;exact kR hS
def Cy (N:Nat)(a:Str):Option Bool:= Y1 N (fun b (x1:Int)=>if (decide (x1<(a.length:Int))) then if ((0:Int)<=x1/\x1<(a.length:Int))then (Gs N (AE a x1)).bind fun y3=>if (!y3) then some false else b (wrap .i64 (x1+1)) else none else some ((decide (0<(a.length:Int)))&&(decide ((a.length:Int)<=24)))) 0
theorem Ul {b:Str}{y:Bool}(h:Cy N b=some y) :FunO S Ly [.p (.str b)] [] (pB y) ([]) []:=by
 unfold Cy at h;refine A6 hS Tryz.func125 ?_;refine N4 hS Df h (fun x1=>⟨[(6,pN x1),(5,pN (b.length:Int)),(0,.p (.str b))],[]⟩) (ids:=[]) (fun _ _ _ _ _ c x1 d h=>?_);apply kI hS h<;>intro h
 .obtain⟨c8,h⟩:=E8 h;obtain⟨y3,e3,h⟩:=B8 h;refine C0 hS [] c8 (Sj hS hL e3) ?_;apply kI hS h<;>intro h
  .cases h;exact kR hS
  exact d _ [] _ (wrap .i64 (x1+1)) Df h
 refine kB hS (A5 hS) Df Df 4 (.n (.a (decide (0<(b.length:Int)))) (.a (decide ((b.length:Int)<=24)))) ?_;cases h;exact kR hS
def Z0 (N:Nat)(a:Sl F5):Option Int:= if (((a.n:Int)==0)||(decide (63<(a.n:Int)))) then some 16 else BC N (fun b (x2:List (Str×Bool)) (x3:Int)=>if (decide (x3<(a.n:Int))) then if ((0:Int)<=x3/\x3<(a.n:Int))then lt (fun (z3:Bool)=>if z3 then some 16 else b (OA eqS (a.g x3.toNat).Name true x2) (wrap .i64 (x3+1))) fun k3=>if (decide (x3<=(a.g x3.toNat).Parent)) then k3 true else if (decide ((a.g x3.toNat).Parent<(if 0<(wrap .i64 (x3-1))then 0 else (wrap .i64 (x3-1))))) then k3 true else (Cy N (a.g x3.toNat).Name).bind fun y6=>if (!y6) then k3 true else At7 (CO eqS (a.g x3.toNat).Name x2) (k3 false) fun v6=>k3 v6 else none else some 0) [] 0
theorem LD {c:Sl F5}{y:Int}(h:Z0 N c=some y) :FunO S Lu [.p (vSl 2 D6 c)] [] (pN y) ([]) []:=by
 unfold Z0 at h;refine A6 hS Tryz.func89 ?_;refine kB hS (A5 hS) Df Df 4 (.o (.a ((c.n:Int)==0)) (.a (decide (63<(c.n:Int))))) ?_;apply kI hS h<;>intro h
 .cases h;exact kR hS
 refine I8 hS Df h (fun x2 x3=>⟨[(17,pN x3),(16,pN (c.n:Int)),(15,.p (vSl 2 D6 c)),(3,.mref 15000)],[(15000,.map (LE PV.str PV.bb x2))]⟩) (ids:=[(15000,15000)]) (fun _ _ _ _ _ f x2 x3 i h=>?_);apply kI hS h<;>intro h
 .obtain⟨c25,h⟩:=E8 h;refine Ef hS (And.intro c25 (by decide:(2:Nat)<=2)) (A5 hS) h 0 (fun z3=>⟨[(45,pB z3),(17,pN x3),(16,pN (c.n:Int)),(15,.p (vSl 2 D6 c)),(5,.reg 6000 0),(3,.mref 15000)],[(15000,.map (LE PV.str PV.bb x2)),(6000,.cells [pN (c.g x3.toNat).Parent,.p (.str (c.g x3.toNat).Name)])]⟩) (fun M3 k3 d h=>?_) (fun z3 h=>?_)
  .refine kG hS h (fun h=>?_) (fun h=>?_)
   .exact d _ [(6000,6000),(15000,15000)] _ true Df h
   refine kG hS h (fun h=>?_) (fun h=>?_)
   .exact d _ [(6000,6000),(15000,15000)] _ true Df h
   refine kC hS h (Ul hS hL) (fun y6 h=>?_);refine kG hS h (fun h=>?_) (fun h=>?_)
   .exact d _ [(6000,6000),(15000,15000)] _ true Df h
   rcases o6:CO eqS (c.g x3.toNat).Name x2 with _|v6
   .replace h:=optN o6 h;refine HT hS Df (kt:=Cs) (e:=At6) (key:=PV.str (c.g x3.toNat).Name) (es:=LE PV.str PV.bb x2) (x:=.v (.bool false)) (b:=false) (fd:=none) ((DR (kP:=PV.str) (vP:=PV.bb) (eq:=eqS) (fun _ _=>by kernel_rfl) (c.g x3.toNat).Name x2).trans (by rw[o6];rfl)) Df ?_;exact d _ [(6000,6000),(15000,15000)] _ false Df h
   replace h:=optS o6 h;refine HT hS Df (kt:=Cs) (e:=At6) (key:=PV.str (c.g x3.toNat).Name) (es:=LE PV.str PV.bb x2) (x:=PV.bb v6) (b:=true) (fd:=some (PV.bb v6)) ((DR (kP:=PV.str) (vP:=PV.bb) (eq:=eqS) (fun _ _=>by kernel_rfl) (c.g x3.toNat).Name x2).trans (by rw[o6];rfl)) Df ?_;exact d _ [(6000,6000),(15000,15000)] _ v6 Df h
  apply kI hS h<;>intro h
  .cases h;exact kR hS
  refine Mk hS Df (kt:=Cs) (key:=PV.str (c.g x3.toNat).Name) (y:=PV.bb true) (es:=LE PV.str PV.bb x2) (JH (kP:=PV.str) (vP:=PV.bb) (eq:=eqS) (fun _ _=>by kernel_rfl) (c.g x3.toNat).Name true x2) Df ?_;exact i _ [(15000,15000)] _ (OA eqS (c.g x3.toNat).Name true x2) (wrap .i64 (x3+1)) Df h
 cases h;exact kR hS
def Z1 (N:Nat)(a:A9):Option Int:= if ((0:Int)<=(a.On.n:Int)/\(a.On.n:Int)<=(a.On.n:Int)/\(a.On.n:Int)*8<=140737488355328/\(a.On.n:Int)<=140737488355328)then Ag7 N (fun c (x4:Sl Int) (x5:Bool) (x6:Int)=>if (decide (x6<(a.On.n:Int))) then if ((((0:Int)<=x6/\x6<(a.On.n:Int))/\((0:Int)<=x6/\x6<(x4.n:Int)))/\x6.toNat<x4.n)then if ((0:Int)<=x6/\x6<(a.Tree.n:Int))then lt (fun (z3:Sl Int)=>if (((0:Int)<=x6/\x6<(z3.n:Int))/\x6.toNat<z3.n)then if (decide (64<(z3.g x6.toNat))) then some 2 else BC N (fun d (f:Bool) (b:Int)=>if (decide (b<((a.On.g x6.toNat).n:Int))) then if ((0:Int)<=b/\b<((a.On.g x6.toNat).n:Int))then d ((f||(decide (((a.On.g x6.toNat).g b.toNat)<0)))||(decide ((a.Laws.n:Int)<=((a.On.g x6.toNat).g b.toNat)))) (wrap .i64 (b+1)) else none else c z3 f (wrap .i64 (x6+1))) x5 0 else none) fun k3=>if (decide (0<=(a.Tree.g x6.toNat).Parent)) then if (((((((0:Int)<=x6/\x6<((x4.upd x6.toNat ((a.On.g x6.toNat).n:Int)).n:Int))/\x6.toNat<(x4.upd x6.toNat ((a.On.g x6.toNat).n:Int)).n)/\((0:Int)<=(a.Tree.g x6.toNat).Parent/\(a.Tree.g x6.toNat).Parent<((x4.upd x6.toNat ((a.On.g x6.toNat).n:Int)).n:Int)))/\(a.Tree.g x6.toNat).Parent.toNat<(x4.upd x6.toNat ((a.On.g x6.toNat).n:Int)).n)/\((0:Int)<=x6/\x6<((x4.upd x6.toNat ((a.On.g x6.toNat).n:Int)).n:Int)))/\x6.toNat<(x4.upd x6.toNat ((a.On.g x6.toNat).n:Int)).n)then k3 ((x4.upd x6.toNat ((a.On.g x6.toNat).n:Int)).upd x6.toNat (wrap .i64 (((x4.upd x6.toNat ((a.On.g x6.toNat).n:Int)).g x6.toNat)+((x4.upd x6.toNat ((a.On.g x6.toNat).n:Int)).g (a.Tree.g x6.toNat).Parent.toNat)))) else none else k3 (x4.upd x6.toNat ((a.On.g x6.toNat).n:Int)) else none else none else if x5 then some 3 else some 0) (Sl.rep (a.On.n:Int).toNat 0:Sl Int) false 0 else none
theorem Ou {d:A9}{y:Int}(h:Z1 N d=some y) :FunO S Hv [.p (.agg (B1 d))] [] (pN y) ([]) []:=by
 unfold Z1 at h;refine A6 hS Tryz.func105 ?_;refine J3 hS Df 2 2000 (B1 d) ?_;obtain⟨c1,h⟩:=E8 h;refine KU hS c1 h (fun x4 x5 x6=>⟨[(17,pN x6),(16,pN (d.On.n:Int)),(15,.p (vSl 1 (cL 1 (cI .i64)) d.On)),(4,pB x5),(3,.vec 14000),(1,.p (.ptr (B1 d)))],[(14000,.vec D4 1 x4.n (fun i=>cI .i64 (x4.g i)) false)]⟩) (ids:=[(14000,14000)]) (fun _ _ _ _ _ q x4 x5 x6 r h=>?_);apply kI hS h<;>intro h
 .obtain⟨c35,h⟩:=E8 h;refine I7 hS (And.intro (And.intro c35.1.1 c35.1.2) (And.intro (rfl:(1:Nat)=1) (And.intro c35.2 (by decide:(1:Nat)<=1)))) 27 ⟨[(17,pN x6),(16,pN (d.On.n:Int)),(15,.p (vSl 1 (cL 1 (cI .i64)) d.On)),(6,.p (vSl 1 (cI .i64) (d.On.g x6.toNat))),(5,pN x6),(4,pB x5),(3,.vec 14000),(1,.p (.ptr (B1 d)))],[(14000,.vec D4 1 (x4.upd x6.toNat ((d.On.g x6.toNat).n:Int)).n (fun i=>cI .i64 ((x4.upd x6.toNat ((d.On.g x6.toNat).n:Int)).g i)) false)]⟩ (ids:=[(14000,14000)]) ?_ (hle:=klR [(7,.fn x4.n (x4.upd x6.toNat ((d.On.g x6.toNat).n:Int)).n (fun l=>if l=x6.toNat then splice ((fun i=>cI .i64 (x4.g i)) l) 0 [pI .i64 ((d.On.g x6.toNat).n:Int)]else (fun i=>cI .i64 (x4.g i)) l) (fun i=>cI .i64 ((x4.upd x6.toNat ((d.On.g x6.toNat).n:Int)).g i)))] (al1 ⟨rfl,AB3 (c:=cI .i64) (v:=x4) (x:=((d.On.g x6.toNat).n:Int)) same (fun _=>by first|rfl|(dsimp only;split<;>rfl))⟩ al0));obtain⟨c36,h⟩:=E8 h;refine Ef hS c36 (A5 hS) h 0 (fun z3=>⟨[(17,pN x6),(16,pN (d.On.n:Int)),(15,.p (vSl 1 (cL 1 (cI .i64)) d.On)),(6,.p (vSl 1 (cI .i64) (d.On.g x6.toNat))),(5,pN x6),(4,pB x5),(3,.vec 14000),(1,.p (.ptr (B1 d)))],[(14000,.vec D4 1 z3.n (fun i=>cI .i64 (z3.g i)) false)]⟩) (fun M3 k3 m h=>?_) (fun z3 h=>?_)
  .apply kI hS h<;>intro h
   .refine FP hS Df ?_;obtain⟨c41,h⟩:=E8 h;refine O0 (And.intro (And.intro (And.intro (And.intro (And.intro c41.1.1.1.1.1 c41.1.1.1.1.2) c41.1.1.1.2) c41.1.1.2) c41.1.2) (And.intro (rfl:(1:Nat)=1) (And.intro c41.2 (by decide:(1:Nat)<=1)))) ?_;exact m _ [(14000,14000)] _ ((x4.upd x6.toNat ((d.On.g x6.toNat).n:Int)).upd x6.toNat (wrap .i64 (((x4.upd x6.toNat ((d.On.g x6.toNat).n:Int)).g x6.toNat)+((x4.upd x6.toNat ((d.On.g x6.toNat).n:Int)).g (d.Tree.g x6.toNat).Parent.toNat)))) Df h (hle:=klR [(7,.fn (x4.upd x6.toNat ((d.On.g x6.toNat).n:Int)).n ((x4.upd x6.toNat ((d.On.g x6.toNat).n:Int)).upd x6.toNat (wrap .i64 (((x4.upd x6.toNat ((d.On.g x6.toNat).n:Int)).g x6.toNat)+((x4.upd x6.toNat ((d.On.g x6.toNat).n:Int)).g (d.Tree.g x6.toNat).Parent.toNat)))).n (fun l=>if l=x6.toNat then splice ((fun i=>cI .i64 ((x4.upd x6.toNat ((d.On.g x6.toNat).n:Int)).g i)) l) 0 [pI .i64 (wrap .i64 (((x4.upd x6.toNat ((d.On.g x6.toNat).n:Int)).g x6.toNat)+((x4.upd x6.toNat ((d.On.g x6.toNat).n:Int)).g (d.Tree.g x6.toNat).Parent.toNat)))]else (fun i=>cI .i64 ((x4.upd x6.toNat ((d.On.g x6.toNat).n:Int)).g i)) l) (fun i=>cI .i64 (((x4.upd x6.toNat ((d.On.g x6.toNat).n:Int)).upd x6.toNat (wrap .i64 (((x4.upd x6.toNat ((d.On.g x6.toNat).n:Int)).g x6.toNat)+((x4.upd x6.toNat ((d.On.g x6.toNat).n:Int)).g (d.Tree.g x6.toNat).Parent.toNat)))).g i)))] (al1 ⟨rfl,AB3 (c:=cI .i64) (v:=x4.upd x6.toNat ((d.On.g x6.toNat).n:Int)) (x:=wrap .i64 (((x4.upd x6.toNat ((d.On.g x6.toNat).n:Int)).g x6.toNat)+((x4.upd x6.toNat ((d.On.g x6.toNat).n:Int)).g (d.Tree.g x6.toNat).Parent.toNat))) same (fun _=>by first|rfl|(dsimp only;split<;>rfl))⟩ al0))
   exact m _ [(14000,14000)] _ (x4.upd x6.toNat ((d.On.g x6.toNat).n:Int)) Df h
  obtain⟨c42,h⟩:=E8 h;refine D9 hS c42 (b:=decide (64<(z3.g x6.toNat))) (fun c43=>?_) (fun c43=>?_)
  .replace h:=itT c43 h;cases h;exact kR hS
  replace h:=itF c43 h;refine I8 hS Df h (fun j f=>⟨[(52,pN f),(51,pN ((d.On.g x6.toNat).n:Int)),(50,.p (vSl 1 (cI .i64) (d.On.g x6.toNat))),(17,pN x6),(16,pN (d.On.n:Int)),(15,.p (vSl 1 (cL 1 (cI .i64)) d.On)),(4,pB j),(3,.vec 14000),(1,.p (.ptr (B1 d)))],[(14000,.vec D4 1 z3.n (fun i=>cI .i64 (z3.g i)) false)]⟩) (ids:=[(14000,14000)]) (fun _ _ _ _ _ s j f t h=>?_);apply kI hS h<;>intro h
  .obtain⟨c49,h⟩:=E8 h;refine kB hS (A5 hS) c49 Df 10 (.o (.o (.a j) (.a (decide (((d.On.g x6.toNat).g f.toNat)<0)))) (.a (decide ((d.Laws.n:Int)<=((d.On.g x6.toNat).g f.toNat))))) ?_;exact t _ [(14000,14000)] _ ((j||(decide (((d.On.g x6.toNat).g f.toNat)<0)))||(decide ((d.Laws.n:Int)<=((d.On.g x6.toNat).g f.toNat)))) (wrap .i64 (f+1)) Df h
  exact r _ [(14000,14000)] _ z3 j (wrap .i64 (x6+1)) Df h
 apply kI hS h<;>intro h
 .cases h;exact kR hS
 cases h;exact kR hS
def N5 (N:Nat)(a:A9):Option Int:= (Z0 N a.Tree).bind fun y1=>if (y1 != 0) then some 16 else if (decide (64<(a.Laws.n:Int))) then some 12 else BC N (fun b (x1:List (Str×Int)) (x2:Int)=>if (decide (x2<(a.Laws.n:Int))) then if ((0:Int)<=x2/\x2<(a.Laws.n:Int))then (U9 N (a.Laws.g x2.toNat)).bind fun y4=>if (y4 != 0) then some 17 else At7 (CO eqS (a.Laws.g x2.toNat).Name x1) (b (OA eqS (a.Laws.g x2.toNat).Name (wrap .i64 (0+1)) x1) (wrap .i64 (x2+1))) fun v3=>b (OA eqS (a.Laws.g x2.toNat).Name (wrap .i64 (v3+1)) x1) (wrap .i64 (x2+1)) else none else if (decide (((LE PV.str (pI .i64) x1).length:Int)<(a.Laws.n:Int))) then some 6 else if ((a.On.n:Int) != (a.Tree.n:Int)) then some 2 else (Z1 N a).bind fun y5=>some y5) [] 0
theorem Ec {a:A9}{y:Int}(h:N5 N a=some y) :FunO S Hs [.p (.agg (B1 a))] [] (pN y) ([]) []:=by
 unfold N5 at h;refine A6 hS Tryz.func70 ?_;refine kC hS h (LD hS hL) (fun y1 h=>?_);apply kI hS h<;>intro h
 .cases h;exact kR hS
 apply kI hS h<;>intro h
 .cases h;exact kR hS
 refine I8 hS Df h (fun x1 x2=>⟨[(18,pN x2),(17,pN (a.Laws.n:Int)),(16,.p (vSl 18 B5 a.Laws)),(3,.mref 15000),(1,.reg 2000 0)],[(15000,.map (LE PV.str (pI .i64) x1)),(2000,.cells ((B1 a).map .p))]⟩) (ids:=[(2000,2000),(15000,15000)]) (fun _ _ _ _ _ d x1 x2 c h=>?_);apply kI hS h<;>intro h
 .obtain⟨c10,h⟩:=E8 h;obtain⟨y4,e4,h⟩:=B8 h;refine C0 hS [] (And.intro c10 (by decide:(18:Nat)<=18)) (FH hS hL e4) ?_;apply kI hS h<;>intro h
  .cases h;exact kR hS
  rcases o3:CO eqS (a.Laws.g x2.toNat).Name x1 with _|v3
  .replace h:=optN o3 h;refine HT hS Df (kt:=Cs) (e:=D4) (key:=PV.str (a.Laws.g x2.toNat).Name) (es:=LE PV.str (pI .i64) x1) (x:=pI .i64 0) (b:=false) (fd:=none) ((DR (kP:=PV.str) (vP:=pI .i64) (eq:=eqS) (fun _ _=>by kernel_rfl) (a.Laws.g x2.toNat).Name x1).trans (by rw[o3];rfl)) Df ?_;refine Mk hS Df (kt:=Cs) (key:=PV.str (a.Laws.g x2.toNat).Name) (y:=pI .i64 (wrap .i64 (0+1))) (es:=LE PV.str (pI .i64) x1) (JH (kP:=PV.str) (vP:=pI .i64) (eq:=eqS) (fun _ _=>by kernel_rfl) (a.Laws.g x2.toNat).Name (wrap .i64 (0+1)) x1) Df ?_;exact c _ [(2000,2000),(15000,15000)] _ (OA eqS (a.Laws.g x2.toNat).Name (wrap .i64 (0+1)) x1) (wrap .i64 (x2+1)) Df h
  replace h:=optS o3 h;refine HT hS Df (kt:=Cs) (e:=D4) (key:=PV.str (a.Laws.g x2.toNat).Name) (es:=LE PV.str (pI .i64) x1) (x:=pI .i64 v3) (b:=true) (fd:=some (pI .i64 v3)) ((DR (kP:=PV.str) (vP:=pI .i64) (eq:=eqS) (fun _ _=>by kernel_rfl) (a.Laws.g x2.toNat).Name x1).trans (by rw[o3];rfl)) Df ?_;refine Mk hS Df (kt:=Cs) (key:=PV.str (a.Laws.g x2.toNat).Name) (y:=pI .i64 (wrap .i64 (v3+1))) (es:=LE PV.str (pI .i64) x1) (JH (kP:=PV.str) (vP:=pI .i64) (eq:=eqS) (fun _ _=>by kernel_rfl) (a.Laws.g x2.toNat).Name (wrap .i64 (v3+1)) x1) Df ?_;exact c _ [(2000,2000),(15000,15000)] _ (OA eqS (a.Laws.g x2.toNat).Name (wrap .i64 (v3+1)) x1) (wrap .i64 (x2+1)) Df h
 apply kI hS h<;>intro h
 .cases h;exact kR hS
 apply kI hS h<;>intro h
 .cases h;exact kR hS
 refine kC hS h (Ou hS hL) (fun y5 h=>?_);cases h;exact kR hS
def AT (N:Nat)(b:A9)(a:Int):Option Bool:= some ((decide (0<=a))&&(decide (a<(b.Tree.n:Int))))
theorem Pv {c:A9}{b:Int}{y:Bool}(h:AT N c b=some y) :FunO S Iv [.p (.agg (B1 c)),pN b] [] (pB y) ([]) []:=by unfold AT at h;refine A6 hS Tryz.func92 ?_;refine kB hS (A5 hS) Df Df 6 (.n (.a (decide (0<=b))) (.a (decide (b<(c.Tree.n:Int))))) ?_;cases h;exact kR hS
def R5 (N:Nat)(q0:Int)(q1:Sl F5):Option (List (Int)):= BC N (fun a (x1:Int) (x2:Sl Int)=>if (decide (0<=x1)) then if (((x2.n+(Sl.of [x1]:Sl Int).n)*8<=140737488355328/\x2.n+(Sl.of [x1]:Sl Int).n<=140737488355328)/\((0:Int)<=x1/\x1<(q1.n:Int)))then a (q1.g x1.toNat).Parent (x2.push x1) else none else Y1 N (fun b (x3:Int)=>if (decide (0<=x3)) then if (((0:Int)<=x3/\x3<(x2.n:Int))/\x3.toNat<x2.n)then GM (x2.g x3.toNat) (b (wrap .i64 (x3-1))) else none else some []) (wrap .i64 ((x2.n:Int)-1))) q0 (Sl.nil:Sl Int)
theorem Ov {q0:Int}{q1:Sl F5}{L:List (Int)}(h:R5 N q0 q1=some L) :FX S BS [] [.reg 0 0,.reg 1 0] [.cells [pN q0],.cells [.p (vSl 2 D6 q1)]] (L.map (fun (x:Int)=>[pI .i64 x])):=by
 unfold R5 at h;refine Gc hS Tryz.func127 ?_;refine RB hS Df h (fun x1 x2 L1=>⟨[(4,.vec 5500),(2,.reg 1 0),(1,.reg 0 0),(0,.yf 2)],[(5500,.vec D4 1 x2.n (fun i=>cI .i64 (x2.g i)) false),(2,.yld (L1.map (fun (x:Int)=>[pI .i64 x])) true),(1,.cells [.p (vSl 2 D6 q1)]),(0,.cells [pN x1])]⟩) (ids:=[(0,0),(1,1),(2,2)]) (fun _ _ _ _ _ f x1 x2 L1 j h=>?_);apply kI hS h<;>intro h
 .obtain⟨c4,h⟩:=E8 h;exact j _ [(0,0),(1,1),(2,2),(5500,17000)] _ (q1.g x1.toNat).Parent (x2.push x1) L1 (And.intro (And.intro (rfl:true=true) c4.1) c4.2) h (hle:=klR [(0,.fn (x2.n+1) (x2.push x1).n (AP x2.n (fun i=>cI .i64 (x2.g i)) (D3 [pI .i64 0] [(0,cI .i64 x1)])) (fun i=>cI .i64 ((x2.push x1).g i)))] (al1 ⟨rfl,LI (c:=cI .i64) (v:=x2) (x:=x1) (z:=[(pI .i64 0)]) same rfl rfl⟩ al0))
 refine Hn hS Df h (fun x3 L2=>⟨[(5,pN x3),(4,.vec 5500),(0,.yf 2)],[(5500,.vec D4 1 x2.n (fun i=>cI .i64 (x2.g i)) false),(2,.yld (L2.map (fun (x:Int)=>[pI .i64 x])) true),(1,.cells [.p (vSl 2 D6 q1)]),(0,.cells [pN x1])]⟩) (ids:=[(0,0),(1,1),(2,2),(5500,5500)]) (fun _ _ _ _ _ l x3 L2 m h=>?_);apply kI hS h<;>intro h
 .obtain⟨c14,h⟩:=E8 h;obtain⟨L5,rfl,d⟩:=NH h;replace h:=d;refine DS hS c14 (ys:=(fun (x:Int)=>[pI .i64 x]) (x2.g x3.toNat)) (rest:=L5.map (fun (x:Int)=>[pI .i64 x])) ?_ ?_
  .refine D9 hS Df (b:=false) (fun c15=>?_) (fun c15=>?_)
   .exact Bool.noConfusion ((rfl:false=false).symm.trans c15)
   exact m _ [(0,0),(1,1),(2,2),(5500,5500)] _ (wrap .i64 (x3-1)) L5 Df h
  refine D9 hS Df (b:=true) (fun c16=>?_) (fun c16=>?_)
  .exact B3 hS Df (a:=.tup []) (objs:=[(.cells [pN x1]),.cells [.p (vSl 2 D6 q1)],.yld [] false]) ⟨[],[(2,.yld [] false),(1,.cells [.p (vSl 2 D6 q1)]),(0,.cells [pN x1])]⟩ [0,1,2] (ids:=[(0,0),(1,1),(2,2)]) ⟨false,rfl,rfl,_,rfl⟩
  exact Bool.noConfusion ((rfl:true=true).symm.trans c16)
 obtain rfl:=C7 h;exact B3 hS Df (a:=.tup []) (objs:=[(.cells [pN x1]),.cells [.p (vSl 2 D6 q1)],.yld [] true]) ⟨[],[(2,.yld [] true),(1,.cells [.p (vSl 2 D6 q1)]),(0,.cells [pN x1])]⟩ [0,1,2] (ids:=[(0,0),(1,1),(2,2)]) ⟨true,rfl,rfl,_,rfl⟩
def Aq (N:Nat)(a:Sl F5)(b:Int):Option (Int×(Sl F5)):= some (b,a)
theorem Sk {a:Sl F5}{b:Int}{y:Int×(Sl F5)}(h:Aq N a b=some y) :FunO S JR [.p (vSl 2 D6 a),pN b] [] (.clo BS [] [.reg 0 0,.reg 1 0]) ([.cells [pN y.1],.cells [.p (vSl 2 D6 y.2)]]) []:=by unfold Aq at h;refine A6 hS Tryz.func93 ?_;obtain rfl:=C7 h;exact B3 hS Df ⟨[(4,.clo BS [] [.reg 4000 0,.reg 3000 0])],[(4000,.cells [pN b]),(3000,.cells [.p (vSl 2 D6 a)])]⟩ [4000,3000] (ids:=[(3000,3000),(4000,4000)]) ⟨rfl,rfl,rfl⟩
def Q2 (N:Nat)(a:A9)(c:Int):Option ((Sl Int)×Int):= (N5 N a).bind fun y1=>if (y1 != 0) then some ((Sl.nil:Sl Int),y1) else (AT N a c).bind fun y2=>if (!y2) then some ((Sl.nil:Sl Int),3) else (Aq N a.Tree c).bind fun y3=>(R5 N y3.1 y3.2).bind fun L1=>X0 L1 (fun b (x1:Int) (z1:Sl Int)=>if (((0:Int)<=x1/\x1<(a.On.n:Int))/\((z1.n+(a.On.g x1.toNat).n)*8<=140737488355328/\z1.n+(a.On.g x1.toNat).n<=140737488355328))then b (z1.app (a.On.g x1.toNat)) else none) (fun (z1:Sl Int)=>some (z1,0)) (Sl.nil:Sl Int)
theorem IE {a:A9}{b:Int}{y:(Sl Int)×Int}(h:Q2 N a b=some y) :FunO S Ir [.p (.agg (B1 a)),pN b] [] (.tup [.vec 0,pN y.2]) ([.vec D4 1 y.1.n (fun i=>cI .i64 (y.1.g i)) true]) []:=by
 unfold Q2 at h;refine A6 hS Tryz.func72 ?_;refine J3 hS Df 4 3000 (B1 a) ?_;obtain⟨y1,e1,h⟩:=B8 h;refine C0 hS [] (by decide:(3:Nat)<=3) (Ec hS hL e1) ?_;apply kI hS h<;>intro h
 .obtain rfl:=C7 h;exact B3 hS Df ⟨[(5,pN y1),(4,.vec 5700)],[(5700,.vec D4 1 (Sl.nil:Sl Int).n (fun i=>cI .i64 ((Sl.nil:Sl Int).g i)) true)]⟩ [5700] (ids:=[]) ⟨rfl,rfl,rfl⟩
 obtain⟨y2,e2,h⟩:=B8 h;refine C0 hS [] (by decide:(3:Nat)<=3) (Pv hS hL e2) ?_;apply kI hS h<;>intro h
 .obtain rfl:=C7 h;exact B3 hS Df ⟨[(5,pN 3),(4,.vec 5700)],[(5700,.vec D4 1 (Sl.nil:Sl Int).n (fun i=>cI .i64 ((Sl.nil:Sl Int).g i)) true)]⟩ [5700] (ids:=[]) ⟨rfl,rfl,rfl⟩
 refine kC hS h (Sk hS hL) (fun y3 h=>?_);obtain⟨L1,e4,h⟩:=B8 h;refine Gd hS Df [22000,22001] [7,2] 901 (fun z1=>⟨[(7,.reg 8000 0),(2,.p (.ptr (B1 a)))],[(8500,.vec D4 1 z1.n (fun i=>cI .i64 (z1.g i)) false),(8000,.cells [.vec 8500])]⟩) (idl:=[(8000,8000)]) h (Ov hS hL e4) (fun _=>by kernel_rfl) (fun _=>by kernel_rfl) (fun _=>by kernel_rfl) (fun _=>by kernel_rfl) (fun x1 _ d z1 f h=>?_) (fun z1 h=>?_)
 .refine JK hS Df ?_;refine G9 hS Df [2,4,5] ?_;obtain⟨c5,h⟩:=E8 h;refine O0 c5 ?_;exact f _ [(901,901),(8000,8000),(8500,30000)] _ (z1.app (a.On.g x1.toNat)) Df h (hle:=klR [(0,.fn (z1.n+(a.On.g x1.toNat).n) (z1.app (a.On.g x1.toNat)).n (AP z1.n (fun i=>cI .i64 (z1.g i)) (fun i=>cI .i64 ((a.On.g x1.toNat).g i))) (fun i=>cI .i64 ((z1.app (a.On.g x1.toNat)).g i)))] (al1 ⟨rfl,Au3 (c:=cI .i64) (v:=z1) (w:=a.On.g x1.toNat) same rfl same rfl⟩ al0))
 obtain rfl:=C7 h;exact B3 hS Df ⟨[(5,pN 0),(4,.vec 8500)],[(8500,.vec D4 1 z1.n (fun i=>cI .i64 (z1.g i)) true)]⟩ [8500] (ids:=[(8500,8500)]) ⟨rfl,rfl,rfl⟩
def Br (rec:Pat->Option Pat)(N:Nat)(a:Pat):Option Pat:= BC N (fun b (x1:Sl Pat) (x2:Int)=>if (decide (x2<(a.L.n:Int))) then if ((0:Int)<=x2/\x2<(a.L.n:Int))then (rec (a.L.g x2.toNat)).bind fun y3=>if ((x1.n+(Sl.of [y3]:Sl Pat).n)*64<=140737488355328/\x1.n+(Sl.of [y3]:Sl Pat).n<=140737488355328)then b (x1.push y3) (wrap .i64 (x2+1)) else none else none else some (Pat.mk a.Kind a.Is a.Not a.Min a.Max x1.n x1.g)) (Sl.nil:Sl Pat) 0
def AC:Nat->Pat->Option Pat
 |0=>fun _=>none
 |N+1=>Br (AC N) N
theorem Kg {rec:Pat->Option Pat}(b:∀{a:Pat}{y:Pat},rec a=some y->FunO S Ax [.p (.agg (B7 a))] [] (.p (.agg (B7 y))) ([]) []){a:Pat}{y:Pat}(h:Br rec N a=some y) :FunO S Ax [.p (.agg (B7 a))] [] (.p (.agg (B7 y))) ([]) []:=by
 unfold Br at h;refine A6 hS Tryz.func153 ?_;refine I7 hS Df 8 ⟨[(7,.p (vSl 7 B7 a.L)),(3,.p G1),(2,.reg 3000 0),(1,.reg 2000 0)],[(3000,.cells [pN 0,pU 0,pU 0,.p (.v (.bool false)),pN 0,pN 0,.p G1]),(2000,.cells ((B7 a).map .p))]⟩ (ids:=[(2000,2000),(3000,3000)]) ?_ (hle:=klR [(0,.fn a.L.n a.L.n (BY a) (fun i=>B7 (a.L.g i)))] (al1 ⟨rfl,U8 a⟩ al0));refine I8 hS Df h (fun x1 x2=>⟨[(9,pN x2),(8,pN (a.L.n:Int)),(7,.p (vSl 7 B7 a.L)),(3,.vec 4500),(2,.reg 3000 0),(1,.reg 2000 0)],[(4500,.vec Fj 7 x1.n (fun i=>B7 (x1.g i)) false),(3000,.cells [pN 0,pU 0,pU 0,.p (.v (.bool false)),pN 0,pN 0,.p G1]),(2000,.cells ((B7 a).map .p))]⟩) (ids:=[(2000,2000),(3000,3000)]) (fun _ _ _ _ _ d x1 x2 f h=>?_);apply kI hS h<;>intro h
 .obtain⟨c6,h⟩:=E8 h;obtain⟨y3,e3,h⟩:=B8 h;refine C0 hS [] (And.intro c6 (by decide:(7:Nat)<=7)) (b e3) ?_;obtain⟨c7,h⟩:=E8 h;exact f _ [(2000,2000),(3000,3000),(4500,18000)] _ (x1.push y3) (wrap .i64 (x2+1)) (And.intro (rfl:true=true) c7) h (hle:=klR [(3,.fn (x1.n+1) (x1.push y3).n (AP x1.n (fun i=>B7 (x1.g i)) (D3 [pI .i64 0,pI .u32 0,pI .u32 0,.v (.bool false),pI .i64 0,pI .i64 0,G1] [(0,B7 y3)])) (fun i=>B7 ((x1.push y3).g i)))] (al1 ⟨rfl,LI (c:=B7) (v:=x1) (x:=y3) (z:=[(pI .i64 0),pI .u32 0,pI .u32 0,.v (.bool false),pI .i64 0,pI .i64 0,G1]) same rfl rfl⟩ al0))
 obtain rfl:=C7 h;exact B3 hS Df ⟨[(2,.reg 3000 0)],[(3000,.cells [pN a.Kind,pU a.Is.Plus,pU a.Is.Minus,pB a.Not,pN a.Min,pN a.Max,.p (.sl false 7 x1.n (BY (Pat.mk a.Kind a.Is a.Not a.Min a.Max x1.n x1.g)))])]⟩ [] (ids:=[(3000,3000)]) ⟨rfl,rfl,rfl⟩
theorem FC {a:Pat}{y:Pat}(h:AC N a=some y) :FunO S Ax [.p (.agg (B7 a))] [] (.p (.agg (B7 y))) ([]) []:=by
 induction N generalizing a y with
 |zero=>cases (show (none:Option Pat)=some y from h)
 |succ N ih=>exact Kg hS hL (fun e=>ih e) h
def CZ (N:Nat)(a:Law):Option Law:= (AC N a.Left).bind fun y1=>(AC N a.Right).bind fun y2=>(B9 N a.If).bind fun y3=>(K3 N a.Out).bind fun y4=>some (⟨a.Name,y1,y2,y3,y4,a.Mode⟩:Law)
theorem Mb {a:Law}{y:Law}(h:CZ N a=some y) :FunO S GE [.p (.agg (B5 a))] [] (.p (.agg (B5 y))) ([]) []:=by unfold CZ at h;refine A6 hS Tryz.func128 ?_;refine G9 hS Df [2,5] ?_;obtain⟨y1,e1,h⟩:=B8 h;refine V7 Df (FC hS hL e1) ?_;obtain⟨y2,e2,h⟩:=B8 h;refine V7 Df (FC hS hL e2) ?_;refine O0 Df ?_;refine G9 hS Df [2,5] ?_;obtain⟨y3,e3,h⟩:=B8 h;refine V7 Df (AA hS hL e3) ?_;obtain⟨y4,e4,h⟩:=B8 h;refine V7 Df (BB hS hL e4) ?_;refine O0 Df ?_;cases h;exact kR hS
def EV (N:Nat)(c:A9)(a:Sl Int):Option (Sl Law):= BC N (fun b (x1:Sl Law) (x2:Int)=>if (decide (x2<(a.n:Int))) then if (((0:Int)<=x2/\x2<(a.n:Int))/\((0:Int)<=(a.g x2.toNat)/\(a.g x2.toNat)<(c.Laws.n:Int)))then (CZ N (c.Laws.g (a.g x2.toNat).toNat)).bind fun y3=>if ((x1.n+(Sl.of [y3]:Sl Law).n)*200<=140737488355328/\x1.n+(Sl.of [y3]:Sl Law).n<=140737488355328)then b (x1.push y3) (wrap .i64 (x2+1)) else none else none else some x1) (Sl.nil:Sl Law) 0
theorem Pw {b:A9}{a:Sl Int}{y:Sl Law}(h:EV N b a=some y) :FunO S Iw [.p (.agg (B1 b)),.p (vSl 1 (cI .i64) a)] [] (.p (vSl 18 B5 y)) ([]) []:=by
 unfold EV at h;refine A6 hS Tryz.func94 ?_;refine I8 hS Df h (fun x1 x2=>⟨[(10,pN x2),(9,pN (a.n:Int)),(8,.p (vSl 1 (cI .i64) a)),(5,.vec 6500),(2,.reg 3000 0)],[(6500,.vec DA 18 x1.n (fun i=>B5 (x1.g i)) false),(3000,.cells ((B1 b).map .p))]⟩) (ids:=[(3000,3000)]) (fun _ _ _ _ _ d x1 x2 f h=>?_);apply kI hS h<;>intro h
 .obtain⟨c6,h⟩:=E8 h;obtain⟨y3,e3,h⟩:=B8 h;refine C0 hS [] (And.intro (And.intro c6.1 c6.2) (by decide:(18:Nat)<=18)) (Mb hS hL e3) ?_;obtain⟨c7,h⟩:=E8 h;exact f _ [(3000,3000),(6500,23000)] _ (x1.push y3) (wrap .i64 (x2+1)) (And.intro (rfl:true=true) c7) h (hle:=klR [(3,.fn (x1.n+1) (x1.push y3).n (AP x1.n (fun i=>B5 (x1.g i)) (D3 [.str [],pI .i64 0,pI .u32 0,pI .u32 0,.v (.bool false),pI .i64 0,pI .i64 0,G1,pI .i64 0,pI .u32 0,pI .u32 0,.v (.bool false),pI .i64 0,pI .i64 0,G1,G1,G1,pI .i64 0] [(0,B5 y3)])) (fun i=>B5 ((x1.push y3).g i)))] (al1 ⟨rfl,LI (c:=B5) (v:=x1) (x:=y3) (z:=[(.str []),pI .i64 0,pI .u32 0,pI .u32 0,.v (.bool false),pI .i64 0,pI .i64 0,G1,pI .i64 0,pI .u32 0,pI .u32 0,.v (.bool false),pI .i64 0,pI .i64 0,G1,G1,G1,pI .i64 0]) same rfl rfl⟩ al0))
 obtain rfl:=C7 h;exact B3 hS Df ⟨[(4,.p (vSl 18 B5 x1))],[]⟩ [] (ids:=[]) ⟨rfl,rfl,rfl⟩
def EW (N:Nat)(a:A9)(b:Int):Option ((Sl Law)×Int):= (Q2 N a b).bind fun y1=>(EV N a y1.1).bind fun y2=>some (y2,y1.2)
theorem Px {a:A9}{b:Int}{y:(Sl Law)×Int}(h:EW N a b=some y) :FunO S Iu [.p (.agg (B1 a)),pN b] [] (.tup [.p (vSl 18 B5 y.1),pN y.2]) ([]) []:=by unfold EW at h;refine A6 hS Tryz.func76 ?_;refine kC hS h (IE hS hL) (fun y1 h=>?_);refine kC hS h (Pw hS hL) (fun y2 h=>?_);cases h;exact kR hS
end Go.AM
namespace Go.AM
open IntKind (wrap)
open Go.Proofs
set_option maxRecDepth 10000
set_option maxHeartbeats 2000000
variable {S:Q8}(hS:H1 S Tryz.prog) (hL:GL S)
abbrev KV {T:Type}(e:TypeId)(k:Nat)(c:T->List PV)(x:Sl T):Obj:=.vec e k x.n (fun q=>c (x.g q)) false
theorem Au4 {T:Type}{e:TypeId}{k n i:Nat}{c:T->List PV}{X:Sl (Sl T)}{z:Sl T}:∀q,q<n->(fun q=>if q=i then KV e k c z else if q=i then Obj.dead else KV e k c (X.g q)) q=(fun q=>KV e k c ((X.upd i z).g q)) q:=fun q _=>by by_cases h:q=i<;>simp[h]
include hS hL
def Z2 (N:Nat)(a:Sl F5):Option (Sl (Sl Int)):= if ((0:Int)<=(a.n:Int)/\(a.n:Int)<=(a.n:Int)/\(a.n:Int)*24<=140737488355328/\(a.n:Int)<=140737488355328)then BC N (fun b (x:Int) (X:Sl (Sl Int))=>if (decide (x<(a.n:Int))) then if ((0:Int)<=x/\x<(a.n:Int))then if (a.g x.toNat).Parent.toNat<X.n then lt (fun (z:Sl Int)=>b (wrap .i64 (x+1)) (X.upd (a.g x.toNat).Parent.toNat z)) fun k=>if (decide (0<x)) then if (((0:Int)<=(a.g x.toNat).Parent/\(a.g x.toNat).Parent<(X.n:Int))/\(((X.g (a.g x.toNat).Parent.toNat).n+1)*8<=140737488355328/\(X.g (a.g x.toNat).Parent.toNat).n+1<=140737488355328))then k ((X.g (a.g x.toNat).Parent.toNat).push x) else none else k (X.g (a.g x.toNat).Parent.toNat) else none else none else some X) 0 ⟨a.n,fun _=>Sl.nil⟩ else none
theorem Ow {N:Nat}{b:Sl F5}{y:Sl (Sl Int)}(h:Z2 N b=some y) :FunO S Hx [.p (vSl 2 D6 b)] [] (.p (vSl 1 (cL 1 (cI .i64)) y)) [] []:=by
 unfold Z2 at h;refine A6 hS Tryz.func126 ?_;obtain⟨c1,h⟩:=E8 h;refine Jf hS c1 9 (.fam 9000 9901 fun i=>KV D4 1 (cI .i64) ((⟨b.n,fun _=>Sl.nil⟩:Sl (Sl Int)).g i)) (⟨by decide,fun i _=>rfl⟩:1000<=9901/\∀i,i<b.n->Wi [G1] (KV D4 1 (cI .i64) ((⟨b.n,fun _=>Sl.nil⟩:Sl (Sl Int)).g i))) ?_;refine I8 hS Df h (fun x X=>⟨[(11,pN x),(10,pN (b.n:Int)),(9,.p (vSl 2 D6 b)),(3,.vec 9000)],[(9901,.rows X.n fun i=>KV D4 1 (cI .i64) (X.g i)),(9000,.fam X5 X.n 9901 none)]⟩) (ids:=[(9901,9901),(9000,9000)]) (fun _ _ _ _ _ j x X f h=>?_);apply kI hS h<;>intro h
 .obtain⟨c2,h⟩:=E8 h;obtain⟨c3,h⟩:=E8 h;refine Jf hS (And.intro c2 (by decide:(2:Nat)<=2)) 17 (.take 9000 (b.g x.toNat).Parent.toNat 9801) (⟨⟨by decide,rfl⟩,c3⟩:(1000<=9801/\X.n=X.n)/\(b.g x.toNat).Parent.toNat<X.n) ?_;refine Ef hS Df (A5 hS) h 0 (fun z=>⟨[(11,pN x),(10,pN (b.n:Int)),(9,.p (vSl 2 D6 b)),(3,.vec 9000)],
   [(9901,(.rows X.n fun l=>if l=(b.g x.toNat).Parent.toNat then .dead else KV D4 1 (cI .i64) (X.g l))),(9801,KV D4 1 (cI .i64) z),(9000,.fam X5 X.n 9901 (some ((b.g x.toNat).Parent.toNat,.vec 9801)))]⟩) (fun M k d h=>?_) (fun z h=>?_)
  .apply kI hS h<;>intro h
   .obtain⟨c4,h⟩:=E8 h;refine Av hS Df [(0,.n),(1,.n),(2,.l [6000]),(3,.n),(4,.n),(5,.l [6000]),(6,.l [9000]),(7,.l [9000]),(8,.n),(10,.a [29000,9801]),(11,.l [9000]),(12,.a [9000])] ?_;refine W9 (And.intro c4.1 (And.intro c3 (rfl:(b.g x.toNat).Parent.toNat=(b.g x.toNat).Parent.toNat))) (x:=.sl true 1 1 (D3 [pI .i64 0] [(0,cI .i64 x)])) ?_;refine O0 (And.intro (And.intro c4.2 c4.1) (And.intro c3 (rfl:(b.g x.toNat).Parent.toNat=(b.g x.toNat).Parent.toNat))) ?_;exact d _ [(9901,9901),(9801,29000),(9000,9000)] _ ((X.g (b.g x.toNat).Parent.toNat).push x) Df h (hle:=klR [(5,.fn ((X.g (b.g x.toNat).Parent.toNat).n+1) ((X.g (b.g x.toNat).Parent.toNat).push x).n (AP (X.g (b.g x.toNat).Parent.toNat).n (fun i=>cI .i64 ((X.g (b.g x.toNat).Parent.toNat).g i)) (D3 [pI .i64 0] [(0,cI .i64 x)])) (fun i=>cI .i64 (((X.g (b.g x.toNat).Parent.toNat).push x).g i)))] (al1 ⟨rfl,LI (c:=cI .i64) (v:=X.g (b.g x.toNat).Parent.toNat) (x:=x) (z:=[(pI .i64 0)]) same rfl rfl⟩ al0))
   exact d _ [(9901,9901),(9801,9801),(9000,9000)] _ (X.g (b.g x.toNat).Parent.toNat) Df h
  refine Jf hS Df 30 (.put 9000 9902) (⟨⟨by decide,rfl⟩,c3⟩:(1000<=9902/\X.n=X.n)/\(b.g x.toNat).Parent.toNat<X.n) ?_;exact f _ [(9901,9902),(9000,9000)] _ (wrap .i64 (x+1)) (X.upd (b.g x.toNat).Parent.toNat z) Df h (hle:=klR [(4,.ob X.n (fun q=>if q=(b.g x.toNat).Parent.toNat then KV D4 1 (cI .i64) z else if q=(b.g x.toNat).Parent.toNat then .dead else KV D4 1 (cI .i64) (X.g q)) fun i=>KV D4 1 (cI .i64) ((X.upd (b.g x.toNat).Parent.toNat z).g i))] (al1 Au4 al0))
 refine Jf hS Df 31 (.pub 9000) (⟨rfl,fun i _=>rfl⟩:X.n=X.n/\∀i,i<X.n->(XV (KV D4 1 (cI .i64) (X.g i))).isSome=true) ?_;obtain rfl:=C7 h;exact B3 hS Df ⟨[(2,.p (vSl 1 (cL 1 (cI .i64)) X))],[]⟩ [] (ids:=[]) ⟨rfl,rfl,rfl⟩ (hle:=klR [(0,.fn X.n X.n (fun i=>[(XV (KV D4 1 (cI .i64) (X.g i))).getD default]) (fun i=>cL 1 (cI .i64) (X.g i)))] (al1 ⟨rfl,fun _ _=>rfl⟩ al0))
end Go.AM
namespace Go.AM
open IntKind (wrap)
open Go.Proofs
set_option maxRecDepth 10000
set_option maxHeartbeats 2000000
variable {S:Q8}(hS:H1 S Tryz.prog) (hL:GL S)
include hS hL
def BJ (N:Nat)(b:Sl F5):Option (Sl Int):= (Z2 N b).bind fun y1=>BC N (fun a (x1:Sl Int) (x2:Int)=>if (decide (x2<(y1.n:Int))) then if ((0:Int)<=x2/\x2<(y1.n:Int))then if (((y1.g x2.toNat).n:Int)==0) then if ((x1.n+(Sl.of [x2]:Sl Int).n)*8<=140737488355328/\x1.n+(Sl.of [x2]:Sl Int).n<=140737488355328)then a (x1.push x2) (wrap .i64 (x2+1)) else none else a x1 (wrap .i64 (x2+1)) else none else some x1) (Sl.nil:Sl Int) 0
theorem Sm {N:Nat}{a:Sl F5}{y:Sl Int}(h:BJ N a=some y) :FunO S JQ [.p (vSl 2 D6 a)] [] (.vec 0) ([.vec D4 1 y.n (fun i=>cI .i64 (y.g i)) true]) []:=by
 unfold BJ at h;refine A6 hS Tryz.func90 ?_;refine kC hS h (Ow hS hL) (fun y1 h=>?_);refine I8 hS Df h (fun x1 x2=>⟨[(9,pN x2),(8,pN (y1.n:Int)),(7,.p (vSl 1 (cL 1 (cI .i64)) y1)),(3,.vec 4500)],[(4500,.vec D4 1 x1.n (fun i=>cI .i64 (x1.g i)) false)]⟩) (ids:=[]) (fun _ _ _ _ _ f x1 x2 d h=>?_);apply kI hS h<;>intro h
 .obtain⟨c8,h⟩:=E8 h;refine D9 hS c8 (b:=((y1.g x2.toNat).n:Int)==0) (fun c9=>?_) (fun c9=>?_)
  .replace h:=itT c9 h;obtain⟨c10,h⟩:=E8 h;exact d _ [(4500,21000)] _ (x1.push x2) (wrap .i64 (x2+1)) (And.intro (rfl:true=true) c10) h (hle:=klR [(3,.fn (x1.n+1) (x1.push x2).n (AP x1.n (fun i=>cI .i64 (x1.g i)) (D3 [pI .i64 0] [(0,cI .i64 x2)])) (fun i=>cI .i64 ((x1.push x2).g i)))] (al1 ⟨rfl,LI (c:=cI .i64) (v:=x1) (x:=x2) (z:=[(pI .i64 0)]) same rfl rfl⟩ al0))
  replace h:=itF c9 h;exact d _ [(4500,4500)] _ x1 (wrap .i64 (x2+1)) Df h
 obtain rfl:=C7 h;exact B3 hS Df ⟨[(2,.vec 4500)],[(4500,.vec D4 1 x1.n (fun i=>cI .i64 (x1.g i)) true)]⟩ [4500] (ids:=[(4500,4500)]) ⟨rfl,rfl,rfl⟩
def Am (N:Nat)(a:Sl F5):Option ((Sl Int)×Int):= (Z0 N a).bind fun y1=>if (y1 != 0) then some ((Sl.nil:Sl Int),y1) else (BJ N a).bind fun y2=>some (y2,0)
theorem Jg {N:Nat}{a:Sl F5}{y:(Sl Int)×Int}(h:Am N a=some y) :FunO S JO [.p (vSl 2 D6 a)] [] (.tup [.vec 0,pN y.2]) ([.vec D4 1 y.1.n (fun i=>cI .i64 (y.1.g i)) true]) []:=by
 unfold Am at h;refine A6 hS Tryz.func40 ?_;refine kC hS h (LD hS hL) (fun y1 h=>?_);apply kI hS h<;>intro h
 .obtain rfl:=C7 h;exact B3 hS Df ⟨[(3,pN y1),(2,.vec 3700)],[(3700,.vec D4 1 (Sl.nil:Sl Int).n (fun i=>cI .i64 ((Sl.nil:Sl Int).g i)) true)]⟩ [3700] (ids:=[]) ⟨rfl,rfl,rfl⟩
 refine kC hS h (Sm hS hL) (fun y2 h=>?_);obtain rfl:=C7 h;exact B3 hS Df ⟨[(3,pN 0),(2,.vec 12000)],[(12000,.vec D4 1 y2.n (fun i=>cI .i64 (y2.g i)) true)]⟩ [12000] (ids:=[(12000,12000)]) ⟨rfl,rfl,rfl⟩
end Go.AM
namespace Go.AM
variable {N:Nat}
open IntKind (wrap)
open Go.Proofs
set_option maxRecDepth 10000
set_option maxHeartbeats 2000000
variable {S:Q8}(hS:H1 S Tryz.prog) (hL:GL S)
include hS hL
def T3 (N:Nat)(a:Sl Int)(b:Sl Int):Option Bool:= if ((a.n:Int) != (b.n:Int)) then some false else Y1 N (fun c (x1:Int)=>if (decide (x1<(a.n:Int))) then if (((0:Int)<=x1/\x1<(a.n:Int))/\((0:Int)<=x1/\x1<(b.n:Int)))then if ((a.g x1.toNat) != (b.g x1.toNat)) then some false else c (wrap .i64 (x1+1)) else none else some true) 0
theorem EX {a:Sl Int}{b:Sl Int}{y:Bool}(h:T3 N a b=some y) :FunO S Ba [.p (vSl 1 (cI .i64) a),.p (vSl 1 (cI .i64) b)] [] (pB y) ([]) []:=by
 unfold T3 at h;refine A6 hS Tryz.func23 ?_;apply kI hS h<;>intro h
 .cases h;exact kR hS
 refine N4 hS Df h (fun x1=>⟨[(13,pN x1),(12,pN (a.n:Int)),(1,.p (vSl 1 (cI .i64) b)),(0,.p (vSl 1 (cI .i64) a))],[]⟩) (ids:=[]) (fun _ _ _ _ _ c x1 d h=>?_);apply kI hS h<;>intro h
 .refine G9 hS Df [2,3,6,7] ?_;obtain⟨c9,h⟩:=E8 h;refine O0 c9 ?_;apply kI hS h<;>intro h
  .cases h;exact kR hS
  exact d _ [] _ (wrap .i64 (x1+1)) Df h
 cases h;exact kR hS
def O9 (N:Nat)(a:Sl C4)(b:Sl C4):Option Bool:= if ((a.n:Int) != (b.n:Int)) then some false else Y1 N (fun c (x1:Int)=>if (decide (x1<(a.n:Int))) then if (((0:Int)<=x1/\x1<(a.n:Int))/\((0:Int)<=x1/\x1<(b.n:Int)))then if ((((a.g x1.toNat).a0==(b.g x1.toNat).a0)&&((a.g x1.toNat).a1==(b.g x1.toNat).a1)) != true) then some false else c (wrap .i64 (x1+1)) else none else some true) 0
theorem Da {a:Sl C4}{b:Sl C4}{y:Bool}(h:O9 N a b=some y) :FunO S V9 [.p (vSl 2 H3 a),.p (vSl 2 H3 b)] [] (pB y) ([]) []:=by
 unfold O9 at h;refine A6 hS Tryz.func24 ?_;apply kI hS h<;>intro h
 .cases h;exact kR hS
 refine N4 hS Df h (fun x1=>⟨[(13,pN x1),(12,pN (a.n:Int)),(1,.p (vSl 2 H3 b)),(0,.p (vSl 2 H3 a))],[]⟩) (ids:=[]) (fun _ _ _ _ _ c x1 d h=>?_);apply kI hS h<;>intro h
 .refine G9 hS Df [2,3,6,7] ?_;obtain⟨c9,h⟩:=E8 h;refine O0 (And.intro (And.intro (And.intro (And.intro c9.1 (by decide:(2:Nat)<=2)) c9.2) (by decide:(2:Nat)<=2)) (by decide +kernel:(!Program.eqGuardType Tryz.prog (Program.depth Tryz.prog) MT)=true)) ?_;apply kI hS h<;>intro h
  .cases h;exact kR hS
  exact d _ [] _ (wrap .i64 (x1+1)) Df h
 cases h;exact kR hS
def G0 (N:Nat)(a:Sl Int)(b:Sl Int):Option Bool:= if ((a.n:Int) != (b.n:Int)) then some false else Y1 N (fun c (x1:Int)=>if (decide (x1<(a.n:Int))) then if (((0:Int)<=x1/\x1<(a.n:Int))/\((0:Int)<=x1/\x1<(b.n:Int)))then if ((a.g x1.toNat) != (b.g x1.toNat)) then some false else c (wrap .i64 (x1+1)) else none else some true) 0
theorem N0 {a:Sl Int}{b:Sl Int}{y:Bool}(h:G0 N a b=some y) :FunO S U3 [.p (vSl 1 (cI .u64) a),.p (vSl 1 (cI .u64) b)] [] (pB y) ([]) []:=by
 unfold G0 at h;refine A6 hS Tryz.func45 ?_;apply kI hS h<;>intro h
 .cases h;exact kR hS
 refine N4 hS Df h (fun x1=>⟨[(13,pN x1),(12,pN (a.n:Int)),(1,.p (vSl 1 (cI .u64) b)),(0,.p (vSl 1 (cI .u64) a))],[]⟩) (ids:=[]) (fun _ _ _ _ _ c x1 d h=>?_);apply kI hS h<;>intro h
 .refine G9 hS Df [2,3,6,7] ?_;obtain⟨c9,h⟩:=E8 h;refine O0 c9 ?_;apply kI hS h<;>intro h
  .cases h;exact kR hS
  exact d _ [] _ (wrap .i64 (x1+1)) Df h
 cases h;exact kR hS
def G7 (N:Nat)(a:A3):Option Int:= if (0:Int)<=a.Langs then some (wrap .u64 ((shI .shl .u64 1 a.Langs)-1)) else none
theorem Cl {a:A3}{y:Int}(h:G7 N a=some y) :FunO S FA [.p (.agg (E5 a))] [] (.p (pI .u64 y)) ([]) []:=by unfold G7 at h;refine A6 hS Tryz.func59 ?_;obtain⟨c1,h⟩:=E8 h;obtain rfl:=C7 h;exact XU hS c1 [] ⟨rfl,rfl,rfl⟩
def E1 (N:Nat)(a:Sl Int)(c:Int->Option Bool):Option Int:= Y1 N (fun b (x1:Int)=>if (decide (x1<(a.n:Int))) then if ((0:Int)<=x1/\x1<(a.n:Int))then (c (a.g x1.toNat)).bind fun y3=>if y3 then some x1 else b (wrap .i64 (x1+1)) else none else some (-1)) 0
theorem Bs {a:Sl Int}{c:Int->Option Bool}{kp_f:Nat}{cp_f_0:List PV}(d:∀{a0:Int}{b:Bool},c a0=some b->FunO S kp_f [.p (pI .u64 a0),.p (.ptr cp_f_0)] [] (pB b) [] []){y:Int}(h:E1 N a c=some y) :FunO S R9 [.p (vSl 1 (cI .u64) a),.clo kp_f [] [.p (.ptr cp_f_0)]] [] (pN y) ([]) []:=by
 unfold E1 at h;refine A6 hS Tryz.func99 ?_;refine N4 hS Df h (fun x1=>⟨[(8,pN x1),(7,pN (a.n:Int)),(1,.clo kp_f [] [.p (.ptr cp_f_0)]),(0,.p (vSl 1 (cI .u64) a))],[]⟩) (ids:=[]) (fun _ _ _ _ _ f x1 g h=>?_);apply kI hS h<;>intro h
 .obtain⟨c8,h⟩:=E8 h;obtain⟨y3,e3,h⟩:=B8 h;refine C0 hS [] c8 (d e3) ?_;apply kI hS h<;>intro h
  .cases h;exact kR hS
  exact g _ [] _ (wrap .i64 (x1+1)) Df h
 cases h;exact kR hS
def B4 (N:Nat)(a:Sl Int)(b:Int->Option Bool):Option Bool:= (E1 N a b).bind fun y1=>some (decide (0<=y1))
theorem AD {a:Sl Int}{c:Int->Option Bool}{kp_f:Nat}{cp_f_0:List PV}(d:∀{a0:Int}{b:Bool},c a0=some b->FunO S kp_f [.p (pI .u64 a0),.p (.ptr cp_f_0)] [] (pB b) [] []){y:Bool}(h:B4 N a c=some y) :FunO S O3 [.p (vSl 1 (cI .u64) a),.clo kp_f [] [.p (.ptr cp_f_0)]] [] (pB y) ([]) []:=by unfold B4 at h;refine A6 hS Tryz.func64 ?_;refine kC hS h (Bs hS hL (fun e=>d e)) (fun y1 h=>?_);cases h;exact kR hS
def R0 (N:Nat)(a:Int)(q0:A3):Option Bool:= (G7 N q0).bind fun y1=>some ((E3 .andNot .u64 a y1) != 0)
theorem Ox {a:Int}{q0:A3}{y:Bool}(h:R0 N a q0=some y) :FunO S Hr [.p (pI .u64 a),.p (.ptr [pI .i64 q0.Langs,vSl 1 (cI .u64) q0.Has])] [] (pB y) ([]) []:=by unfold R0 at h;refine A6 hS Tryz.func65 ?_;obtain⟨y1,e1,h⟩:=B8 h;refine C0 hS [] (by decide:(2:Nat)<=2) (Cl hS hL e1) ?_;cases h;exact kR hS
def F2 (N:Nat)(a:A3):Option Int:= if ((decide (a.Langs<0))||(decide (32<a.Langs))) then some 3 else if (decide (64<(a.Has.n:Int))) then some 12 else (B4 N a.Has (fun (u1:Int)=>R0 N u1 a)).bind fun y1=>if y1 then some 2 else some 0
theorem P9 {b:A3}{y:Int}(h:F2 N b=some y) :FunO S JM [.p (.agg (E5 b))] [] (pN y) ([]) []:=by
 unfold F2 at h;refine A6 hS Tryz.func21 ?_;refine kB hS (A5 hS) Df Df 4 (.o (.a (decide (b.Langs<0))) (.a (decide (32<b.Langs)))) ?_;apply kI hS h<;>intro h
 .cases h;exact kR hS
 apply kI hS h<;>intro h
 .cases h;exact kR hS
 refine J3 hS Df 17 2000 [pI .i64 b.Langs,vSl 1 (cI .u64) b.Has] ?_;refine kC hS h (AD hS hL (fun e=>Ox hS hL e)) (fun y1 h=>?_);apply kI hS h<;>intro h
 .cases h;exact kR hS
 cases h;exact kR hS
def C8 (N:Nat)(q0:A3)(q1:Int->Option Bool):Option (List (Int)):= Y1 N (fun a (x1:Int)=>if (decide (x1<(q0.Has.n:Int))) then if ((0:Int)<=x1/\x1<(q0.Has.n:Int))then (q1 (q0.Has.g x1.toNat)).bind fun y3=>if y3 then GM x1 (a (wrap .i64 (x1+1))) else a (wrap .i64 (x1+1)) else none else some []) 0
theorem Af {q0:A3}{q1:Int->Option Bool}{kq1:Nat}{cq1_0:List PV}(f:∀{a0:Int}{b:Bool},q1 a0=some b->FunO S kq1 [.p (pI .u64 a0),.p (.ptr cq1_0)] [] (pB b) [] []){L:List (Int)}(h:C8 N q0 q1=some L) :FX S H5 [] [.reg 0 0,.reg 1 0] [.cells [pN q0.Langs,.p (vSl 1 (cI .u64) q0.Has)],.cells [.clo kq1 [] [.p (.ptr cq1_0)]]] (L.map (fun (x:Int)=>[pI .i64 x])):=by
 unfold C8 at h;refine Gc hS Tryz.func98 ?_;refine Hn hS Df h (fun x1 L1=>⟨[(9,pN x1),(8,pN (q0.Has.n:Int)),(7,.p (vSl 1 (cI .u64) q0.Has)),(2,.reg 1 0),(0,.yf 2)],[(2,.yld (L1.map (fun (x:Int)=>[pI .i64 x])) true),(1,.cells [.clo kq1 [] [.p (.ptr cq1_0)]]),(0,.cells [pN q0.Langs,.p (vSl 1 (cI .u64) q0.Has)])]⟩) (ids:=[(0,0),(1,1),(2,2)]) (fun _ _ _ _ _ g x1 L1 c h=>?_);apply kI hS h<;>intro h
 .obtain⟨c16,h⟩:=E8 h;obtain⟨y3,e3,h⟩:=B8 h;refine C0 hS [] c16 (f e3) ?_;refine kG hS h (fun h=>?_) (fun h=>?_)
  .obtain⟨L7,rfl,d⟩:=NH h;replace h:=d;refine DS hS Df (ys:=(fun (x:Int)=>[pI .i64 x]) x1) (rest:=L7.map (fun (x:Int)=>[pI .i64 x])) ?_ ?_
   .refine D9 hS Df (b:=false) (fun c20=>?_) (fun c20=>?_)
    .exact Bool.noConfusion ((rfl:false=false).symm.trans c20)
    exact c _ [(0,0),(1,1),(2,2)] _ (wrap .i64 (x1+1)) L7 Df h
   refine D9 hS Df (b:=true) (fun c21=>?_) (fun c21=>?_)
   .exact B3 hS Df (a:=.tup []) (objs:=[(.cells [pN q0.Langs,.p (vSl 1 (cI .u64) q0.Has)]),.cells [.clo kq1 [] [.p (.ptr cq1_0)]],.yld [] false]) ⟨[],[(2,.yld [] false),(1,.cells [.clo kq1 [] [.p (.ptr cq1_0)]]),(0,.cells [pN q0.Langs,.p (vSl 1 (cI .u64) q0.Has)])]⟩ [0,1,2] (ids:=[(0,0),(1,1),(2,2)]) ⟨false,rfl,rfl,_,rfl⟩
   exact Bool.noConfusion ((rfl:true=true).symm.trans c21)
  exact c _ [(0,0),(1,1),(2,2)] _ (wrap .i64 (x1+1)) L1 Df h
 obtain rfl:=C7 h;exact B3 hS Df (a:=.tup []) (objs:=[(.cells [pN q0.Langs,.p (vSl 1 (cI .u64) q0.Has)]),.cells [.clo kq1 [] [.p (.ptr cq1_0)]],.yld [] true]) ⟨[],[(2,.yld [] true),(1,.cells [.clo kq1 [] [.p (.ptr cq1_0)]]),(0,.cells [pN q0.Langs,.p (vSl 1 (cI .u64) q0.Has)])]⟩ [0,1,2] (ids:=[(0,0),(1,1),(2,2)]) ⟨true,rfl,rfl,_,rfl⟩
def S1 (N:Nat)(a:A3)(b:Int->Option Bool):Option (A3):= some a
theorem Bt {a:A3}{c:Int->Option Bool}{kp_is:Nat}{cp_is_0:List PV}(d:∀{a0:Int}{b:Bool},c a0=some b->FunO S kp_is [.p (pI .u64 a0),.p (.ptr cp_is_0)] [] (pB b) [] []){y:A3}(h:S1 N a c=some y) :FunO S Bo [.p (.agg (E5 a)),.clo kp_is [] [.p (.ptr cp_is_0)]] [] (.clo H5 [] [.reg 0 0,.reg 1 0]) ([.cells [pN y.Langs,.p (vSl 1 (cI .u64) y.Has)],.cells [.clo kp_is [] [.p (.ptr cp_is_0)]]]) []:=by unfold S1 at h;refine A6 hS Tryz.func57 ?_;obtain rfl:=C7 h;exact B3 hS Df ⟨[(4,.clo H5 [] [.reg 3000 0,.reg 4000 0])],[(4000,.cells [.clo kp_is [] [.p (.ptr cp_is_0)]]),(3000,.cells [pN a.Langs,.p (vSl 1 (cI .u64) a.Has)])]⟩ [3000,4000] (ids:=[(3000,3000),(4000,4000)]) ⟨rfl,rfl,rfl⟩
def K8 (N:Nat)(q0:A3)(q1:Int->Option Bool):Option (List (Int)):= Y1 N (fun a (x1:Int)=>if (decide (x1<(q0.Has.n:Int))) then if ((0:Int)<=x1/\x1<(q0.Has.n:Int))then (q1 (q0.Has.g x1.toNat)).bind fun y3=>if y3 then GM x1 (a (wrap .i64 (x1+1))) else a (wrap .i64 (x1+1)) else none else some []) 0
theorem GR {q0:A3}{q1:Int->Option Bool}{kq1:Nat}{cq1_0 cq1_1:List PV}(f:∀{a0:Int}{b:Bool},q1 a0=some b->FunO S kq1 [.p (pI .u64 a0),.p (.ptr cq1_0),.p (.ptr cq1_1)] [] (pB b) [] []){L:List (Int)}(h:K8 N q0 q1=some L) :FX S H5 [] [.reg 0 0,.reg 1 0] [.cells [pN q0.Langs,.p (vSl 1 (cI .u64) q0.Has)],.cells [.clo kq1 [] [.p (.ptr cq1_0),.p (.ptr cq1_1)]]] (L.map (fun (x:Int)=>[pI .i64 x])):=by
 unfold K8 at h;refine Gc hS Tryz.func98 ?_;refine Hn hS Df h (fun x1 L1=>⟨[(9,pN x1),(8,pN (q0.Has.n:Int)),(7,.p (vSl 1 (cI .u64) q0.Has)),(2,.reg 1 0),(0,.yf 2)],[(2,.yld (L1.map (fun (x:Int)=>[pI .i64 x])) true),(1,.cells [.clo kq1 [] [.p (.ptr cq1_0),.p (.ptr cq1_1)]]),(0,.cells [pN q0.Langs,.p (vSl 1 (cI .u64) q0.Has)])]⟩) (ids:=[(0,0),(1,1),(2,2)]) (fun _ _ _ _ _ g x1 L1 c h=>?_);apply kI hS h<;>intro h
 .obtain⟨c16,h⟩:=E8 h;obtain⟨y3,e3,h⟩:=B8 h;refine C0 hS [] c16 (f e3) ?_;refine kG hS h (fun h=>?_) (fun h=>?_)
  .obtain⟨L7,rfl,d⟩:=NH h;replace h:=d;refine DS hS Df (ys:=(fun (x:Int)=>[pI .i64 x]) x1) (rest:=L7.map (fun (x:Int)=>[pI .i64 x])) ?_ ?_
   .refine D9 hS Df (b:=false) (fun c20=>?_) (fun c20=>?_)
    .exact Bool.noConfusion ((rfl:false=false).symm.trans c20)
    exact c _ [(0,0),(1,1),(2,2)] _ (wrap .i64 (x1+1)) L7 Df h
   refine D9 hS Df (b:=true) (fun c21=>?_) (fun c21=>?_)
   .exact B3 hS Df (a:=.tup []) (objs:=[(.cells [pN q0.Langs,.p (vSl 1 (cI .u64) q0.Has)]),.cells [.clo kq1 [] [.p (.ptr cq1_0),.p (.ptr cq1_1)]],.yld [] false]) ⟨[],[(2,.yld [] false),(1,.cells [.clo kq1 [] [.p (.ptr cq1_0),.p (.ptr cq1_1)]]),(0,.cells [pN q0.Langs,.p (vSl 1 (cI .u64) q0.Has)])]⟩ [0,1,2] (ids:=[(0,0),(1,1),(2,2)]) ⟨false,rfl,rfl,_,rfl⟩
   exact Bool.noConfusion ((rfl:true=true).symm.trans c21)
  exact c _ [(0,0),(1,1),(2,2)] _ (wrap .i64 (x1+1)) L1 Df h
 obtain rfl:=C7 h;exact B3 hS Df (a:=.tup []) (objs:=[(.cells [pN q0.Langs,.p (vSl 1 (cI .u64) q0.Has)]),.cells [.clo kq1 [] [.p (.ptr cq1_0),.p (.ptr cq1_1)]],.yld [] true]) ⟨[],[(2,.yld [] true),(1,.cells [.clo kq1 [] [.p (.ptr cq1_0),.p (.ptr cq1_1)]]),(0,.cells [pN q0.Langs,.p (vSl 1 (cI .u64) q0.Has)])]⟩ [0,1,2] (ids:=[(0,0),(1,1),(2,2)]) ⟨true,rfl,rfl,_,rfl⟩
def AO (N:Nat)(a:A3)(b:Int->Option Bool):Option (A3):= some a
theorem Ib {a:A3}{c:Int->Option Bool}{kp_is:Nat}{cp_is_0 cp_is_1:List PV}(d:∀{a0:Int}{b:Bool},c a0=some b->FunO S kp_is [.p (pI .u64 a0),.p (.ptr cp_is_0),.p (.ptr cp_is_1)] [] (pB b) [] []){y:A3}(h:AO N a c=some y) :FunO S Bo [.p (.agg (E5 a)),.clo kp_is [] [.p (.ptr cp_is_0),.p (.ptr cp_is_1)]] [] (.clo H5 [] [.reg 0 0,.reg 1 0]) ([.cells [pN y.Langs,.p (vSl 1 (cI .u64) y.Has)],.cells [.clo kp_is [] [.p (.ptr cp_is_0),.p (.ptr cp_is_1)]]]) []:=by unfold AO at h;refine A6 hS Tryz.func57 ?_;obtain rfl:=C7 h;exact B3 hS Df ⟨[(4,.clo H5 [] [.reg 3000 0,.reg 4000 0])],[(4000,.cells [.clo kp_is [] [.p (.ptr cp_is_0),.p (.ptr cp_is_1)]]),(3000,.cells [pN a.Langs,.p (vSl 1 (cI .u64) a.Has)])]⟩ [3000,4000] (ids:=[(3000,3000),(4000,4000)]) ⟨rfl,rfl,rfl⟩
def Bi (N:Nat)(a:Int)(q0:A3):Option Bool:= lt (fun (z1:Bool)=>some z1) fun k1=>if ((E3 .and .u64 a (wrap .u64 (a-1))) != 0) then (G7 N q0).bind fun y2=>k1 (a != y2) else k1 false
theorem GJ {a:Int}{q0:A3}{y:Bool}(h:Bi N a q0=some y) :FunO S GC [.p (pI .u64 a),.p (.ptr [pI .i64 q0.Langs,vSl 1 (cI .u64) q0.Has])] [] (pB y) ([]) []:=by
 unfold Bi at h;refine A6 hS Tryz.func58 ?_;refine Ef hS Df (A5 hS) h 0 (fun z1=>⟨[(3,pB z1)],[]⟩) (fun M1 k1 b h=>?_) (fun z1 h=>?_)
 .refine kG hS h (fun h=>?_) (fun h=>?_)
  .obtain⟨y2,e2,h⟩:=B8 h;refine C0 hS [] (by decide:(2:Nat)<=2) (Cl hS hL e2) ?_;exact b _ [] _ (a != y2) Df h
  exact b _ [] _ false Df h
 cases h;exact kR hS
def V4 (N:Nat)(p_x:Int)(a:Int):Option Bool:= some ((((E3 .and .u64 p_x a)==0)||((E3 .andNot .u64 p_x a)==0))||((E3 .andNot .u64 a p_x)==0))
theorem MS {p_x:Int}{b:Int}{y:Bool}(h:V4 N p_x b=some y) :FunO S NN [.p (pI .u64 p_x),.p (pI .u64 b)] [] (pB y) ([]) []:=by unfold V4 at h;refine A6 hS Tryz.func62 ?_;refine kB hS (A5 hS) Df Df 11 (.o (.o (.a ((E3 .and .u64 p_x b)==0)) (.a ((E3 .andNot .u64 p_x b)==0))) (.a ((E3 .andNot .u64 b p_x)==0))) ?_;cases h;exact kR hS
def H4 (N:Nat)(a:Int)(q0:Int):Option Bool:= (V4 N q0 a).bind fun y1=>some (!y1)
theorem Ed {a:Int}{q0:Int}{y:Bool}(h:H4 N a q0=some y) :FunO S DV [.p (pI .u64 a),.p (.ptr [pI .u64 q0])] [] (pB y) ([]) []:=by unfold H4 at h;refine A6 hS Tryz.func61 ?_;refine kC hS h (MS hS hL) (fun y1 h=>?_);cases h;exact kR hS
def J1 (N:Nat)(a:Sl Int)(c:Int->Option Bool):Option Int:= Y1 N (fun b (x1:Int)=>if (decide (x1<(a.n:Int))) then if ((0:Int)<=x1/\x1<(a.n:Int))then (c (a.g x1.toNat)).bind fun y3=>if y3 then some x1 else b (wrap .i64 (x1+1)) else none else some (-1)) 0
theorem Db {a:Sl Int}{c:Int->Option Bool}{kp_f:Nat}{cp_f_0:List PV}(d:∀{a0:Int}{b:Bool},c a0=some b->FunO S kp_f [pN a0,.p (.ptr cp_f_0)] [] (pB b) [] []){y:Int}(h:J1 N a c=some y) :FunO S W4 [.p (vSl 1 (cI .i64) a),.clo kp_f [] [.p (.ptr cp_f_0)]] [] (pN y) ([]) []:=by
 unfold J1 at h;refine A6 hS Tryz.func146 ?_;refine N4 hS Df h (fun x1=>⟨[(8,pN x1),(7,pN (a.n:Int)),(1,.clo kp_f [] [.p (.ptr cp_f_0)]),(0,.p (vSl 1 (cI .i64) a))],[]⟩) (ids:=[]) (fun _ _ _ _ _ f x1 g h=>?_);apply kI hS h<;>intro h
 .obtain⟨c8,h⟩:=E8 h;obtain⟨y3,e3,h⟩:=B8 h;refine C0 hS [] c8 (d e3) ?_;apply kI hS h<;>intro h
  .cases h;exact kR hS
  exact g _ [] _ (wrap .i64 (x1+1)) Df h
 cases h;exact kR hS
def D7 (N:Nat)(a:Sl Int)(b:Int->Option Bool):Option Bool:= (J1 N a b).bind fun y1=>some (decide (0<=y1))
theorem T5 {a:Sl Int}{c:Int->Option Bool}{kp_f:Nat}{cp_f_0:List PV}(d:∀{a0:Int}{b:Bool},c a0=some b->FunO S kp_f [pN a0,.p (.ptr cp_f_0)] [] (pB b) [] []){y:Bool}(h:D7 N a c=some y) :FunO S T4 [.p (vSl 1 (cI .i64) a),.clo kp_f [] [.p (.ptr cp_f_0)]] [] (pB y) ([]) []:=by unfold D7 at h;refine A6 hS Tryz.func115 ?_;refine kC hS h (Db hS hL (fun e=>d e)) (fun y1 h=>?_);cases h;exact kR hS
def J5 (N:Nat)(a:Int)(q0:A3):Option Bool:= some ((decide (a<0))||(decide (q0.Langs<=a)))
theorem CL {b:Int}{q0:A3}{y:Bool}(h:J5 N b q0=some y) :FunO S CF [pN b,.p (.ptr [pI .i64 q0.Langs,vSl 1 (cI .u64) q0.Has])] [] (pB y) ([]) []:=by unfold J5 at h;refine A6 hS Tryz.func116 ?_;refine kB hS (A5 hS) Df Df 5 (.o (.a (decide (b<0))) (.a (decide (q0.Langs<=b)))) ?_;cases h;exact kR hS
def R7 (N:Nat)(c:A3)(b:Int->Option Bool)(a:Sl Int):Option (Int×Int):= (F2 N c).bind fun y1=>if (y1 != 0) then some (0,y1) else (D7 N a (fun (u1:Int)=>J5 N u1 c)).bind fun y2=>if y2 then some (0,3) else (S1 N c b).bind fun y3=>(C8 N y3 b).bind fun L1=>X0 L1 (fun d (x1:Int) (z1:Int)=>d (wrap .i64 (z1+1))) (fun (z1:Int)=>some (z1,0)) 0
theorem Jc {d:A3}{f:Int->Option Bool}{a:Sl Int}{kp_is:Nat}{cp_is_0:List PV}(c:∀{a0:Int}{b:Bool},f a0=some b->FunO S kp_is [.p (pI .u64 a0),.p (.ptr cp_is_0)] [] (pB b) [] []){y:Int×Int}(h:R7 N d f a=some y) :FunO S Bp [.p (.agg (E5 d)),.clo kp_is [] [.p (.ptr cp_is_0)],.p (vSl 1 (cI .i64) a)] [] (.tup [pN y.1,pN y.2]) ([]) []:=by
 unfold R7 at h;refine A6 hS Tryz.func82 ?_;refine kC hS h (P9 hS hL) (fun y1 h=>?_);apply kI hS h<;>intro h
 .cases h;exact kR hS
 refine J3 hS Df 16 4000 [pI .i64 d.Langs,vSl 1 (cI .u64) d.Has] ?_;refine kC hS h (T5 hS hL (fun e=>CL hS hL e)) (fun y2 h=>?_);apply kI hS h<;>intro h
 .cases h;exact kR hS
 obtain⟨y3,e3,h⟩:=B8 h;refine C0 hS [] (by decide:(2:Nat)<=2) (Bt hS hL (fun e=>c e) e3) ?_;obtain⟨L1,e4,h⟩:=B8 h;refine Gd hS Df [21000,21001] [9] 901 (fun z1=>⟨[(9,.reg 10000 0)],[(10000,.cells [pN z1])]⟩) (idl:=[(10000,10000)]) h (Af hS hL (fun e=>c e) e4) (fun _=>by kernel_rfl) (fun _=>by kernel_rfl) (fun _=>by kernel_rfl) (fun _=>by kernel_rfl) (fun x1 _ g z1 i h=>?_) (fun z1 h=>?_)
 .refine JK hS Df ?_;exact i _ [(901,901),(10000,10000)] _ (wrap .i64 (z1+1)) Df h
 cases h;exact kR hS
def P2 (N:Nat)(c:A3)(b:Int->Option Bool)(a:Sl Int):Option (Int×Int):= (F2 N c).bind fun y1=>if (y1 != 0) then some (0,y1) else (D7 N a (fun (u1:Int)=>J5 N u1 c)).bind fun y2=>if y2 then some (0,3) else (AO N c b).bind fun y3=>(K8 N y3 b).bind fun L1=>X0 L1 (fun d (x1:Int) (z1:Int)=>d (wrap .i64 (z1+1))) (fun (z1:Int)=>some (z1,0)) 0
theorem Ic {d:A3}{f:Int->Option Bool}{a:Sl Int}{kp_is:Nat}{cp_is_0 cp_is_1:List PV}(c:∀{a0:Int}{b:Bool},f a0=some b->FunO S kp_is [.p (pI .u64 a0),.p (.ptr cp_is_0),.p (.ptr cp_is_1)] [] (pB b) [] []){y:Int×Int}(h:P2 N d f a=some y) :FunO S Bp [.p (.agg (E5 d)),.clo kp_is [] [.p (.ptr cp_is_0),.p (.ptr cp_is_1)],.p (vSl 1 (cI .i64) a)] [] (.tup [pN y.1,pN y.2]) ([]) []:=by
 unfold P2 at h;refine A6 hS Tryz.func82 ?_;refine kC hS h (P9 hS hL) (fun y1 h=>?_);apply kI hS h<;>intro h
 .cases h;exact kR hS
 refine J3 hS Df 16 4000 [pI .i64 d.Langs,vSl 1 (cI .u64) d.Has] ?_;refine kC hS h (T5 hS hL (fun e=>CL hS hL e)) (fun y2 h=>?_);apply kI hS h<;>intro h
 .cases h;exact kR hS
 obtain⟨y3,e3,h⟩:=B8 h;refine C0 hS [] (by decide:(2:Nat)<=2) (Ib hS hL (fun e=>c e) e3) ?_;obtain⟨L1,e4,h⟩:=B8 h;refine Gd hS Df [21000,21001] [9] 901 (fun z1=>⟨[(9,.reg 10000 0)],[(10000,.cells [pN z1])]⟩) (idl:=[(10000,10000)]) h (GR hS hL (fun e=>c e) e4) (fun _=>by kernel_rfl) (fun _=>by kernel_rfl) (fun _=>by kernel_rfl) (fun _=>by kernel_rfl) (fun x1 _ g z1 i h=>?_) (fun z1 h=>?_)
 .refine JK hS Df ?_;exact i _ [(901,901),(10000,10000)] _ (wrap .i64 (z1+1)) Df h
 cases h;exact kR hS
def Bg (N:Nat)(a:Int)(q0:Int)(q1:Int):Option Bool:= if (0:Int)<=q0 then if (((E3 .and .u64 (shI .shr .u64 a q0) 1)==1)=true->(0:Int)<=q1)then some (((E3 .and .u64 (shI .shr .u64 a q0) 1)==1)&&((E3 .and .u64 (shI .shr .u64 a q1) 1)==1)) else none else none
theorem Mc {b:Int}{q0:Int}{q1:Int}{y:Bool}(h:Bg N b q0 q1=some y) :FunO S CS [.p (pI .u64 b),.p (.ptr [pI .i64 q0]),.p (.ptr [pI .i64 q1])] [] (pB y) ([]) []:=by unfold Bg at h;refine A6 hS Tryz.func83 ?_;obtain⟨c1,h⟩:=E8 h;obtain⟨c2,h⟩:=E8 h;refine kB hS (A5 hS) c1 c2 6 (.n (.a ((E3 .and .u64 (shI .shr .u64 b q0) 1)==1)) (.a ((E3 .and .u64 (shI .shr .u64 b q1) 1)==1))) ?_;cases h;exact kR hS
def Gt (N:Nat)(a:Int)(q0:Int):Option Bool:= if (0:Int)<=q0 then some (a==(shI .shl .u64 1 q0)) else none
theorem Sn {a:Int}{q0:Int}{y:Bool}(h:Gt N a q0=some y) :FunO S Gg [.p (pI .u64 a),.p (.ptr [pI .i64 q0])] [] (pB y) ([]) []:=by unfold Gt at h;refine A6 hS Tryz.func85 ?_;obtain⟨c1,h⟩:=E8 h;obtain rfl:=C7 h;exact XU hS c1 [] ⟨rfl,rfl,rfl⟩
def N3 (N:Nat)(c:A3)(a:Int)(b:Int):Option (Int×Int):= (P2 N c (fun (u1:Int)=>Bg N u1 a b) (Sl.of [a,b]:Sl Int)).bind fun y1=>some (y1.1,y1.2)
theorem EF {c:A3}{a:Int}{b:Int}{y:Int×Int}(h:N3 N c a b=some y) :FunO S Ip [.p (.agg (E5 c)),pN a,pN b] [] (.tup [pN y.1,pN y.2]) ([]) []:=by unfold N3 at h;refine A6 hS Tryz.func33 ?_;refine J3 hS Df 9 5000 [pI .i64 a] ?_;refine J3 hS Df 9 6000 [pI .i64 b] ?_;refine DB hS (rfl:true=true) ⟨[(12,.vec 13000),(9,.clo CS [] [.p (.ptr [pI .i64 a]),.p (.ptr [pI .i64 b])]),(8,.p (.agg (E5 c)))],[(13000,.vec D4 1 (Sl.of [a,b]:Sl Int).n (fun i=>cI .i64 ((Sl.of [a,b]:Sl Int).g i)) false)]⟩ (ids:=[(13000,13000)]) ?_ (hle:=klR [(4,.fn 2 (Sl.of [a,b]:Sl Int).n (D3 [pI .i64 0] [(0,cI .i64 a),(1,cI .i64 b)]) (fun i=>cI .i64 ((Sl.of [a,b]:Sl Int).g i)))] (al1 ⟨rfl,(fun i d=>match i,d with|0,_=>rfl|1,_=>rfl|_+2,d=>Bc d (by omega))⟩ al0));refine kC hS h (Ic hS hL (fun e=>Mc hS hL e)) (fun y1 h=>?_);cases h;exact kR hS
def Oy (N:Nat)(b:A3)(a:Int):Option (Int×Int):= (R7 N b (fun (u1:Int)=>Gt N u1 a) (Sl.of [a]:Sl Int)).bind fun y1=>some (y1.1,y1.2)
theorem AB0 {b:A3}{a:Int}{y:Int×Int}(h:Oy N b a=some y) :FunO S NL [.p (.agg (E5 b)),pN a] [] (.tup [pN y.1,pN y.2]) ([]) []:=by unfold Oy at h;refine A6 hS Tryz.func35 ?_;refine J3 hS Df 7 4000 [pI .i64 a] ?_;refine DB hS (rfl:true=true) ⟨[(9,.vec 10000),(7,.clo Gg [] [.p (.ptr [pI .i64 a])]),(6,.p (.agg (E5 b)))],[(10000,.vec D4 1 (Sl.of [a]:Sl Int).n (fun i=>cI .i64 ((Sl.of [a]:Sl Int).g i)) false)]⟩ (ids:=[(10000,10000)]) ?_ (hle:=klR [(3,.fn 1 (Sl.of [a]:Sl Int).n (D3 [pI .i64 0] [(0,cI .i64 a)]) (fun i=>cI .i64 ((Sl.of [a]:Sl Int).g i)))] (al1 ⟨rfl,(fun i c=>match i,c with|0,_=>rfl|_+1,c=>Bc c (by omega))⟩ al0));refine kC hS h (Jc hS hL (fun e=>Sn hS hL e)) (fun y1 h=>?_);cases h;exact kR hS
def G6 (N:Nat)(a:A3):Option ((Sl C4)×Int):= (F2 N a).bind fun y1=>if (y1 != 0) then some ((Sl.nil:Sl C4),y1) else BC N (fun c (x3:Sl C4) (x4:Int)=>if (decide (x4<(a.Has.n:Int))) then if ((0:Int)<=x4/\x4<(a.Has.n:Int))then (S1 N a (fun (u5:Int)=>H4 N u5 (a.Has.g x4.toNat))).bind fun y4=>(C8 N y4 (fun (u6:Int)=>H4 N u6 (a.Has.g x4.toNat))).bind fun L3=>X0 L3 (fun b (x7:Int) (z3:Sl C4)=>if (decide (x4<x7)) then if ((z3.n+(Sl.of [(⟨x4,x7⟩:C4)]:Sl C4).n)*16<=140737488355328/\z3.n+(Sl.of [(⟨x4,x7⟩:C4)]:Sl C4).n<=140737488355328)then b (z3.push (⟨x4,x7⟩:C4)) else none else b z3) (fun (z3:Sl C4)=>c z3 (wrap .i64 (x4+1))) x3 else none else some (x3,0)) (Sl.nil:Sl C4) 0
theorem Cd {a:A3}{y:(Sl C4)×Int}(h:G6 N a=some y) :FunO S Fz [.p (.agg (E5 a))] [] (.tup [.p (vSl 2 H3 y.1),pN y.2]) ([]) []:=by
 unfold G6 at h;refine A6 hS Tryz.func19 ?_;refine kC hS h (P9 hS hL) (fun y1 h=>?_);apply kI hS h<;>intro h
 .obtain rfl:=C7 h;exact B3 hS Df ⟨[(3,pN y1),(2,.p (vSl 2 H3 (Sl.nil:Sl C4)))],[]⟩ [] (ids:=[]) ⟨rfl,rfl,rfl⟩
 refine I8 hS Df h (fun x3 x4=>⟨[(17,pN x4),(16,pN (a.Has.n:Int)),(15,.p (vSl 1 (cI .u64) a.Has)),(5,.reg 6000 0),(1,.reg 2000 0)],[(6501,.vec MT 2 x3.n (fun i=>H3 (x3.g i)) false),(6000,.cells [.vec 6501]),(2000,.cells [pN a.Langs,.p (vSl 1 (cI .u64) a.Has)])]⟩) (ids:=[(2000,2000),(6000,6000)]) (fun _ _ _ _ _ d x3 x4 f h=>?_);apply kI hS h<;>intro h
 .obtain⟨c15,h⟩:=E8 h;refine J3 hS c15 23 8000 [pI .u64 (a.Has.g x4.toNat)] ?_;refine kC hS h (Bt hS hL (fun e=>Ed hS hL e)) (fun y4 h=>?_);obtain⟨L3,e7,h⟩:=B8 h;refine Gd hS Df [25000,25001] [17,16,15,6,5,1] 905 (fun z3=>⟨[(17,pN x4),(16,pN (a.Has.n:Int)),(15,.p (vSl 1 (cI .u64) a.Has)),(6,.reg 7000 0),(5,.reg 6000 0),(1,.reg 2000 0)],[(7000,.cells [pN x4]),(6500,.vec MT 2 z3.n (fun i=>H3 (z3.g i)) false),(6000,.cells [.vec 6500]),(2000,.cells [pN a.Langs,.p (vSl 1 (cI .u64) a.Has)])]⟩) (idl:=[(2000,2000),(6000,6000),(6500,6501),(7000,7000)]) h (Af hS hL (fun e=>Ed hS hL e) e7) (fun _=>by kernel_rfl) (fun _=>by kernel_rfl) (fun _=>by kernel_rfl) (fun _=>by kernel_rfl) (fun x7 _ j z3 b h=>?_) (fun z3 h=>?_)
  .refine JK hS Df ?_;apply kI hS h<;>intro h
   .obtain⟨c19,h⟩:=E8 h;exact b _ [(905,905),(2000,2000),(6000,6000),(6500,35000),(7000,7000)] _ (z3.push (⟨x4,x7⟩:C4)) (And.intro (rfl:true=true) c19) h (hle:=klR [(1,.fn (z3.n+1) (z3.push (⟨x4,x7⟩:C4)).n (AP z3.n (fun i=>H3 (z3.g i)) (D3 [pI .i64 0,pI .i64 0] [(0,H3 (⟨x4,x7⟩:C4))])) (fun i=>H3 ((z3.push (⟨x4,x7⟩:C4)).g i)))] (al1 ⟨rfl,LI (c:=H3) (v:=z3) (x:=(⟨x4,x7⟩:C4)) (z:=[(pI .i64 0),pI .i64 0]) same rfl rfl⟩ al0))
   exact b _ [(905,905),(2000,2000),(6000,6000),(6500,6500),(7000,7000)] _ z3 Df h
  exact f _ [(2000,2000),(6000,6000),(6501,6500)] _ z3 (wrap .i64 (x4+1)) Df h
 obtain rfl:=C7 h;exact B3 hS Df ⟨[(3,pN 0),(2,.p (vSl 2 H3 x3))],[]⟩ [] (ids:=[]) ⟨rfl,rfl,rfl⟩
def HL (N:Nat)(c:A3)(b:Int):Option (A3×Int):= (F2 N c).bind fun y1=>if (y1 != 0) then some ((⟨0,(Sl.nil:Sl Int)⟩:A3),y1) else (G7 N c).bind fun y2=>if ((E3 .andNot .u64 b y2) != 0) then some ((⟨0,(Sl.nil:Sl Int)⟩:A3),2) else Ag7 N (fun f (x1:Nat->Int) (x2:Int) (x3:Int)=>if (x3 != 0) then (S0 N x3).bind fun y5=>if (((0:Int)<=x2/\x2<32)/\(0+x2.toNat*1)<32)then f (Mm x1 (0+x2.toNat*1) y5) (wrap .i64 (x2+1)) (E3 .and .u64 x3 (wrap .u64 (x3-1))) else none else BC N (fun i (x6:Sl Int) (x7:Int)=>if (decide (x7<(c.Has.n:Int))) then if (((0:Int)<=x7/\x7<(c.Has.n:Int))/\((0:Int)<=x2/\x2<=((32:Nat):Int)))then BC N (fun j (d:Int) (a:Int)=>if (decide (a<((⟨x2.toNat,x1⟩:Sl Int).n:Int))) then if ((((0:Int)<=a/\a<((⟨x2.toNat,x1⟩:Sl Int).n:Int))/\(0:Int)<=((⟨x2.toNat,x1⟩:Sl Int).g a.toNat))/\(0:Int)<=a)then j (E3 .or .u64 d (shI .shl .u64 (E3 .and .u64 (shI .shr .u64 (c.Has.g x7.toNat) ((⟨x2.toNat,x1⟩:Sl Int).g a.toNat)) 1) a)) (wrap .i64 (a+1)) else none else if ((x6.n+(Sl.of [d]:Sl Int).n)*8<=140737488355328/\x6.n+(Sl.of [d]:Sl Int).n<=140737488355328)then i (x6.push d) (wrap .i64 (x7+1)) else none) 0 0 else none else some ((⟨x2,x6⟩:A3),0)) (Sl.nil:Sl Int) 0) (fun _=>0) 0 b
theorem Um {a:A3}{d:Int}{y:A3×Int}(h:HL N a d=some y) :FunO S Lr [.p (.agg (E5 a)),.p (pI .u64 d)] [] (.tup [.p (.agg (E5 y.1)),pN y.2]) ([]) []:=by
 unfold HL at h;refine A6 hS Tryz.func26 ?_;refine J3 hS Df 4 3000 [pI .i64 a.Langs,vSl 1 (cI .u64) a.Has] ?_;obtain⟨y1,e1,h⟩:=B8 h;refine C0 hS [] (by decide:(2:Nat)<=2) (P9 hS hL e1) ?_;apply kI hS h<;>intro h
 .obtain rfl:=C7 h;exact B3 hS Df ⟨[(5,pN y1),(4,.reg 5000 0)],[(5000,.cells [pN 0,.p (vSl 1 (cI .u64) (Sl.nil:Sl Int))])]⟩ [] (ids:=[(5000,5000)]) ⟨rfl,rfl,rfl⟩
 obtain⟨y2,e2,h⟩:=B8 h;refine C0 hS [] (by decide:(2:Nat)<=2) (Cl hS hL e2) ?_;apply kI hS h<;>intro h
 .obtain rfl:=C7 h;exact B3 hS Df ⟨[(5,pN 2),(4,.reg 5000 0)],[(5000,.cells [pN 0,.p (vSl 1 (cI .u64) (Sl.nil:Sl Int))])]⟩ [] (ids:=[(5000,5000)]) ⟨rfl,rfl,rfl⟩
 refine KU hS Df h (fun x1 x2 x3=>⟨[(9,.p (pI .u64 x3)),(8,.reg 9000 0),(7,.reg 8000 0),(4,.reg 5000 0),(2,.p (.ptr [pI .i64 a.Langs,vSl 1 (cI .u64) a.Has]))],[(9000,.cells [pN x2,.p G1]),(8000,.arr 32 (fun i=>pI .i64 (x1 i))),(5000,.cells [pN 0,.p G1])]⟩) (ids:=[(5000,5000),(8000,8000),(9000,9000)]) (fun _ _ _ _ _ j x1 x2 x3 l h=>?_) (hle:=klR [(4,.fn 32 32 (fun i=>[(fun i=>(List.replicate 32 (pI .i64 0)).getD i default) i]) (fun i=>[pI .i64 ((fun _=>0) i)]))] (al1 ⟨rfl,BR (z:=pI .i64 0) rfl⟩ al0));apply kI hS h<;>intro h
 .refine G9 hS Df [3] ?_;obtain⟨y5,e5,h⟩:=B8 h;refine V7 Df (Ab hS hL e5) ?_;obtain⟨c8,h⟩:=E8 h;refine O0 c8 ?_;exact l _ [(5000,5000),(8000,8000),(9000,9000)] _ (Mm x1 (0+x2.toNat*1) y5) (wrap .i64 (x2+1)) (E3 .and .u64 x3 (wrap .u64 (x3-1))) Df h (hle:=klR [(4,.fn 32 32 (fun i=>[(fun i=>if i=(0+x2.toNat*1)then (pI .i64 y5)else (fun i=>pI .i64 (x1 i)) i) i]) (fun i=>[pI .i64 (Mm x1 (0+x2.toNat*1) y5 i)]))] (al1 ⟨rfl,At3 (c:=pI .i64) (v:=x1) (x:=y5) (fun _ _=>rfl) rfl⟩ al0))
 refine AI4 hS Df 44 8000 32 (fun i=>pI .i64 (x1 i)) ?_;refine I8 hS Df h (fun x6 x7=>⟨[(47,pN x7),(46,pN (a.Has.n:Int)),(45,.p (vSl 1 (cI .u64) a.Has)),(8,.reg 9000 0),(7,.p (.ptr (BL 32 (fun i=>pI .i64 (x1 i))))),(4,.reg 5000 0)],[(9500,.vec P8 1 x6.n (fun i=>cI .u64 (x6.g i)) false),(9000,.cells [pN x2,.vec 9500]),(5000,.cells [pN 0,.p G1])]⟩) (ids:=[(5000,5000),(9000,9000)]) (fun _ _ _ _ _ m x6 x7 o h=>?_);apply kI hS h<;>intro h
 .obtain⟨c22,h⟩:=E8 h;refine I8 hS c22 h (fun b f=>⟨[(55,pN f),(54,pN ((⟨x2.toNat,x1⟩:Sl Int).n:Int)),(53,.p (vSl 1 (cI .i64) (⟨x2.toNat,x1⟩:Sl Int))),(47,pN x7),(46,pN (a.Has.n:Int)),(45,.p (vSl 1 (cI .u64) a.Has)),(12,.p (pI .u64 b)),(11,.p (pI .u64 (a.Has.g x7.toNat))),(8,.reg 9000 0),(7,.p (.ptr (BL 32 (fun i=>pI .i64 (x1 i))))),(4,.reg 5000 0)],[(9500,.vec P8 1 x6.n (fun i=>cI .u64 (x6.g i)) false),(9000,.cells [pN x2,.vec 9500]),(5000,.cells [pN 0,.p G1])]⟩) (ids:=[(5000,5000),(9000,9000),(9500,9500)]) (fun _ _ _ _ _ q b f r h=>?_) (hle:=klR [(2,.fn x2.toNat (⟨x2.toNat,x1⟩:Sl Int).n (fun i=>[(BL 32 (fun i=>pI .i64 (x1 i))).getD i default]) (fun i=>cI .i64 ((⟨x2.toNat,x1⟩:Sl Int).g i)))] (al1 ⟨rfl,fun i s=>arrG _ (by omega)⟩ al0));apply kI hS h<;>intro h
  .obtain⟨c26,h⟩:=E8 h;exact r _ [(5000,5000),(9000,9000),(9500,9500)] _ (E3 .or .u64 b (shI .shl .u64 (E3 .and .u64 (shI .shr .u64 (a.Has.g x7.toNat) ((⟨x2.toNat,x1⟩:Sl Int).g f.toNat)) 1) f)) (wrap .i64 (f+1)) c26 h
  obtain⟨c27,h⟩:=E8 h;exact o _ [(5000,5000),(9000,9000),(9500,74000)] _ (x6.push b) (wrap .i64 (x7+1)) (And.intro (rfl:true=true) c27) h (hle:=klR [(4,.fn (x6.n+1) (x6.push b).n (AP x6.n (fun i=>cI .u64 (x6.g i)) (D3 [pI .u64 0] [(0,cI .u64 b)])) (fun i=>cI .u64 ((x6.push b).g i)))] (al1 ⟨rfl,LI (c:=cI .u64) (v:=x6) (x:=b) (z:=[(pI .u64 0)]) same rfl rfl⟩ al0))
 obtain rfl:=C7 h;exact B3 hS Df ⟨[(5,pN 0),(4,.reg 5000 0)],[(5000,.cells [pN x2,.p (vSl 1 (cI .u64) x6)])]⟩ [] (ids:=[(5000,5000)]) ⟨rfl,rfl,rfl⟩
def N9 (N:Nat)(a:List (Int)):Option (Sl Int):= X0 a (fun b (x1:Int) (z1:Sl Int)=>if ((z1.n+(Sl.of [x1]:Sl Int).n)*8<=140737488355328/\z1.n+(Sl.of [x1]:Sl Int).n<=140737488355328)then b (z1.push x1) else none) (fun (z1:Sl Int)=>some z1) (Sl.nil:Sl Int)
theorem CM {f:List (Int)}{a:A3}{d:Nat}{b:List PV}{kp_seq:Nat}(fp_seq:∃fn,AJ8[kp_seq]? = some fn/\fn.body.isSome=true/\(fn.name == "runtime.NumGoroutine")=false)(j:FX S kp_seq [] [.reg 0 0,.reg 1 0] [(.cells [(pN a.Langs),(.p (vSl 1 (cI .u64) a.Has))]),(.cells [(.clo d [] [(.p (.ptr b))])])] (f.map (fun (x:Int)=>[(pI .i64) x]))){y:(Sl Int)}(h:N9 N f=some y) :FunO S O7 [(.p G1),(.clo kp_seq [] [(.reg 0 0),(.reg 1 0)])] [(.cells [(pN a.Langs),(.p (vSl 1 (cI .u64) a.Has))]),(.cells [(.clo d [] [(.p (.ptr b))])])] (.vec 0) ([(.vec D4 1 y.n (fun i=>(cI .i64) (y.g i)) true)]) [false,false]:=by
 unfold N9 at h;refine A6 hS Tryz.func97 ?_;refine RC hS Df fp_seq [0,1] [2] 901 (fun z1=>⟨[(2,(.reg 3000 0))],[(3500,(.vec D4 1 z1.n (fun i=>(cI .i64) (z1.g i)) false)),(3000,(.cells [(.vec 3500)]))]⟩) (idl:=[(3000,3000)]) h j (fun _=>by kernel_rfl) (fun _=>by kernel_rfl) (fun _=>by kernel_rfl) (fun _=>by kernel_rfl) (fun x1 _ l z1 m h=>?_) (fun z1 h=>?_)
 .refine JK hS Df ?_;obtain⟨c1,h⟩:=E8 h;exact m _ [(901,901),(3000,3000),(3500,12000)] _ (z1.push x1) (And.intro (rfl:true=true) c1) h (hle:=klR [(0,.fn (z1.n+1) (z1.push x1).n (AP z1.n (fun i=>(cI .i64) (z1.g i)) (D3 [(pI .i64 0)] [(0,(cI .i64) x1)])) (fun i=>(cI .i64) ((z1.push x1).g i)))] (al1 ⟨rfl,(LI (c:=(cI .i64)) (v:=z1) (x:=x1) (z:=[(pI .i64 0)]) same rfl rfl)⟩ al0))
 obtain rfl:=C7 h;exact B3 hS Df ⟨[(4,(.vec 3500))],[(3500,(.vec D4 1 z1.n (fun i=>(cI .i64) (z1.g i)) true))]⟩ [3500] (ids:=[(3500,3500)]) ⟨rfl,rfl,rfl⟩
def Ag (N:Nat)(a:List (Int)):Option (Sl Int):= (N9 N a).bind fun y1=>some y1
theorem HM {d:List (Int)}{a:A3}{c:Nat}{b:List PV}{kp_seq:Nat}(fp_seq:∃fn,AJ8[kp_seq]? = some fn/\fn.body.isSome=true/\(fn.name == "runtime.NumGoroutine")=false)(f:FX S kp_seq [] [.reg 0 0,.reg 1 0] [(.cells [(pN a.Langs),(.p (vSl 1 (cI .u64) a.Has))]),(.cells [(.clo c [] [(.p (.ptr b))])])] (d.map (fun (x:Int)=>[(pI .i64) x]))){y:(Sl Int)}(h:Ag N d=some y) :FunO S AH [(.clo kp_seq [] [(.reg 0 0),(.reg 1 0)])] [(.cells [(pN a.Langs),(.p (vSl 1 (cI .u64) a.Has))]),(.cells [(.clo c [] [(.p (.ptr b))])])] (.vec 0) ([(.vec D4 1 y.n (fun i=>(cI .i64) (y.g i)) true)]) [false,false]:=by unfold Ag at h;refine A6 hS Tryz.func56 ?_;obtain⟨y1,e1,h⟩:=B8 h;refine C0 hS [0,1] Df (CM hS hL fp_seq f e1) ?_;obtain rfl:=C7 h;exact B3 hS Df ⟨[(2,(.vec 5000))],[(5000,(.vec D4 1 y1.n (fun i=>(cI .i64) (y1.g i)) true))]⟩ [5000] (ids:=[(5000,5000)]) ⟨rfl,rfl,rfl⟩
def AQ (N:Nat)(a:A3):Option ((Sl Int)×Int):= (F2 N a).bind fun y1=>if (y1 != 0) then some ((Sl.nil:Sl Int),y1) else (S1 N a (fun (u1:Int)=>Bi N u1 a)).bind fun y2=>(C8 N y2 (fun (u2:Int)=>Bi N u2 a)).bind fun L1=>(Ag N L1).bind fun y3=>some (y3,0)
theorem EC {a:A3}{y:(Sl Int)×Int}(h:AQ N a=some y) :FunO S Io [.p (.agg (E5 a))] [] (.tup [.p (vSl 1 (cI .i64) y.1),pN y.2]) ([]) []:=by
 unfold AQ at h;refine A6 hS Tryz.func17 ?_;refine kC hS h (P9 hS hL) (fun y1 h=>?_);apply kI hS h<;>intro h
 .obtain rfl:=C7 h;exact B3 hS Df ⟨[(3,pN y1),(2,.p (vSl 1 (cI .i64) (Sl.nil:Sl Int)))],[]⟩ [] (ids:=[]) ⟨rfl,rfl,rfl⟩
 refine J3 hS Df 11 2000 [pI .i64 a.Langs,vSl 1 (cI .u64) a.Has] ?_;refine kC hS h (Bt hS hL (fun e=>GJ hS hL e)) (fun y2 h=>?_);obtain⟨L1,e3,h⟩:=B8 h;obtain⟨y3,e4,h⟩:=B8 h;refine C0 hS [13000,13001] Df (HM hS hL ⟨_,Tryz.func98,by decide +kernel,by decide +kernel⟩ (Af hS hL (fun e=>GJ hS hL e) e3) e4) ?_;obtain rfl:=C7 h;exact B3 hS Df ⟨[(3,pN 0),(2,.p (vSl 1 (cI .i64) y3))],[]⟩ [] (ids:=[]) ⟨rfl,rfl,rfl⟩
def T1 (N:Nat)(a:A9):Option ((Sl Int)×Int):= (Am N a.Tree).bind fun y1=>if (y1.2 != 0) then some ((Sl.nil:Sl Int),y1.2) else if (decide (32<(y1.1.n:Int))) then some ((Sl.nil:Sl Int),12) else some (y1.1,0)
theorem IF {a:A9}{y:(Sl Int)×Int}(h:T1 N a=some y) :FunO S Iq [.p (.agg (B1 a))] [] (.tup [.vec 0,pN y.2]) ([.vec D4 1 y.1.n (fun i=>cI .i64 (y.1.g i)) true]) []:=by
 unfold T1 at h;refine A6 hS Tryz.func71 ?_;refine kC hS h (Jg hS hL) (fun y1 h=>?_);apply kI hS h<;>intro h
 .obtain rfl:=C7 h;exact B3 hS Df ⟨[(3,pN y1.2),(2,.vec 3700)],[(3700,.vec D4 1 (Sl.nil:Sl Int).n (fun i=>cI .i64 ((Sl.nil:Sl Int).g i)) true)]⟩ [3700] (ids:=[]) ⟨rfl,rfl,rfl⟩
 apply kI hS h<;>intro h
 .obtain rfl:=C7 h;exact B3 hS Df ⟨[(3,pN 12),(2,.vec 3700)],[(3700,.vec D4 1 (Sl.nil:Sl Int).n (fun i=>cI .i64 ((Sl.nil:Sl Int).g i)) true)]⟩ [3700] (ids:=[]) ⟨rfl,rfl,rfl⟩
 obtain rfl:=C7 h;exact B3 hS Df ⟨[(3,pN 0),(2,.vec 10000)],[(10000,.vec D4 1 y1.1.n (fun i=>cI .i64 (y1.1.g i)) true)]⟩ [10000] (ids:=[(10000,10000)]) ⟨rfl,rfl,rfl⟩
def U7 (N:Nat)(a:A9):Option (A3×Int):= (N5 N a).bind fun y1=>if (y1 != 0) then some ((⟨0,(Sl.nil:Sl Int)⟩:A3),y1) else (T1 N a).bind fun y2=>if (y2.2 != 0) then some ((⟨0,(Sl.nil:Sl Int)⟩:A3),y2.2) else if ((0:Int)<=(a.Laws.n:Int)/\(a.Laws.n:Int)<=(a.Laws.n:Int)/\(a.Laws.n:Int)*8<=140737488355328/\(a.Laws.n:Int)<=140737488355328)then BC N (fun b (x3:Sl Int) (x4:Int)=>if (decide (x4<(y2.1.n:Int))) then if (((0:Int)<=x4/\x4<(y2.1.n:Int))/\x4.toNat<y2.1.n)then (Q2 N a (y2.1.g x4.toNat)).bind fun y5=>if (y5.2 != 0) then some ((⟨0,(Sl.nil:Sl Int)⟩:A3),y5.2) else BC N (fun c (x7:Sl Int) (x8:Int)=>if (decide (x8<(y5.1.n:Int))) then if (((0:Int)<=x8/\x8<(y5.1.n:Int))/\x8.toNat<y5.1.n)then if ((((((0:Int)<=(y5.1.g x8.toNat)/\(y5.1.g x8.toNat)<(x7.n:Int))/\(y5.1.g x8.toNat).toNat<x7.n)/\(0:Int)<=x4)/\((0:Int)<=(y5.1.g x8.toNat)/\(y5.1.g x8.toNat)<(x7.n:Int)))/\(y5.1.g x8.toNat).toNat<x7.n)then c (x7.upd (y5.1.g x8.toNat).toNat (E3 .or .u64 (x7.g (y5.1.g x8.toNat).toNat) (shI .shl .u64 1 x4))) (wrap .i64 (x8+1)) else none else none else b x7 (wrap .i64 (x4+1))) x3 0 else none else some ((⟨(y2.1.n:Int),x3⟩:A3),0)) (Sl.rep (a.Laws.n:Int).toNat 0:Sl Int) 0 else none
theorem Ei {a:A9}{y:A3×Int}(h:U7 N a=some y) :FunO S Ls [.p (.agg (B1 a))] [] (.tup [.p (.agg (E5 y.1)),pN y.2]) ([]) []:=by
 unfold U7 at h;refine A6 hS Tryz.func29 ?_;refine J3 hS Df 2 2000 (B1 a) ?_;obtain⟨y1,e1,h⟩:=B8 h;refine C0 hS [] (by decide:(3:Nat)<=3) (Ec hS hL e1) ?_;apply kI hS h<;>intro h
 .obtain rfl:=C7 h;exact B3 hS Df ⟨[(3,pN y1),(2,.reg 3000 0)],[(3000,.cells [pN 0,.p (vSl 1 (cI .u64) (Sl.nil:Sl Int))])]⟩ [] (ids:=[(3000,3000)]) ⟨rfl,rfl,rfl⟩
 obtain⟨y2,e2,h⟩:=B8 h;refine C0 hS [] (by decide:(3:Nat)<=3) (IF hS hL e2) ?_;apply kI hS h<;>intro h
 .obtain rfl:=C7 h;exact B3 hS Df ⟨[(3,pN y2.2),(2,.reg 3000 0)],[(3000,.cells [pN 0,.p (vSl 1 (cI .u64) (Sl.nil:Sl Int))])]⟩ [] (ids:=[(3000,3000)]) ⟨rfl,rfl,rfl⟩
 obtain⟨c3,h⟩:=E8 h;refine I8 hS c3 h (fun x3 x4=>⟨[(38,pN x4),(37,pN (y2.1.n:Int)),(36,.vec 23000),(7,.reg 8000 0),(2,.reg 3000 0),(1,.p (.ptr (B1 a)))],[(35000,.vec P8 1 x3.n (fun i=>cI .u64 (x3.g i)) false),(23000,.vec D4 1 y2.1.n (fun i=>cI .i64 (y2.1.g i)) true),(8000,.cells [pN (y2.1.n:Int),.vec 35000]),(3000,.cells [pN 0,.p G1])]⟩) (ids:=[(3000,3000),(8000,8000),(23000,23000),(35000,35000)]) (fun _ _ _ _ _ b x3 x4 d h=>?_);apply kI hS h<;>intro h
 .obtain⟨c29,h⟩:=E8 h;obtain⟨y5,e5,h⟩:=B8 h;refine C0 hS [] (And.intro (And.intro c29.1 c29.2) (by decide:(3:Nat)<=3)) (IE hS hL e5) ?_;apply kI hS h<;>intro h
  .obtain rfl:=C7 h;exact B3 hS Df ⟨[(3,pN y5.2),(2,.reg 3000 0)],[(3000,.cells [pN 0,.p (vSl 1 (cI .u64) (Sl.nil:Sl Int))])]⟩ [] (ids:=[(3000,3000)]) ⟨rfl,rfl,rfl⟩
  refine I8 hS Df h (fun x7 x8=>⟨[(55,pN x8),(54,pN (y5.1.n:Int)),(53,.vec 47000),(38,pN x4),(37,pN (y2.1.n:Int)),(36,.vec 23000),(8,pN x4),(7,.reg 8000 0),(2,.reg 3000 0),(1,.p (.ptr (B1 a)))],[(47000,.vec D4 1 y5.1.n (fun i=>cI .i64 (y5.1.g i)) true),(35000,.vec P8 1 x7.n (fun i=>cI .u64 (x7.g i)) false),(23000,.vec D4 1 y2.1.n (fun i=>cI .i64 (y2.1.g i)) true),(8000,.cells [pN (y2.1.n:Int),.vec 35000]),(3000,.cells [pN 0,.p G1])]⟩) (ids:=[(3000,3000),(8000,8000),(23000,23000),(35000,35000),(47000,47000)]) (fun _ _ _ _ _ f x7 x8 j h=>?_);apply kI hS h<;>intro h
  .obtain⟨c38,h⟩:=E8 h;refine FP hS c38 ?_;obtain⟨c39,h⟩:=E8 h;refine O0 (And.intro (And.intro (And.intro (And.intro c39.1.1.1.1 c39.1.1.1.2) c39.1.1.2) c39.1.2) (And.intro (rfl:(1:Nat)=1) (And.intro c39.2 (by decide:(1:Nat)<=1)))) ?_;exact j _ [(3000,3000),(8000,8000),(23000,23000),(35000,35000),(47000,47000)] _ (x7.upd (y5.1.g x8.toNat).toNat (E3 .or .u64 (x7.g (y5.1.g x8.toNat).toNat) (shI .shl .u64 1 x4))) (wrap .i64 (x8+1)) Df h (hle:=klR [(7,.fn x7.n (x7.upd (y5.1.g x8.toNat).toNat (E3 .or .u64 (x7.g (y5.1.g x8.toNat).toNat) (shI .shl .u64 1 x4))).n (fun l=>if l=(y5.1.g x8.toNat).toNat then splice ((fun i=>cI .u64 (x7.g i)) l) 0 [pI .u64 (E3 .or .u64 (x7.g (y5.1.g x8.toNat).toNat) (shI .shl .u64 1 x4))]else (fun i=>cI .u64 (x7.g i)) l) (fun i=>cI .u64 ((x7.upd (y5.1.g x8.toNat).toNat (E3 .or .u64 (x7.g (y5.1.g x8.toNat).toNat) (shI .shl .u64 1 x4))).g i)))] (al1 ⟨rfl,AB3 (c:=cI .u64) (v:=x7) (x:=E3 .or .u64 (x7.g (y5.1.g x8.toNat).toNat) (shI .shl .u64 1 x4)) same (fun _=>by first|rfl|(dsimp only;split<;>rfl))⟩ al0))
  exact d _ [(3000,3000),(8000,8000),(23000,23000),(35000,35000)] _ x7 (wrap .i64 (x4+1)) Df h
 obtain rfl:=C7 h;exact B3 hS Df ⟨[(3,pN 0),(2,.reg 3000 0)],[(3000,.cells [pN (y2.1.n:Int),.p (vSl 1 (cI .u64) x3)])]⟩ [] (ids:=[(3000,3000)]) ⟨rfl,rfl,rfl⟩
def V2 (N:Nat)(i:A9)(c:Sl (Sl Eg)):Option (A3×Int):= (N5 N i).bind fun y1=>if (y1 != 0) then some ((⟨0,(Sl.nil:Sl Int)⟩:A3),y1) else if (decide (256<(c.n:Int))) then some ((⟨0,(Sl.nil:Sl Int)⟩:A3),12) else Y1 N (fun j (x1:Int)=>if (decide (x1<(c.n:Int))) then if ((0:Int)<=x1/\x1<(c.n:Int))then (CH N (c.g x1.toNat)).bind fun y4=>if (y4 != 0) then some ((⟨0,(Sl.nil:Sl Int)⟩:A3),y4) else j (wrap .i64 (x1+1)) else none else (T1 N i).bind fun y5=>if (y5.2 != 0) then some ((⟨0,(Sl.nil:Sl Int)⟩:A3),y5.2) else BC N (fun l (x2:Sl (Sl Law)) (x3:Int)=>if (decide (x3<(y5.1.n:Int))) then if (((0:Int)<=x3/\x3<(y5.1.n:Int))/\x3.toNat<y5.1.n)then (EW N i (y5.1.g x3.toNat)).bind fun y8=>if (y8.2 != 0) then some ((⟨0,(Sl.nil:Sl Int)⟩:A3),y8.2) else if ((x2.n+(Sl.of [y8.1]:Sl (Sl Law)).n)*24<=140737488355328/\x2.n+(Sl.of [y8.1]:Sl (Sl Law)).n<=140737488355328)then l (x2.push y8.1) (wrap .i64 (x3+1)) else none else none else BC N (fun d (x7:Sl Int) (x8:Int)=>if (decide (x8<(c.n:Int))) then if ((0:Int)<=x8/\x8<(c.n:Int))then Ag7 N (fun f (m:List (Str×Int)) (a:Sl Int) (b:Int)=>if (decide (b<(y5.1.n:Int))) then if (((0:Int)<=b/\b<(x2.n:Int))/\b.toNat<x2.n)then (Eb N (x2.g b.toNat) (c.g x8.toNat)).bind fun o=>(HE N o.1 o.2).bind fun q=>At7 (CO eqS q m) (if ((a.n+(Sl.of [0]:Sl Int).n)*8<=140737488355328/\a.n+(Sl.of [0]:Sl Int).n<=140737488355328)then if ((((((0:Int)<=(a.n:Int)/\(a.n:Int)<((a.push 0).n:Int))/\(a.n:Int).toNat<(a.push 0).n)/\(0:Int)<=b)/\((0:Int)<=(a.n:Int)/\(a.n:Int)<((a.push 0).n:Int)))/\(a.n:Int).toNat<(a.push 0).n)then f (OA eqS q (a.n:Int) m) ((a.push 0).upd (a.n:Int).toNat (E3 .or .u64 ((a.push 0).g (a.n:Int).toNat) (shI .shl .u64 1 b))) (wrap .i64 (b+1)) else none else none) fun v9=>if ((((((0:Int)<=v9/\v9<(a.n:Int))/\v9.toNat<a.n)/\(0:Int)<=b)/\((0:Int)<=v9/\v9<(a.n:Int)))/\v9.toNat<a.n)then f m (a.upd v9.toNat (E3 .or .u64 (a.g v9.toNat) (shI .shl .u64 1 b))) (wrap .i64 (b+1)) else none else none else if (decide (1<(a.n:Int))) then if ((x7.n+a.n)*8<=140737488355328/\x7.n+a.n<=140737488355328)then if (decide (64<((x7.app a).n:Int))) then some ((⟨0,(Sl.nil:Sl Int)⟩:A3),12) else d (x7.app a) (wrap .i64 (x8+1)) else none else if (decide (64<(x7.n:Int))) then some ((⟨0,(Sl.nil:Sl Int)⟩:A3),12) else d x7 (wrap .i64 (x8+1))) [] (Sl.nil:Sl Int) 0 else none else some ((⟨(y5.1.n:Int),x7⟩:A3),0)) (Sl.nil:Sl Int) 0) (Sl.nil:Sl (Sl Law)) 0) 0
theorem BI {o:A9}{f:Sl (Sl Eg)}{y:A3×Int}(h:V2 N o f=some y) :FunO S JN [.p (.agg (B1 o)),.p (vSl 1 (cL 2 A1) f)] [] (.tup [.p (.agg (E5 y.1)),pN y.2]) ([]) []:=by
 unfold V2 at h;refine A6 hS Tryz.func31 ?_;refine J3 hS Df 4 3000 (B1 o) ?_;obtain⟨y1,e1,h⟩:=B8 h;refine C0 hS [] (by decide:(3:Nat)<=3) (Ec hS hL e1) ?_;apply kI hS h<;>intro h
 .obtain rfl:=C7 h;exact B3 hS Df ⟨[(5,pN y1),(4,.reg 5000 0)],[(5000,.cells [pN 0,.p (vSl 1 (cI .u64) (Sl.nil:Sl Int))])]⟩ [] (ids:=[(5000,5000)]) ⟨rfl,rfl,rfl⟩
 apply kI hS h<;>intro h
 .obtain rfl:=C7 h;exact B3 hS Df ⟨[(5,pN 12),(4,.reg 5000 0)],[(5000,.cells [pN 0,.p (vSl 1 (cI .u64) (Sl.nil:Sl Int))])]⟩ [] (ids:=[(5000,5000)]) ⟨rfl,rfl,rfl⟩
 refine N4 hS Df h (fun x1=>⟨[(38,pN x1),(37,pN (f.n:Int)),(36,.p (vSl 1 (cL 2 A1) f)),(4,.reg 5000 0),(2,.p (.ptr (B1 o))),(1,.p (vSl 1 (cL 2 A1) f))],[(5000,.cells [pN 0,.p G1])]⟩) (ids:=[(5000,5000)]) (fun _ _ _ _ _ s x1 t h=>?_);apply kI hS h<;>intro h
 .obtain⟨c10,h⟩:=E8 h;obtain⟨y4,e4,h⟩:=B8 h;refine C0 hS [] c10 (HG hS hL e4) ?_;apply kI hS h<;>intro h
  .obtain rfl:=C7 h;exact B3 hS Df ⟨[(5,pN y4),(4,.reg 5000 0)],[(5000,.cells [pN 0,.p (vSl 1 (cI .u64) (Sl.nil:Sl Int))])]⟩ [] (ids:=[(5000,5000)]) ⟨rfl,rfl,rfl⟩
  exact t _ [(5000,5000)] _ (wrap .i64 (x1+1)) Df h
 obtain⟨y5,e5,h⟩:=B8 h;refine C0 hS [] (by decide:(3:Nat)<=3) (IF hS hL e5) ?_;apply kI hS h<;>intro h
 .obtain rfl:=C7 h;exact B3 hS Df ⟨[(5,pN y5.2),(4,.reg 5000 0)],[(5000,.cells [pN 0,.p (vSl 1 (cI .u64) (Sl.nil:Sl Int))])]⟩ [] (ids:=[(5000,5000)]) ⟨rfl,rfl,rfl⟩
 refine I8 hS Df h (fun x2 x3=>⟨[(60,pN x3),(59,pN (y5.1.n:Int)),(58,.vec 52000),(12,.vec 13500),(10,.vec 52000),(4,.reg 5000 0),(2,.p (.ptr (B1 o))),(1,.p (vSl 1 (cL 2 A1) f))],[(52000,.vec D4 1 y5.1.n (fun i=>cI .i64 (y5.1.g i)) true),(13500,.vec Ew 1 x2.n (fun i=>cL 18 B5 (x2.g i)) false),(5000,.cells [pN 0,.p G1])]⟩) (ids:=[(5000,5000),(52000,52000)]) (fun _ _ _ _ _ u x2 x3 a0 h=>?_);apply kI hS h<;>intro h
 .obtain⟨c20,h⟩:=E8 h;obtain⟨y8,e8,h⟩:=B8 h;refine C0 hS [] (And.intro (And.intro c20.1 c20.2) (by decide:(3:Nat)<=3)) (Px hS hL e8) ?_;apply kI hS h<;>intro h
  .obtain rfl:=C7 h;exact B3 hS Df ⟨[(5,pN y8.2),(4,.reg 5000 0)],[(5000,.cells [pN 0,.p (vSl 1 (cI .u64) (Sl.nil:Sl Int))])]⟩ [] (ids:=[(5000,5000)]) ⟨rfl,rfl,rfl⟩
  obtain⟨c22,h⟩:=E8 h;exact a0 _ [(5000,5000),(13500,78000),(52000,52000)] _ (x2.push y8.1) (wrap .i64 (x3+1)) (And.intro (rfl:true=true) c22) h (hle:=klR [(5,.fn (x2.n+1) (x2.push y8.1).n (AP x2.n (fun i=>cL 18 B5 (x2.g i)) (D3 [G1] [(0,cL 18 B5 y8.1)])) (fun i=>cL 18 B5 ((x2.push y8.1).g i)))] (al1 ⟨rfl,LI (c:=cL 18 B5) (v:=x2) (x:=y8.1) (z:=[G1]) same rfl rfl⟩ al0))
 refine I8 hS Df h (fun x7 x8=>⟨[(84,pN x8),(83,pN (f.n:Int)),(82,.p (vSl 1 (cL 2 A1) f)),(17,.reg 18000 0),(12,.vec 13500),(10,.vec 52000),(4,.reg 5000 0)],[(52000,.vec D4 1 y5.1.n (fun i=>cI .i64 (y5.1.g i)) true),(18500,.vec P8 1 x7.n (fun i=>cI .u64 (x7.g i)) false),(18000,.cells [pN (y5.1.n:Int),.vec 18500]),(13500,.vec Ew 1 x2.n (fun i=>cL 18 B5 (x2.g i)) false),(5000,.cells [pN 0,.p G1])]⟩) (ids:=[(5000,5000),(13500,13500),(18000,18000),(52000,52000)]) (fun _ _ _ _ _ a1 x7 x8 q h=>?_);apply kI hS h<;>intro h
 .obtain⟨c76,h⟩:=E8 h;refine KU hS c76 h (fun j a d=>⟨[(91,pN d),(90,pN (y5.1.n:Int)),(84,pN x8),(83,pN (f.n:Int)),(82,.p (vSl 1 (cL 2 A1) f)),(21,.vec 22500),(20,.mref 89000),(19,.p (vSl 2 A1 (f.g x8.toNat))),(17,.reg 18000 0),(12,.vec 13500),(10,.vec 52000),(4,.reg 5000 0)],[(89000,.map (LE PV.str (pI .i64) j)),(52000,.vec D4 1 y5.1.n (fun i=>cI .i64 (y5.1.g i)) true),(22500,.vec P8 1 a.n (fun i=>cI .u64 (a.g i)) false),(18500,.vec P8 1 x7.n (fun i=>cI .u64 (x7.g i)) false),(18000,.cells [pN (y5.1.n:Int),.vec 18500]),(13500,.vec Ew 1 x2.n (fun i=>cL 18 B5 (x2.g i)) false),(5000,.cells [pN 0,.p G1])]⟩) (ids:=[(5000,5000),(13500,13500),(18000,18000),(18500,18500),(52000,52000),(89000,89000)]) (fun _ _ _ _ _ a2 j a d r h=>?_);apply kI hS h<;>intro h
  .obtain⟨c91,h⟩:=E8 h;obtain⟨a3,e25,h⟩:=B8 h;refine C0 hS [] c91 (Ot hS hL e25) ?_;refine kC hS h (Uf hS hL) (fun m h=>?_);rcases o9:CO eqS m j with _|v9
   .replace h:=optN o9 h;refine HT hS Df (kt:=Cs) (e:=D4) (key:=PV.str m) (es:=LE PV.str (pI .i64) j) (x:=pI .i64 0) (b:=false) (fd:=none) ((DR (kP:=PV.str) (vP:=pI .i64) (eq:=eqS) (fun _ _=>by kernel_rfl) m j).trans (by rw[o9];rfl)) Df ?_;refine D9 hS Df (b:=true) (fun c92=>?_) (fun c92=>?_)
    .refine Mk hS Df (kt:=Cs) (key:=PV.str m) (y:=pI .i64 (a.n:Int)) (es:=LE PV.str (pI .i64) j) (JH (kP:=PV.str) (vP:=pI .i64) (eq:=eqS) (fun _ _=>by kernel_rfl) m (a.n:Int) j) Df ?_;obtain⟨c93,h⟩:=E8 h;refine I7 hS (And.intro (rfl:true=true) c93) 21 ⟨[(118,.vec 119000),(91,pN d),(90,pN (y5.1.n:Int)),(84,pN x8),(83,pN (f.n:Int)),(82,.p (vSl 1 (cL 2 A1) f)),(24,pN (a.n:Int)),(22,pN d),(20,.mref 89000),(19,.p (vSl 2 A1 (f.g x8.toNat))),(17,.reg 18000 0),(12,.vec 13500),(10,.vec 52000),(4,.reg 5000 0)],[(119000,.vec P8 1 (a.push 0).n (fun i=>cI .u64 ((a.push 0).g i)) false),(89000,.map (LE PV.str (pI .i64) (OA eqS m (a.n:Int) j))),(52000,.vec D4 1 y5.1.n (fun i=>cI .i64 (y5.1.g i)) true),(18500,.vec P8 1 x7.n (fun i=>cI .u64 (x7.g i)) false),(18000,.cells [pN (y5.1.n:Int),.vec 18500]),(13500,.vec Ew 1 x2.n (fun i=>cL 18 B5 (x2.g i)) false),(5000,.cells [pN 0,.p G1])]⟩ (ids:=[(5000,5000),(13500,13500),(18000,18000),(18500,18500),(52000,52000),(89000,89000),(119000,119000)]) ?_ (hle:=klR [(8,.fn (a.n+1) (a.push 0).n (AP a.n (fun i=>cI .u64 (a.g i)) (D3 [pI .u64 0] [(0,cI .u64 0)])) (fun i=>cI .u64 ((a.push 0).g i)))] (al1 ⟨rfl,LI (c:=cI .u64) (v:=a) (x:=0) (z:=[(pI .u64 0)]) same rfl rfl⟩ al0));refine FP hS Df ?_;obtain⟨c94,h⟩:=E8 h;refine O0 (And.intro (And.intro (And.intro (And.intro c94.1.1.1.1 c94.1.1.1.2) c94.1.1.2) c94.1.2) (And.intro (rfl:(1:Nat)=1) (And.intro c94.2 (by decide:(1:Nat)<=1)))) ?_;exact r _ [(5000,5000),(13500,13500),(18000,18000),(18500,18500),(22500,119000),(52000,52000),(89000,89000)] _ (OA eqS m (a.n:Int) j) ((a.push 0).upd (a.n:Int).toNat (E3 .or .u64 ((a.push 0).g (a.n:Int).toNat) (shI .shl .u64 1 d))) (wrap .i64 (d+1)) Df h (hle:=klR [(8,.fn (a.push 0).n ((a.push 0).upd (a.n:Int).toNat (E3 .or .u64 ((a.push 0).g (a.n:Int).toNat) (shI .shl .u64 1 d))).n (fun l=>if l=(a.n:Int).toNat then splice ((fun i=>cI .u64 ((a.push 0).g i)) l) 0 [pI .u64 (E3 .or .u64 ((a.push 0).g (a.n:Int).toNat) (shI .shl .u64 1 d))]else (fun i=>cI .u64 ((a.push 0).g i)) l) (fun i=>cI .u64 (((a.push 0).upd (a.n:Int).toNat (E3 .or .u64 ((a.push 0).g (a.n:Int).toNat) (shI .shl .u64 1 d))).g i)))] (al1 ⟨rfl,AB3 (c:=cI .u64) (v:=a.push 0) (x:=E3 .or .u64 ((a.push 0).g (a.n:Int).toNat) (shI .shl .u64 1 d)) same (fun _=>by first|rfl|(dsimp only;split<;>rfl))⟩ al0))
    exact Bool.noConfusion ((rfl:true=true).symm.trans c92)
   replace h:=optS o9 h;refine HT hS Df (kt:=Cs) (e:=D4) (key:=PV.str m) (es:=LE PV.str (pI .i64) j) (x:=pI .i64 v9) (b:=true) (fd:=some (pI .i64 v9)) ((DR (kP:=PV.str) (vP:=pI .i64) (eq:=eqS) (fun _ _=>by kernel_rfl) m j).trans (by rw[o9];rfl)) Df ?_;refine D9 hS Df (b:=false) (fun c95=>?_) (fun c95=>?_)
   .exact Bool.noConfusion ((rfl:false=false).symm.trans c95)
   refine FP hS Df ?_;obtain⟨c96,h⟩:=E8 h;refine O0 (And.intro (And.intro (And.intro (And.intro c96.1.1.1.1 c96.1.1.1.2) c96.1.1.2) c96.1.2) (And.intro (rfl:(1:Nat)=1) (And.intro c96.2 (by decide:(1:Nat)<=1)))) ?_;exact r _ [(5000,5000),(13500,13500),(18000,18000),(18500,18500),(22500,22500),(52000,52000),(89000,89000)] _ j (a.upd v9.toNat (E3 .or .u64 (a.g v9.toNat) (shI .shl .u64 1 d))) (wrap .i64 (d+1)) Df h (hle:=klR [(8,.fn a.n (a.upd v9.toNat (E3 .or .u64 (a.g v9.toNat) (shI .shl .u64 1 d))).n (fun l=>if l=v9.toNat then splice ((fun i=>cI .u64 (a.g i)) l) 0 [pI .u64 (E3 .or .u64 (a.g v9.toNat) (shI .shl .u64 1 d))]else (fun i=>cI .u64 (a.g i)) l) (fun i=>cI .u64 ((a.upd v9.toNat (E3 .or .u64 (a.g v9.toNat) (shI .shl .u64 1 d))).g i)))] (al1 ⟨rfl,AB3 (c:=cI .u64) (v:=a) (x:=E3 .or .u64 (a.g v9.toNat) (shI .shl .u64 1 d)) same (fun _=>by first|rfl|(dsimp only;split<;>rfl))⟩ al0))
  apply kI hS h<;>intro h
  .obtain⟨c98,h⟩:=E8 h;refine D9 hS c98 (b:=decide (64<((x7.app a).n:Int))) (fun c99=>?_) (fun c99=>?_)
   .replace h:=itT c99 h;obtain rfl:=C7 h;exact B3 hS Df ⟨[(5,pN 12),(4,.reg 5000 0)],[(5000,.cells [pN 0,.p (vSl 1 (cI .u64) (Sl.nil:Sl Int))])]⟩ [] (ids:=[(5000,5000)]) ⟨rfl,rfl,rfl⟩
   replace h:=itF c99 h;exact q _ [(5000,5000),(13500,13500),(18000,18000),(18500,135000),(52000,52000)] _ (x7.app a) (wrap .i64 (x8+1)) Df h (hle:=klR [(4,.fn (x7.n+a.n) (x7.app a).n (AP x7.n (fun i=>cI .u64 (x7.g i)) (fun i=>cI .u64 (a.g i))) (fun i=>cI .u64 ((x7.app a).g i)))] (al1 ⟨rfl,Au3 (c:=cI .u64) (v:=x7) (w:=a) same rfl same rfl⟩ al0))
  apply kI hS h<;>intro h
  .obtain rfl:=C7 h;exact B3 hS Df ⟨[(5,pN 12),(4,.reg 5000 0)],[(5000,.cells [pN 0,.p (vSl 1 (cI .u64) (Sl.nil:Sl Int))])]⟩ [] (ids:=[(5000,5000)]) ⟨rfl,rfl,rfl⟩
  exact q _ [(5000,5000),(13500,13500),(18000,18000),(18500,18500),(52000,52000)] _ x7 (wrap .i64 (x8+1)) Df h
 obtain rfl:=C7 h;exact B3 hS Df ⟨[(5,pN 0),(4,.reg 5000 0)],[(5000,.cells [pN (y5.1.n:Int),.p (vSl 1 (cI .u64) x7)])]⟩ [] (ids:=[(5000,5000)]) ⟨rfl,rfl,rfl⟩
def Jd (N:Nat)  : Option A3:= some (⟨4,(Sl.of [3,6,15,8]:Sl Int)⟩:A3)
theorem Wh    {y:A3}(h:Jd N  = some y) :FunO S NM [] [] (.p (.agg (E5 y))) ([]) []:=by unfold Jd at h;refine A6 hS Tryz.func54 ?_;obtain rfl:=C7 h;exact B3 hS (rfl:true=true) ⟨[(0,.reg 1000 0)],[(1000,.cells [pN 4,.p (vSl 1 (cI .u64) (Sl.of [3,6,15,8]:Sl Int))])]⟩ [] (ids:=[(1000,1000)]) ⟨rfl,rfl,rfl⟩ (hle:=klR [(1,.fn 4 (Sl.of [3,6,15,8]:Sl Int).n (D3 [pI .u64 0] [(0,cI .u64 3),(1,cI .u64 6),(2,cI .u64 15),(3,cI .u64 8)]) (fun i=>cI .u64 ((Sl.of [3,6,15,8]:Sl Int).g i)))] (al1 ⟨rfl,(fun i a=>match i,a with|0,_=>rfl|1,_=>rfl|2,_=>rfl|3,_=>rfl|_+4,a=>Bc a (by omega))⟩ al0))
def Ak (N:Nat)  : Option A9:= some (⟨(Sl.of [(⟨-1,[114]⟩:F5),(⟨0,[120]⟩:F5),(⟨1,[97]⟩:F5),(⟨1,[98]⟩:F5),(⟨0,[99]⟩:F5)]:Sl F5),(Sl.of [(⟨[70],Pat.mk 0 (⟨0,0⟩:Eg) false 0 0 (Sl.nil:Sl Pat).n (Sl.nil:Sl Pat).g,Pat.mk 6 (⟨0,0⟩:Eg) false 0 0 (Sl.nil:Sl Pat).n (Sl.nil:Sl Pat).g,(Sl.of [(⟨4,0⟩:Eg)]:Sl Eg),(Sl.nil:Sl BD),1⟩:Law),(⟨[86],Pat.mk 1 (⟨4,0⟩:Eg) false 0 0 (Sl.nil:Sl Pat).n (Sl.nil:Sl Pat).g,Pat.mk 1 (⟨4,0⟩:Eg) false 0 0 (Sl.nil:Sl Pat).n (Sl.nil:Sl Pat).g,(Sl.of [(⟨2,0⟩:Eg)]:Sl Eg),(Sl.of [(⟨0,0,(⟨1,0⟩:Eg),0,0⟩:BD)]:Sl BD),1⟩:Law)]:Sl Law),(Sl.of [(Sl.nil:Sl Int),(Sl.of [0]:Sl Int),(Sl.nil:Sl Int),(Sl.of [1]:Sl Int),(Sl.nil:Sl Int)]:Sl (Sl Int))⟩:A9)
theorem Dh    {y:A9}(h:Ak N  = some y) :FunO S JP [] [] (.p (.agg (B1 y))) ([]) []:=by unfold Ak at h;refine A6 hS Tryz.func49 ?_;refine I7 hS (rfl:true=true) 10 ⟨[(9,.p (vSl 2 A1 (Sl.of [(⟨4,0⟩:Eg)]:Sl Eg))),(7,.p (.agg [pI .i64 6,pI .u32 0,pI .u32 0,.v (.bool false),pI .i64 0,pI .i64 0,G1])),(1,.reg 2000 0),(0,.reg 1000 0)],[(2000,.cells [pN 1,pU 4,pU 0,.p (.v (.bool false)),pN 0,pN 0,.p G1]),(1000,.cells [.p G1,.p G1,.p G1])]⟩ (ids:=[(1000,1000),(2000,2000)]) ?_ (hle:=klR [(0,.fn 1 (Sl.of [(⟨4,0⟩:Eg)]:Sl Eg).n (D3 [pI .u32 0,pI .u32 0] [(0,A1 (⟨4,0⟩:Eg))]) (fun i=>A1 ((Sl.of [(⟨4,0⟩:Eg)]:Sl Eg).g i)))] (al1 ⟨rfl,(fun i a=>match i,a with|0,_=>rfl|_+1,a=>Bc a (by omega))⟩ al0));refine I7 hS Df 11 ⟨[(2,.reg 3000 0),(1,.reg 2000 0),(0,.reg 1000 0)],[(3000,.cells [.p (.str [70]),pN 0,pU 0,pU 0,.p (.v (.bool false)),pN 0,pN 0,.p G1,pN 6,pU 0,pU 0,.p (.v (.bool false)),pN 0,pN 0,.p G1,.p (vSl 2 A1 (Sl.of [(⟨4,0⟩:Eg)]:Sl Eg)),.p G1,pN 1]),(2000,.cells [pN 1,pU 4,pU 0,pB false,pN 0,pN 0,.p (vSl 7 B7 (Sl.nil:Sl Pat))]),(1000,.cells [.p G1,.p G1,.p G1])]⟩ (ids:=[(1000,1000),(2000,2000),(3000,3000)]) ?_;refine I7 hS (And.intro (rfl:true=true) (rfl:true=true)) 18 ⟨[(17,.p (vSl 6 S4 (Sl.of [(⟨0,0,(⟨1,0⟩:Eg),0,0⟩:BD)]:Sl BD))),(14,.p (vSl 2 A1 (Sl.of [(⟨2,0⟩:Eg)]:Sl Eg))),(12,.p (.agg [pI .i64 1,pI .u32 4,pI .u32 0,.bb false,pI .i64 0,pI .i64 0,vSl 7 B7 (Sl.nil:Sl Pat)])),(11,.p (.agg [pI .i64 1,pI .u32 4,pI .u32 0,.bb false,pI .i64 0,pI .i64 0,vSl 7 B7 (Sl.nil:Sl Pat)])),(2,.reg 3000 0),(0,.reg 1000 0)],[(3000,.cells [.p (.str [70]),pN 0,pU 0,pU 0,.p (.v (.bool false)),pN 0,pN 0,.p G1,pN 6,pU 0,pU 0,.p (.v (.bool false)),pN 0,pN 0,.p G1,.p (vSl 2 A1 (Sl.of [(⟨4,0⟩:Eg)]:Sl Eg)),.p G1,pN 1]),(1000,.cells [.p G1,.p G1,.p G1])]⟩ (ids:=[(1000,1000),(3000,3000)]) ?_ (hle:=klR [(0,.fn 1 (Sl.of [(⟨0,0,(⟨1,0⟩:Eg),0,0⟩:BD)]:Sl BD).n (D3 [pI .i64 0,pI .u32 0,pI .u32 0,pI .u32 0,pI .u32 0,pI .i64 0] [(0,S4 (⟨0,0,(⟨1,0⟩:Eg),0,0⟩:BD))]) (fun i=>S4 ((Sl.of [(⟨0,0,(⟨1,0⟩:Eg),0,0⟩:BD)]:Sl BD).g i))),(1,.fn 1 (Sl.of [(⟨2,0⟩:Eg)]:Sl Eg).n (D3 [pI .u32 0,pI .u32 0] [(0,A1 (⟨2,0⟩:Eg))]) (fun i=>A1 ((Sl.of [(⟨2,0⟩:Eg)]:Sl Eg).g i)))] (al1 ⟨rfl,(fun i a=>match i,a with|0,_=>rfl|_+1,a=>Bc a (by omega))⟩ (al1 ⟨rfl,(fun i a=>match i,a with|0,_=>rfl|_+1,a=>Bc a (by omega))⟩ al0)));refine I7 hS (rfl:true=true) 26 ⟨[(25,.vec 25000),(3,.reg 4000 0),(2,.reg 3000 0),(0,.reg 1000 0)],[(25000,.vec Aj 2 (Sl.of [(⟨-1,[114]⟩:F5),(⟨0,[120]⟩:F5),(⟨1,[97]⟩:F5),(⟨1,[98]⟩:F5),(⟨0,[99]⟩:F5)]:Sl F5).n (fun i=>D6 ((Sl.of [(⟨-1,[114]⟩:F5),(⟨0,[120]⟩:F5),(⟨1,[97]⟩:F5),(⟨1,[98]⟩:F5),(⟨0,[99]⟩:F5)]:Sl F5).g i)) false),(4000,.cells [.p (.str [86]),pN 1,pU 4,pU 0,pB false,pN 0,pN 0,.p (vSl 7 B7 (Sl.nil:Sl Pat)),pN 1,pU 4,pU 0,pB false,pN 0,pN 0,.p (vSl 7 B7 (Sl.nil:Sl Pat)),.p (vSl 2 A1 (Sl.of [(⟨2,0⟩:Eg)]:Sl Eg)),.p (vSl 6 S4 (Sl.of [(⟨0,0,(⟨1,0⟩:Eg),0,0⟩:BD)]:Sl BD)),pN 1]),(3000,.cells [.p (.str [70]),pN 0,pU 0,pU 0,pB false,pN 0,pN 0,.p (vSl 7 B7 (Sl.nil:Sl Pat)),pN 6,pU 0,pU 0,pB false,pN 0,pN 0,.p (vSl 7 B7 (Sl.nil:Sl Pat)),.p (vSl 2 A1 (Sl.of [(⟨4,0⟩:Eg)]:Sl Eg)),.p (vSl 6 S4 (Sl.nil:Sl BD)),pN 1]),(1000,.cells [.p G1,.p G1,.p G1])]⟩ (ids:=[(1000,1000),(3000,3000),(4000,4000),(25000,25000)]) ?_ (hle:=klR [(0,.fn 5 (Sl.of [(⟨-1,[114]⟩:F5),(⟨0,[120]⟩:F5),(⟨1,[97]⟩:F5),(⟨1,[98]⟩:F5),(⟨0,[99]⟩:F5)]:Sl F5).n (D3 [pI .i64 0,.str []] [(0,D6 (⟨-1,[114]⟩:F5)),(1,D6 (⟨0,[120]⟩:F5)),(2,D6 (⟨1,[97]⟩:F5)),(3,D6 (⟨1,[98]⟩:F5)),(4,D6 (⟨0,[99]⟩:F5))]) (fun i=>D6 ((Sl.of [(⟨-1,[114]⟩:F5),(⟨0,[120]⟩:F5),(⟨1,[97]⟩:F5),(⟨1,[98]⟩:F5),(⟨0,[99]⟩:F5)]:Sl F5).g i)))] (al1 ⟨rfl,(fun i a=>match i,a with|0,_=>rfl|1,_=>rfl|2,_=>rfl|3,_=>rfl|4,_=>rfl|_+5,a=>Bc a (by omega))⟩ al0));refine I7 hS (And.intro (And.intro (rfl:true=true) (rfl:true=true)) (rfl:true=true)) 31 ⟨[(30,.vec 31000),(29,.vec 30000),(28,.vec 29000),(25,.vec 25000),(0,.reg 1000 0)],[(31000,.vec D4 1 (Sl.of [1]:Sl Int).n (fun i=>cI .i64 ((Sl.of [1]:Sl Int).g i)) true),(30000,.vec D4 1 (Sl.of [0]:Sl Int).n (fun i=>cI .i64 ((Sl.of [0]:Sl Int).g i)) true),(29000,.vec DA 18 (Sl.of [(⟨[70],Pat.mk 0 (⟨0,0⟩:Eg) false 0 0 (Sl.nil:Sl Pat).n (Sl.nil:Sl Pat).g,Pat.mk 6 (⟨0,0⟩:Eg) false 0 0 (Sl.nil:Sl Pat).n (Sl.nil:Sl Pat).g,(Sl.of [(⟨4,0⟩:Eg)]:Sl Eg),(Sl.nil:Sl BD),1⟩:Law),(⟨[86],Pat.mk 1 (⟨4,0⟩:Eg) false 0 0 (Sl.nil:Sl Pat).n (Sl.nil:Sl Pat).g,Pat.mk 1 (⟨4,0⟩:Eg) false 0 0 (Sl.nil:Sl Pat).n (Sl.nil:Sl Pat).g,(Sl.of [(⟨2,0⟩:Eg)]:Sl Eg),(Sl.of [(⟨0,0,(⟨1,0⟩:Eg),0,0⟩:BD)]:Sl BD),1⟩:Law)]:Sl Law).n (fun i=>B5 ((Sl.of [(⟨[70],Pat.mk 0 (⟨0,0⟩:Eg) false 0 0 (Sl.nil:Sl Pat).n (Sl.nil:Sl Pat).g,Pat.mk 6 (⟨0,0⟩:Eg) false 0 0 (Sl.nil:Sl Pat).n (Sl.nil:Sl Pat).g,(Sl.of [(⟨4,0⟩:Eg)]:Sl Eg),(Sl.nil:Sl BD),1⟩:Law),(⟨[86],Pat.mk 1 (⟨4,0⟩:Eg) false 0 0 (Sl.nil:Sl Pat).n (Sl.nil:Sl Pat).g,Pat.mk 1 (⟨4,0⟩:Eg) false 0 0 (Sl.nil:Sl Pat).n (Sl.nil:Sl Pat).g,(Sl.of [(⟨2,0⟩:Eg)]:Sl Eg),(Sl.of [(⟨0,0,(⟨1,0⟩:Eg),0,0⟩:BD)]:Sl BD),1⟩:Law)]:Sl Law).g i)) false),(25000,.vec Aj 2 (Sl.of [(⟨-1,[114]⟩:F5),(⟨0,[120]⟩:F5),(⟨1,[97]⟩:F5),(⟨1,[98]⟩:F5),(⟨0,[99]⟩:F5)]:Sl F5).n (fun i=>D6 ((Sl.of [(⟨-1,[114]⟩:F5),(⟨0,[120]⟩:F5),(⟨1,[97]⟩:F5),(⟨1,[98]⟩:F5),(⟨0,[99]⟩:F5)]:Sl F5).g i)) false),(1000,.cells [.p G1,.p G1,.p G1])]⟩ (ids:=[(1000,1000),(25000,25000),(29000,29000),(30000,30000),(31000,31000)]) ?_ (hle:=klR [(0,.fn 1 (Sl.of [1]:Sl Int).n (D3 [pI .i64 0] [(0,cI .i64 1)]) (fun i=>cI .i64 ((Sl.of [1]:Sl Int).g i))),(1,.fn 1 (Sl.of [0]:Sl Int).n (D3 [pI .i64 0] [(0,cI .i64 0)]) (fun i=>cI .i64 ((Sl.of [0]:Sl Int).g i))),(2,.fn 2 (Sl.of [(⟨[70],Pat.mk 0 (⟨0,0⟩:Eg) false 0 0 (Sl.nil:Sl Pat).n (Sl.nil:Sl Pat).g,Pat.mk 6 (⟨0,0⟩:Eg) false 0 0 (Sl.nil:Sl Pat).n (Sl.nil:Sl Pat).g,(Sl.of [(⟨4,0⟩:Eg)]:Sl Eg),(Sl.nil:Sl BD),1⟩:Law),(⟨[86],Pat.mk 1 (⟨4,0⟩:Eg) false 0 0 (Sl.nil:Sl Pat).n (Sl.nil:Sl Pat).g,Pat.mk 1 (⟨4,0⟩:Eg) false 0 0 (Sl.nil:Sl Pat).n (Sl.nil:Sl Pat).g,(Sl.of [(⟨2,0⟩:Eg)]:Sl Eg),(Sl.of [(⟨0,0,(⟨1,0⟩:Eg),0,0⟩:BD)]:Sl BD),1⟩:Law)]:Sl Law).n (D3 [.str [],pI .i64 0,pI .u32 0,pI .u32 0,.v (.bool false),pI .i64 0,pI .i64 0,G1,pI .i64 0,pI .u32 0,pI .u32 0,.v (.bool false),pI .i64 0,pI .i64 0,G1,G1,G1,pI .i64 0] [(0,B5 (⟨[70],Pat.mk 0 (⟨0,0⟩:Eg) false 0 0 (Sl.nil:Sl Pat).n (Sl.nil:Sl Pat).g,Pat.mk 6 (⟨0,0⟩:Eg) false 0 0 (Sl.nil:Sl Pat).n (Sl.nil:Sl Pat).g,(Sl.of [(⟨4,0⟩:Eg)]:Sl Eg),(Sl.nil:Sl BD),1⟩:Law)),(1,B5 (⟨[86],Pat.mk 1 (⟨4,0⟩:Eg) false 0 0 (Sl.nil:Sl Pat).n (Sl.nil:Sl Pat).g,Pat.mk 1 (⟨4,0⟩:Eg) false 0 0 (Sl.nil:Sl Pat).n (Sl.nil:Sl Pat).g,(Sl.of [(⟨2,0⟩:Eg)]:Sl Eg),(Sl.of [(⟨0,0,(⟨1,0⟩:Eg),0,0⟩:BD)]:Sl BD),1⟩:Law))]) (fun i=>B5 ((Sl.of [(⟨[70],Pat.mk 0 (⟨0,0⟩:Eg) false 0 0 (Sl.nil:Sl Pat).n (Sl.nil:Sl Pat).g,Pat.mk 6 (⟨0,0⟩:Eg) false 0 0 (Sl.nil:Sl Pat).n (Sl.nil:Sl Pat).g,(Sl.of [(⟨4,0⟩:Eg)]:Sl Eg),(Sl.nil:Sl BD),1⟩:Law),(⟨[86],Pat.mk 1 (⟨4,0⟩:Eg) false 0 0 (Sl.nil:Sl Pat).n (Sl.nil:Sl Pat).g,Pat.mk 1 (⟨4,0⟩:Eg) false 0 0 (Sl.nil:Sl Pat).n (Sl.nil:Sl Pat).g,(Sl.of [(⟨2,0⟩:Eg)]:Sl Eg),(Sl.of [(⟨0,0,(⟨1,0⟩:Eg),0,0⟩:BD)]:Sl BD),1⟩:Law)]:Sl Law).g i)))] (al1 ⟨rfl,(fun i a=>match i,a with|0,_=>rfl|_+1,a=>Bc a (by omega))⟩ (al1 ⟨rfl,(fun i a=>match i,a with|0,_=>rfl|_+1,a=>Bc a (by omega))⟩ (al1 ⟨rfl,(fun i a=>match i,a with|0,_=>rfl|1,_=>rfl|_+2,a=>Bc a (by omega))⟩ al0))));refine MC hS (rfl:true=true) 32 32000 (k:=1) (n:=5) (e:=X5) (vw:=false) (D3 [G1] [(0,[G1]),(1,cL 1 (cI .i64) (Sl.of [0]:Sl Int)),(2,[G1]),(3,cL 1 (cI .i64) (Sl.of [1]:Sl Int)),(4,[G1])]) (fun i=>cL 1 (cI .i64) ((Sl.of [(Sl.nil:Sl Int),(Sl.of [0]:Sl Int),(Sl.nil:Sl Int),(Sl.of [1]:Sl Int),(Sl.nil:Sl Int)]:Sl (Sl Int)).g i)) (fun i a=>match i,a with|0,_=>Ah0|1,_=>leCr _|2,_=>Ah0|3,_=>leCr _|4,_=>Ah0|_+5,a=>Bc a (by omega)) ?_;refine I7 hS Df 32 ⟨[(31,.p (vSl 1 (cL 1 (cI .i64)) (Sl.of [(Sl.nil:Sl Int),(Sl.of [0]:Sl Int),(Sl.nil:Sl Int),(Sl.of [1]:Sl Int),(Sl.nil:Sl Int)]:Sl (Sl Int)))),(28,.p (vSl 18 B5 (Sl.of [(⟨[70],Pat.mk 0 (⟨0,0⟩:Eg) false 0 0 (Sl.nil:Sl Pat).n (Sl.nil:Sl Pat).g,Pat.mk 6 (⟨0,0⟩:Eg) false 0 0 (Sl.nil:Sl Pat).n (Sl.nil:Sl Pat).g,(Sl.of [(⟨4,0⟩:Eg)]:Sl Eg),(Sl.nil:Sl BD),1⟩:Law),(⟨[86],Pat.mk 1 (⟨4,0⟩:Eg) false 0 0 (Sl.nil:Sl Pat).n (Sl.nil:Sl Pat).g,Pat.mk 1 (⟨4,0⟩:Eg) false 0 0 (Sl.nil:Sl Pat).n (Sl.nil:Sl Pat).g,(Sl.of [(⟨2,0⟩:Eg)]:Sl Eg),(Sl.of [(⟨0,0,(⟨1,0⟩:Eg),0,0⟩:BD)]:Sl BD),1⟩:Law)]:Sl Law))),(25,.p (vSl 2 D6 (Sl.of [(⟨-1,[114]⟩:F5),(⟨0,[120]⟩:F5),(⟨1,[97]⟩:F5),(⟨1,[98]⟩:F5),(⟨0,[99]⟩:F5)]:Sl F5))),(0,.reg 1000 0)],[(1000,.cells [.p G1,.p G1,.p G1])]⟩ (ids:=[(1000,1000)]) ?_;cases h;exact kR hS
def D0 (N:Nat)  : Option Bool:= (Jd N ).bind fun y1=>(N3 N y1 0 1).bind fun y2=>(G6 N y1).bind fun y3=>(HL N y1 10).bind fun y4=>(AQ N y1).bind fun y5=>(Ak N ).bind fun y6=>(U7 N y6).bind fun y7=>(Ak N ).bind fun y8=>(V2 N y8 (Sl.of [(Sl.of [(⟨2,5⟩:Eg),(⟨5,2⟩:Eg)]:Sl Eg),(Sl.of [(⟨5,2⟩:Eg),(⟨2,5⟩:Eg),(⟨5,2⟩:Eg)]:Sl Eg)]:Sl (Sl Eg))).bind fun y9=>lt (fun (z1:Bool)=>some z1) fun k1=>if (y2.1==2) then if (y2.2==0) then (O9 N y3.1 (Sl.of [(⟨0,1⟩:C4)]:Sl C4)).bind fun a=>if a then if (y3.2==0) then if (y4.1.Langs==2) then (G0 N y4.1.Has (Sl.of [1,1,3,2]:Sl Int)).bind fun b=>if b then if (y4.2==0) then (T3 N y5.1 (Sl.of [0,1]:Sl Int)).bind fun c=>if c then if (y5.2==0) then if (y7.1.Langs==3) then (G0 N y7.1.Has (Sl.of [3,2]:Sl Int)).bind fun d=>if d then if (y7.2==0) then (G0 N y9.1.Has (Sl.of [3,4,3,4]:Sl Int)).bind fun f=>if f then k1 (y9.2==0) else k1 false else k1 false else k1 false else k1 false else k1 false else k1 false else k1 false else k1 false else k1 false else k1 false else k1 false else k1 false else k1 false
theorem F7    {y:Bool}(h:D0 N  = some y) :FunO S NK [] [] (pB y) ([]) []:=by
 unfold D0 at h;refine A6 hS Tryz.func15 ?_;refine kC hS h (Wh hS hL) (fun y1 h=>?_);refine J3 hS Df 18 2000 [pI .i64 y1.Langs,vSl 1 (cI .u64) y1.Has] ?_;obtain⟨y2,e2,h⟩:=B8 h;refine C0 hS [] (by decide:(2:Nat)<=2) (EF hS hL e2) ?_;obtain⟨y3,e3,h⟩:=B8 h;refine C0 hS [] (by decide:(2:Nat)<=2) (Cd hS hL e3) ?_;obtain⟨y4,e4,h⟩:=B8 h;refine C0 hS [] (by decide:(2:Nat)<=2) (Um hS hL e4) ?_;refine J3 hS Df 7 7000 [pI .i64 y4.1.Langs,vSl 1 (cI .u64) y4.1.Has] ?_;obtain⟨y5,e5,h⟩:=B8 h;refine C0 hS [] (by decide:(2:Nat)<=2) (EC hS hL e5) ?_;refine kC hS h (Dh hS hL) (fun y6 h=>?_);refine kC hS h (Ei hS hL) (fun y7 h=>?_);refine J3 hS Df 11 11000 [pI .i64 y7.1.Langs,vSl 1 (cI .u64) y7.1.Has] ?_;refine QE hS Df 13000 [pI .u32 2,pI .u32 5] ?_;refine QE hS Df 14000 [pI .u32 5,pI .u32 2] ?_;refine G9 hS Df [0,1,2,4,5,6,9] ?_;obtain⟨y8,e8,h⟩:=B8 h;refine V7 Df (Dh hS hL e8) ?_;refine W9 (And.intro (by decide:(2:Nat)<=2) (by decide:(2:Nat)<=2)) (x:=.sl true 2 2 (D3 [pI .u32 0,pI .u32 0] [(0,A1 (⟨2,5⟩:Eg)),(1,A1 (⟨5,2⟩:Eg))])) ?_;refine W9 (And.intro (And.intro (by decide:(2:Nat)<=2) (by decide:(2:Nat)<=2)) (by decide:(2:Nat)<=2)) (x:=.sl true 2 3 (D3 [pI .u32 0,pI .u32 0] [(0,A1 (⟨5,2⟩:Eg)),(1,A1 (⟨2,5⟩:Eg)),(2,A1 (⟨5,2⟩:Eg))])) ?_;refine W9 Df (x:=.sl true 1 2 (D3 [G1] [(0,[.sl true 2 2 (D3 [pI .u32 0,pI .u32 0] [(0,A1 (⟨2,5⟩:Eg)),(1,A1 (⟨5,2⟩:Eg))])]),(1,[.sl true 2 3 (D3 [pI .u32 0,pI .u32 0] [(0,A1 (⟨5,2⟩:Eg)),(1,A1 (⟨2,5⟩:Eg)),(2,A1 (⟨5,2⟩:Eg))])])])) ?_;obtain⟨y9,e9,h⟩:=B8 h;refine V7 Df (FunO.le hS (args:=[(.p (.agg (B1 y8))),.p (.sl true 1 2 (D3 [G1] [(0,[.sl true 2 2 (D3 [pI .u32 0,pI .u32 0] [(0,A1 (⟨2,5⟩:Eg)),(1,A1 (⟨5,2⟩:Eg))])]),(1,[.sl true 2 3 (D3 [pI .u32 0,pI .u32 0] [(0,A1 (⟨5,2⟩:Eg)),(1,A1 (⟨2,5⟩:Eg)),(2,A1 (⟨5,2⟩:Eg))])])]))]) (by exact⟨.inl rfl,⟨SB rfl (fun i a=>match i,a with|0,_=>AJ2 rfl (fun i a=>match i,a with|0,_=>rfl|1,_=>rfl|_+2,a=>Bc a (by omega))|1,_=>AJ2 rfl (fun i a=>match i,a with|0,_=>rfl|1,_=>rfl|2,_=>rfl|_+3,a=>Bc a (by omega))|_+2,a=>Bc a (by omega)),trivial⟩⟩) (BI hS hL e9)) ?_;refine O0 Df ?_;refine J3 hS Df 57 15000 [pI .i64 y9.1.Langs,vSl 1 (cI .u64) y9.1.Has] ?_;refine Ef hS Df (A5 hS) h 0 (fun z1=>⟨[(0,pB z1)],[]⟩) (fun M1 k1 b h=>?_) (fun z1 h=>?_)
 .refine kG hS h (fun h=>?_) (fun h=>?_)
  .refine kG hS h (fun h=>?_) (fun h=>?_)
   .refine DB hS (rfl:true=true) ⟨[(66,.vec 67000),(64,.p (vSl 2 H3 y3.1)),(63,.p (.v (.bool true))),(15,pN y9.2),(14,.p (.ptr [pI .i64 y9.1.Langs,vSl 1 (cI .u64) y9.1.Has])),(11,pN y7.2),(10,.p (.ptr [pI .i64 y7.1.Langs,vSl 1 (cI .u64) y7.1.Has])),(9,pN y5.2),(8,.p (vSl 1 (cI .i64) y5.1)),(7,pN y4.2),(6,.p (.ptr [pI .i64 y4.1.Langs,vSl 1 (cI .u64) y4.1.Has])),(5,pN y3.2)],[(67000,.vec MT 2 (Sl.of [(⟨0,1⟩:C4)]:Sl C4).n (fun i=>H3 ((Sl.of [(⟨0,1⟩:C4)]:Sl C4).g i)) false)]⟩ (ids:=[(67000,67000)]) ?_ (hle:=klR [(11,.fn 1 (Sl.of [(⟨0,1⟩:C4)]:Sl C4).n (D3 [pI .i64 0,pI .i64 0] [(0,H3 (⟨0,1⟩:C4))]) (fun i=>H3 ((Sl.of [(⟨0,1⟩:C4)]:Sl C4).g i)))] (al1 ⟨rfl,(fun i a=>match i,a with|0,_=>rfl|_+1,a=>Bc a (by omega))⟩ al0));refine kC hS h (Da hS hL) (fun c h=>?_);refine kG hS h (fun h=>?_) (fun h=>?_)
    .refine kG hS h (fun h=>?_) (fun h=>?_)
     .refine kG hS h (fun h=>?_) (fun h=>?_)
      .refine DB hS (rfl:true=true) ⟨[(81,.vec 82000),(80,.p (vSl 1 (cI .u64) y4.1.Has)),(78,.p (.v (.bool true))),(15,pN y9.2),(14,.p (.ptr [pI .i64 y9.1.Langs,vSl 1 (cI .u64) y9.1.Has])),(11,pN y7.2),(10,.p (.ptr [pI .i64 y7.1.Langs,vSl 1 (cI .u64) y7.1.Has])),(9,pN y5.2),(8,.p (vSl 1 (cI .i64) y5.1)),(7,pN y4.2)],[(82000,.vec P8 1 (Sl.of [1,1,3,2]:Sl Int).n (fun i=>cI .u64 ((Sl.of [1,1,3,2]:Sl Int).g i)) false)]⟩ (ids:=[(82000,82000)]) ?_ (hle:=klR [(9,.fn 4 (Sl.of [1,1,3,2]:Sl Int).n (D3 [pI .u64 0] [(0,cI .u64 1),(1,cI .u64 1),(2,cI .u64 3),(3,cI .u64 2)]) (fun i=>cI .u64 ((Sl.of [1,1,3,2]:Sl Int).g i)))] (al1 ⟨rfl,(fun i a=>match i,a with|0,_=>rfl|1,_=>rfl|2,_=>rfl|3,_=>rfl|_+4,a=>Bc a (by omega))⟩ al0));refine kC hS h (N0 hS hL) (fun d h=>?_);refine kG hS h (fun h=>?_) (fun h=>?_)
       .refine kG hS h (fun h=>?_) (fun h=>?_)
        .refine DB hS (rfl:true=true) ⟨[(90,.vec 91000),(89,.p (vSl 1 (cI .i64) y5.1)),(88,.p (.v (.bool true))),(15,pN y9.2),(14,.p (.ptr [pI .i64 y9.1.Langs,vSl 1 (cI .u64) y9.1.Has])),(11,pN y7.2),(10,.p (.ptr [pI .i64 y7.1.Langs,vSl 1 (cI .u64) y7.1.Has])),(9,pN y5.2)],[(91000,.vec D4 1 (Sl.of [0,1]:Sl Int).n (fun i=>cI .i64 ((Sl.of [0,1]:Sl Int).g i)) false)]⟩ (ids:=[(91000,91000)]) ?_ (hle:=klR [(7,.fn 2 (Sl.of [0,1]:Sl Int).n (D3 [pI .i64 0] [(0,cI .i64 0),(1,cI .i64 1)]) (fun i=>cI .i64 ((Sl.of [0,1]:Sl Int).g i)))] (al1 ⟨rfl,(fun i a=>match i,a with|0,_=>rfl|1,_=>rfl|_+2,a=>Bc a (by omega))⟩ al0));refine kC hS h (EX hS hL) (fun f h=>?_);refine kG hS h (fun h=>?_) (fun h=>?_)
         .refine kG hS h (fun h=>?_) (fun h=>?_)
          .refine kG hS h (fun h=>?_) (fun h=>?_)
           .refine DB hS (rfl:true=true) ⟨[(105,.vec 106000),(104,.p (vSl 1 (cI .u64) y7.1.Has)),(102,.p (.v (.bool true))),(15,pN y9.2),(14,.p (.ptr [pI .i64 y9.1.Langs,vSl 1 (cI .u64) y9.1.Has])),(11,pN y7.2)],[(106000,.vec P8 1 (Sl.of [3,2]:Sl Int).n (fun i=>cI .u64 ((Sl.of [3,2]:Sl Int).g i)) false)]⟩ (ids:=[(106000,106000)]) ?_ (hle:=klR [(5,.fn 2 (Sl.of [3,2]:Sl Int).n (D3 [pI .u64 0] [(0,cI .u64 3),(1,cI .u64 2)]) (fun i=>cI .u64 ((Sl.of [3,2]:Sl Int).g i)))] (al1 ⟨rfl,(fun i a=>match i,a with|0,_=>rfl|1,_=>rfl|_+2,a=>Bc a (by omega))⟩ al0));refine kC hS h (N0 hS hL) (fun j h=>?_);refine kG hS h (fun h=>?_) (fun h=>?_)
            .refine kG hS h (fun h=>?_) (fun h=>?_)
             .refine DB hS (rfl:true=true) ⟨[(115,.vec 116000),(114,.p (vSl 1 (cI .u64) y9.1.Has)),(112,.p (.v (.bool true))),(15,pN y9.2)],[(116000,.vec P8 1 (Sl.of [3,4,3,4]:Sl Int).n (fun i=>cI .u64 ((Sl.of [3,4,3,4]:Sl Int).g i)) false)]⟩ (ids:=[(116000,116000)]) ?_ (hle:=klR [(3,.fn 4 (Sl.of [3,4,3,4]:Sl Int).n (D3 [pI .u64 0] [(0,cI .u64 3),(1,cI .u64 4),(2,cI .u64 3),(3,cI .u64 4)]) (fun i=>cI .u64 ((Sl.of [3,4,3,4]:Sl Int).g i)))] (al1 ⟨rfl,(fun i a=>match i,a with|0,_=>rfl|1,_=>rfl|2,_=>rfl|3,_=>rfl|_+4,a=>Bc a (by omega))⟩ al0));refine kC hS h (N0 hS hL) (fun l h=>?_);refine kG hS h (fun h=>?_) (fun h=>?_)
              .exact b _ [] _ (y9.2==0) Df h
              exact b _ [] _ false Df h
             exact b _ [] _ false Df h
            exact b _ [] _ false Df h
           exact b _ [] _ false Df h
          exact b _ [] _ false Df h
         exact b _ [] _ false Df h
        exact b _ [] _ false Df h
       exact b _ [] _ false Df h
      exact b _ [] _ false Df h
     exact b _ [] _ false Df h
    exact b _ [] _ false Df h
   exact b _ [] _ false Df h
  exact b _ [] _ false Df h
 cases h;exact kR hS
end Go.AM
namespace Go.AM
open Go.Proofs
set_option maxRecDepth 10000
set_option maxHeartbeats 2000000
variable {S:Q8}(hS:H1 S Tryz.prog) (hL:GL S)
include hS hL
end Go.AM
namespace Go.AM
open Go.Proofs
set_option maxRecDepth 10000
set_option maxHeartbeats 2000000
variable {S:Q8}(hS:H1 S Tryz.prog) (hL:GL S)
include hS hL
end Go.AM
namespace Go.AM
open Go.Proofs
set_option maxRecDepth 10000
set_option maxHeartbeats 2000000
variable {S:Q8}(hS:H1 S Tryz.prog) (hL:GL S)
include hS hL
end Go.AM
namespace Go.AM
open Go.Proofs
set_option maxRecDepth 10000
set_option maxHeartbeats 2000000
variable {S:Q8}(hS:H1 S Tryz.prog) (hL:GL S)
include hS hL
end Go.AM
namespace Go.AM
open Go.Proofs
set_option maxRecDepth 10000
set_option maxHeartbeats 2000000
variable {S:Q8}(hS:H1 S Tryz.prog) (hL:GL S)
include hS hL
end Go.AM
namespace Go.AM
open Go.Proofs
set_option maxRecDepth 10000
set_option maxHeartbeats 2000000
variable {S:Q8}(hS:H1 S Tryz.prog) (hL:GL S)
include hS hL
end Go.AM
namespace Go.AM
set_option maxRecDepth 1000000
end Go.AM
namespace Go.AM
open Go.Proofs
end Go.AM
namespace Go.AM
open Go.Proofs
end Go.AM
namespace Go.AM
open Go.Proofs
end Go.AM
namespace Go.AM
open Go.Proofs
end Go.AM
namespace Go.AM
open Go.Proofs
end Go.AM
namespace Go.AM
open Go.Proofs
end Go.AM
namespace Go.AM
open Go.Proofs
end Go.AM
namespace Go.AM
open Go.Proofs
end Go.AM
namespace Go.AM
open Go.Proofs
end Go.AM
namespace Go.AM
open Go.Proofs
end Go.AM
namespace Go.AM
open Go.Proofs
abbrev sOf (x y:BitVec 32):Eg:=⟨(x.toNat:Int),(y.toNat:Int)⟩
def vB (p m:BitVec 32):Bool:=decide (∀i:Fin 32,¬(p.getLsbD i=true/\m.getLsbD i=true)/\(24<=i.1->p.getLsbD i=false/\m.getLsbD i=false))
def gB (p m:BitVec 32)(f:Nat):Int:=if p.getLsbD f then 1 else if m.getLsbD f then -1 else 0
end Go.AM
namespace Go.AM
open Go.Proofs
def vS (s:Eg):Prop:=∃p m:BitVec 32,s=sOf p m/\vB p m=true
def OJ (p:Pat):Prop:= (0<=p.Kind/\p.Kind<=6)/\(p.Kind≠1->(p.Is.Plus=0/\p.Is.Minus=0)/\p.Not=false)/\(p.Kind≠3->p.Kind≠4->p.Kind≠5->p.L.n=0)/\(p.Kind≠5->p.Min=0/\p.Max=0) /\ (p.Kind=5->p.L.n=1/\0<=p.Min/\p.Min<=32/\(p.Max = -1 \/ (p.Min<=p.Max/\p.Max<=32)))/\vS p.Is
def chk:Nat->List Pat->Prop
 |0,l=>l=[]
 |_+1,[]=>True
 |k+1,p::l=>OJ p/\chk k (p.L.toList++l)
end Go.AM
namespace Go.AM
open Go.Proofs
end Go.AM
namespace Go.AM
open Go.Proofs
end Go.AM
namespace Go.AM
open Go.Proofs
end Go.AM
namespace Go.AM
open Go.Proofs
end Go.AM
namespace Go.AM
open Go.Proofs
end Go.AM
namespace Go.AM
open Go.Proofs
end Go.AM
namespace Go.AM
open Go.Proofs
end Go.AM
namespace Go.AM
open Go.Proofs
end Go.AM
namespace Go.AM
open Go.Proofs
end Go.AM
namespace Go.AM
open Go.Proofs
end Go.AM
namespace Go.AM
open Go.Proofs
end Go.AM
namespace Go.AM
open Go.Proofs
abbrev QI (y:Int):Bool:=((((decide (97<=y))&&(decide (y<=122)))||((decide (65<=y))&&(decide (y<=90))))||((decide (48<=y))&&(decide (y<=57))))||(y==45)
end Go.AM
namespace Go.AM
open Go.Proofs
def Ha (N:Nat)(l:Law):Prop:=Ca N l.Name=some true/\chk 40 [l.Left]/\chk 40 [l.Right]/\l.If.n<=4/\l.Out.n<=6/\l.If.n+l.Out.n≠0/\1<=l.Mode/\l.Mode<=3/\(∀i,i<l.If.n->vS (l.If.g i))/\∀i,i<l.Out.n->Bv N (l.Out.g i) l.If.n=some true
end Go.AM
namespace Go.AM
open Go.Proofs
end Go.AM
namespace Go.AM
open Go.Proofs
end Go.AM
namespace Go.AM
open Go.Proofs
end Go.AM
namespace Go.AM
open Go.Proofs
end Go.AM
namespace Go.AM
open Go.Proofs
end Go.AM
namespace Go.AM
open Go.Proofs
end Go.AM
namespace Go.AM
open Go.Proofs
def LL (s:Str):Bool:=(decide (1<=s.length)&&decide (s.length<=24))&&s.all fun c=>QI ((c.toNat:Nat):Int)
def Ah7 (t:Sl F5)(v:Nat):Prop:=(v=0->(t.g 0).Parent = -1)/\(0<v->0<=(t.g v).Parent/\(t.g v).Parent<v)/\LL (t.g v).Name=true/\∀u,u<v->(t.g u).Name≠(t.g v).Name
def AS (t:Sl F5):Prop:=1<=t.n/\t.n<=63/\∀v,v<t.n->Ah7 t v
end Go.AM
namespace Go.AM
open Go.Proofs
def R4 (h:A9)(v:Nat):Sl Int:= if hp:0<=(h.Tree.g v).Parent/\(h.Tree.g v).Parent<v then (R4 h (h.Tree.g v).Parent.toNat).app (h.On.g v)else (Sl.nil:Sl Int).app (h.On.g v)
termination_by v
decreasing_by omega
def US (h:A9):Prop:=∃v,v<h.On.n/\64<(R4 h v).n
def Au7 (h:A9)(v:Nat):Prop:=∃k,k<(h.On.g v).n/\((h.On.g v).g k<0 \/ (h.Laws.n:Int)<=(h.On.g v).g k)
end Go.AM
namespace Go.AM
open Go.Proofs
def AB4 (h:A9)(i:Nat):Prop:=∃u v,u<v/\v<i/\(h.Laws.g u).Name=(h.Laws.g v).Name
open Classical in
noncomputable def hres (N:Nat) (h:A9):Int:= if ¬AS h.Tree then 16 else if 64<h.Laws.n then 12 else if ∃i,i<h.Laws.n/\¬Ha N (h.Laws.g i)then 17 else if AB4 h h.Laws.n then 6 else if h.On.n≠h.Tree.n then 2 else if US h then 2 else if ∃v,v<h.On.n/\Au7 h v then 3 else 0
end Go.AM
namespace Go.AM
open Go.Proofs
end Go.AM
namespace Go.AM
open Go.Proofs
end Go.AM
namespace Go.AM
open Go.Proofs
end Go.AM
namespace Go.AM
open Go.Proofs
end Go.AM
namespace Go.AM
open Go.Proofs
end Go.AM
namespace Go.AM
open Go.Proofs
end Go.AM
namespace Go.AM
open Go.Proofs
end Go.AM
namespace Go.AM
open Go.Proofs
end Go.AM
namespace Go.AM
open Go.Proofs
end Go.AM
namespace Go.AM
set_option maxRecDepth 1000000
end Go.AM
namespace Go.AM
open Go.Proofs
end Go.AM
namespace Go.AM
open Go.Proofs
end Go.AM
namespace Go.AM
open Go.Proofs
end Go.AM
namespace Go.AM
open Go.Proofs
end Go.AM
