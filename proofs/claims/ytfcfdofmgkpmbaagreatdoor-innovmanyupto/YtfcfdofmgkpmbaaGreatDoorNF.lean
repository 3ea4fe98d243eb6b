/- What a law's walk and its plain proof need, part 6: no condition of its own. -/
import Derived.Test.YtfcfdofmgkpmbaaGreatDoorNE
import Derived.Test.YtfcfdofmgkpmbaaGreatDoorND
set_option linter.defProp false
set_option linter.unusedSimpArgs false
set_option linter.unusedVariables false
set_option linter.unusedSectionVars false
namespace Go.AM
variable {N:Nat}
open IntKind (wrap)
open Go.Proofs
set_option maxRecDepth 10000
set_option maxHeartbeats 2000000
variable {S:Q7}(hS:F4 S Tryz.prog) (hL:Ig S)
include hS hL
def T7 (rec:A6->Int->Option (Sl Int))(N:Nat)(b:A6)(a:Int):Option (Sl Int):= if (decide (a<0)) then some (Sl.nil:Sl Int) else if ((0:Int)<=a/\a<(b.Tree.n:Int))then (rec b (b.Tree.g a.toNat).Parent).bind fun y1=>if (((0:Int)<=a/\a<(b.On.n:Int))/\((y1.n+(b.On.g a.toNat).n)*8<=140737488355328/\y1.n+(b.On.g a.toNat).n<=140737488355328))then some (y1.app (b.On.g a.toNat)) else none else none
def Au:Nat->A6->Int->Option (Sl Int)
 |0=>fun _ _=>none
 |N+1=>T7 (Au N) N
def EL (N:Nat)(a:Int):Option Bool:= some (((((decide (97<=a))&&(decide (a<=122)))||((decide (65<=a))&&(decide (a<=90))))||((decide (48<=a))&&(decide (a<=57))))||(a==45))
theorem Pg {b:Int}{y:Bool}(h:EL N b=some y) :FunO S HS [.p (pI .u8 b)] [] (pB y) ([]) []:=by unfold EL at h;refine A3 hS Tryz.func152 ?_;refine kB hS (A5 hS) Mg Mg 23 (.o (.o (.o (.n (.a (decide (97<=b))) (.a (decide (b<=122)))) (.n (.a (decide (65<=b))) (.a (decide (b<=90))))) (.n (.a (decide (48<=b))) (.a (decide (b<=57))))) (.a (b==45))) ?_;cases h;exact kR hS
def Bu (N:Nat)(a:Str):Option Bool:= At N (fun b (x1:Int)=>if (decide (x1<(a.length:Int))) then if ((0:Int)<=x1/\x1<(a.length:Int))then (EL N (Y2 a x1)).bind fun y3=>if (!y3) then some false else b (wrap .i64 (x1+1)) else none else some ((decide (0<(a.length:Int)))&&(decide ((a.length:Int)<=24)))) 0
theorem Rc {b:Str}{y:Bool}(h:Bu N b=some y) :FunO S Jq [.p (.str b)] [] (pB y) ([]) []:=by
 unfold Bu at h;refine A3 hS Tryz.func125 ?_;refine N0 hS Mg h (fun x1=>⟨[(6,pN x1),(5,pN (b.length:Int)),(0,.p (.str b))],[]⟩) (ids:=[]) (fun _ _ _ _ _ c x1 d h=>?_);apply kI hS h<;>intro h
 .obtain⟨c8,h⟩:=E2 h;obtain⟨y3,e3,h⟩:=B5 h;refine B4 hS [] c8 (Pg hS hL e3) ?_;apply kI hS h<;>intro h
  .cases h;exact kR hS
  exact d _ [] _ (wrap .i64 (x1+1)) Mg h
 refine kB hS (A5 hS) Mg Mg 4 (.n (.a (decide (0<(b.length:Int)))) (.a (decide ((b.length:Int)<=24)))) ?_;cases h;exact kR hS
def U1 (N:Nat)(a:Sl F0):Option Int:= if (((a.n:Int)==0)||(decide (63<(a.n:Int)))) then some 16 else Bq N (fun b (x2:List (Str×Bool)) (x3:Int)=>if (decide (x3<(a.n:Int))) then if ((0:Int)<=x3/\x3<(a.n:Int))then lt (fun (z3:Bool)=>if z3 then some 16 else b (LP eqS (a.g x3.toNat).Name true x2) (wrap .i64 (x3+1))) fun k3=>if (decide (x3<=(a.g x3.toNat).Parent)) then k3 true else if (decide ((a.g x3.toNat).Parent<(if 0<(wrap .i64 (x3-1))then 0 else (wrap .i64 (x3-1))))) then k3 true else (Bu N (a.g x3.toNat).Name).bind fun y6=>if (!y6) then k3 true else Ac5 (BG eqS (a.g x3.toNat).Name x2) (k3 false) fun v6=>k3 v6 else none else some 0) [] 0
theorem Jv {c:Sl F0}{y:Int}(h:U1 N c=some y) :FunO S Jn [.p (vSl 2 D5 c)] [] (pN y) ([]) []:=by
 unfold U1 at h;refine A3 hS Tryz.func89 ?_;refine kB hS (A5 hS) Mg Mg 4 (.o (.a ((c.n:Int)==0)) (.a (decide (63<(c.n:Int))))) ?_;apply kI hS h<;>intro h
 .cases h;exact kR hS
 refine G9 hS Mg h (fun x2 x3=>⟨[(17,pN x3),(16,pN (c.n:Int)),(15,.p (vSl 2 D5 c)),(3,.mref 15000)],[(15000,.map (Jw PV.str PV.bb x2))]⟩) (ids:=[(15000,15000)]) (fun _ _ _ _ _ f x2 x3 i h=>?_);apply kI hS h<;>intro h
 .obtain⟨c25,h⟩:=E2 h;refine Ga hS (And.intro c25 (by decide:(2:Nat)<=2)) (A5 hS) h 0 (fun z3=>⟨[(45,pB z3),(17,pN x3),(16,pN (c.n:Int)),(15,.p (vSl 2 D5 c)),(5,.reg 6000 0),(3,.mref 15000)],[(15000,.map (Jw PV.str PV.bb x2)),(6000,.cells [pN (c.g x3.toNat).Parent,.p (.str (c.g x3.toNat).Name)])]⟩) (fun M3 k3 d h=>?_) (fun z3 h=>?_)
  .refine kG hS h (fun h=>?_) (fun h=>?_)
   .exact d _ [(6000,6000),(15000,15000)] _ true Mg h
   refine kG hS h (fun h=>?_) (fun h=>?_)
   .exact d _ [(6000,6000),(15000,15000)] _ true Mg h
   refine kC hS h (Rc hS hL) (fun y6 h=>?_);refine kG hS h (fun h=>?_) (fun h=>?_)
   .exact d _ [(6000,6000),(15000,15000)] _ true Mg h
   rcases o6:BG eqS (c.g x3.toNat).Name x2 with _|v6
   .replace h:=optN o6 h;refine Gf hS Mg (kt:=Bo) (e:=Ac4) (key:=PV.str (c.g x3.toNat).Name) (es:=Jw PV.str PV.bb x2) (x:=.v (.bool false)) (b:=false) (fd:=none) ((CE (kP:=PV.str) (vP:=PV.bb) (eq:=eqS) (fun _ _=>by kernel_rfl) (c.g x3.toNat).Name x2).trans (by rw[o6];rfl)) Mg ?_;exact d _ [(6000,6000),(15000,15000)] _ false Mg h
   replace h:=optS o6 h;refine Gf hS Mg (kt:=Bo) (e:=Ac4) (key:=PV.str (c.g x3.toNat).Name) (es:=Jw PV.str PV.bb x2) (x:=PV.bb v6) (b:=true) (fd:=some (PV.bb v6)) ((CE (kP:=PV.str) (vP:=PV.bb) (eq:=eqS) (fun _ _=>by kernel_rfl) (c.g x3.toNat).Name x2).trans (by rw[o6];rfl)) Mg ?_;exact d _ [(6000,6000),(15000,15000)] _ v6 Mg h
  apply kI hS h<;>intro h
  .cases h;exact kR hS
  refine JS hS Mg (kt:=Bo) (key:=PV.str (c.g x3.toNat).Name) (y:=PV.bb true) (es:=Jw PV.str PV.bb x2) (HE (kP:=PV.str) (vP:=PV.bb) (eq:=eqS) (fun _ _=>by kernel_rfl) (c.g x3.toNat).Name true x2) Mg ?_;exact i _ [(15000,15000)] _ (LP eqS (c.g x3.toNat).Name true x2) (wrap .i64 (x3+1)) Mg h
 cases h;exact kR hS
def U2 (N:Nat)(a:A6):Option Int:= if ((0:Int)<=(a.On.n:Int)/\(a.On.n:Int)<=(a.On.n:Int)/\(a.On.n:Int)*8<=140737488355328/\(a.On.n:Int)<=140737488355328)then Yj N (fun c (x4:Sl Int) (x5:Bool) (x6:Int)=>if (decide (x6<(a.On.n:Int))) then if ((((0:Int)<=x6/\x6<(a.On.n:Int))/\((0:Int)<=x6/\x6<(x4.n:Int)))/\x6.toNat<x4.n)then if ((0:Int)<=x6/\x6<(a.Tree.n:Int))then lt (fun (z3:Sl Int)=>if (((0:Int)<=x6/\x6<(z3.n:Int))/\x6.toNat<z3.n)then if (decide (64<(z3.g x6.toNat))) then some 2 else Bq N (fun d (f:Bool) (b:Int)=>if (decide (b<((a.On.g x6.toNat).n:Int))) then if ((0:Int)<=b/\b<((a.On.g x6.toNat).n:Int))then d ((f||(decide (((a.On.g x6.toNat).g b.toNat)<0)))||(decide ((a.Laws.n:Int)<=((a.On.g x6.toNat).g b.toNat)))) (wrap .i64 (b+1)) else none else c z3 f (wrap .i64 (x6+1))) x5 0 else none) fun k3=>if (decide (0<=(a.Tree.g x6.toNat).Parent)) then if (((((((0:Int)<=x6/\x6<((x4.upd x6.toNat ((a.On.g x6.toNat).n:Int)).n:Int))/\x6.toNat<(x4.upd x6.toNat ((a.On.g x6.toNat).n:Int)).n)/\((0:Int)<=(a.Tree.g x6.toNat).Parent/\(a.Tree.g x6.toNat).Parent<((x4.upd x6.toNat ((a.On.g x6.toNat).n:Int)).n:Int)))/\(a.Tree.g x6.toNat).Parent.toNat<(x4.upd x6.toNat ((a.On.g x6.toNat).n:Int)).n)/\((0:Int)<=x6/\x6<((x4.upd x6.toNat ((a.On.g x6.toNat).n:Int)).n:Int)))/\x6.toNat<(x4.upd x6.toNat ((a.On.g x6.toNat).n:Int)).n)then k3 ((x4.upd x6.toNat ((a.On.g x6.toNat).n:Int)).upd x6.toNat (wrap .i64 (((x4.upd x6.toNat ((a.On.g x6.toNat).n:Int)).g x6.toNat)+((x4.upd x6.toNat ((a.On.g x6.toNat).n:Int)).g (a.Tree.g x6.toNat).Parent.toNat)))) else none else k3 (x4.upd x6.toNat ((a.On.g x6.toNat).n:Int)) else none else none else if x5 then some 3 else some 0) (Sl.rep (a.On.n:Int).toNat 0:Sl Int) false 0 else none
theorem LK {d:A6}{y:Int}(h:U2 N d=some y) :FunO S FG [.p (.agg (A8 d))] [] (pN y) ([]) []:=by
 unfold U2 at h;refine A3 hS Tryz.func105 ?_;refine I1 hS Mg 2 2000 (A8 d) ?_;obtain⟨c1,h⟩:=E2 h;refine Kk hS c1 h (fun x4 x5 x6=>⟨[(17,pN x6),(16,pN (d.On.n:Int)),(15,.p (vSl 1 (cL 1 (cI .i64)) d.On)),(4,pB x5),(3,.vec 14000),(1,.p (.ptr (A8 d)))],[(14000,.vec C4 1 x4.n (fun i=>cI .i64 (x4.g i)) false)]⟩) (ids:=[(14000,14000)]) (fun _ _ _ _ _ q x4 x5 x6 r h=>?_);apply kI hS h<;>intro h
 .obtain⟨c35,h⟩:=E2 h;refine H3 hS (And.intro (And.intro c35.1.1 c35.1.2) (And.intro (rfl:(1:Nat)=1) (And.intro c35.2 (by decide:(1:Nat)<=1)))) 27 ⟨[(17,pN x6),(16,pN (d.On.n:Int)),(15,.p (vSl 1 (cL 1 (cI .i64)) d.On)),(6,.p (vSl 1 (cI .i64) (d.On.g x6.toNat))),(5,pN x6),(4,pB x5),(3,.vec 14000),(1,.p (.ptr (A8 d)))],[(14000,.vec C4 1 (x4.upd x6.toNat ((d.On.g x6.toNat).n:Int)).n (fun i=>cI .i64 ((x4.upd x6.toNat ((d.On.g x6.toNat).n:Int)).g i)) false)]⟩ (ids:=[(14000,14000)]) ?_ (hle:=klR [(7,.fn x4.n (x4.upd x6.toNat ((d.On.g x6.toNat).n:Int)).n (fun l=>if l=x6.toNat then splice ((fun i=>cI .i64 (x4.g i)) l) 0 [pI .i64 ((d.On.g x6.toNat).n:Int)]else (fun i=>cI .i64 (x4.g i)) l) (fun i=>cI .i64 ((x4.upd x6.toNat ((d.On.g x6.toNat).n:Int)).g i)))] (al1 ⟨rfl,Ak6 (c:=cI .i64) (v:=x4) (x:=((d.On.g x6.toNat).n:Int)) same (fun _=>by first|rfl|(dsimp only;split<;>rfl))⟩ al0));obtain⟨c36,h⟩:=E2 h;refine Ga hS c36 (A5 hS) h 0 (fun z3=>⟨[(17,pN x6),(16,pN (d.On.n:Int)),(15,.p (vSl 1 (cL 1 (cI .i64)) d.On)),(6,.p (vSl 1 (cI .i64) (d.On.g x6.toNat))),(5,pN x6),(4,pB x5),(3,.vec 14000),(1,.p (.ptr (A8 d)))],[(14000,.vec C4 1 z3.n (fun i=>cI .i64 (z3.g i)) false)]⟩) (fun M3 k3 m h=>?_) (fun z3 h=>?_)
  .apply kI hS h<;>intro h
   .refine GV hS Mg ?_;obtain⟨c41,h⟩:=E2 h;refine O5 (And.intro (And.intro (And.intro (And.intro (And.intro c41.1.1.1.1.1 c41.1.1.1.1.2) c41.1.1.1.2) c41.1.1.2) c41.1.2) (And.intro (rfl:(1:Nat)=1) (And.intro c41.2 (by decide:(1:Nat)<=1)))) ?_;exact m _ [(14000,14000)] _ ((x4.upd x6.toNat ((d.On.g x6.toNat).n:Int)).upd x6.toNat (wrap .i64 (((x4.upd x6.toNat ((d.On.g x6.toNat).n:Int)).g x6.toNat)+((x4.upd x6.toNat ((d.On.g x6.toNat).n:Int)).g (d.Tree.g x6.toNat).Parent.toNat)))) Mg h (hle:=klR [(7,.fn (x4.upd x6.toNat ((d.On.g x6.toNat).n:Int)).n ((x4.upd x6.toNat ((d.On.g x6.toNat).n:Int)).upd x6.toNat (wrap .i64 (((x4.upd x6.toNat ((d.On.g x6.toNat).n:Int)).g x6.toNat)+((x4.upd x6.toNat ((d.On.g x6.toNat).n:Int)).g (d.Tree.g x6.toNat).Parent.toNat)))).n (fun l=>if l=x6.toNat then splice ((fun i=>cI .i64 ((x4.upd x6.toNat ((d.On.g x6.toNat).n:Int)).g i)) l) 0 [pI .i64 (wrap .i64 (((x4.upd x6.toNat ((d.On.g x6.toNat).n:Int)).g x6.toNat)+((x4.upd x6.toNat ((d.On.g x6.toNat).n:Int)).g (d.Tree.g x6.toNat).Parent.toNat)))]else (fun i=>cI .i64 ((x4.upd x6.toNat ((d.On.g x6.toNat).n:Int)).g i)) l) (fun i=>cI .i64 (((x4.upd x6.toNat ((d.On.g x6.toNat).n:Int)).upd x6.toNat (wrap .i64 (((x4.upd x6.toNat ((d.On.g x6.toNat).n:Int)).g x6.toNat)+((x4.upd x6.toNat ((d.On.g x6.toNat).n:Int)).g (d.Tree.g x6.toNat).Parent.toNat)))).g i)))] (al1 ⟨rfl,Ak6 (c:=cI .i64) (v:=x4.upd x6.toNat ((d.On.g x6.toNat).n:Int)) (x:=wrap .i64 (((x4.upd x6.toNat ((d.On.g x6.toNat).n:Int)).g x6.toNat)+((x4.upd x6.toNat ((d.On.g x6.toNat).n:Int)).g (d.Tree.g x6.toNat).Parent.toNat))) same (fun _=>by first|rfl|(dsimp only;split<;>rfl))⟩ al0))
   exact m _ [(14000,14000)] _ (x4.upd x6.toNat ((d.On.g x6.toNat).n:Int)) Mg h
  obtain⟨c42,h⟩:=E2 h;refine D1 hS c42 (b:=decide (64<(z3.g x6.toNat))) (fun c43=>?_) (fun c43=>?_)
  .replace h:=itT c43 h;cases h;exact kR hS
  replace h:=itF c43 h;refine G9 hS Mg h (fun j f=>⟨[(52,pN f),(51,pN ((d.On.g x6.toNat).n:Int)),(50,.p (vSl 1 (cI .i64) (d.On.g x6.toNat))),(17,pN x6),(16,pN (d.On.n:Int)),(15,.p (vSl 1 (cL 1 (cI .i64)) d.On)),(4,pB j),(3,.vec 14000),(1,.p (.ptr (A8 d)))],[(14000,.vec C4 1 z3.n (fun i=>cI .i64 (z3.g i)) false)]⟩) (ids:=[(14000,14000)]) (fun _ _ _ _ _ s j f t h=>?_);apply kI hS h<;>intro h
  .obtain⟨c49,h⟩:=E2 h;refine kB hS (A5 hS) c49 Mg 10 (.o (.o (.a j) (.a (decide (((d.On.g x6.toNat).g f.toNat)<0)))) (.a (decide ((d.Laws.n:Int)<=((d.On.g x6.toNat).g f.toNat))))) ?_;exact t _ [(14000,14000)] _ ((j||(decide (((d.On.g x6.toNat).g f.toNat)<0)))||(decide ((d.Laws.n:Int)<=((d.On.g x6.toNat).g f.toNat)))) (wrap .i64 (f+1)) Mg h
  exact r _ [(14000,14000)] _ z3 j (wrap .i64 (x6+1)) Mg h
 apply kI hS h<;>intro h
 .cases h;exact kR hS
 cases h;exact kR hS
def J0 (N:Nat)(a:A6):Option Int:= (U1 N a.Tree).bind fun y1=>if (y1 != 0) then some 16 else if (decide (64<(a.Laws.n:Int))) then some 12 else Bq N (fun b (x1:List (Str×Int)) (x2:Int)=>if (decide (x2<(a.Laws.n:Int))) then if ((0:Int)<=x2/\x2<(a.Laws.n:Int))then (R5 N (a.Laws.g x2.toNat)).bind fun y4=>if (y4 != 0) then some 17 else Ac5 (BG eqS (a.Laws.g x2.toNat).Name x1) (b (LP eqS (a.Laws.g x2.toNat).Name (wrap .i64 (0+1)) x1) (wrap .i64 (x2+1))) fun v3=>b (LP eqS (a.Laws.g x2.toNat).Name (wrap .i64 (v3+1)) x1) (wrap .i64 (x2+1)) else none else if (decide (((Jw PV.str (pI .i64) x1).length:Int)<(a.Laws.n:Int))) then some 6 else if ((a.On.n:Int) != (a.Tree.n:Int)) then some 2 else (U2 N a).bind fun y5=>some y5) [] 0
theorem CQ {a:A6}{y:Int}(h:J0 N a=some y) :FunO S FD [.p (.agg (A8 a))] [] (pN y) ([]) []:=by
 unfold J0 at h;refine A3 hS Tryz.func70 ?_;refine kC hS h (Jv hS hL) (fun y1 h=>?_);apply kI hS h<;>intro h
 .cases h;exact kR hS
 apply kI hS h<;>intro h
 .cases h;exact kR hS
 refine G9 hS Mg h (fun x1 x2=>⟨[(18,pN x2),(17,pN (a.Laws.n:Int)),(16,.p (vSl 18 A9 a.Laws)),(3,.mref 15000),(1,.reg 2000 0)],[(15000,.map (Jw PV.str (pI .i64) x1)),(2000,.cells ((A8 a).map .p))]⟩) (ids:=[(2000,2000),(15000,15000)]) (fun _ _ _ _ _ d x1 x2 c h=>?_);apply kI hS h<;>intro h
 .obtain⟨c10,h⟩:=E2 h;obtain⟨y4,e4,h⟩:=B5 h;refine B4 hS [] (And.intro c10 (by decide:(18:Nat)<=18)) (Ej hS hL e4) ?_;apply kI hS h<;>intro h
  .cases h;exact kR hS
  rcases o3:BG eqS (a.Laws.g x2.toNat).Name x1 with _|v3
  .replace h:=optN o3 h;refine Gf hS Mg (kt:=Bo) (e:=C4) (key:=PV.str (a.Laws.g x2.toNat).Name) (es:=Jw PV.str (pI .i64) x1) (x:=pI .i64 0) (b:=false) (fd:=none) ((CE (kP:=PV.str) (vP:=pI .i64) (eq:=eqS) (fun _ _=>by kernel_rfl) (a.Laws.g x2.toNat).Name x1).trans (by rw[o3];rfl)) Mg ?_;refine JS hS Mg (kt:=Bo) (key:=PV.str (a.Laws.g x2.toNat).Name) (y:=pI .i64 (wrap .i64 (0+1))) (es:=Jw PV.str (pI .i64) x1) (HE (kP:=PV.str) (vP:=pI .i64) (eq:=eqS) (fun _ _=>by kernel_rfl) (a.Laws.g x2.toNat).Name (wrap .i64 (0+1)) x1) Mg ?_;exact c _ [(2000,2000),(15000,15000)] _ (LP eqS (a.Laws.g x2.toNat).Name (wrap .i64 (0+1)) x1) (wrap .i64 (x2+1)) Mg h
  replace h:=optS o3 h;refine Gf hS Mg (kt:=Bo) (e:=C4) (key:=PV.str (a.Laws.g x2.toNat).Name) (es:=Jw PV.str (pI .i64) x1) (x:=pI .i64 v3) (b:=true) (fd:=some (pI .i64 v3)) ((CE (kP:=PV.str) (vP:=pI .i64) (eq:=eqS) (fun _ _=>by kernel_rfl) (a.Laws.g x2.toNat).Name x1).trans (by rw[o3];rfl)) Mg ?_;refine JS hS Mg (kt:=Bo) (key:=PV.str (a.Laws.g x2.toNat).Name) (y:=pI .i64 (wrap .i64 (v3+1))) (es:=Jw PV.str (pI .i64) x1) (HE (kP:=PV.str) (vP:=pI .i64) (eq:=eqS) (fun _ _=>by kernel_rfl) (a.Laws.g x2.toNat).Name (wrap .i64 (v3+1)) x1) Mg ?_;exact c _ [(2000,2000),(15000,15000)] _ (LP eqS (a.Laws.g x2.toNat).Name (wrap .i64 (v3+1)) x1) (wrap .i64 (x2+1)) Mg h
 apply kI hS h<;>intro h
 .cases h;exact kR hS
 apply kI hS h<;>intro h
 .cases h;exact kR hS
 refine kC hS h (LK hS hL) (fun y5 h=>?_);cases h;exact kR hS
def Z5 (N:Nat)(b:A6)(a:Int):Option Bool:= some ((decide (0<=a))&&(decide (a<(b.Tree.n:Int))))
theorem ME {c:A6}{b:Int}{y:Bool}(h:Z5 N c b=some y) :FunO S Gy [.p (.agg (A8 c)),pN b] [] (pB y) ([]) []:=by unfold Z5 at h;refine A3 hS Tryz.func92 ?_;refine kB hS (A5 hS) Mg Mg 6 (.n (.a (decide (0<=b))) (.a (decide (b<(c.Tree.n:Int))))) ?_;cases h;exact kR hS
def N9 (N:Nat)(q0:Int)(q1:Sl F0):Option (List (Int)):= Bq N (fun a (x1:Int) (x2:Sl Int)=>if (decide (0<=x1)) then if (((x2.n+(Sl.of [x1]:Sl Int).n)*8<=140737488355328/\x2.n+(Sl.of [x1]:Sl Int).n<=140737488355328)/\((0:Int)<=x1/\x1<(q1.n:Int)))then a (q1.g x1.toNat).Parent (x2.push x1) else none else At N (fun b (x3:Int)=>if (decide (0<=x3)) then if (((0:Int)<=x3/\x3<(x2.n:Int))/\x3.toNat<x2.n)then Fo (x2.g x3.toNat) (b (wrap .i64 (x3-1))) else none else some []) (wrap .i64 ((x2.n:Int)-1))) q0 (Sl.nil:Sl Int)
theorem LL {q0:Int}{q1:Sl F0}{L:List (Int)}(h:N9 N q0 q1=some L) :Er S AQ [] [.reg 0 0,.reg 1 0] [.cells [pN q0],.cells [.p (vSl 2 D5 q1)]] (L.map (fun (x:Int)=>[pI .i64 x])):=by
 unfold N9 at h;refine Ew hS Tryz.func127 ?_;refine Oz hS Mg h (fun x1 x2 L1=>⟨[(4,.vec 5500),(2,.reg 1 0),(1,.reg 0 0),(0,.yf 2)],[(5500,.vec C4 1 x2.n (fun i=>cI .i64 (x2.g i)) false),(2,.yld (L1.map (fun (x:Int)=>[pI .i64 x])) true),(1,.cells [.p (vSl 2 D5 q1)]),(0,.cells [pN x1])]⟩) (ids:=[(0,0),(1,1),(2,2)]) (fun _ _ _ _ _ f x1 x2 L1 j h=>?_);apply kI hS h<;>intro h
 .obtain⟨c4,h⟩:=E2 h;exact j _ [(0,0),(1,1),(2,2),(5500,17000)] _ (q1.g x1.toNat).Parent (x2.push x1) L1 (And.intro (And.intro (rfl:true=true) c4.1) c4.2) h (hle:=klR [(0,.fn (x2.n+1) (x2.push x1).n (AA x2.n (fun i=>cI .i64 (x2.g i)) (D0 [pI .i64 0] [(0,cI .i64 x1)])) (fun i=>cI .i64 ((x2.push x1).g i)))] (al1 ⟨rfl,Kj (c:=cI .i64) (v:=x2) (x:=x1) (z:=[(pI .i64 0)]) same rfl rfl⟩ al0))
 refine Fz hS Mg h (fun x3 L2=>⟨[(5,pN x3),(4,.vec 5500),(0,.yf 2)],[(5500,.vec C4 1 x2.n (fun i=>cI .i64 (x2.g i)) false),(2,.yld (L2.map (fun (x:Int)=>[pI .i64 x])) true),(1,.cells [.p (vSl 2 D5 q1)]),(0,.cells [pN x1])]⟩) (ids:=[(0,0),(1,1),(2,2),(5500,5500)]) (fun _ _ _ _ _ l x3 L2 m h=>?_);apply kI hS h<;>intro h
 .obtain⟨c14,h⟩:=E2 h;obtain⟨L5,rfl,d⟩:=La h;replace h:=d;refine CF hS c14 (ys:=(fun (x:Int)=>[pI .i64 x]) (x2.g x3.toNat)) (rest:=L5.map (fun (x:Int)=>[pI .i64 x])) ?_ ?_
  .refine D1 hS Mg (b:=false) (fun c15=>?_) (fun c15=>?_)
   .exact Bool.noConfusion ((rfl:false=false).symm.trans c15)
   exact m _ [(0,0),(1,1),(2,2),(5500,5500)] _ (wrap .i64 (x3-1)) L5 Mg h
  refine D1 hS Mg (b:=true) (fun c16=>?_) (fun c16=>?_)
  .exact A7 hS Mg (a:=.tup []) (objs:=[(.cells [pN x1]),.cells [.p (vSl 2 D5 q1)],.yld [] false]) ⟨[],[(2,.yld [] false),(1,.cells [.p (vSl 2 D5 q1)]),(0,.cells [pN x1])]⟩ [0,1,2] (ids:=[(0,0),(1,1),(2,2)]) ⟨false,rfl,rfl,_,rfl⟩
  exact Bool.noConfusion ((rfl:true=true).symm.trans c16)
 obtain rfl:=B7 h;exact A7 hS Mg (a:=.tup []) (objs:=[(.cells [pN x1]),.cells [.p (vSl 2 D5 q1)],.yld [] true]) ⟨[],[(2,.yld [] true),(1,.cells [.p (vSl 2 D5 q1)]),(0,.cells [pN x1])]⟩ [0,1,2] (ids:=[(0,0),(1,1),(2,2)]) ⟨true,rfl,rfl,_,rfl⟩
def W8 (N:Nat)(a:Sl F0)(b:Int):Option (Int×(Sl F0)):= some (b,a)
theorem Ph {a:Sl F0}{b:Int}{y:Int×(Sl F0)}(h:W8 N a b=some y) :FunO S HO [.p (vSl 2 D5 a),pN b] [] (.clo AQ [] [.reg 0 0,.reg 1 0]) ([.cells [pN y.1],.cells [.p (vSl 2 D5 y.2)]]) []:=by unfold W8 at h;refine A3 hS Tryz.func93 ?_;obtain rfl:=B7 h;exact A7 hS Mg ⟨[(4,.clo AQ [] [.reg 4000 0,.reg 3000 0])],[(4000,.cells [pN b]),(3000,.cells [.p (vSl 2 D5 a)])]⟩ [4000,3000] (ids:=[(3000,3000),(4000,4000)]) ⟨rfl,rfl,rfl⟩
def N2 (N:Nat)(a:A6)(c:Int):Option ((Sl Int)×Int):= (J0 N a).bind fun y1=>if (y1 != 0) then some ((Sl.nil:Sl Int),y1) else (Z5 N a c).bind fun y2=>if (!y2) then some ((Sl.nil:Sl Int),3) else (W8 N a.Tree c).bind fun y3=>(N9 N y3.1 y3.2).bind fun L1=>Z2 L1 (fun b (x1:Int) (z1:Sl Int)=>if (((0:Int)<=x1/\x1<(a.On.n:Int))/\((z1.n+(a.On.g x1.toNat).n)*8<=140737488355328/\z1.n+(a.On.g x1.toNat).n<=140737488355328))then b (z1.app (a.On.g x1.toNat)) else none) (fun (z1:Sl Int)=>some (z1,0)) (Sl.nil:Sl Int)
theorem GH {a:A6}{b:Int}{y:(Sl Int)×Int}(h:N2 N a b=some y) :FunO S Gw [.p (.agg (A8 a)),pN b] [] (.tup [.vec 0,pN y.2]) ([.vec C4 1 y.1.n (fun i=>cI .i64 (y.1.g i)) true]) []:=by
 unfold N2 at h;refine A3 hS Tryz.func72 ?_;refine I1 hS Mg 4 3000 (A8 a) ?_;obtain⟨y1,e1,h⟩:=B5 h;refine B4 hS [] (by decide:(3:Nat)<=3) (CQ hS hL e1) ?_;apply kI hS h<;>intro h
 .obtain rfl:=B7 h;exact A7 hS Mg ⟨[(5,pN y1),(4,.vec 5700)],[(5700,.vec C4 1 (Sl.nil:Sl Int).n (fun i=>cI .i64 ((Sl.nil:Sl Int).g i)) true)]⟩ [5700] (ids:=[]) ⟨rfl,rfl,rfl⟩
 obtain⟨y2,e2,h⟩:=B5 h;refine B4 hS [] (by decide:(3:Nat)<=3) (ME hS hL e2) ?_;apply kI hS h<;>intro h
 .obtain rfl:=B7 h;exact A7 hS Mg ⟨[(5,pN 3),(4,.vec 5700)],[(5700,.vec C4 1 (Sl.nil:Sl Int).n (fun i=>cI .i64 ((Sl.nil:Sl Int).g i)) true)]⟩ [5700] (ids:=[]) ⟨rfl,rfl,rfl⟩
 refine kC hS h (Ph hS hL) (fun y3 h=>?_);obtain⟨L1,e4,h⟩:=B5 h;refine Ex hS Mg [22000,22001] [7,2] 901 (fun z1=>⟨[(7,.reg 8000 0),(2,.p (.ptr (A8 a)))],[(8500,.vec C4 1 z1.n (fun i=>cI .i64 (z1.g i)) false),(8000,.cells [.vec 8500])]⟩) (idl:=[(8000,8000)]) h (LL hS hL e4) (fun _=>by kernel_rfl) (fun _=>by kernel_rfl) (fun _=>by kernel_rfl) (fun _=>by kernel_rfl) (fun x1 _ d z1 f h=>?_) (fun z1 h=>?_)
 .refine HH hS Mg ?_;refine G8 hS Mg [2,4,5] ?_;obtain⟨c5,h⟩:=E2 h;refine O5 c5 ?_;exact f _ [(901,901),(8000,8000),(8500,30000)] _ (z1.app (a.On.g x1.toNat)) Mg h (hle:=klR [(0,.fn (z1.n+(a.On.g x1.toNat).n) (z1.app (a.On.g x1.toNat)).n (AA z1.n (fun i=>cI .i64 (z1.g i)) (fun i=>cI .i64 ((a.On.g x1.toNat).g i))) (fun i=>cI .i64 ((z1.app (a.On.g x1.toNat)).g i)))] (al1 ⟨rfl,Al9 (c:=cI .i64) (v:=z1) (w:=a.On.g x1.toNat) same rfl same rfl⟩ al0))
 obtain rfl:=B7 h;exact A7 hS Mg ⟨[(5,pN 0),(4,.vec 8500)],[(8500,.vec C4 1 z1.n (fun i=>cI .i64 (z1.g i)) true)]⟩ [8500] (ids:=[(8500,8500)]) ⟨rfl,rfl,rfl⟩
def Ao (rec:Pat->Option Pat)(N:Nat)(a:Pat):Option Pat:= Bq N (fun b (x1:Sl Pat) (x2:Int)=>if (decide (x2<(a.L.n:Int))) then if ((0:Int)<=x2/\x2<(a.L.n:Int))then (rec (a.L.g x2.toNat)).bind fun y3=>if ((x1.n+(Sl.of [y3]:Sl Pat).n)*64<=140737488355328/\x1.n+(Sl.of [y3]:Sl Pat).n<=140737488355328)then b (x1.push y3) (wrap .i64 (x2+1)) else none else none else some (Pat.mk a.Kind a.Is a.Not a.Min a.Max x1.n x1.g)) (Sl.nil:Sl Pat) 0
def X9:Nat->Pat->Option Pat
 |0=>fun _=>none
 |N+1=>Ao (X9 N) N
theorem Ie {rec:Pat->Option Pat}(b:∀{a:Pat}{y:Pat},rec a=some y->FunO S X3 [.p (.agg (B1 a))] [] (.p (.agg (B1 y))) ([]) []){a:Pat}{y:Pat}(h:Ao rec N a=some y) :FunO S X3 [.p (.agg (B1 a))] [] (.p (.agg (B1 y))) ([]) []:=by
 unfold Ao at h;refine A3 hS Tryz.func153 ?_;refine H3 hS Mg 8 ⟨[(7,.p (vSl 7 B1 a.L)),(3,.p E9),(2,.reg 3000 0),(1,.reg 2000 0)],[(3000,.cells [pN 0,pU 0,pU 0,.p (.v (.bool false)),pN 0,pN 0,.p E9]),(2000,.cells ((B1 a).map .p))]⟩ (ids:=[(2000,2000),(3000,3000)]) ?_ (hle:=klR [(0,.fn a.L.n a.L.n (AY a) (fun i=>B1 (a.L.g i)))] (al1 ⟨rfl,R4 a⟩ al0));refine G9 hS Mg h (fun x1 x2=>⟨[(9,pN x2),(8,pN (a.L.n:Int)),(7,.p (vSl 7 B1 a.L)),(3,.vec 4500),(2,.reg 3000 0),(1,.reg 2000 0)],[(4500,.vec DO 7 x1.n (fun i=>B1 (x1.g i)) false),(3000,.cells [pN 0,pU 0,pU 0,.p (.v (.bool false)),pN 0,pN 0,.p E9]),(2000,.cells ((B1 a).map .p))]⟩) (ids:=[(2000,2000),(3000,3000)]) (fun _ _ _ _ _ d x1 x2 f h=>?_);apply kI hS h<;>intro h
 .obtain⟨c6,h⟩:=E2 h;obtain⟨y3,e3,h⟩:=B5 h;refine B4 hS [] (And.intro c6 (by decide:(7:Nat)<=7)) (b e3) ?_;obtain⟨c7,h⟩:=E2 h;exact f _ [(2000,2000),(3000,3000),(4500,18000)] _ (x1.push y3) (wrap .i64 (x2+1)) (And.intro (rfl:true=true) c7) h (hle:=klR [(3,.fn (x1.n+1) (x1.push y3).n (AA x1.n (fun i=>B1 (x1.g i)) (D0 [pI .i64 0,pI .u32 0,pI .u32 0,.v (.bool false),pI .i64 0,pI .i64 0,E9] [(0,B1 y3)])) (fun i=>B1 ((x1.push y3).g i)))] (al1 ⟨rfl,Kj (c:=B1) (v:=x1) (x:=y3) (z:=[(pI .i64 0),pI .u32 0,pI .u32 0,.v (.bool false),pI .i64 0,pI .i64 0,E9]) same rfl rfl⟩ al0))
 obtain rfl:=B7 h;exact A7 hS Mg ⟨[(2,.reg 3000 0)],[(3000,.cells [pN a.Kind,pU a.Is.Plus,pU a.Is.Minus,pB a.Not,pN a.Min,pN a.Max,.p (.sl false 7 x1.n (AY (Pat.mk a.Kind a.Is a.Not a.Min a.Max x1.n x1.g)))])]⟩ [] (ids:=[(3000,3000)]) ⟨rfl,rfl,rfl⟩
theorem Eg {a:Pat}{y:Pat}(h:X9 N a=some y) :FunO S X3 [.p (.agg (B1 a))] [] (.p (.agg (B1 y))) ([]) []:=by
 induction N generalizing a y with
 |zero=>cases (show (none:Option Pat)=some y from h)
 |succ N ih=>exact Ie hS hL (fun e=>ih e) h
def BR (N:Nat)(a:Law):Option Law:= (X9 N a.Left).bind fun y1=>(X9 N a.Right).bind fun y2=>(B3 N a.If).bind fun y3=>(H6 N a.Out).bind fun y4=>some (⟨a.Name,y1,y2,y3,y4,a.Mode⟩:Law)
theorem JL {a:Law}{y:Law}(h:BR N a=some y) :FunO S EX [.p (.agg (A9 a))] [] (.p (.agg (A9 y))) ([]) []:=by unfold BR at h;refine A3 hS Tryz.func128 ?_;refine G8 hS Mg [2,5] ?_;obtain⟨y1,e1,h⟩:=B5 h;refine AF Mg (Eg hS hL e1) ?_;obtain⟨y2,e2,h⟩:=B5 h;refine AF Mg (Eg hS hL e2) ?_;refine O5 Mg ?_;refine G8 hS Mg [2,5] ?_;obtain⟨y3,e3,h⟩:=B5 h;refine AF Mg (X7 hS hL e3) ?_;obtain⟨y4,e4,h⟩:=B5 h;refine AF Mg (AB hS hL e4) ?_;refine O5 Mg ?_;cases h;exact kR hS
def Dy (N:Nat)(c:A6)(a:Sl Int):Option (Sl Law):= Bq N (fun b (x1:Sl Law) (x2:Int)=>if (decide (x2<(a.n:Int))) then if (((0:Int)<=x2/\x2<(a.n:Int))/\((0:Int)<=(a.g x2.toNat)/\(a.g x2.toNat)<(c.Laws.n:Int)))then (BR N (c.Laws.g (a.g x2.toNat).toNat)).bind fun y3=>if ((x1.n+(Sl.of [y3]:Sl Law).n)*200<=140737488355328/\x1.n+(Sl.of [y3]:Sl Law).n<=140737488355328)then b (x1.push y3) (wrap .i64 (x2+1)) else none else none else some x1) (Sl.nil:Sl Law) 0
theorem MF {b:A6}{a:Sl Int}{y:Sl Law}(h:Dy N b a=some y) :FunO S Gz [.p (.agg (A8 b)),.p (vSl 1 (cI .i64) a)] [] (.p (vSl 18 A9 y)) ([]) []:=by
 unfold Dy at h;refine A3 hS Tryz.func94 ?_;refine G9 hS Mg h (fun x1 x2=>⟨[(10,pN x2),(9,pN (a.n:Int)),(8,.p (vSl 1 (cI .i64) a)),(5,.vec 6500),(2,.reg 3000 0)],[(6500,.vec Ct 18 x1.n (fun i=>A9 (x1.g i)) false),(3000,.cells ((A8 b).map .p))]⟩) (ids:=[(3000,3000)]) (fun _ _ _ _ _ d x1 x2 f h=>?_);apply kI hS h<;>intro h
 .obtain⟨c6,h⟩:=E2 h;obtain⟨y3,e3,h⟩:=B5 h;refine B4 hS [] (And.intro (And.intro c6.1 c6.2) (by decide:(18:Nat)<=18)) (JL hS hL e3) ?_;obtain⟨c7,h⟩:=E2 h;exact f _ [(3000,3000),(6500,23000)] _ (x1.push y3) (wrap .i64 (x2+1)) (And.intro (rfl:true=true) c7) h (hle:=klR [(3,.fn (x1.n+1) (x1.push y3).n (AA x1.n (fun i=>A9 (x1.g i)) (D0 [.str [],pI .i64 0,pI .u32 0,pI .u32 0,.v (.bool false),pI .i64 0,pI .i64 0,E9,pI .i64 0,pI .u32 0,pI .u32 0,.v (.bool false),pI .i64 0,pI .i64 0,E9,E9,E9,pI .i64 0] [(0,A9 y3)])) (fun i=>A9 ((x1.push y3).g i)))] (al1 ⟨rfl,Kj (c:=A9) (v:=x1) (x:=y3) (z:=[(.str []),pI .i64 0,pI .u32 0,pI .u32 0,.v (.bool false),pI .i64 0,pI .i64 0,E9,pI .i64 0,pI .u32 0,pI .u32 0,.v (.bool false),pI .i64 0,pI .i64 0,E9,E9,E9,pI .i64 0]) same rfl rfl⟩ al0))
 obtain rfl:=B7 h;exact A7 hS Mg ⟨[(4,.p (vSl 18 A9 x1))],[]⟩ [] (ids:=[]) ⟨rfl,rfl,rfl⟩
def Dz (N:Nat)(a:A6)(b:Int):Option ((Sl Law)×Int):= (N2 N a b).bind fun y1=>(Dy N a y1.1).bind fun y2=>some (y2,y1.2)
theorem MG {a:A6}{b:Int}{y:(Sl Law)×Int}(h:Dz N a b=some y) :FunO S Gx [.p (.agg (A8 a)),pN b] [] (.tup [.p (vSl 18 A9 y.1),pN y.2]) ([]) []:=by unfold Dz at h;refine A3 hS Tryz.func76 ?_;refine kC hS h (GH hS hL) (fun y1 h=>?_);refine kC hS h (MF hS hL) (fun y2 h=>?_);cases h;exact kR hS
end Go.AM
namespace Go.AM
open IntKind (wrap)
open Go.Proofs
set_option maxRecDepth 10000
set_option maxHeartbeats 2000000
variable {S:Q7}(hS:F4 S Tryz.prog) (hL:Ig S)
abbrev IS {T:Type}(e:TypeId)(k:Nat)(c:T->List PV)(x:Sl T):Obj:=.vec e k x.n (fun q=>c (x.g q)) false
theorem Ad2 {T:Type}{e:TypeId}{k n i:Nat}{c:T->List PV}{X:Sl (Sl T)}{z:Sl T}:∀q,q<n->(fun q=>if q=i then IS e k c z else if q=i then Obj.dead else IS e k c (X.g q)) q=(fun q=>IS e k c ((X.upd i z).g q)) q:=fun q _=>by by_cases h:q=i<;>simp[h]
include hS hL
def U3 (N:Nat)(a:Sl F0):Option (Sl (Sl Int)):= if ((0:Int)<=(a.n:Int)/\(a.n:Int)<=(a.n:Int)/\(a.n:Int)*24<=140737488355328/\(a.n:Int)<=140737488355328)then Bq N (fun b (x:Int) (X:Sl (Sl Int))=>if (decide (x<(a.n:Int))) then if ((0:Int)<=x/\x<(a.n:Int))then if (a.g x.toNat).Parent.toNat<X.n then lt (fun (z:Sl Int)=>b (wrap .i64 (x+1)) (X.upd (a.g x.toNat).Parent.toNat z)) fun k=>if (decide (0<x)) then if (((0:Int)<=(a.g x.toNat).Parent/\(a.g x.toNat).Parent<(X.n:Int))/\(((X.g (a.g x.toNat).Parent.toNat).n+1)*8<=140737488355328/\(X.g (a.g x.toNat).Parent.toNat).n+1<=140737488355328))then k ((X.g (a.g x.toNat).Parent.toNat).push x) else none else k (X.g (a.g x.toNat).Parent.toNat) else none else none else some X) 0 ⟨a.n,fun _=>Sl.nil⟩ else none
theorem LM {N:Nat}{b:Sl F0}{y:Sl (Sl Int)}(h:U3 N b=some y) :FunO S FI [.p (vSl 2 D5 b)] [] (.p (vSl 1 (cL 1 (cI .i64)) y)) [] []:=by
 unfold U3 at h;refine A3 hS Tryz.func126 ?_;obtain⟨c1,h⟩:=E2 h;refine Hf hS c1 9 (.fam 9000 9901 fun i=>IS C4 1 (cI .i64) ((⟨b.n,fun _=>Sl.nil⟩:Sl (Sl Int)).g i)) (⟨by decide,fun i _=>rfl⟩:1000<=9901/\∀i,i<b.n->Ti [E9] (IS C4 1 (cI .i64) ((⟨b.n,fun _=>Sl.nil⟩:Sl (Sl Int)).g i))) ?_;refine G9 hS Mg h (fun x X=>⟨[(11,pN x),(10,pN (b.n:Int)),(9,.p (vSl 2 D5 b)),(3,.vec 9000)],[(9901,.rows X.n fun i=>IS C4 1 (cI .i64) (X.g i)),(9000,.fam AG X.n 9901 none)]⟩) (ids:=[(9901,9901),(9000,9000)]) (fun _ _ _ _ _ j x X f h=>?_);apply kI hS h<;>intro h
 .obtain⟨c2,h⟩:=E2 h;obtain⟨c3,h⟩:=E2 h;refine Hf hS (And.intro c2 (by decide:(2:Nat)<=2)) 17 (.take 9000 (b.g x.toNat).Parent.toNat 9801) (⟨⟨by decide,rfl⟩,c3⟩:(1000<=9801/\X.n=X.n)/\(b.g x.toNat).Parent.toNat<X.n) ?_;refine Ga hS Mg (A5 hS) h 0 (fun z=>⟨[(11,pN x),(10,pN (b.n:Int)),(9,.p (vSl 2 D5 b)),(3,.vec 9000)],
   [(9901,(.rows X.n fun l=>if l=(b.g x.toNat).Parent.toNat then .dead else IS C4 1 (cI .i64) (X.g l))),(9801,IS C4 1 (cI .i64) z),(9000,.fam AG X.n 9901 (some ((b.g x.toNat).Parent.toNat,.vec 9801)))]⟩) (fun M k d h=>?_) (fun z h=>?_)
  .apply kI hS h<;>intro h
   .obtain⟨c4,h⟩:=E2 h;refine X1 hS Mg [(0,.n),(1,.n),(2,.l [6000]),(3,.n),(4,.n),(5,.l [6000]),(6,.l [9000]),(7,.l [9000]),(8,.n),(10,.a [29000,9801]),(11,.l [9000]),(12,.a [9000])] ?_;refine AE (And.intro c4.1 (And.intro c3 (rfl:(b.g x.toNat).Parent.toNat=(b.g x.toNat).Parent.toNat))) (x:=.sl true 1 1 (D0 [pI .i64 0] [(0,cI .i64 x)])) ?_;refine O5 (And.intro (And.intro c4.2 c4.1) (And.intro c3 (rfl:(b.g x.toNat).Parent.toNat=(b.g x.toNat).Parent.toNat))) ?_;exact d _ [(9901,9901),(9801,29000),(9000,9000)] _ ((X.g (b.g x.toNat).Parent.toNat).push x) Mg h (hle:=klR [(5,.fn ((X.g (b.g x.toNat).Parent.toNat).n+1) ((X.g (b.g x.toNat).Parent.toNat).push x).n (AA (X.g (b.g x.toNat).Parent.toNat).n (fun i=>cI .i64 ((X.g (b.g x.toNat).Parent.toNat).g i)) (D0 [pI .i64 0] [(0,cI .i64 x)])) (fun i=>cI .i64 (((X.g (b.g x.toNat).Parent.toNat).push x).g i)))] (al1 ⟨rfl,Kj (c:=cI .i64) (v:=X.g (b.g x.toNat).Parent.toNat) (x:=x) (z:=[(pI .i64 0)]) same rfl rfl⟩ al0))
   exact d _ [(9901,9901),(9801,9801),(9000,9000)] _ (X.g (b.g x.toNat).Parent.toNat) Mg h
  refine Hf hS Mg 30 (.put 9000 9902) (⟨⟨by decide,rfl⟩,c3⟩:(1000<=9902/\X.n=X.n)/\(b.g x.toNat).Parent.toNat<X.n) ?_;exact f _ [(9901,9902),(9000,9000)] _ (wrap .i64 (x+1)) (X.upd (b.g x.toNat).Parent.toNat z) Mg h (hle:=klR [(4,.ob X.n (fun q=>if q=(b.g x.toNat).Parent.toNat then IS C4 1 (cI .i64) z else if q=(b.g x.toNat).Parent.toNat then .dead else IS C4 1 (cI .i64) (X.g q)) fun i=>IS C4 1 (cI .i64) ((X.upd (b.g x.toNat).Parent.toNat z).g i))] (al1 Ad2 al0))
 refine Hf hS Mg 31 (.pub 9000) (⟨rfl,fun i _=>rfl⟩:X.n=X.n/\∀i,i<X.n->(UR (IS C4 1 (cI .i64) (X.g i))).isSome=true) ?_;obtain rfl:=B7 h;exact A7 hS Mg ⟨[(2,.p (vSl 1 (cL 1 (cI .i64)) X))],[]⟩ [] (ids:=[]) ⟨rfl,rfl,rfl⟩ (hle:=klR [(0,.fn X.n X.n (fun i=>[(UR (IS C4 1 (cI .i64) (X.g i))).getD default]) (fun i=>cL 1 (cI .i64) (X.g i)))] (al1 ⟨rfl,fun _ _=>rfl⟩ al0))
end Go.AM
namespace Go.AM
open IntKind (wrap)
open Go.Proofs
set_option maxRecDepth 10000
set_option maxHeartbeats 2000000
variable {S:Q7}(hS:F4 S Tryz.prog) (hL:Ig S)
include hS hL
def AH (N:Nat)(b:Sl F0):Option (Sl Int):= (U3 N b).bind fun y1=>Bq N (fun a (x1:Sl Int) (x2:Int)=>if (decide (x2<(y1.n:Int))) then if ((0:Int)<=x2/\x2<(y1.n:Int))then if (((y1.g x2.toNat).n:Int)==0) then if ((x1.n+(Sl.of [x2]:Sl Int).n)*8<=140737488355328/\x1.n+(Sl.of [x2]:Sl Int).n<=140737488355328)then a (x1.push x2) (wrap .i64 (x2+1)) else none else a x1 (wrap .i64 (x2+1)) else none else some x1) (Sl.nil:Sl Int) 0
theorem Pj {N:Nat}{a:Sl F0}{y:Sl Int}(h:AH N a=some y) :FunO S HN [.p (vSl 2 D5 a)] [] (.vec 0) ([.vec C4 1 y.n (fun i=>cI .i64 (y.g i)) true]) []:=by
 unfold AH at h;refine A3 hS Tryz.func90 ?_;refine kC hS h (LM hS hL) (fun y1 h=>?_);refine G9 hS Mg h (fun x1 x2=>⟨[(9,pN x2),(8,pN (y1.n:Int)),(7,.p (vSl 1 (cL 1 (cI .i64)) y1)),(3,.vec 4500)],[(4500,.vec C4 1 x1.n (fun i=>cI .i64 (x1.g i)) false)]⟩) (ids:=[]) (fun _ _ _ _ _ f x1 x2 d h=>?_);apply kI hS h<;>intro h
 .obtain⟨c8,h⟩:=E2 h;refine D1 hS c8 (b:=((y1.g x2.toNat).n:Int)==0) (fun c9=>?_) (fun c9=>?_)
  .replace h:=itT c9 h;obtain⟨c10,h⟩:=E2 h;exact d _ [(4500,21000)] _ (x1.push x2) (wrap .i64 (x2+1)) (And.intro (rfl:true=true) c10) h (hle:=klR [(3,.fn (x1.n+1) (x1.push x2).n (AA x1.n (fun i=>cI .i64 (x1.g i)) (D0 [pI .i64 0] [(0,cI .i64 x2)])) (fun i=>cI .i64 ((x1.push x2).g i)))] (al1 ⟨rfl,Kj (c:=cI .i64) (v:=x1) (x:=x2) (z:=[(pI .i64 0)]) same rfl rfl⟩ al0))
  replace h:=itF c9 h;exact d _ [(4500,4500)] _ x1 (wrap .i64 (x2+1)) Mg h
 obtain rfl:=B7 h;exact A7 hS Mg ⟨[(2,.vec 4500)],[(4500,.vec C4 1 x1.n (fun i=>cI .i64 (x1.g i)) true)]⟩ [4500] (ids:=[(4500,4500)]) ⟨rfl,rfl,rfl⟩
def W4 (N:Nat)(a:Sl F0):Option ((Sl Int)×Int):= (U1 N a).bind fun y1=>if (y1 != 0) then some ((Sl.nil:Sl Int),y1) else (AH N a).bind fun y2=>some (y2,0)
theorem Hg {N:Nat}{a:Sl F0}{y:(Sl Int)×Int}(h:W4 N a=some y) :FunO S HL [.p (vSl 2 D5 a)] [] (.tup [.vec 0,pN y.2]) ([.vec C4 1 y.1.n (fun i=>cI .i64 (y.1.g i)) true]) []:=by
 unfold W4 at h;refine A3 hS Tryz.func40 ?_;refine kC hS h (Jv hS hL) (fun y1 h=>?_);apply kI hS h<;>intro h
 .obtain rfl:=B7 h;exact A7 hS Mg ⟨[(3,pN y1),(2,.vec 3700)],[(3700,.vec C4 1 (Sl.nil:Sl Int).n (fun i=>cI .i64 ((Sl.nil:Sl Int).g i)) true)]⟩ [3700] (ids:=[]) ⟨rfl,rfl,rfl⟩
 refine kC hS h (Pj hS hL) (fun y2 h=>?_);obtain rfl:=B7 h;exact A7 hS Mg ⟨[(3,pN 0),(2,.vec 12000)],[(12000,.vec C4 1 y2.n (fun i=>cI .i64 (y2.g i)) true)]⟩ [12000] (ids:=[(12000,12000)]) ⟨rfl,rfl,rfl⟩
end Go.AM
namespace Go.AM
variable {N:Nat}
open IntKind (wrap)
open Go.Proofs
set_option maxRecDepth 10000
set_option maxHeartbeats 2000000
variable {S:Q7}(hS:F4 S Tryz.prog) (hL:Ig S)
include hS hL
def P7 (N:Nat)(a:Sl Int)(b:Sl Int):Option Bool:= if ((a.n:Int) != (b.n:Int)) then some false else At N (fun c (x1:Int)=>if (decide (x1<(a.n:Int))) then if (((0:Int)<=x1/\x1<(a.n:Int))/\((0:Int)<=x1/\x1<(b.n:Int)))then if ((a.g x1.toNat) != (b.g x1.toNat)) then some false else c (wrap .i64 (x1+1)) else none else some true) 0
theorem DA {a:Sl Int}{b:Sl Int}{y:Bool}(h:P7 N a b=some y) :FunO S Z9 [.p (vSl 1 (cI .i64) a),.p (vSl 1 (cI .i64) b)] [] (pB y) ([]) []:=by
 unfold P7 at h;refine A3 hS Tryz.func23 ?_;apply kI hS h<;>intro h
 .cases h;exact kR hS
 refine N0 hS Mg h (fun x1=>⟨[(13,pN x1),(12,pN (a.n:Int)),(1,.p (vSl 1 (cI .i64) b)),(0,.p (vSl 1 (cI .i64) a))],[]⟩) (ids:=[]) (fun _ _ _ _ _ c x1 d h=>?_);apply kI hS h<;>intro h
 .refine G8 hS Mg [2,3,6,7] ?_;obtain⟨c9,h⟩:=E2 h;refine O5 c9 ?_;apply kI hS h<;>intro h
  .cases h;exact kR hS
  exact d _ [] _ (wrap .i64 (x1+1)) Mg h
 cases h;exact kR hS
def K5 (N:Nat)(a:Sl E8)(b:Sl E8):Option Bool:= if ((a.n:Int) != (b.n:Int)) then some false else At N (fun c (x1:Int)=>if (decide (x1<(a.n:Int))) then if (((0:Int)<=x1/\x1<(a.n:Int))/\((0:Int)<=x1/\x1<(b.n:Int)))then if ((((a.g x1.toNat).a0==(b.g x1.toNat).a0)&&((a.g x1.toNat).a1==(b.g x1.toNat).a1)) != true) then some false else c (wrap .i64 (x1+1)) else none else some true) 0
theorem BS {a:Sl E8}{b:Sl E8}{y:Bool}(h:K5 N a b=some y) :FunO S R9 [.p (vSl 2 O9 a),.p (vSl 2 O9 b)] [] (pB y) ([]) []:=by
 unfold K5 at h;refine A3 hS Tryz.func24 ?_;apply kI hS h<;>intro h
 .cases h;exact kR hS
 refine N0 hS Mg h (fun x1=>⟨[(13,pN x1),(12,pN (a.n:Int)),(1,.p (vSl 2 O9 b)),(0,.p (vSl 2 O9 a))],[]⟩) (ids:=[]) (fun _ _ _ _ _ c x1 d h=>?_);apply kI hS h<;>intro h
 .refine G8 hS Mg [2,3,6,7] ?_;obtain⟨c9,h⟩:=E2 h;refine O5 (And.intro (And.intro (And.intro (And.intro c9.1 (by decide:(2:Nat)<=2)) c9.2) (by decide:(2:Nat)<=2)) (by decide +kernel:(!Program.eqGuardType Tryz.prog (Program.depth Tryz.prog) OY)=true)) ?_;apply kI hS h<;>intro h
  .cases h;exact kR hS
  exact d _ [] _ (wrap .i64 (x1+1)) Mg h
 cases h;exact kR hS
def E1 (N:Nat)(a:Sl Int)(b:Sl Int):Option Bool:= if ((a.n:Int) != (b.n:Int)) then some false else At N (fun c (x1:Int)=>if (decide (x1<(a.n:Int))) then if (((0:Int)<=x1/\x1<(a.n:Int))/\((0:Int)<=x1/\x1<(b.n:Int)))then if ((a.g x1.toNat) != (b.g x1.toNat)) then some false else c (wrap .i64 (x1+1)) else none else some true) 0
theorem I7 {a:Sl Int}{b:Sl Int}{y:Bool}(h:E1 N a b=some y) :FunO S Q5 [.p (vSl 1 (cI .u64) a),.p (vSl 1 (cI .u64) b)] [] (pB y) ([]) []:=by
 unfold E1 at h;refine A3 hS Tryz.func45 ?_;apply kI hS h<;>intro h
 .cases h;exact kR hS
 refine N0 hS Mg h (fun x1=>⟨[(13,pN x1),(12,pN (a.n:Int)),(1,.p (vSl 1 (cI .u64) b)),(0,.p (vSl 1 (cI .u64) a))],[]⟩) (ids:=[]) (fun _ _ _ _ _ c x1 d h=>?_);apply kI hS h<;>intro h
 .refine G8 hS Mg [2,3,6,7] ?_;obtain⟨c9,h⟩:=E2 h;refine O5 c9 ?_;apply kI hS h<;>intro h
  .cases h;exact kR hS
  exact d _ [] _ (wrap .i64 (x1+1)) Mg h
 cases h;exact kR hS
def I4 (N:Nat)(a:A2):Option Int:= if (0:Int)<=a.Langs then some (wrap .u64 ((shI .shl .u64 1 a.Langs)-1)) else none
theorem Bj {a:A2}{y:Int}(h:I4 N a=some y) :FunO S Ee [.p (.agg (D6 a))] [] (.p (pI .u64 y)) ([]) []:=by unfold I4 at h;refine A3 hS Tryz.func59 ?_;obtain⟨c1,h⟩:=E2 h;obtain rfl:=B7 h;exact UQ hS c1 [] ⟨rfl,rfl,rfl⟩
def E5 (N:Nat)(a:Sl Int)(c:Int->Option Bool):Option Int:= At N (fun b (x1:Int)=>if (decide (x1<(a.n:Int))) then if ((0:Int)<=x1/\x1<(a.n:Int))then (c (a.g x1.toNat)).bind fun y3=>if y3 then some x1 else b (wrap .i64 (x1+1)) else none else some (-1)) 0
theorem Ap {a:Sl Int}{c:Int->Option Bool}{kp_f:Nat}{cp_f_0:List PV}(d:∀{a0:Int}{b:Bool},c a0=some b->FunO S kp_f [.p (pI .u64 a0),.p (.ptr cp_f_0)] [] (pB b) [] []){y:Int}(h:E5 N a c=some y) :FunO S O2 [.p (vSl 1 (cI .u64) a),.clo kp_f [] [.p (.ptr cp_f_0)]] [] (pN y) ([]) []:=by
 unfold E5 at h;refine A3 hS Tryz.func99 ?_;refine N0 hS Mg h (fun x1=>⟨[(8,pN x1),(7,pN (a.n:Int)),(1,.clo kp_f [] [.p (.ptr cp_f_0)]),(0,.p (vSl 1 (cI .u64) a))],[]⟩) (ids:=[]) (fun _ _ _ _ _ f x1 g h=>?_);apply kI hS h<;>intro h
 .obtain⟨c8,h⟩:=E2 h;obtain⟨y3,e3,h⟩:=B5 h;refine B4 hS [] c8 (d e3) ?_;apply kI hS h<;>intro h
  .cases h;exact kR hS
  exact g _ [] _ (wrap .i64 (x1+1)) Mg h
 cases h;exact kR hS
def B6 (N:Nat)(a:Sl Int)(b:Int->Option Bool):Option Bool:= (E5 N a b).bind fun y1=>some (decide (0<=y1))
theorem Y0 {a:Sl Int}{c:Int->Option Bool}{kp_f:Nat}{cp_f_0:List PV}(d:∀{a0:Int}{b:Bool},c a0=some b->FunO S kp_f [.p (pI .u64 a0),.p (.ptr cp_f_0)] [] (pB b) [] []){y:Bool}(h:B6 N a c=some y) :FunO S J8 [.p (vSl 1 (cI .u64) a),.clo kp_f [] [.p (.ptr cp_f_0)]] [] (pB y) ([]) []:=by unfold B6 at h;refine A3 hS Tryz.func64 ?_;refine kC hS h (Ap hS hL (fun e=>d e)) (fun y1 h=>?_);cases h;exact kR hS
def T9 (N:Nat)(a:Int)(q0:A2):Option Bool:= (I4 N q0).bind fun y1=>some ((E7 .andNot .u64 a y1) != 0)
theorem LN {a:Int}{q0:A2}{y:Bool}(h:T9 N a q0=some y) :FunO S FC [.p (pI .u64 a),.p (.ptr [pI .i64 q0.Langs,vSl 1 (cI .u64) q0.Has])] [] (pB y) ([]) []:=by unfold T9 at h;refine A3 hS Tryz.func65 ?_;obtain⟨y1,e1,h⟩:=B5 h;refine B4 hS [] (by decide:(2:Nat)<=2) (Bj hS hL e1) ?_;cases h;exact kR hS
def H4 (N:Nat)(a:A2):Option Int:= if ((decide (a.Langs<0))||(decide (32<a.Langs))) then some 3 else if (decide (64<(a.Has.n:Int))) then some 12 else (B6 N a.Has (fun (u1:Int)=>T9 N u1 a)).bind fun y1=>if y1 then some 2 else some 0
theorem R6 {b:A2}{y:Int}(h:H4 N b=some y) :FunO S HJ [.p (.agg (D6 b))] [] (pN y) ([]) []:=by
 unfold H4 at h;refine A3 hS Tryz.func21 ?_;refine kB hS (A5 hS) Mg Mg 4 (.o (.a (decide (b.Langs<0))) (.a (decide (32<b.Langs)))) ?_;apply kI hS h<;>intro h
 .cases h;exact kR hS
 apply kI hS h<;>intro h
 .cases h;exact kR hS
 refine I1 hS Mg 17 2000 [pI .i64 b.Langs,vSl 1 (cI .u64) b.Has] ?_;refine kC hS h (Y0 hS hL (fun e=>LN hS hL e)) (fun y1 h=>?_);apply kI hS h<;>intro h
 .cases h;exact kR hS
 cases h;exact kR hS
def E4 (N:Nat)(q0:A2)(q1:Int->Option Bool):Option (List (Int)):= At N (fun a (x1:Int)=>if (decide (x1<(q0.Has.n:Int))) then if ((0:Int)<=x1/\x1<(q0.Has.n:Int))then (q1 (q0.Has.g x1.toNat)).bind fun y3=>if y3 then Fo x1 (a (wrap .i64 (x1+1))) else a (wrap .i64 (x1+1)) else none else some []) 0
theorem V6 {q0:A2}{q1:Int->Option Bool}{kq1:Nat}{cq1_0:List PV}(f:∀{a0:Int}{b:Bool},q1 a0=some b->FunO S kq1 [.p (pI .u64 a0),.p (.ptr cq1_0)] [] (pB b) [] []){L:List (Int)}(h:E4 N q0 q1=some L) :Er S F3 [] [.reg 0 0,.reg 1 0] [.cells [pN q0.Langs,.p (vSl 1 (cI .u64) q0.Has)],.cells [.clo kq1 [] [.p (.ptr cq1_0)]]] (L.map (fun (x:Int)=>[pI .i64 x])):=by
 unfold E4 at h;refine Ew hS Tryz.func98 ?_;refine Fz hS Mg h (fun x1 L1=>⟨[(9,pN x1),(8,pN (q0.Has.n:Int)),(7,.p (vSl 1 (cI .u64) q0.Has)),(2,.reg 1 0),(0,.yf 2)],[(2,.yld (L1.map (fun (x:Int)=>[pI .i64 x])) true),(1,.cells [.clo kq1 [] [.p (.ptr cq1_0)]]),(0,.cells [pN q0.Langs,.p (vSl 1 (cI .u64) q0.Has)])]⟩) (ids:=[(0,0),(1,1),(2,2)]) (fun _ _ _ _ _ g x1 L1 c h=>?_);apply kI hS h<;>intro h
 .obtain⟨c16,h⟩:=E2 h;obtain⟨y3,e3,h⟩:=B5 h;refine B4 hS [] c16 (f e3) ?_;refine kG hS h (fun h=>?_) (fun h=>?_)
  .obtain⟨L7,rfl,d⟩:=La h;replace h:=d;refine CF hS Mg (ys:=(fun (x:Int)=>[pI .i64 x]) x1) (rest:=L7.map (fun (x:Int)=>[pI .i64 x])) ?_ ?_
   .refine D1 hS Mg (b:=false) (fun c20=>?_) (fun c20=>?_)
    .exact Bool.noConfusion ((rfl:false=false).symm.trans c20)
    exact c _ [(0,0),(1,1),(2,2)] _ (wrap .i64 (x1+1)) L7 Mg h
   refine D1 hS Mg (b:=true) (fun c21=>?_) (fun c21=>?_)
   .exact A7 hS Mg (a:=.tup []) (objs:=[(.cells [pN q0.Langs,.p (vSl 1 (cI .u64) q0.Has)]),.cells [.clo kq1 [] [.p (.ptr cq1_0)]],.yld [] false]) ⟨[],[(2,.yld [] false),(1,.cells [.clo kq1 [] [.p (.ptr cq1_0)]]),(0,.cells [pN q0.Langs,.p (vSl 1 (cI .u64) q0.Has)])]⟩ [0,1,2] (ids:=[(0,0),(1,1),(2,2)]) ⟨false,rfl,rfl,_,rfl⟩
   exact Bool.noConfusion ((rfl:true=true).symm.trans c21)
  exact c _ [(0,0),(1,1),(2,2)] _ (wrap .i64 (x1+1)) L1 Mg h
 obtain rfl:=B7 h;exact A7 hS Mg (a:=.tup []) (objs:=[(.cells [pN q0.Langs,.p (vSl 1 (cI .u64) q0.Has)]),.cells [.clo kq1 [] [.p (.ptr cq1_0)]],.yld [] true]) ⟨[],[(2,.yld [] true),(1,.cells [.clo kq1 [] [.p (.ptr cq1_0)]]),(0,.cells [pN q0.Langs,.p (vSl 1 (cI .u64) q0.Has)])]⟩ [0,1,2] (ids:=[(0,0),(1,1),(2,2)]) ⟨true,rfl,rfl,_,rfl⟩
def O4 (N:Nat)(a:A2)(b:Int->Option Bool):Option (A2):= some a
theorem Aq {a:A2}{c:Int->Option Bool}{kp_is:Nat}{cp_is_0:List PV}(d:∀{a0:Int}{b:Bool},c a0=some b->FunO S kp_is [.p (pI .u64 a0),.p (.ptr cp_is_0)] [] (pB b) [] []){y:A2}(h:O4 N a c=some y) :FunO S Al [.p (.agg (D6 a)),.clo kp_is [] [.p (.ptr cp_is_0)]] [] (.clo F3 [] [.reg 0 0,.reg 1 0]) ([.cells [pN y.Langs,.p (vSl 1 (cI .u64) y.Has)],.cells [.clo kp_is [] [.p (.ptr cp_is_0)]]]) []:=by unfold O4 at h;refine A3 hS Tryz.func57 ?_;obtain rfl:=B7 h;exact A7 hS Mg ⟨[(4,.clo F3 [] [.reg 3000 0,.reg 4000 0])],[(4000,.cells [.clo kp_is [] [.p (.ptr cp_is_0)]]),(3000,.cells [pN a.Langs,.p (vSl 1 (cI .u64) a.Has)])]⟩ [3000,4000] (ids:=[(3000,3000),(4000,4000)]) ⟨rfl,rfl,rfl⟩
def S7 (N:Nat)(q0:A2)(q1:Int->Option Bool):Option (List (Int)):= At N (fun a (x1:Int)=>if (decide (x1<(q0.Has.n:Int))) then if ((0:Int)<=x1/\x1<(q0.Has.n:Int))then (q1 (q0.Has.g x1.toNat)).bind fun y3=>if y3 then Fo x1 (a (wrap .i64 (x1+1))) else a (wrap .i64 (x1+1)) else none else some []) 0
theorem Fi {q0:A2}{q1:Int->Option Bool}{kq1:Nat}{cq1_0 cq1_1:List PV}(f:∀{a0:Int}{b:Bool},q1 a0=some b->FunO S kq1 [.p (pI .u64 a0),.p (.ptr cq1_0),.p (.ptr cq1_1)] [] (pB b) [] []){L:List (Int)}(h:S7 N q0 q1=some L) :Er S F3 [] [.reg 0 0,.reg 1 0] [.cells [pN q0.Langs,.p (vSl 1 (cI .u64) q0.Has)],.cells [.clo kq1 [] [.p (.ptr cq1_0),.p (.ptr cq1_1)]]] (L.map (fun (x:Int)=>[pI .i64 x])):=by
 unfold S7 at h;refine Ew hS Tryz.func98 ?_;refine Fz hS Mg h (fun x1 L1=>⟨[(9,pN x1),(8,pN (q0.Has.n:Int)),(7,.p (vSl 1 (cI .u64) q0.Has)),(2,.reg 1 0),(0,.yf 2)],[(2,.yld (L1.map (fun (x:Int)=>[pI .i64 x])) true),(1,.cells [.clo kq1 [] [.p (.ptr cq1_0),.p (.ptr cq1_1)]]),(0,.cells [pN q0.Langs,.p (vSl 1 (cI .u64) q0.Has)])]⟩) (ids:=[(0,0),(1,1),(2,2)]) (fun _ _ _ _ _ g x1 L1 c h=>?_);apply kI hS h<;>intro h
 .obtain⟨c16,h⟩:=E2 h;obtain⟨y3,e3,h⟩:=B5 h;refine B4 hS [] c16 (f e3) ?_;refine kG hS h (fun h=>?_) (fun h=>?_)
  .obtain⟨L7,rfl,d⟩:=La h;replace h:=d;refine CF hS Mg (ys:=(fun (x:Int)=>[pI .i64 x]) x1) (rest:=L7.map (fun (x:Int)=>[pI .i64 x])) ?_ ?_
   .refine D1 hS Mg (b:=false) (fun c20=>?_) (fun c20=>?_)
    .exact Bool.noConfusion ((rfl:false=false).symm.trans c20)
    exact c _ [(0,0),(1,1),(2,2)] _ (wrap .i64 (x1+1)) L7 Mg h
   refine D1 hS Mg (b:=true) (fun c21=>?_) (fun c21=>?_)
   .exact A7 hS Mg (a:=.tup []) (objs:=[(.cells [pN q0.Langs,.p (vSl 1 (cI .u64) q0.Has)]),.cells [.clo kq1 [] [.p (.ptr cq1_0),.p (.ptr cq1_1)]],.yld [] false]) ⟨[],[(2,.yld [] false),(1,.cells [.clo kq1 [] [.p (.ptr cq1_0),.p (.ptr cq1_1)]]),(0,.cells [pN q0.Langs,.p (vSl 1 (cI .u64) q0.Has)])]⟩ [0,1,2] (ids:=[(0,0),(1,1),(2,2)]) ⟨false,rfl,rfl,_,rfl⟩
   exact Bool.noConfusion ((rfl:true=true).symm.trans c21)
  exact c _ [(0,0),(1,1),(2,2)] _ (wrap .i64 (x1+1)) L1 Mg h
 obtain rfl:=B7 h;exact A7 hS Mg (a:=.tup []) (objs:=[(.cells [pN q0.Langs,.p (vSl 1 (cI .u64) q0.Has)]),.cells [.clo kq1 [] [.p (.ptr cq1_0),.p (.ptr cq1_1)]],.yld [] true]) ⟨[],[(2,.yld [] true),(1,.cells [.clo kq1 [] [.p (.ptr cq1_0),.p (.ptr cq1_1)]]),(0,.cells [pN q0.Langs,.p (vSl 1 (cI .u64) q0.Has)])]⟩ [0,1,2] (ids:=[(0,0),(1,1),(2,2)]) ⟨true,rfl,rfl,_,rfl⟩
def Z0 (N:Nat)(a:A2)(b:Int->Option Bool):Option (A2):= some a
theorem Gl {a:A2}{c:Int->Option Bool}{kp_is:Nat}{cp_is_0 cp_is_1:List PV}(d:∀{a0:Int}{b:Bool},c a0=some b->FunO S kp_is [.p (pI .u64 a0),.p (.ptr cp_is_0),.p (.ptr cp_is_1)] [] (pB b) [] []){y:A2}(h:Z0 N a c=some y) :FunO S Al [.p (.agg (D6 a)),.clo kp_is [] [.p (.ptr cp_is_0),.p (.ptr cp_is_1)]] [] (.clo F3 [] [.reg 0 0,.reg 1 0]) ([.cells [pN y.Langs,.p (vSl 1 (cI .u64) y.Has)],.cells [.clo kp_is [] [.p (.ptr cp_is_0),.p (.ptr cp_is_1)]]]) []:=by unfold Z0 at h;refine A3 hS Tryz.func57 ?_;obtain rfl:=B7 h;exact A7 hS Mg ⟨[(4,.clo F3 [] [.reg 3000 0,.reg 4000 0])],[(4000,.cells [.clo kp_is [] [.p (.ptr cp_is_0),.p (.ptr cp_is_1)]]),(3000,.cells [pN a.Langs,.p (vSl 1 (cI .u64) a.Has)])]⟩ [3000,4000] (ids:=[(3000,3000),(4000,4000)]) ⟨rfl,rfl,rfl⟩
def Ag (N:Nat)(a:Int)(q0:A2):Option Bool:= lt (fun (z1:Bool)=>some z1) fun k1=>if ((E7 .and .u64 a (wrap .u64 (a-1))) != 0) then (I4 N q0).bind fun y2=>k1 (a != y2) else k1 false
theorem Fc {a:Int}{q0:A2}{y:Bool}(h:Ag N a q0=some y) :FunO S EV [.p (pI .u64 a),.p (.ptr [pI .i64 q0.Langs,vSl 1 (cI .u64) q0.Has])] [] (pB y) ([]) []:=by
 unfold Ag at h;refine A3 hS Tryz.func58 ?_;refine Ga hS Mg (A5 hS) h 0 (fun z1=>⟨[(3,pB z1)],[]⟩) (fun M1 k1 b h=>?_) (fun z1 h=>?_)
 .refine kG hS h (fun h=>?_) (fun h=>?_)
  .obtain⟨y2,e2,h⟩:=B5 h;refine B4 hS [] (by decide:(2:Nat)<=2) (Bj hS hL e2) ?_;exact b _ [] _ (a != y2) Mg h
  exact b _ [] _ false Mg h
 cases h;exact kR hS
def Cv (N:Nat)(p_x:Int)(a:Int):Option Bool:= some ((((E7 .and .u64 p_x a)==0)||((E7 .andNot .u64 p_x a)==0))||((E7 .andNot .u64 a p_x)==0))
theorem Tf {p_x:Int}{b:Int}{y:Bool}(h:Cv N p_x b=some y) :FunO S Lh [.p (pI .u64 p_x),.p (pI .u64 b)] [] (pB y) ([]) []:=by unfold Cv at h;refine A3 hS Tryz.func62 ?_;refine kB hS (A5 hS) Mg Mg 11 (.o (.o (.a ((E7 .and .u64 p_x b)==0)) (.a ((E7 .andNot .u64 p_x b)==0))) (.a ((E7 .andNot .u64 b p_x)==0))) ?_;cases h;exact kR hS
def I5 (N:Nat)(a:Int)(q0:Int):Option Bool:= (Cv N q0 a).bind fun y1=>some (!y1)
theorem CR {a:Int}{q0:Int}{y:Bool}(h:I5 N a q0=some y) :FunO S CJ [.p (pI .u64 a),.p (.ptr [pI .u64 q0])] [] (pB y) ([]) []:=by unfold I5 at h;refine A3 hS Tryz.func61 ?_;refine kC hS h (Tf hS hL) (fun y1 h=>?_);cases h;exact kR hS
def K6 (N:Nat)(a:Sl Int)(c:Int->Option Bool):Option Int:= At N (fun b (x1:Int)=>if (decide (x1<(a.n:Int))) then if ((0:Int)<=x1/\x1<(a.n:Int))then (c (a.g x1.toNat)).bind fun y3=>if y3 then some x1 else b (wrap .i64 (x1+1)) else none else some (-1)) 0
theorem BU {a:Sl Int}{c:Int->Option Bool}{kp_f:Nat}{cp_f_0:List PV}(d:∀{a0:Int}{b:Bool},c a0=some b->FunO S kp_f [pN a0,.p (.ptr cp_f_0)] [] (pB b) [] []){y:Int}(h:K6 N a c=some y) :FunO S S1 [.p (vSl 1 (cI .i64) a),.clo kp_f [] [.p (.ptr cp_f_0)]] [] (pN y) ([]) []:=by
 unfold K6 at h;refine A3 hS Tryz.func146 ?_;refine N0 hS Mg h (fun x1=>⟨[(8,pN x1),(7,pN (a.n:Int)),(1,.clo kp_f [] [.p (.ptr cp_f_0)]),(0,.p (vSl 1 (cI .i64) a))],[]⟩) (ids:=[]) (fun _ _ _ _ _ f x1 g h=>?_);apply kI hS h<;>intro h
 .obtain⟨c8,h⟩:=E2 h;obtain⟨y3,e3,h⟩:=B5 h;refine B4 hS [] c8 (d e3) ?_;apply kI hS h<;>intro h
  .cases h;exact kR hS
  exact g _ [] _ (wrap .i64 (x1+1)) Mg h
 cases h;exact kR hS
def F2 (N:Nat)(a:Sl Int)(b:Int->Option Bool):Option Bool:= (K6 N a b).bind fun y1=>some (decide (0<=y1))
theorem P9 {a:Sl Int}{c:Int->Option Bool}{kp_f:Nat}{cp_f_0:List PV}(d:∀{a0:Int}{b:Bool},c a0=some b->FunO S kp_f [pN a0,.p (.ptr cp_f_0)] [] (pB b) [] []){y:Bool}(h:F2 N a c=some y) :FunO S P8 [.p (vSl 1 (cI .i64) a),.clo kp_f [] [.p (.ptr cp_f_0)]] [] (pB y) ([]) []:=by unfold F2 at h;refine A3 hS Tryz.func115 ?_;refine kC hS h (BU hS hL (fun e=>d e)) (fun y1 h=>?_);cases h;exact kR hS
def P3 (N:Nat)(a:Int)(q0:A2):Option Bool:= some ((decide (a<0))||(decide (q0.Langs<=a)))
theorem BD {b:Int}{q0:A2}{y:Bool}(h:P3 N b q0=some y) :FunO S By [pN b,.p (.ptr [pI .i64 q0.Langs,vSl 1 (cI .u64) q0.Has])] [] (pB y) ([]) []:=by unfold P3 at h;refine A3 hS Tryz.func116 ?_;refine kB hS (A5 hS) Mg Mg 5 (.o (.a (decide (b<0))) (.a (decide (q0.Langs<=b)))) ?_;cases h;exact kR hS
def Ar (N:Nat)(c:A2)(b:Int->Option Bool)(a:Sl Int):Option (Int×Int):= (H4 N c).bind fun y1=>if (y1 != 0) then some (0,y1) else (F2 N a (fun (u1:Int)=>P3 N u1 c)).bind fun y2=>if y2 then some (0,3) else (O4 N c b).bind fun y3=>(E4 N y3 b).bind fun L1=>Z2 L1 (fun d (x1:Int) (z1:Int)=>d (wrap .i64 (z1+1))) (fun (z1:Int)=>some (z1,0)) 0
theorem Hc {d:A2}{f:Int->Option Bool}{a:Sl Int}{kp_is:Nat}{cp_is_0:List PV}(c:∀{a0:Int}{b:Bool},f a0=some b->FunO S kp_is [.p (pI .u64 a0),.p (.ptr cp_is_0)] [] (pB b) [] []){y:Int×Int}(h:Ar N d f a=some y) :FunO S Am [.p (.agg (D6 d)),.clo kp_is [] [.p (.ptr cp_is_0)],.p (vSl 1 (cI .i64) a)] [] (.tup [pN y.1,pN y.2]) ([]) []:=by
 unfold Ar at h;refine A3 hS Tryz.func82 ?_;refine kC hS h (R6 hS hL) (fun y1 h=>?_);apply kI hS h<;>intro h
 .cases h;exact kR hS
 refine I1 hS Mg 16 4000 [pI .i64 d.Langs,vSl 1 (cI .u64) d.Has] ?_;refine kC hS h (P9 hS hL (fun e=>BD hS hL e)) (fun y2 h=>?_);apply kI hS h<;>intro h
 .cases h;exact kR hS
 obtain⟨y3,e3,h⟩:=B5 h;refine B4 hS [] (by decide:(2:Nat)<=2) (Aq hS hL (fun e=>c e) e3) ?_;obtain⟨L1,e4,h⟩:=B5 h;refine Ex hS Mg [21000,21001] [9] 901 (fun z1=>⟨[(9,.reg 10000 0)],[(10000,.cells [pN z1])]⟩) (idl:=[(10000,10000)]) h (V6 hS hL (fun e=>c e) e4) (fun _=>by kernel_rfl) (fun _=>by kernel_rfl) (fun _=>by kernel_rfl) (fun _=>by kernel_rfl) (fun x1 _ g z1 i h=>?_) (fun z1 h=>?_)
 .refine HH hS Mg ?_;exact i _ [(901,901),(10000,10000)] _ (wrap .i64 (z1+1)) Mg h
 cases h;exact kR hS
def Z1 (N:Nat)(c:A2)(b:Int->Option Bool)(a:Sl Int):Option (Int×Int):= (H4 N c).bind fun y1=>if (y1 != 0) then some (0,y1) else (F2 N a (fun (u1:Int)=>P3 N u1 c)).bind fun y2=>if y2 then some (0,3) else (Z0 N c b).bind fun y3=>(S7 N y3 b).bind fun L1=>Z2 L1 (fun d (x1:Int) (z1:Int)=>d (wrap .i64 (z1+1))) (fun (z1:Int)=>some (z1,0)) 0
theorem Gm {d:A2}{f:Int->Option Bool}{a:Sl Int}{kp_is:Nat}{cp_is_0 cp_is_1:List PV}(c:∀{a0:Int}{b:Bool},f a0=some b->FunO S kp_is [.p (pI .u64 a0),.p (.ptr cp_is_0),.p (.ptr cp_is_1)] [] (pB b) [] []){y:Int×Int}(h:Z1 N d f a=some y) :FunO S Am [.p (.agg (D6 d)),.clo kp_is [] [.p (.ptr cp_is_0),.p (.ptr cp_is_1)],.p (vSl 1 (cI .i64) a)] [] (.tup [pN y.1,pN y.2]) ([]) []:=by
 unfold Z1 at h;refine A3 hS Tryz.func82 ?_;refine kC hS h (R6 hS hL) (fun y1 h=>?_);apply kI hS h<;>intro h
 .cases h;exact kR hS
 refine I1 hS Mg 16 4000 [pI .i64 d.Langs,vSl 1 (cI .u64) d.Has] ?_;refine kC hS h (P9 hS hL (fun e=>BD hS hL e)) (fun y2 h=>?_);apply kI hS h<;>intro h
 .cases h;exact kR hS
 obtain⟨y3,e3,h⟩:=B5 h;refine B4 hS [] (by decide:(2:Nat)<=2) (Gl hS hL (fun e=>c e) e3) ?_;obtain⟨L1,e4,h⟩:=B5 h;refine Ex hS Mg [21000,21001] [9] 901 (fun z1=>⟨[(9,.reg 10000 0)],[(10000,.cells [pN z1])]⟩) (idl:=[(10000,10000)]) h (Fi hS hL (fun e=>c e) e4) (fun _=>by kernel_rfl) (fun _=>by kernel_rfl) (fun _=>by kernel_rfl) (fun _=>by kernel_rfl) (fun x1 _ g z1 i h=>?_) (fun z1 h=>?_)
 .refine HH hS Mg ?_;exact i _ [(901,901),(10000,10000)] _ (wrap .i64 (z1+1)) Mg h
 cases h;exact kR hS
def BV (N:Nat)(a:Int)(q0:Int)(q1:Int):Option Bool:= if (0:Int)<=q0 then if (((E7 .and .u64 (shI .shr .u64 a q0) 1)==1)=true->(0:Int)<=q1)then some (((E7 .and .u64 (shI .shr .u64 a q0) 1)==1)&&((E7 .and .u64 (shI .shr .u64 a q1) 1)==1)) else none else none
theorem JM {b:Int}{q0:Int}{q1:Int}{y:Bool}(h:BV N b q0 q1=some y) :FunO S BK [.p (pI .u64 b),.p (.ptr [pI .i64 q0]),.p (.ptr [pI .i64 q1])] [] (pB y) ([]) []:=by unfold BV at h;refine A3 hS Tryz.func83 ?_;obtain⟨c1,h⟩:=E2 h;obtain⟨c2,h⟩:=E2 h;refine kB hS (A5 hS) c1 c2 6 (.n (.a ((E7 .and .u64 (shI .shr .u64 b q0) 1)==1)) (.a ((E7 .and .u64 (shI .shr .u64 b q1) 1)==1))) ?_;cases h;exact kR hS
def EM (N:Nat)(a:Int)(q0:Int):Option Bool:= if (0:Int)<=q0 then some (a==(shI .shl .u64 1 q0)) else none
theorem Pk {a:Int}{q0:Int}{y:Bool}(h:EM N a q0=some y) :FunO S EA [.p (pI .u64 a),.p (.ptr [pI .i64 q0])] [] (pB y) ([]) []:=by unfold EM at h;refine A3 hS Tryz.func85 ?_;obtain⟨c1,h⟩:=E2 h;obtain rfl:=B7 h;exact UQ hS c1 [] ⟨rfl,rfl,rfl⟩
def DB (N:Nat)(c:A2)(a:Int)(b:Int):Option (Int×Int):= (Z1 N c (fun (u1:Int)=>BV N u1 a b) (Sl.of [a,b]:Sl Int)).bind fun y1=>some (y1.1,y1.2)
theorem MH {c:A2}{a:Int}{b:Int}{y:Int×Int}(h:DB N c a b=some y) :FunO S Gu [.p (.agg (D6 c)),pN a,pN b] [] (.tup [pN y.1,pN y.2]) ([]) []:=by unfold DB at h;refine A3 hS Tryz.func33 ?_;refine I1 hS Mg 9 5000 [pI .i64 a] ?_;refine I1 hS Mg 9 6000 [pI .i64 b] ?_;refine Cu hS (rfl:true=true) ⟨[(12,.vec 13000),(9,.clo BK [] [.p (.ptr [pI .i64 a]),.p (.ptr [pI .i64 b])]),(8,.p (.agg (D6 c)))],[(13000,.vec C4 1 (Sl.of [a,b]:Sl Int).n (fun i=>cI .i64 ((Sl.of [a,b]:Sl Int).g i)) false)]⟩ (ids:=[(13000,13000)]) ?_ (hle:=klR [(4,.fn 2 (Sl.of [a,b]:Sl Int).n (D0 [pI .i64 0] [(0,cI .i64 a),(1,cI .i64 b)]) (fun i=>cI .i64 ((Sl.of [a,b]:Sl Int).g i)))] (al1 ⟨rfl,(fun i d=>match i,d with|0,_=>rfl|1,_=>rfl|_+2,d=>Lq d (by omega))⟩ al0));refine kC hS h (Gm hS hL (fun e=>JM hS hL e)) (fun y1 h=>?_);cases h;exact kR hS
def LO (N:Nat)(b:A2)(a:Int):Option (Int×Int):= (Ar N b (fun (u1:Int)=>EM N u1 a) (Sl.of [a]:Sl Int)).bind fun y1=>some (y1.1,y1.2)
theorem Ak3 {b:A2}{a:Int}{y:Int×Int}(h:LO N b a=some y) :FunO S Lf [.p (.agg (D6 b)),pN a] [] (.tup [pN y.1,pN y.2]) ([]) []:=by unfold LO at h;refine A3 hS Tryz.func35 ?_;refine I1 hS Mg 7 4000 [pI .i64 a] ?_;refine Cu hS (rfl:true=true) ⟨[(9,.vec 10000),(7,.clo EA [] [.p (.ptr [pI .i64 a])]),(6,.p (.agg (D6 b)))],[(10000,.vec C4 1 (Sl.of [a]:Sl Int).n (fun i=>cI .i64 ((Sl.of [a]:Sl Int).g i)) false)]⟩ (ids:=[(10000,10000)]) ?_ (hle:=klR [(3,.fn 1 (Sl.of [a]:Sl Int).n (D0 [pI .i64 0] [(0,cI .i64 a)]) (fun i=>cI .i64 ((Sl.of [a]:Sl Int).g i)))] (al1 ⟨rfl,(fun i c=>match i,c with|0,_=>rfl|_+1,c=>Lq c (by omega))⟩ al0));refine kC hS h (Hc hS hL (fun e=>Pk hS hL e)) (fun y1 h=>?_);cases h;exact kR hS
def N6 (N:Nat)(a:A2):Option ((Sl E8)×Int):= (H4 N a).bind fun y1=>if (y1 != 0) then some ((Sl.nil:Sl E8),y1) else Bq N (fun c (x3:Sl E8) (x4:Int)=>if (decide (x4<(a.Has.n:Int))) then if ((0:Int)<=x4/\x4<(a.Has.n:Int))then (O4 N a (fun (u5:Int)=>I5 N u5 (a.Has.g x4.toNat))).bind fun y4=>(E4 N y4 (fun (u6:Int)=>I5 N u6 (a.Has.g x4.toNat))).bind fun L3=>Z2 L3 (fun b (x7:Int) (z3:Sl E8)=>if (decide (x4<x7)) then if ((z3.n+(Sl.of [(⟨x4,x7⟩:E8)]:Sl E8).n)*16<=140737488355328/\z3.n+(Sl.of [(⟨x4,x7⟩:E8)]:Sl E8).n<=140737488355328)then b (z3.push (⟨x4,x7⟩:E8)) else none else b z3) (fun (z3:Sl E8)=>c z3 (wrap .i64 (x4+1))) x3 else none else some (x3,0)) (Sl.nil:Sl E8) 0
theorem DK {a:A2}{y:(Sl E8)×Int}(h:N6 N a=some y) :FunO S Ec [.p (.agg (D6 a))] [] (.tup [.p (vSl 2 O9 y.1),pN y.2]) ([]) []:=by
 unfold N6 at h;refine A3 hS Tryz.func19 ?_;refine kC hS h (R6 hS hL) (fun y1 h=>?_);apply kI hS h<;>intro h
 .obtain rfl:=B7 h;exact A7 hS Mg ⟨[(3,pN y1),(2,.p (vSl 2 O9 (Sl.nil:Sl E8)))],[]⟩ [] (ids:=[]) ⟨rfl,rfl,rfl⟩
 refine G9 hS Mg h (fun x3 x4=>⟨[(17,pN x4),(16,pN (a.Has.n:Int)),(15,.p (vSl 1 (cI .u64) a.Has)),(5,.reg 6000 0),(1,.reg 2000 0)],[(6501,.vec OY 2 x3.n (fun i=>O9 (x3.g i)) false),(6000,.cells [.vec 6501]),(2000,.cells [pN a.Langs,.p (vSl 1 (cI .u64) a.Has)])]⟩) (ids:=[(2000,2000),(6000,6000)]) (fun _ _ _ _ _ d x3 x4 f h=>?_);apply kI hS h<;>intro h
 .obtain⟨c15,h⟩:=E2 h;refine I1 hS c15 23 8000 [pI .u64 (a.Has.g x4.toNat)] ?_;refine kC hS h (Aq hS hL (fun e=>CR hS hL e)) (fun y4 h=>?_);obtain⟨L3,e7,h⟩:=B5 h;refine Ex hS Mg [25000,25001] [17,16,15,6,5,1] 905 (fun z3=>⟨[(17,pN x4),(16,pN (a.Has.n:Int)),(15,.p (vSl 1 (cI .u64) a.Has)),(6,.reg 7000 0),(5,.reg 6000 0),(1,.reg 2000 0)],[(7000,.cells [pN x4]),(6500,.vec OY 2 z3.n (fun i=>O9 (z3.g i)) false),(6000,.cells [.vec 6500]),(2000,.cells [pN a.Langs,.p (vSl 1 (cI .u64) a.Has)])]⟩) (idl:=[(2000,2000),(6000,6000),(6500,6501),(7000,7000)]) h (V6 hS hL (fun e=>CR hS hL e) e7) (fun _=>by kernel_rfl) (fun _=>by kernel_rfl) (fun _=>by kernel_rfl) (fun _=>by kernel_rfl) (fun x7 _ j z3 b h=>?_) (fun z3 h=>?_)
  .refine HH hS Mg ?_;apply kI hS h<;>intro h
   .obtain⟨c19,h⟩:=E2 h;exact b _ [(905,905),(2000,2000),(6000,6000),(6500,35000),(7000,7000)] _ (z3.push (⟨x4,x7⟩:E8)) (And.intro (rfl:true=true) c19) h (hle:=klR [(1,.fn (z3.n+1) (z3.push (⟨x4,x7⟩:E8)).n (AA z3.n (fun i=>O9 (z3.g i)) (D0 [pI .i64 0,pI .i64 0] [(0,O9 (⟨x4,x7⟩:E8))])) (fun i=>O9 ((z3.push (⟨x4,x7⟩:E8)).g i)))] (al1 ⟨rfl,Kj (c:=O9) (v:=z3) (x:=(⟨x4,x7⟩:E8)) (z:=[(pI .i64 0),pI .i64 0]) same rfl rfl⟩ al0))
   exact b _ [(905,905),(2000,2000),(6000,6000),(6500,6500),(7000,7000)] _ z3 Mg h
  exact f _ [(2000,2000),(6000,6000),(6501,6500)] _ z3 (wrap .i64 (x4+1)) Mg h
 obtain rfl:=B7 h;exact A7 hS Mg ⟨[(3,pN 0),(2,.p (vSl 2 O9 x3))],[]⟩ [] (ids:=[]) ⟨rfl,rfl,rfl⟩
def FV (N:Nat)(c:A2)(b:Int):Option (A2×Int):= (H4 N c).bind fun y1=>if (y1 != 0) then some ((⟨0,(Sl.nil:Sl Int)⟩:A2),y1) else (I4 N c).bind fun y2=>if ((E7 .andNot .u64 b y2) != 0) then some ((⟨0,(Sl.nil:Sl Int)⟩:A2),2) else Yj N (fun f (x1:Nat->Int) (x2:Int) (x3:Int)=>if (x3 != 0) then (O3 N x3).bind fun y5=>if (((0:Int)<=x2/\x2<32)/\(0+x2.toNat*1)<32)then f (JU x1 (0+x2.toNat*1) y5) (wrap .i64 (x2+1)) (E7 .and .u64 x3 (wrap .u64 (x3-1))) else none else Bq N (fun i (x6:Sl Int) (x7:Int)=>if (decide (x7<(c.Has.n:Int))) then if (((0:Int)<=x7/\x7<(c.Has.n:Int))/\((0:Int)<=x2/\x2<=((32:Nat):Int)))then Bq N (fun j (d:Int) (a:Int)=>if (decide (a<((⟨x2.toNat,x1⟩:Sl Int).n:Int))) then if ((((0:Int)<=a/\a<((⟨x2.toNat,x1⟩:Sl Int).n:Int))/\(0:Int)<=((⟨x2.toNat,x1⟩:Sl Int).g a.toNat))/\(0:Int)<=a)then j (E7 .or .u64 d (shI .shl .u64 (E7 .and .u64 (shI .shr .u64 (c.Has.g x7.toNat) ((⟨x2.toNat,x1⟩:Sl Int).g a.toNat)) 1) a)) (wrap .i64 (a+1)) else none else if ((x6.n+(Sl.of [d]:Sl Int).n)*8<=140737488355328/\x6.n+(Sl.of [d]:Sl Int).n<=140737488355328)then i (x6.push d) (wrap .i64 (x7+1)) else none) 0 0 else none else some ((⟨x2,x6⟩:A2),0)) (Sl.nil:Sl Int) 0) (fun _=>0) 0 b
theorem Rd {a:A2}{d:Int}{y:A2×Int}(h:FV N a d=some y) :FunO S Jk [.p (.agg (D6 a)),.p (pI .u64 d)] [] (.tup [.p (.agg (D6 y.1)),pN y.2]) ([]) []:=by
 unfold FV at h;refine A3 hS Tryz.func26 ?_;refine I1 hS Mg 4 3000 [pI .i64 a.Langs,vSl 1 (cI .u64) a.Has] ?_;obtain⟨y1,e1,h⟩:=B5 h;refine B4 hS [] (by decide:(2:Nat)<=2) (R6 hS hL e1) ?_;apply kI hS h<;>intro h
 .obtain rfl:=B7 h;exact A7 hS Mg ⟨[(5,pN y1),(4,.reg 5000 0)],[(5000,.cells [pN 0,.p (vSl 1 (cI .u64) (Sl.nil:Sl Int))])]⟩ [] (ids:=[(5000,5000)]) ⟨rfl,rfl,rfl⟩
 obtain⟨y2,e2,h⟩:=B5 h;refine B4 hS [] (by decide:(2:Nat)<=2) (Bj hS hL e2) ?_;apply kI hS h<;>intro h
 .obtain rfl:=B7 h;exact A7 hS Mg ⟨[(5,pN 2),(4,.reg 5000 0)],[(5000,.cells [pN 0,.p (vSl 1 (cI .u64) (Sl.nil:Sl Int))])]⟩ [] (ids:=[(5000,5000)]) ⟨rfl,rfl,rfl⟩
 refine Kk hS Mg h (fun x1 x2 x3=>⟨[(9,.p (pI .u64 x3)),(8,.reg 9000 0),(7,.reg 8000 0),(4,.reg 5000 0),(2,.p (.ptr [pI .i64 a.Langs,vSl 1 (cI .u64) a.Has]))],[(9000,.cells [pN x2,.p E9]),(8000,.arr 32 (fun i=>pI .i64 (x1 i))),(5000,.cells [pN 0,.p E9])]⟩) (ids:=[(5000,5000),(8000,8000),(9000,9000)]) (fun _ _ _ _ _ j x1 x2 x3 l h=>?_) (hle:=klR [(4,.fn 32 32 (fun i=>[(fun i=>(List.replicate 32 (pI .i64 0)).getD i default) i]) (fun i=>[pI .i64 ((fun _=>0) i)]))] (al1 ⟨rfl,AP (z:=pI .i64 0) rfl⟩ al0));apply kI hS h<;>intro h
 .refine G8 hS Mg [3] ?_;obtain⟨y5,e5,h⟩:=B5 h;refine AF Mg (U9 hS hL e5) ?_;obtain⟨c8,h⟩:=E2 h;refine O5 c8 ?_;exact l _ [(5000,5000),(8000,8000),(9000,9000)] _ (JU x1 (0+x2.toNat*1) y5) (wrap .i64 (x2+1)) (E7 .and .u64 x3 (wrap .u64 (x3-1))) Mg h (hle:=klR [(4,.fn 32 32 (fun i=>[(fun i=>if i=(0+x2.toNat*1)then (pI .i64 y5)else (fun i=>pI .i64 (x1 i)) i) i]) (fun i=>[pI .i64 (JU x1 (0+x2.toNat*1) y5 i)]))] (al1 ⟨rfl,Ac1 (c:=pI .i64) (v:=x1) (x:=y5) (fun _ _=>rfl) rfl⟩ al0))
 refine As2 hS Mg 44 8000 32 (fun i=>pI .i64 (x1 i)) ?_;refine G9 hS Mg h (fun x6 x7=>⟨[(47,pN x7),(46,pN (a.Has.n:Int)),(45,.p (vSl 1 (cI .u64) a.Has)),(8,.reg 9000 0),(7,.p (.ptr (AI 32 (fun i=>pI .i64 (x1 i))))),(4,.reg 5000 0)],[(9500,.vec X6 1 x6.n (fun i=>cI .u64 (x6.g i)) false),(9000,.cells [pN x2,.vec 9500]),(5000,.cells [pN 0,.p E9])]⟩) (ids:=[(5000,5000),(9000,9000)]) (fun _ _ _ _ _ m x6 x7 o h=>?_);apply kI hS h<;>intro h
 .obtain⟨c22,h⟩:=E2 h;refine G9 hS c22 h (fun b f=>⟨[(55,pN f),(54,pN ((⟨x2.toNat,x1⟩:Sl Int).n:Int)),(53,.p (vSl 1 (cI .i64) (⟨x2.toNat,x1⟩:Sl Int))),(47,pN x7),(46,pN (a.Has.n:Int)),(45,.p (vSl 1 (cI .u64) a.Has)),(12,.p (pI .u64 b)),(11,.p (pI .u64 (a.Has.g x7.toNat))),(8,.reg 9000 0),(7,.p (.ptr (AI 32 (fun i=>pI .i64 (x1 i))))),(4,.reg 5000 0)],[(9500,.vec X6 1 x6.n (fun i=>cI .u64 (x6.g i)) false),(9000,.cells [pN x2,.vec 9500]),(5000,.cells [pN 0,.p E9])]⟩) (ids:=[(5000,5000),(9000,9000),(9500,9500)]) (fun _ _ _ _ _ q b f r h=>?_) (hle:=klR [(2,.fn x2.toNat (⟨x2.toNat,x1⟩:Sl Int).n (fun i=>[(AI 32 (fun i=>pI .i64 (x1 i))).getD i default]) (fun i=>cI .i64 ((⟨x2.toNat,x1⟩:Sl Int).g i)))] (al1 ⟨rfl,fun i s=>arrG _ (by omega)⟩ al0));apply kI hS h<;>intro h
  .obtain⟨c26,h⟩:=E2 h;exact r _ [(5000,5000),(9000,9000),(9500,9500)] _ (E7 .or .u64 b (shI .shl .u64 (E7 .and .u64 (shI .shr .u64 (a.Has.g x7.toNat) ((⟨x2.toNat,x1⟩:Sl Int).g f.toNat)) 1) f)) (wrap .i64 (f+1)) c26 h
  obtain⟨c27,h⟩:=E2 h;exact o _ [(5000,5000),(9000,9000),(9500,74000)] _ (x6.push b) (wrap .i64 (x7+1)) (And.intro (rfl:true=true) c27) h (hle:=klR [(4,.fn (x6.n+1) (x6.push b).n (AA x6.n (fun i=>cI .u64 (x6.g i)) (D0 [pI .u64 0] [(0,cI .u64 b)])) (fun i=>cI .u64 ((x6.push b).g i)))] (al1 ⟨rfl,Kj (c:=cI .u64) (v:=x6) (x:=b) (z:=[(pI .u64 0)]) same rfl rfl⟩ al0))
 obtain rfl:=B7 h;exact A7 hS Mg ⟨[(5,pN 0),(4,.reg 5000 0)],[(5000,.cells [pN x2,.p (vSl 1 (cI .u64) x6)])]⟩ [] (ids:=[(5000,5000)]) ⟨rfl,rfl,rfl⟩
def J4 (N:Nat)(a:List (Int)):Option (Sl Int):= Z2 a (fun b (x1:Int) (z1:Sl Int)=>if ((z1.n+(Sl.of [x1]:Sl Int).n)*8<=140737488355328/\z1.n+(Sl.of [x1]:Sl Int).n<=140737488355328)then b (z1.push x1) else none) (fun (z1:Sl Int)=>some z1) (Sl.nil:Sl Int)
theorem BF {f:List (Int)}{a:A2}{d:Nat}{b:List PV}{kp_seq:Nat}(fp_seq:∃fn,At5[kp_seq]? = some fn/\fn.body.isSome=true/\(fn.name == "runtime.NumGoroutine")=false)(j:Er S kp_seq [] [.reg 0 0,.reg 1 0] [(.cells [(pN a.Langs),(.p (vSl 1 (cI .u64) a.Has))]),(.cells [(.clo d [] [(.p (.ptr b))])])] (f.map (fun (x:Int)=>[(pI .i64) x]))){y:(Sl Int)}(h:J4 N f=some y) :FunO S K3 [(.p E9),(.clo kp_seq [] [(.reg 0 0),(.reg 1 0)])] [(.cells [(pN a.Langs),(.p (vSl 1 (cI .u64) a.Has))]),(.cells [(.clo d [] [(.p (.ptr b))])])] (.vec 0) ([(.vec C4 1 y.n (fun i=>(cI .i64) (y.g i)) true)]) [false,false]:=by
 unfold J4 at h;refine A3 hS Tryz.func97 ?_;refine OA hS Mg fp_seq [0,1] [2] 901 (fun z1=>⟨[(2,(.reg 3000 0))],[(3500,(.vec C4 1 z1.n (fun i=>(cI .i64) (z1.g i)) false)),(3000,(.cells [(.vec 3500)]))]⟩) (idl:=[(3000,3000)]) h j (fun _=>by kernel_rfl) (fun _=>by kernel_rfl) (fun _=>by kernel_rfl) (fun _=>by kernel_rfl) (fun x1 _ l z1 m h=>?_) (fun z1 h=>?_)
 .refine HH hS Mg ?_;obtain⟨c1,h⟩:=E2 h;exact m _ [(901,901),(3000,3000),(3500,12000)] _ (z1.push x1) (And.intro (rfl:true=true) c1) h (hle:=klR [(0,.fn (z1.n+1) (z1.push x1).n (AA z1.n (fun i=>(cI .i64) (z1.g i)) (D0 [(pI .i64 0)] [(0,(cI .i64) x1)])) (fun i=>(cI .i64) ((z1.push x1).g i)))] (al1 ⟨rfl,(Kj (c:=(cI .i64)) (v:=z1) (x:=x1) (z:=[(pI .i64 0)]) same rfl rfl)⟩ al0))
 obtain rfl:=B7 h;exact A7 hS Mg ⟨[(4,(.vec 3500))],[(3500,(.vec C4 1 z1.n (fun i=>(cI .i64) (z1.g i)) true))]⟩ [3500] (ids:=[(3500,3500)]) ⟨rfl,rfl,rfl⟩
def V7 (N:Nat)(a:List (Int)):Option (Sl Int):= (J4 N a).bind fun y1=>some y1
theorem FX {d:List (Int)}{a:A2}{c:Nat}{b:List PV}{kp_seq:Nat}(fp_seq:∃fn,At5[kp_seq]? = some fn/\fn.body.isSome=true/\(fn.name == "runtime.NumGoroutine")=false)(f:Er S kp_seq [] [.reg 0 0,.reg 1 0] [(.cells [(pN a.Langs),(.p (vSl 1 (cI .u64) a.Has))]),(.cells [(.clo c [] [(.p (.ptr b))])])] (d.map (fun (x:Int)=>[(pI .i64) x]))){y:(Sl Int)}(h:V7 N d=some y) :FunO S Y4 [(.clo kp_seq [] [(.reg 0 0),(.reg 1 0)])] [(.cells [(pN a.Langs),(.p (vSl 1 (cI .u64) a.Has))]),(.cells [(.clo c [] [(.p (.ptr b))])])] (.vec 0) ([(.vec C4 1 y.n (fun i=>(cI .i64) (y.g i)) true)]) [false,false]:=by unfold V7 at h;refine A3 hS Tryz.func56 ?_;obtain⟨y1,e1,h⟩:=B5 h;refine B4 hS [0,1] Mg (BF hS hL fp_seq f e1) ?_;obtain rfl:=B7 h;exact A7 hS Mg ⟨[(2,(.vec 5000))],[(5000,(.vec C4 1 y1.n (fun i=>(cI .i64) (y1.g i)) true))]⟩ [5000] (ids:=[(5000,5000)]) ⟨rfl,rfl,rfl⟩
def Bp (N:Nat)(a:A2):Option ((Sl Int)×Int):= (H4 N a).bind fun y1=>if (y1 != 0) then some ((Sl.nil:Sl Int),y1) else (O4 N a (fun (u1:Int)=>Ag N u1 a)).bind fun y2=>(E4 N y2 (fun (u2:Int)=>Ag N u2 a)).bind fun L1=>(V7 N L1).bind fun y3=>some (y3,0)
theorem GI {a:A2}{y:(Sl Int)×Int}(h:Bp N a=some y) :FunO S Gt [.p (.agg (D6 a))] [] (.tup [.p (vSl 1 (cI .i64) y.1),pN y.2]) ([]) []:=by
 unfold Bp at h;refine A3 hS Tryz.func17 ?_;refine kC hS h (R6 hS hL) (fun y1 h=>?_);apply kI hS h<;>intro h
 .obtain rfl:=B7 h;exact A7 hS Mg ⟨[(3,pN y1),(2,.p (vSl 1 (cI .i64) (Sl.nil:Sl Int)))],[]⟩ [] (ids:=[]) ⟨rfl,rfl,rfl⟩
 refine I1 hS Mg 11 2000 [pI .i64 a.Langs,vSl 1 (cI .u64) a.Has] ?_;refine kC hS h (Aq hS hL (fun e=>Fc hS hL e)) (fun y2 h=>?_);obtain⟨L1,e3,h⟩:=B5 h;obtain⟨y3,e4,h⟩:=B5 h;refine B4 hS [13000,13001] Mg (FX hS hL ⟨_,Tryz.func98,by decide +kernel,by decide +kernel⟩ (V6 hS hL (fun e=>Fc hS hL e) e3) e4) ?_;obtain rfl:=B7 h;exact A7 hS Mg ⟨[(3,pN 0),(2,.p (vSl 1 (cI .i64) y3))],[]⟩ [] (ids:=[]) ⟨rfl,rfl,rfl⟩
def P5 (N:Nat)(a:A6):Option ((Sl Int)×Int):= (W4 N a.Tree).bind fun y1=>if (y1.2 != 0) then some ((Sl.nil:Sl Int),y1.2) else if (decide (32<(y1.1.n:Int))) then some ((Sl.nil:Sl Int),12) else some (y1.1,0)
theorem GJ {a:A6}{y:(Sl Int)×Int}(h:P5 N a=some y) :FunO S Gv [.p (.agg (A8 a))] [] (.tup [.vec 0,pN y.2]) ([.vec C4 1 y.1.n (fun i=>cI .i64 (y.1.g i)) true]) []:=by
 unfold P5 at h;refine A3 hS Tryz.func71 ?_;refine kC hS h (Hg hS hL) (fun y1 h=>?_);apply kI hS h<;>intro h
 .obtain rfl:=B7 h;exact A7 hS Mg ⟨[(3,pN y1.2),(2,.vec 3700)],[(3700,.vec C4 1 (Sl.nil:Sl Int).n (fun i=>cI .i64 ((Sl.nil:Sl Int).g i)) true)]⟩ [3700] (ids:=[]) ⟨rfl,rfl,rfl⟩
 apply kI hS h<;>intro h
 .obtain rfl:=B7 h;exact A7 hS Mg ⟨[(3,pN 12),(2,.vec 3700)],[(3700,.vec C4 1 (Sl.nil:Sl Int).n (fun i=>cI .i64 ((Sl.nil:Sl Int).g i)) true)]⟩ [3700] (ids:=[]) ⟨rfl,rfl,rfl⟩
 obtain rfl:=B7 h;exact A7 hS Mg ⟨[(3,pN 0),(2,.vec 10000)],[(10000,.vec C4 1 y1.1.n (fun i=>cI .i64 (y1.1.g i)) true)]⟩ [10000] (ids:=[(10000,10000)]) ⟨rfl,rfl,rfl⟩
def T8 (N:Nat)(a:A6):Option (A2×Int):= (J0 N a).bind fun y1=>if (y1 != 0) then some ((⟨0,(Sl.nil:Sl Int)⟩:A2),y1) else (P5 N a).bind fun y2=>if (y2.2 != 0) then some ((⟨0,(Sl.nil:Sl Int)⟩:A2),y2.2) else if ((0:Int)<=(a.Laws.n:Int)/\(a.Laws.n:Int)<=(a.Laws.n:Int)/\(a.Laws.n:Int)*8<=140737488355328/\(a.Laws.n:Int)<=140737488355328)then Bq N (fun b (x3:Sl Int) (x4:Int)=>if (decide (x4<(y2.1.n:Int))) then if (((0:Int)<=x4/\x4<(y2.1.n:Int))/\x4.toNat<y2.1.n)then (N2 N a (y2.1.g x4.toNat)).bind fun y5=>if (y5.2 != 0) then some ((⟨0,(Sl.nil:Sl Int)⟩:A2),y5.2) else Bq N (fun c (x7:Sl Int) (x8:Int)=>if (decide (x8<(y5.1.n:Int))) then if (((0:Int)<=x8/\x8<(y5.1.n:Int))/\x8.toNat<y5.1.n)then if ((((((0:Int)<=(y5.1.g x8.toNat)/\(y5.1.g x8.toNat)<(x7.n:Int))/\(y5.1.g x8.toNat).toNat<x7.n)/\(0:Int)<=x4)/\((0:Int)<=(y5.1.g x8.toNat)/\(y5.1.g x8.toNat)<(x7.n:Int)))/\(y5.1.g x8.toNat).toNat<x7.n)then c (x7.upd (y5.1.g x8.toNat).toNat (E7 .or .u64 (x7.g (y5.1.g x8.toNat).toNat) (shI .shl .u64 1 x4))) (wrap .i64 (x8+1)) else none else none else b x7 (wrap .i64 (x4+1))) x3 0 else none else some ((⟨(y2.1.n:Int),x3⟩:A2),0)) (Sl.rep (a.Laws.n:Int).toNat 0:Sl Int) 0 else none
theorem Fn {a:A6}{y:A2×Int}(h:T8 N a=some y) :FunO S Jl [.p (.agg (A8 a))] [] (.tup [.p (.agg (D6 y.1)),pN y.2]) ([]) []:=by
 unfold T8 at h;refine A3 hS Tryz.func29 ?_;refine I1 hS Mg 2 2000 (A8 a) ?_;obtain⟨y1,e1,h⟩:=B5 h;refine B4 hS [] (by decide:(3:Nat)<=3) (CQ hS hL e1) ?_;apply kI hS h<;>intro h
 .obtain rfl:=B7 h;exact A7 hS Mg ⟨[(3,pN y1),(2,.reg 3000 0)],[(3000,.cells [pN 0,.p (vSl 1 (cI .u64) (Sl.nil:Sl Int))])]⟩ [] (ids:=[(3000,3000)]) ⟨rfl,rfl,rfl⟩
 obtain⟨y2,e2,h⟩:=B5 h;refine B4 hS [] (by decide:(3:Nat)<=3) (GJ hS hL e2) ?_;apply kI hS h<;>intro h
 .obtain rfl:=B7 h;exact A7 hS Mg ⟨[(3,pN y2.2),(2,.reg 3000 0)],[(3000,.cells [pN 0,.p (vSl 1 (cI .u64) (Sl.nil:Sl Int))])]⟩ [] (ids:=[(3000,3000)]) ⟨rfl,rfl,rfl⟩
 obtain⟨c3,h⟩:=E2 h;refine G9 hS c3 h (fun x3 x4=>⟨[(38,pN x4),(37,pN (y2.1.n:Int)),(36,.vec 23000),(7,.reg 8000 0),(2,.reg 3000 0),(1,.p (.ptr (A8 a)))],[(35000,.vec X6 1 x3.n (fun i=>cI .u64 (x3.g i)) false),(23000,.vec C4 1 y2.1.n (fun i=>cI .i64 (y2.1.g i)) true),(8000,.cells [pN (y2.1.n:Int),.vec 35000]),(3000,.cells [pN 0,.p E9])]⟩) (ids:=[(3000,3000),(8000,8000),(23000,23000),(35000,35000)]) (fun _ _ _ _ _ b x3 x4 d h=>?_);apply kI hS h<;>intro h
 .obtain⟨c29,h⟩:=E2 h;obtain⟨y5,e5,h⟩:=B5 h;refine B4 hS [] (And.intro (And.intro c29.1 c29.2) (by decide:(3:Nat)<=3)) (GH hS hL e5) ?_;apply kI hS h<;>intro h
  .obtain rfl:=B7 h;exact A7 hS Mg ⟨[(3,pN y5.2),(2,.reg 3000 0)],[(3000,.cells [pN 0,.p (vSl 1 (cI .u64) (Sl.nil:Sl Int))])]⟩ [] (ids:=[(3000,3000)]) ⟨rfl,rfl,rfl⟩
  refine G9 hS Mg h (fun x7 x8=>⟨[(55,pN x8),(54,pN (y5.1.n:Int)),(53,.vec 47000),(38,pN x4),(37,pN (y2.1.n:Int)),(36,.vec 23000),(8,pN x4),(7,.reg 8000 0),(2,.reg 3000 0),(1,.p (.ptr (A8 a)))],[(47000,.vec C4 1 y5.1.n (fun i=>cI .i64 (y5.1.g i)) true),(35000,.vec X6 1 x7.n (fun i=>cI .u64 (x7.g i)) false),(23000,.vec C4 1 y2.1.n (fun i=>cI .i64 (y2.1.g i)) true),(8000,.cells [pN (y2.1.n:Int),.vec 35000]),(3000,.cells [pN 0,.p E9])]⟩) (ids:=[(3000,3000),(8000,8000),(23000,23000),(35000,35000),(47000,47000)]) (fun _ _ _ _ _ f x7 x8 j h=>?_);apply kI hS h<;>intro h
  .obtain⟨c38,h⟩:=E2 h;refine GV hS c38 ?_;obtain⟨c39,h⟩:=E2 h;refine O5 (And.intro (And.intro (And.intro (And.intro c39.1.1.1.1 c39.1.1.1.2) c39.1.1.2) c39.1.2) (And.intro (rfl:(1:Nat)=1) (And.intro c39.2 (by decide:(1:Nat)<=1)))) ?_;exact j _ [(3000,3000),(8000,8000),(23000,23000),(35000,35000),(47000,47000)] _ (x7.upd (y5.1.g x8.toNat).toNat (E7 .or .u64 (x7.g (y5.1.g x8.toNat).toNat) (shI .shl .u64 1 x4))) (wrap .i64 (x8+1)) Mg h (hle:=klR [(7,.fn x7.n (x7.upd (y5.1.g x8.toNat).toNat (E7 .or .u64 (x7.g (y5.1.g x8.toNat).toNat) (shI .shl .u64 1 x4))).n (fun l=>if l=(y5.1.g x8.toNat).toNat then splice ((fun i=>cI .u64 (x7.g i)) l) 0 [pI .u64 (E7 .or .u64 (x7.g (y5.1.g x8.toNat).toNat) (shI .shl .u64 1 x4))]else (fun i=>cI .u64 (x7.g i)) l) (fun i=>cI .u64 ((x7.upd (y5.1.g x8.toNat).toNat (E7 .or .u64 (x7.g (y5.1.g x8.toNat).toNat) (shI .shl .u64 1 x4))).g i)))] (al1 ⟨rfl,Ak6 (c:=cI .u64) (v:=x7) (x:=E7 .or .u64 (x7.g (y5.1.g x8.toNat).toNat) (shI .shl .u64 1 x4)) same (fun _=>by first|rfl|(dsimp only;split<;>rfl))⟩ al0))
  exact d _ [(3000,3000),(8000,8000),(23000,23000),(35000,35000)] _ x7 (wrap .i64 (x4+1)) Mg h
 obtain rfl:=B7 h;exact A7 hS Mg ⟨[(3,pN 0),(2,.reg 3000 0)],[(3000,.cells [pN (y2.1.n:Int),.p (vSl 1 (cI .u64) x3)])]⟩ [] (ids:=[(3000,3000)]) ⟨rfl,rfl,rfl⟩
def AS (N:Nat)(i:A6)(c:Sl (Sl Mh)):Option (A2×Int):= (J0 N i).bind fun y1=>if (y1 != 0) then some ((⟨0,(Sl.nil:Sl Int)⟩:A2),y1) else if (decide (256<(c.n:Int))) then some ((⟨0,(Sl.nil:Sl Int)⟩:A2),12) else At N (fun j (x1:Int)=>if (decide (x1<(c.n:Int))) then if ((0:Int)<=x1/\x1<(c.n:Int))then (BA N (c.g x1.toNat)).bind fun y4=>if (y4 != 0) then some ((⟨0,(Sl.nil:Sl Int)⟩:A2),y4) else j (wrap .i64 (x1+1)) else none else (P5 N i).bind fun y5=>if (y5.2 != 0) then some ((⟨0,(Sl.nil:Sl Int)⟩:A2),y5.2) else Bq N (fun l (x2:Sl (Sl Law)) (x3:Int)=>if (decide (x3<(y5.1.n:Int))) then if (((0:Int)<=x3/\x3<(y5.1.n:Int))/\x3.toNat<y5.1.n)then (Dz N i (y5.1.g x3.toNat)).bind fun y8=>if (y8.2 != 0) then some ((⟨0,(Sl.nil:Sl Int)⟩:A2),y8.2) else if ((x2.n+(Sl.of [y8.1]:Sl (Sl Law)).n)*24<=140737488355328/\x2.n+(Sl.of [y8.1]:Sl (Sl Law)).n<=140737488355328)then l (x2.push y8.1) (wrap .i64 (x3+1)) else none else none else Bq N (fun d (x7:Sl Int) (x8:Int)=>if (decide (x8<(c.n:Int))) then if ((0:Int)<=x8/\x8<(c.n:Int))then Yj N (fun f (m:List (Str×Int)) (a:Sl Int) (b:Int)=>if (decide (b<(y5.1.n:Int))) then if (((0:Int)<=b/\b<(x2.n:Int))/\b.toNat<x2.n)then (CP N (x2.g b.toNat) (c.g x8.toNat)).bind fun o=>(FO N o.1 o.2).bind fun q=>Ac5 (BG eqS q m) (if ((a.n+(Sl.of [0]:Sl Int).n)*8<=140737488355328/\a.n+(Sl.of [0]:Sl Int).n<=140737488355328)then if ((((((0:Int)<=(a.n:Int)/\(a.n:Int)<((a.push 0).n:Int))/\(a.n:Int).toNat<(a.push 0).n)/\(0:Int)<=b)/\((0:Int)<=(a.n:Int)/\(a.n:Int)<((a.push 0).n:Int)))/\(a.n:Int).toNat<(a.push 0).n)then f (LP eqS q (a.n:Int) m) ((a.push 0).upd (a.n:Int).toNat (E7 .or .u64 ((a.push 0).g (a.n:Int).toNat) (shI .shl .u64 1 b))) (wrap .i64 (b+1)) else none else none) fun v9=>if ((((((0:Int)<=v9/\v9<(a.n:Int))/\v9.toNat<a.n)/\(0:Int)<=b)/\((0:Int)<=v9/\v9<(a.n:Int)))/\v9.toNat<a.n)then f m (a.upd v9.toNat (E7 .or .u64 (a.g v9.toNat) (shI .shl .u64 1 b))) (wrap .i64 (b+1)) else none else none else if (decide (1<(a.n:Int))) then if ((x7.n+a.n)*8<=140737488355328/\x7.n+a.n<=140737488355328)then if (decide (64<((x7.app a).n:Int))) then some ((⟨0,(Sl.nil:Sl Int)⟩:A2),12) else d (x7.app a) (wrap .i64 (x8+1)) else none else if (decide (64<(x7.n:Int))) then some ((⟨0,(Sl.nil:Sl Int)⟩:A2),12) else d x7 (wrap .i64 (x8+1))) [] (Sl.nil:Sl Int) 0 else none else some ((⟨(y5.1.n:Int),x7⟩:A2),0)) (Sl.nil:Sl Int) 0) (Sl.nil:Sl (Sl Law)) 0) 0
theorem EN {o:A6}{f:Sl (Sl Mh)}{y:A2×Int}(h:AS N o f=some y) :FunO S HK [.p (.agg (A8 o)),.p (vSl 1 (cL 2 A0) f)] [] (.tup [.p (.agg (D6 y.1)),pN y.2]) ([]) []:=by
 unfold AS at h;refine A3 hS Tryz.func31 ?_;refine I1 hS Mg 4 3000 (A8 o) ?_;obtain⟨y1,e1,h⟩:=B5 h;refine B4 hS [] (by decide:(3:Nat)<=3) (CQ hS hL e1) ?_;apply kI hS h<;>intro h
 .obtain rfl:=B7 h;exact A7 hS Mg ⟨[(5,pN y1),(4,.reg 5000 0)],[(5000,.cells [pN 0,.p (vSl 1 (cI .u64) (Sl.nil:Sl Int))])]⟩ [] (ids:=[(5000,5000)]) ⟨rfl,rfl,rfl⟩
 apply kI hS h<;>intro h
 .obtain rfl:=B7 h;exact A7 hS Mg ⟨[(5,pN 12),(4,.reg 5000 0)],[(5000,.cells [pN 0,.p (vSl 1 (cI .u64) (Sl.nil:Sl Int))])]⟩ [] (ids:=[(5000,5000)]) ⟨rfl,rfl,rfl⟩
 refine N0 hS Mg h (fun x1=>⟨[(38,pN x1),(37,pN (f.n:Int)),(36,.p (vSl 1 (cL 2 A0) f)),(4,.reg 5000 0),(2,.p (.ptr (A8 o))),(1,.p (vSl 1 (cL 2 A0) f))],[(5000,.cells [pN 0,.p E9])]⟩) (ids:=[(5000,5000)]) (fun _ _ _ _ _ s x1 t h=>?_);apply kI hS h<;>intro h
 .obtain⟨c10,h⟩:=E2 h;obtain⟨y4,e4,h⟩:=B5 h;refine B4 hS [] c10 (FQ hS hL e4) ?_;apply kI hS h<;>intro h
  .obtain rfl:=B7 h;exact A7 hS Mg ⟨[(5,pN y4),(4,.reg 5000 0)],[(5000,.cells [pN 0,.p (vSl 1 (cI .u64) (Sl.nil:Sl Int))])]⟩ [] (ids:=[(5000,5000)]) ⟨rfl,rfl,rfl⟩
  exact t _ [(5000,5000)] _ (wrap .i64 (x1+1)) Mg h
 obtain⟨y5,e5,h⟩:=B5 h;refine B4 hS [] (by decide:(3:Nat)<=3) (GJ hS hL e5) ?_;apply kI hS h<;>intro h
 .obtain rfl:=B7 h;exact A7 hS Mg ⟨[(5,pN y5.2),(4,.reg 5000 0)],[(5000,.cells [pN 0,.p (vSl 1 (cI .u64) (Sl.nil:Sl Int))])]⟩ [] (ids:=[(5000,5000)]) ⟨rfl,rfl,rfl⟩
 refine G9 hS Mg h (fun x2 x3=>⟨[(60,pN x3),(59,pN (y5.1.n:Int)),(58,.vec 52000),(12,.vec 13500),(10,.vec 52000),(4,.reg 5000 0),(2,.p (.ptr (A8 o))),(1,.p (vSl 1 (cL 2 A0) f))],[(52000,.vec C4 1 y5.1.n (fun i=>cI .i64 (y5.1.g i)) true),(13500,.vec Dc 1 x2.n (fun i=>cL 18 A9 (x2.g i)) false),(5000,.cells [pN 0,.p E9])]⟩) (ids:=[(5000,5000),(52000,52000)]) (fun _ _ _ _ _ u x2 x3 a0 h=>?_);apply kI hS h<;>intro h
 .obtain⟨c20,h⟩:=E2 h;obtain⟨y8,e8,h⟩:=B5 h;refine B4 hS [] (And.intro (And.intro c20.1 c20.2) (by decide:(3:Nat)<=3)) (MG hS hL e8) ?_;apply kI hS h<;>intro h
  .obtain rfl:=B7 h;exact A7 hS Mg ⟨[(5,pN y8.2),(4,.reg 5000 0)],[(5000,.cells [pN 0,.p (vSl 1 (cI .u64) (Sl.nil:Sl Int))])]⟩ [] (ids:=[(5000,5000)]) ⟨rfl,rfl,rfl⟩
  obtain⟨c22,h⟩:=E2 h;exact a0 _ [(5000,5000),(13500,78000),(52000,52000)] _ (x2.push y8.1) (wrap .i64 (x3+1)) (And.intro (rfl:true=true) c22) h (hle:=klR [(5,.fn (x2.n+1) (x2.push y8.1).n (AA x2.n (fun i=>cL 18 A9 (x2.g i)) (D0 [E9] [(0,cL 18 A9 y8.1)])) (fun i=>cL 18 A9 ((x2.push y8.1).g i)))] (al1 ⟨rfl,Kj (c:=cL 18 A9) (v:=x2) (x:=y8.1) (z:=[E9]) same rfl rfl⟩ al0))
 refine G9 hS Mg h (fun x7 x8=>⟨[(84,pN x8),(83,pN (f.n:Int)),(82,.p (vSl 1 (cL 2 A0) f)),(17,.reg 18000 0),(12,.vec 13500),(10,.vec 52000),(4,.reg 5000 0)],[(52000,.vec C4 1 y5.1.n (fun i=>cI .i64 (y5.1.g i)) true),(18500,.vec X6 1 x7.n (fun i=>cI .u64 (x7.g i)) false),(18000,.cells [pN (y5.1.n:Int),.vec 18500]),(13500,.vec Dc 1 x2.n (fun i=>cL 18 A9 (x2.g i)) false),(5000,.cells [pN 0,.p E9])]⟩) (ids:=[(5000,5000),(13500,13500),(18000,18000),(52000,52000)]) (fun _ _ _ _ _ a1 x7 x8 q h=>?_);apply kI hS h<;>intro h
 .obtain⟨c76,h⟩:=E2 h;refine Kk hS c76 h (fun j a d=>⟨[(91,pN d),(90,pN (y5.1.n:Int)),(84,pN x8),(83,pN (f.n:Int)),(82,.p (vSl 1 (cL 2 A0) f)),(21,.vec 22500),(20,.mref 89000),(19,.p (vSl 2 A0 (f.g x8.toNat))),(17,.reg 18000 0),(12,.vec 13500),(10,.vec 52000),(4,.reg 5000 0)],[(89000,.map (Jw PV.str (pI .i64) j)),(52000,.vec C4 1 y5.1.n (fun i=>cI .i64 (y5.1.g i)) true),(22500,.vec X6 1 a.n (fun i=>cI .u64 (a.g i)) false),(18500,.vec X6 1 x7.n (fun i=>cI .u64 (x7.g i)) false),(18000,.cells [pN (y5.1.n:Int),.vec 18500]),(13500,.vec Dc 1 x2.n (fun i=>cL 18 A9 (x2.g i)) false),(5000,.cells [pN 0,.p E9])]⟩) (ids:=[(5000,5000),(13500,13500),(18000,18000),(18500,18500),(52000,52000),(89000,89000)]) (fun _ _ _ _ _ a2 j a d r h=>?_);apply kI hS h<;>intro h
  .obtain⟨c91,h⟩:=E2 h;obtain⟨a3,e25,h⟩:=B5 h;refine B4 hS [] c91 (LJ hS hL e25) ?_;refine kC hS h (QW hS hL) (fun m h=>?_);rcases o9:BG eqS m j with _|v9
   .replace h:=optN o9 h;refine Gf hS Mg (kt:=Bo) (e:=C4) (key:=PV.str m) (es:=Jw PV.str (pI .i64) j) (x:=pI .i64 0) (b:=false) (fd:=none) ((CE (kP:=PV.str) (vP:=pI .i64) (eq:=eqS) (fun _ _=>by kernel_rfl) m j).trans (by rw[o9];rfl)) Mg ?_;refine D1 hS Mg (b:=true) (fun c92=>?_) (fun c92=>?_)
    .refine JS hS Mg (kt:=Bo) (key:=PV.str m) (y:=pI .i64 (a.n:Int)) (es:=Jw PV.str (pI .i64) j) (HE (kP:=PV.str) (vP:=pI .i64) (eq:=eqS) (fun _ _=>by kernel_rfl) m (a.n:Int) j) Mg ?_;obtain⟨c93,h⟩:=E2 h;refine H3 hS (And.intro (rfl:true=true) c93) 21 ⟨[(118,.vec 119000),(91,pN d),(90,pN (y5.1.n:Int)),(84,pN x8),(83,pN (f.n:Int)),(82,.p (vSl 1 (cL 2 A0) f)),(24,pN (a.n:Int)),(22,pN d),(20,.mref 89000),(19,.p (vSl 2 A0 (f.g x8.toNat))),(17,.reg 18000 0),(12,.vec 13500),(10,.vec 52000),(4,.reg 5000 0)],[(119000,.vec X6 1 (a.push 0).n (fun i=>cI .u64 ((a.push 0).g i)) false),(89000,.map (Jw PV.str (pI .i64) (LP eqS m (a.n:Int) j))),(52000,.vec C4 1 y5.1.n (fun i=>cI .i64 (y5.1.g i)) true),(18500,.vec X6 1 x7.n (fun i=>cI .u64 (x7.g i)) false),(18000,.cells [pN (y5.1.n:Int),.vec 18500]),(13500,.vec Dc 1 x2.n (fun i=>cL 18 A9 (x2.g i)) false),(5000,.cells [pN 0,.p E9])]⟩ (ids:=[(5000,5000),(13500,13500),(18000,18000),(18500,18500),(52000,52000),(89000,89000),(119000,119000)]) ?_ (hle:=klR [(8,.fn (a.n+1) (a.push 0).n (AA a.n (fun i=>cI .u64 (a.g i)) (D0 [pI .u64 0] [(0,cI .u64 0)])) (fun i=>cI .u64 ((a.push 0).g i)))] (al1 ⟨rfl,Kj (c:=cI .u64) (v:=a) (x:=0) (z:=[(pI .u64 0)]) same rfl rfl⟩ al0));refine GV hS Mg ?_;obtain⟨c94,h⟩:=E2 h;refine O5 (And.intro (And.intro (And.intro (And.intro c94.1.1.1.1 c94.1.1.1.2) c94.1.1.2) c94.1.2) (And.intro (rfl:(1:Nat)=1) (And.intro c94.2 (by decide:(1:Nat)<=1)))) ?_;exact r _ [(5000,5000),(13500,13500),(18000,18000),(18500,18500),(22500,119000),(52000,52000),(89000,89000)] _ (LP eqS m (a.n:Int) j) ((a.push 0).upd (a.n:Int).toNat (E7 .or .u64 ((a.push 0).g (a.n:Int).toNat) (shI .shl .u64 1 d))) (wrap .i64 (d+1)) Mg h (hle:=klR [(8,.fn (a.push 0).n ((a.push 0).upd (a.n:Int).toNat (E7 .or .u64 ((a.push 0).g (a.n:Int).toNat) (shI .shl .u64 1 d))).n (fun l=>if l=(a.n:Int).toNat then splice ((fun i=>cI .u64 ((a.push 0).g i)) l) 0 [pI .u64 (E7 .or .u64 ((a.push 0).g (a.n:Int).toNat) (shI .shl .u64 1 d))]else (fun i=>cI .u64 ((a.push 0).g i)) l) (fun i=>cI .u64 (((a.push 0).upd (a.n:Int).toNat (E7 .or .u64 ((a.push 0).g (a.n:Int).toNat) (shI .shl .u64 1 d))).g i)))] (al1 ⟨rfl,Ak6 (c:=cI .u64) (v:=a.push 0) (x:=E7 .or .u64 ((a.push 0).g (a.n:Int).toNat) (shI .shl .u64 1 d)) same (fun _=>by first|rfl|(dsimp only;split<;>rfl))⟩ al0))
    exact Bool.noConfusion ((rfl:true=true).symm.trans c92)
   replace h:=optS o9 h;refine Gf hS Mg (kt:=Bo) (e:=C4) (key:=PV.str m) (es:=Jw PV.str (pI .i64) j) (x:=pI .i64 v9) (b:=true) (fd:=some (pI .i64 v9)) ((CE (kP:=PV.str) (vP:=pI .i64) (eq:=eqS) (fun _ _=>by kernel_rfl) m j).trans (by rw[o9];rfl)) Mg ?_;refine D1 hS Mg (b:=false) (fun c95=>?_) (fun c95=>?_)
   .exact Bool.noConfusion ((rfl:false=false).symm.trans c95)
   refine GV hS Mg ?_;obtain⟨c96,h⟩:=E2 h;refine O5 (And.intro (And.intro (And.intro (And.intro c96.1.1.1.1 c96.1.1.1.2) c96.1.1.2) c96.1.2) (And.intro (rfl:(1:Nat)=1) (And.intro c96.2 (by decide:(1:Nat)<=1)))) ?_;exact r _ [(5000,5000),(13500,13500),(18000,18000),(18500,18500),(22500,22500),(52000,52000),(89000,89000)] _ j (a.upd v9.toNat (E7 .or .u64 (a.g v9.toNat) (shI .shl .u64 1 d))) (wrap .i64 (d+1)) Mg h (hle:=klR [(8,.fn a.n (a.upd v9.toNat (E7 .or .u64 (a.g v9.toNat) (shI .shl .u64 1 d))).n (fun l=>if l=v9.toNat then splice ((fun i=>cI .u64 (a.g i)) l) 0 [pI .u64 (E7 .or .u64 (a.g v9.toNat) (shI .shl .u64 1 d))]else (fun i=>cI .u64 (a.g i)) l) (fun i=>cI .u64 ((a.upd v9.toNat (E7 .or .u64 (a.g v9.toNat) (shI .shl .u64 1 d))).g i)))] (al1 ⟨rfl,Ak6 (c:=cI .u64) (v:=a) (x:=E7 .or .u64 (a.g v9.toNat) (shI .shl .u64 1 d)) same (fun _=>by first|rfl|(dsimp only;split<;>rfl))⟩ al0))
  apply kI hS h<;>intro h
  .obtain⟨c98,h⟩:=E2 h;refine D1 hS c98 (b:=decide (64<((x7.app a).n:Int))) (fun c99=>?_) (fun c99=>?_)
   .replace h:=itT c99 h;obtain rfl:=B7 h;exact A7 hS Mg ⟨[(5,pN 12),(4,.reg 5000 0)],[(5000,.cells [pN 0,.p (vSl 1 (cI .u64) (Sl.nil:Sl Int))])]⟩ [] (ids:=[(5000,5000)]) ⟨rfl,rfl,rfl⟩
   replace h:=itF c99 h;exact q _ [(5000,5000),(13500,13500),(18000,18000),(18500,135000),(52000,52000)] _ (x7.app a) (wrap .i64 (x8+1)) Mg h (hle:=klR [(4,.fn (x7.n+a.n) (x7.app a).n (AA x7.n (fun i=>cI .u64 (x7.g i)) (fun i=>cI .u64 (a.g i))) (fun i=>cI .u64 ((x7.app a).g i)))] (al1 ⟨rfl,Al9 (c:=cI .u64) (v:=x7) (w:=a) same rfl same rfl⟩ al0))
  apply kI hS h<;>intro h
  .obtain rfl:=B7 h;exact A7 hS Mg ⟨[(5,pN 12),(4,.reg 5000 0)],[(5000,.cells [pN 0,.p (vSl 1 (cI .u64) (Sl.nil:Sl Int))])]⟩ [] (ids:=[(5000,5000)]) ⟨rfl,rfl,rfl⟩
  exact q _ [(5000,5000),(13500,13500),(18000,18000),(18500,18500),(52000,52000)] _ x7 (wrap .i64 (x8+1)) Mg h
 obtain rfl:=B7 h;exact A7 hS Mg ⟨[(5,pN 0),(4,.reg 5000 0)],[(5000,.cells [pN (y5.1.n:Int),.p (vSl 1 (cI .u64) x7)])]⟩ [] (ids:=[(5000,5000)]) ⟨rfl,rfl,rfl⟩
def Hd (N:Nat)  : Option A2:= some (⟨4,(Sl.of [3,6,15,8]:Sl Int)⟩:A2)
theorem Tg    {y:A2}(h:Hd N  = some y) :FunO S Lg [] [] (.p (.agg (D6 y))) ([]) []:=by unfold Hd at h;refine A3 hS Tryz.func54 ?_;obtain rfl:=B7 h;exact A7 hS (rfl:true=true) ⟨[(0,.reg 1000 0)],[(1000,.cells [pN 4,.p (vSl 1 (cI .u64) (Sl.of [3,6,15,8]:Sl Int))])]⟩ [] (ids:=[(1000,1000)]) ⟨rfl,rfl,rfl⟩ (hle:=klR [(1,.fn 4 (Sl.of [3,6,15,8]:Sl Int).n (D0 [pI .u64 0] [(0,cI .u64 3),(1,cI .u64 6),(2,cI .u64 15),(3,cI .u64 8)]) (fun i=>cI .u64 ((Sl.of [3,6,15,8]:Sl Int).g i)))] (al1 ⟨rfl,(fun i a=>match i,a with|0,_=>rfl|1,_=>rfl|2,_=>rfl|3,_=>rfl|_+4,a=>Lq a (by omega))⟩ al0))
def AT (N:Nat)  : Option A6:= some (⟨(Sl.of [(⟨-1,[114]⟩:F0),(⟨0,[120]⟩:F0),(⟨1,[97]⟩:F0),(⟨1,[98]⟩:F0),(⟨0,[99]⟩:F0)]:Sl F0),(Sl.of [(⟨[70],Pat.mk 0 (⟨0,0⟩:Mh) false 0 0 (Sl.nil:Sl Pat).n (Sl.nil:Sl Pat).g,Pat.mk 6 (⟨0,0⟩:Mh) false 0 0 (Sl.nil:Sl Pat).n (Sl.nil:Sl Pat).g,(Sl.of [(⟨4,0⟩:Mh)]:Sl Mh),(Sl.nil:Sl AC),1⟩:Law),(⟨[86],Pat.mk 1 (⟨4,0⟩:Mh) false 0 0 (Sl.nil:Sl Pat).n (Sl.nil:Sl Pat).g,Pat.mk 1 (⟨4,0⟩:Mh) false 0 0 (Sl.nil:Sl Pat).n (Sl.nil:Sl Pat).g,(Sl.of [(⟨2,0⟩:Mh)]:Sl Mh),(Sl.of [(⟨0,0,(⟨1,0⟩:Mh),0,0⟩:AC)]:Sl AC),1⟩:Law)]:Sl Law),(Sl.of [(Sl.nil:Sl Int),(Sl.of [0]:Sl Int),(Sl.nil:Sl Int),(Sl.of [1]:Sl Int),(Sl.nil:Sl Int)]:Sl (Sl Int))⟩:A6)
theorem EO    {y:A6}(h:AT N  = some y) :FunO S HM [] [] (.p (.agg (A8 y))) ([]) []:=by unfold AT at h;refine A3 hS Tryz.func49 ?_;refine H3 hS (rfl:true=true) 10 ⟨[(9,.p (vSl 2 A0 (Sl.of [(⟨4,0⟩:Mh)]:Sl Mh))),(7,.p (.agg [pI .i64 6,pI .u32 0,pI .u32 0,.v (.bool false),pI .i64 0,pI .i64 0,E9])),(1,.reg 2000 0),(0,.reg 1000 0)],[(2000,.cells [pN 1,pU 4,pU 0,.p (.v (.bool false)),pN 0,pN 0,.p E9]),(1000,.cells [.p E9,.p E9,.p E9])]⟩ (ids:=[(1000,1000),(2000,2000)]) ?_ (hle:=klR [(0,.fn 1 (Sl.of [(⟨4,0⟩:Mh)]:Sl Mh).n (D0 [pI .u32 0,pI .u32 0] [(0,A0 (⟨4,0⟩:Mh))]) (fun i=>A0 ((Sl.of [(⟨4,0⟩:Mh)]:Sl Mh).g i)))] (al1 ⟨rfl,(fun i a=>match i,a with|0,_=>rfl|_+1,a=>Lq a (by omega))⟩ al0));refine H3 hS Mg 11 ⟨[(2,.reg 3000 0),(1,.reg 2000 0),(0,.reg 1000 0)],[(3000,.cells [.p (.str [70]),pN 0,pU 0,pU 0,.p (.v (.bool false)),pN 0,pN 0,.p E9,pN 6,pU 0,pU 0,.p (.v (.bool false)),pN 0,pN 0,.p E9,.p (vSl 2 A0 (Sl.of [(⟨4,0⟩:Mh)]:Sl Mh)),.p E9,pN 1]),(2000,.cells [pN 1,pU 4,pU 0,pB false,pN 0,pN 0,.p (vSl 7 B1 (Sl.nil:Sl Pat))]),(1000,.cells [.p E9,.p E9,.p E9])]⟩ (ids:=[(1000,1000),(2000,2000),(3000,3000)]) ?_;refine H3 hS (And.intro (rfl:true=true) (rfl:true=true)) 18 ⟨[(17,.p (vSl 6 O7 (Sl.of [(⟨0,0,(⟨1,0⟩:Mh),0,0⟩:AC)]:Sl AC))),(14,.p (vSl 2 A0 (Sl.of [(⟨2,0⟩:Mh)]:Sl Mh))),(12,.p (.agg [pI .i64 1,pI .u32 4,pI .u32 0,.bb false,pI .i64 0,pI .i64 0,vSl 7 B1 (Sl.nil:Sl Pat)])),(11,.p (.agg [pI .i64 1,pI .u32 4,pI .u32 0,.bb false,pI .i64 0,pI .i64 0,vSl 7 B1 (Sl.nil:Sl Pat)])),(2,.reg 3000 0),(0,.reg 1000 0)],[(3000,.cells [.p (.str [70]),pN 0,pU 0,pU 0,.p (.v (.bool false)),pN 0,pN 0,.p E9,pN 6,pU 0,pU 0,.p (.v (.bool false)),pN 0,pN 0,.p E9,.p (vSl 2 A0 (Sl.of [(⟨4,0⟩:Mh)]:Sl Mh)),.p E9,pN 1]),(1000,.cells [.p E9,.p E9,.p E9])]⟩ (ids:=[(1000,1000),(3000,3000)]) ?_ (hle:=klR [(0,.fn 1 (Sl.of [(⟨0,0,(⟨1,0⟩:Mh),0,0⟩:AC)]:Sl AC).n (D0 [pI .i64 0,pI .u32 0,pI .u32 0,pI .u32 0,pI .u32 0,pI .i64 0] [(0,O7 (⟨0,0,(⟨1,0⟩:Mh),0,0⟩:AC))]) (fun i=>O7 ((Sl.of [(⟨0,0,(⟨1,0⟩:Mh),0,0⟩:AC)]:Sl AC).g i))),(1,.fn 1 (Sl.of [(⟨2,0⟩:Mh)]:Sl Mh).n (D0 [pI .u32 0,pI .u32 0] [(0,A0 (⟨2,0⟩:Mh))]) (fun i=>A0 ((Sl.of [(⟨2,0⟩:Mh)]:Sl Mh).g i)))] (al1 ⟨rfl,(fun i a=>match i,a with|0,_=>rfl|_+1,a=>Lq a (by omega))⟩ (al1 ⟨rfl,(fun i a=>match i,a with|0,_=>rfl|_+1,a=>Lq a (by omega))⟩ al0)));refine H3 hS (rfl:true=true) 26 ⟨[(25,.vec 25000),(3,.reg 4000 0),(2,.reg 3000 0),(0,.reg 1000 0)],[(25000,.vec Av 2 (Sl.of [(⟨-1,[114]⟩:F0),(⟨0,[120]⟩:F0),(⟨1,[97]⟩:F0),(⟨1,[98]⟩:F0),(⟨0,[99]⟩:F0)]:Sl F0).n (fun i=>D5 ((Sl.of [(⟨-1,[114]⟩:F0),(⟨0,[120]⟩:F0),(⟨1,[97]⟩:F0),(⟨1,[98]⟩:F0),(⟨0,[99]⟩:F0)]:Sl F0).g i)) false),(4000,.cells [.p (.str [86]),pN 1,pU 4,pU 0,pB false,pN 0,pN 0,.p (vSl 7 B1 (Sl.nil:Sl Pat)),pN 1,pU 4,pU 0,pB false,pN 0,pN 0,.p (vSl 7 B1 (Sl.nil:Sl Pat)),.p (vSl 2 A0 (Sl.of [(⟨2,0⟩:Mh)]:Sl Mh)),.p (vSl 6 O7 (Sl.of [(⟨0,0,(⟨1,0⟩:Mh),0,0⟩:AC)]:Sl AC)),pN 1]),(3000,.cells [.p (.str [70]),pN 0,pU 0,pU 0,pB false,pN 0,pN 0,.p (vSl 7 B1 (Sl.nil:Sl Pat)),pN 6,pU 0,pU 0,pB false,pN 0,pN 0,.p (vSl 7 B1 (Sl.nil:Sl Pat)),.p (vSl 2 A0 (Sl.of [(⟨4,0⟩:Mh)]:Sl Mh)),.p (vSl 6 O7 (Sl.nil:Sl AC)),pN 1]),(1000,.cells [.p E9,.p E9,.p E9])]⟩ (ids:=[(1000,1000),(3000,3000),(4000,4000),(25000,25000)]) ?_ (hle:=klR [(0,.fn 5 (Sl.of [(⟨-1,[114]⟩:F0),(⟨0,[120]⟩:F0),(⟨1,[97]⟩:F0),(⟨1,[98]⟩:F0),(⟨0,[99]⟩:F0)]:Sl F0).n (D0 [pI .i64 0,.str []] [(0,D5 (⟨-1,[114]⟩:F0)),(1,D5 (⟨0,[120]⟩:F0)),(2,D5 (⟨1,[97]⟩:F0)),(3,D5 (⟨1,[98]⟩:F0)),(4,D5 (⟨0,[99]⟩:F0))]) (fun i=>D5 ((Sl.of [(⟨-1,[114]⟩:F0),(⟨0,[120]⟩:F0),(⟨1,[97]⟩:F0),(⟨1,[98]⟩:F0),(⟨0,[99]⟩:F0)]:Sl F0).g i)))] (al1 ⟨rfl,(fun i a=>match i,a with|0,_=>rfl|1,_=>rfl|2,_=>rfl|3,_=>rfl|4,_=>rfl|_+5,a=>Lq a (by omega))⟩ al0));refine H3 hS (And.intro (And.intro (rfl:true=true) (rfl:true=true)) (rfl:true=true)) 31 ⟨[(30,.vec 31000),(29,.vec 30000),(28,.vec 29000),(25,.vec 25000),(0,.reg 1000 0)],[(31000,.vec C4 1 (Sl.of [1]:Sl Int).n (fun i=>cI .i64 ((Sl.of [1]:Sl Int).g i)) true),(30000,.vec C4 1 (Sl.of [0]:Sl Int).n (fun i=>cI .i64 ((Sl.of [0]:Sl Int).g i)) true),(29000,.vec Ct 18 (Sl.of [(⟨[70],Pat.mk 0 (⟨0,0⟩:Mh) false 0 0 (Sl.nil:Sl Pat).n (Sl.nil:Sl Pat).g,Pat.mk 6 (⟨0,0⟩:Mh) false 0 0 (Sl.nil:Sl Pat).n (Sl.nil:Sl Pat).g,(Sl.of [(⟨4,0⟩:Mh)]:Sl Mh),(Sl.nil:Sl AC),1⟩:Law),(⟨[86],Pat.mk 1 (⟨4,0⟩:Mh) false 0 0 (Sl.nil:Sl Pat).n (Sl.nil:Sl Pat).g,Pat.mk 1 (⟨4,0⟩:Mh) false 0 0 (Sl.nil:Sl Pat).n (Sl.nil:Sl Pat).g,(Sl.of [(⟨2,0⟩:Mh)]:Sl Mh),(Sl.of [(⟨0,0,(⟨1,0⟩:Mh),0,0⟩:AC)]:Sl AC),1⟩:Law)]:Sl Law).n (fun i=>A9 ((Sl.of [(⟨[70],Pat.mk 0 (⟨0,0⟩:Mh) false 0 0 (Sl.nil:Sl Pat).n (Sl.nil:Sl Pat).g,Pat.mk 6 (⟨0,0⟩:Mh) false 0 0 (Sl.nil:Sl Pat).n (Sl.nil:Sl Pat).g,(Sl.of [(⟨4,0⟩:Mh)]:Sl Mh),(Sl.nil:Sl AC),1⟩:Law),(⟨[86],Pat.mk 1 (⟨4,0⟩:Mh) false 0 0 (Sl.nil:Sl Pat).n (Sl.nil:Sl Pat).g,Pat.mk 1 (⟨4,0⟩:Mh) false 0 0 (Sl.nil:Sl Pat).n (Sl.nil:Sl Pat).g,(Sl.of [(⟨2,0⟩:Mh)]:Sl Mh),(Sl.of [(⟨0,0,(⟨1,0⟩:Mh),0,0⟩:AC)]:Sl AC),1⟩:Law)]:Sl Law).g i)) false),(25000,.vec Av 2 (Sl.of [(⟨-1,[114]⟩:F0),(⟨0,[120]⟩:F0),(⟨1,[97]⟩:F0),(⟨1,[98]⟩:F0),(⟨0,[99]⟩:F0)]:Sl F0).n (fun i=>D5 ((Sl.of [(⟨-1,[114]⟩:F0),(⟨0,[120]⟩:F0),(⟨1,[97]⟩:F0),(⟨1,[98]⟩:F0),(⟨0,[99]⟩:F0)]:Sl F0).g i)) false),(1000,.cells [.p E9,.p E9,.p E9])]⟩ (ids:=[(1000,1000),(25000,25000),(29000,29000),(30000,30000),(31000,31000)]) ?_ (hle:=klR [(0,.fn 1 (Sl.of [1]:Sl Int).n (D0 [pI .i64 0] [(0,cI .i64 1)]) (fun i=>cI .i64 ((Sl.of [1]:Sl Int).g i))),(1,.fn 1 (Sl.of [0]:Sl Int).n (D0 [pI .i64 0] [(0,cI .i64 0)]) (fun i=>cI .i64 ((Sl.of [0]:Sl Int).g i))),(2,.fn 2 (Sl.of [(⟨[70],Pat.mk 0 (⟨0,0⟩:Mh) false 0 0 (Sl.nil:Sl Pat).n (Sl.nil:Sl Pat).g,Pat.mk 6 (⟨0,0⟩:Mh) false 0 0 (Sl.nil:Sl Pat).n (Sl.nil:Sl Pat).g,(Sl.of [(⟨4,0⟩:Mh)]:Sl Mh),(Sl.nil:Sl AC),1⟩:Law),(⟨[86],Pat.mk 1 (⟨4,0⟩:Mh) false 0 0 (Sl.nil:Sl Pat).n (Sl.nil:Sl Pat).g,Pat.mk 1 (⟨4,0⟩:Mh) false 0 0 (Sl.nil:Sl Pat).n (Sl.nil:Sl Pat).g,(Sl.of [(⟨2,0⟩:Mh)]:Sl Mh),(Sl.of [(⟨0,0,(⟨1,0⟩:Mh),0,0⟩:AC)]:Sl AC),1⟩:Law)]:Sl Law).n (D0 [.str [],pI .i64 0,pI .u32 0,pI .u32 0,.v (.bool false),pI .i64 0,pI .i64 0,E9,pI .i64 0,pI .u32 0,pI .u32 0,.v (.bool false),pI .i64 0,pI .i64 0,E9,E9,E9,pI .i64 0] [(0,A9 (⟨[70],Pat.mk 0 (⟨0,0⟩:Mh) false 0 0 (Sl.nil:Sl Pat).n (Sl.nil:Sl Pat).g,Pat.mk 6 (⟨0,0⟩:Mh) false 0 0 (Sl.nil:Sl Pat).n (Sl.nil:Sl Pat).g,(Sl.of [(⟨4,0⟩:Mh)]:Sl Mh),(Sl.nil:Sl AC),1⟩:Law)),(1,A9 (⟨[86],Pat.mk 1 (⟨4,0⟩:Mh) false 0 0 (Sl.nil:Sl Pat).n (Sl.nil:Sl Pat).g,Pat.mk 1 (⟨4,0⟩:Mh) false 0 0 (Sl.nil:Sl Pat).n (Sl.nil:Sl Pat).g,(Sl.of [(⟨2,0⟩:Mh)]:Sl Mh),(Sl.of [(⟨0,0,(⟨1,0⟩:Mh),0,0⟩:AC)]:Sl AC),1⟩:Law))]) (fun i=>A9 ((Sl.of [(⟨[70],Pat.mk 0 (⟨0,0⟩:Mh) false 0 0 (Sl.nil:Sl Pat).n (Sl.nil:Sl Pat).g,Pat.mk 6 (⟨0,0⟩:Mh) false 0 0 (Sl.nil:Sl Pat).n (Sl.nil:Sl Pat).g,(Sl.of [(⟨4,0⟩:Mh)]:Sl Mh),(Sl.nil:Sl AC),1⟩:Law),(⟨[86],Pat.mk 1 (⟨4,0⟩:Mh) false 0 0 (Sl.nil:Sl Pat).n (Sl.nil:Sl Pat).g,Pat.mk 1 (⟨4,0⟩:Mh) false 0 0 (Sl.nil:Sl Pat).n (Sl.nil:Sl Pat).g,(Sl.of [(⟨2,0⟩:Mh)]:Sl Mh),(Sl.of [(⟨0,0,(⟨1,0⟩:Mh),0,0⟩:AC)]:Sl AC),1⟩:Law)]:Sl Law).g i)))] (al1 ⟨rfl,(fun i a=>match i,a with|0,_=>rfl|_+1,a=>Lq a (by omega))⟩ (al1 ⟨rfl,(fun i a=>match i,a with|0,_=>rfl|_+1,a=>Lq a (by omega))⟩ (al1 ⟨rfl,(fun i a=>match i,a with|0,_=>rfl|1,_=>rfl|_+2,a=>Lq a (by omega))⟩ al0))));refine SF hS (rfl:true=true) 32 32000 (k:=1) (n:=5) (e:=AG) (vw:=false) (D0 [E9] [(0,[E9]),(1,cL 1 (cI .i64) (Sl.of [0]:Sl Int)),(2,[E9]),(3,cL 1 (cI .i64) (Sl.of [1]:Sl Int)),(4,[E9])]) (fun i=>cL 1 (cI .i64) ((Sl.of [(Sl.nil:Sl Int),(Sl.of [0]:Sl Int),(Sl.nil:Sl Int),(Sl.of [1]:Sl Int),(Sl.nil:Sl Int)]:Sl (Sl Int)).g i)) (fun i a=>match i,a with|0,_=>Al2|1,_=>leCr _|2,_=>Al2|3,_=>leCr _|4,_=>Al2|_+5,a=>Lq a (by omega)) ?_;refine H3 hS Mg 32 ⟨[(31,.p (vSl 1 (cL 1 (cI .i64)) (Sl.of [(Sl.nil:Sl Int),(Sl.of [0]:Sl Int),(Sl.nil:Sl Int),(Sl.of [1]:Sl Int),(Sl.nil:Sl Int)]:Sl (Sl Int)))),(28,.p (vSl 18 A9 (Sl.of [(⟨[70],Pat.mk 0 (⟨0,0⟩:Mh) false 0 0 (Sl.nil:Sl Pat).n (Sl.nil:Sl Pat).g,Pat.mk 6 (⟨0,0⟩:Mh) false 0 0 (Sl.nil:Sl Pat).n (Sl.nil:Sl Pat).g,(Sl.of [(⟨4,0⟩:Mh)]:Sl Mh),(Sl.nil:Sl AC),1⟩:Law),(⟨[86],Pat.mk 1 (⟨4,0⟩:Mh) false 0 0 (Sl.nil:Sl Pat).n (Sl.nil:Sl Pat).g,Pat.mk 1 (⟨4,0⟩:Mh) false 0 0 (Sl.nil:Sl Pat).n (Sl.nil:Sl Pat).g,(Sl.of [(⟨2,0⟩:Mh)]:Sl Mh),(Sl.of [(⟨0,0,(⟨1,0⟩:Mh),0,0⟩:AC)]:Sl AC),1⟩:Law)]:Sl Law))),(25,.p (vSl 2 D5 (Sl.of [(⟨-1,[114]⟩:F0),(⟨0,[120]⟩:F0),(⟨1,[97]⟩:F0),(⟨1,[98]⟩:F0),(⟨0,[99]⟩:F0)]:Sl F0))),(0,.reg 1000 0)],[(1000,.cells [.p E9,.p E9,.p E9])]⟩ (ids:=[(1000,1000)]) ?_;cases h;exact kR hS
def G7 (N:Nat)  : Option Bool:= (Hd N ).bind fun y1=>(DB N y1 0 1).bind fun y2=>(N6 N y1).bind fun y3=>(FV N y1 10).bind fun y4=>(Bp N y1).bind fun y5=>(AT N ).bind fun y6=>(T8 N y6).bind fun y7=>(AT N ).bind fun y8=>(AS N y8 (Sl.of [(Sl.of [(⟨2,5⟩:Mh),(⟨5,2⟩:Mh)]:Sl Mh),(Sl.of [(⟨5,2⟩:Mh),(⟨2,5⟩:Mh),(⟨5,2⟩:Mh)]:Sl Mh)]:Sl (Sl Mh))).bind fun y9=>lt (fun (z1:Bool)=>some z1) fun k1=>if (y2.1==2) then if (y2.2==0) then (K5 N y3.1 (Sl.of [(⟨0,1⟩:E8)]:Sl E8)).bind fun a=>if a then if (y3.2==0) then if (y4.1.Langs==2) then (E1 N y4.1.Has (Sl.of [1,1,3,2]:Sl Int)).bind fun b=>if b then if (y4.2==0) then (P7 N y5.1 (Sl.of [0,1]:Sl Int)).bind fun c=>if c then if (y5.2==0) then if (y7.1.Langs==3) then (E1 N y7.1.Has (Sl.of [3,2]:Sl Int)).bind fun d=>if d then if (y7.2==0) then (E1 N y9.1.Has (Sl.of [3,4,3,4]:Sl Int)).bind fun f=>if f then k1 (y9.2==0) else k1 false else k1 false else k1 false else k1 false else k1 false else k1 false else k1 false else k1 false else k1 false else k1 false else k1 false else k1 false else k1 false
theorem N7    {y:Bool}(h:G7 N  = some y) :FunO S Ld [] [] (pB y) ([]) []:=by
 unfold G7 at h;refine A3 hS Tryz.func15 ?_;refine kC hS h (Tg hS hL) (fun y1 h=>?_);refine I1 hS Mg 18 2000 [pI .i64 y1.Langs,vSl 1 (cI .u64) y1.Has] ?_;obtain⟨y2,e2,h⟩:=B5 h;refine B4 hS [] (by decide:(2:Nat)<=2) (MH hS hL e2) ?_;obtain⟨y3,e3,h⟩:=B5 h;refine B4 hS [] (by decide:(2:Nat)<=2) (DK hS hL e3) ?_;obtain⟨y4,e4,h⟩:=B5 h;refine B4 hS [] (by decide:(2:Nat)<=2) (Rd hS hL e4) ?_;refine I1 hS Mg 7 7000 [pI .i64 y4.1.Langs,vSl 1 (cI .u64) y4.1.Has] ?_;obtain⟨y5,e5,h⟩:=B5 h;refine B4 hS [] (by decide:(2:Nat)<=2) (GI hS hL e5) ?_;refine kC hS h (EO hS hL) (fun y6 h=>?_);refine kC hS h (Fn hS hL) (fun y7 h=>?_);refine I1 hS Mg 11 11000 [pI .i64 y7.1.Langs,vSl 1 (cI .u64) y7.1.Has] ?_;refine RH hS Mg 13000 [pI .u32 2,pI .u32 5] ?_;refine RH hS Mg 14000 [pI .u32 5,pI .u32 2] ?_;refine G8 hS Mg [0,1,2,4,5,6,9] ?_;obtain⟨y8,e8,h⟩:=B5 h;refine AF Mg (EO hS hL e8) ?_;refine AE (And.intro (by decide:(2:Nat)<=2) (by decide:(2:Nat)<=2)) (x:=.sl true 2 2 (D0 [pI .u32 0,pI .u32 0] [(0,A0 (⟨2,5⟩:Mh)),(1,A0 (⟨5,2⟩:Mh))])) ?_;refine AE (And.intro (And.intro (by decide:(2:Nat)<=2) (by decide:(2:Nat)<=2)) (by decide:(2:Nat)<=2)) (x:=.sl true 2 3 (D0 [pI .u32 0,pI .u32 0] [(0,A0 (⟨5,2⟩:Mh)),(1,A0 (⟨2,5⟩:Mh)),(2,A0 (⟨5,2⟩:Mh))])) ?_;refine AE Mg (x:=.sl true 1 2 (D0 [E9] [(0,[.sl true 2 2 (D0 [pI .u32 0,pI .u32 0] [(0,A0 (⟨2,5⟩:Mh)),(1,A0 (⟨5,2⟩:Mh))])]),(1,[.sl true 2 3 (D0 [pI .u32 0,pI .u32 0] [(0,A0 (⟨5,2⟩:Mh)),(1,A0 (⟨2,5⟩:Mh)),(2,A0 (⟨5,2⟩:Mh))])])])) ?_;obtain⟨y9,e9,h⟩:=B5 h;refine AF Mg (FunO.le hS (args:=[(.p (.agg (A8 y8))),.p (.sl true 1 2 (D0 [E9] [(0,[.sl true 2 2 (D0 [pI .u32 0,pI .u32 0] [(0,A0 (⟨2,5⟩:Mh)),(1,A0 (⟨5,2⟩:Mh))])]),(1,[.sl true 2 3 (D0 [pI .u32 0,pI .u32 0] [(0,A0 (⟨5,2⟩:Mh)),(1,A0 (⟨2,5⟩:Mh)),(2,A0 (⟨5,2⟩:Mh))])])]))]) (by exact⟨.inl rfl,⟨Xi rfl (fun i a=>match i,a with|0,_=>leC1 rfl (fun i a=>match i,a with|0,_=>rfl|1,_=>rfl|_+2,a=>Lq a (by omega))|1,_=>leC1 rfl (fun i a=>match i,a with|0,_=>rfl|1,_=>rfl|2,_=>rfl|_+3,a=>Lq a (by omega))|_+2,a=>Lq a (by omega)),trivial⟩⟩) (EN hS hL e9)) ?_;refine O5 Mg ?_;refine I1 hS Mg 57 15000 [pI .i64 y9.1.Langs,vSl 1 (cI .u64) y9.1.Has] ?_;refine Ga hS Mg (A5 hS) h 0 (fun z1=>⟨[(0,pB z1)],[]⟩) (fun M1 k1 b h=>?_) (fun z1 h=>?_)
 .refine kG hS h (fun h=>?_) (fun h=>?_)
  .refine kG hS h (fun h=>?_) (fun h=>?_)
   .refine Cu hS (rfl:true=true) ⟨[(66,.vec 67000),(64,.p (vSl 2 O9 y3.1)),(63,.p (.v (.bool true))),(15,pN y9.2),(14,.p (.ptr [pI .i64 y9.1.Langs,vSl 1 (cI .u64) y9.1.Has])),(11,pN y7.2),(10,.p (.ptr [pI .i64 y7.1.Langs,vSl 1 (cI .u64) y7.1.Has])),(9,pN y5.2),(8,.p (vSl 1 (cI .i64) y5.1)),(7,pN y4.2),(6,.p (.ptr [pI .i64 y4.1.Langs,vSl 1 (cI .u64) y4.1.Has])),(5,pN y3.2)],[(67000,.vec OY 2 (Sl.of [(⟨0,1⟩:E8)]:Sl E8).n (fun i=>O9 ((Sl.of [(⟨0,1⟩:E8)]:Sl E8).g i)) false)]⟩ (ids:=[(67000,67000)]) ?_ (hle:=klR [(11,.fn 1 (Sl.of [(⟨0,1⟩:E8)]:Sl E8).n (D0 [pI .i64 0,pI .i64 0] [(0,O9 (⟨0,1⟩:E8))]) (fun i=>O9 ((Sl.of [(⟨0,1⟩:E8)]:Sl E8).g i)))] (al1 ⟨rfl,(fun i a=>match i,a with|0,_=>rfl|_+1,a=>Lq a (by omega))⟩ al0));refine kC hS h (BS hS hL) (fun c h=>?_);refine kG hS h (fun h=>?_) (fun h=>?_)
    .refine kG hS h (fun h=>?_) (fun h=>?_)
     .refine kG hS h (fun h=>?_) (fun h=>?_)
      .refine Cu hS (rfl:true=true) ⟨[(81,.vec 82000),(80,.p (vSl 1 (cI .u64) y4.1.Has)),(78,.p (.v (.bool true))),(15,pN y9.2),(14,.p (.ptr [pI .i64 y9.1.Langs,vSl 1 (cI .u64) y9.1.Has])),(11,pN y7.2),(10,.p (.ptr [pI .i64 y7.1.Langs,vSl 1 (cI .u64) y7.1.Has])),(9,pN y5.2),(8,.p (vSl 1 (cI .i64) y5.1)),(7,pN y4.2)],[(82000,.vec X6 1 (Sl.of [1,1,3,2]:Sl Int).n (fun i=>cI .u64 ((Sl.of [1,1,3,2]:Sl Int).g i)) false)]⟩ (ids:=[(82000,82000)]) ?_ (hle:=klR [(9,.fn 4 (Sl.of [1,1,3,2]:Sl Int).n (D0 [pI .u64 0] [(0,cI .u64 1),(1,cI .u64 1),(2,cI .u64 3),(3,cI .u64 2)]) (fun i=>cI .u64 ((Sl.of [1,1,3,2]:Sl Int).g i)))] (al1 ⟨rfl,(fun i a=>match i,a with|0,_=>rfl|1,_=>rfl|2,_=>rfl|3,_=>rfl|_+4,a=>Lq a (by omega))⟩ al0));refine kC hS h (I7 hS hL) (fun d h=>?_);refine kG hS h (fun h=>?_) (fun h=>?_)
       .refine kG hS h (fun h=>?_) (fun h=>?_)
        .refine Cu hS (rfl:true=true) ⟨[(90,.vec 91000),(89,.p (vSl 1 (cI .i64) y5.1)),(88,.p (.v (.bool true))),(15,pN y9.2),(14,.p (.ptr [pI .i64 y9.1.Langs,vSl 1 (cI .u64) y9.1.Has])),(11,pN y7.2),(10,.p (.ptr [pI .i64 y7.1.Langs,vSl 1 (cI .u64) y7.1.Has])),(9,pN y5.2)],[(91000,.vec C4 1 (Sl.of [0,1]:Sl Int).n (fun i=>cI .i64 ((Sl.of [0,1]:Sl Int).g i)) false)]⟩ (ids:=[(91000,91000)]) ?_ (hle:=klR [(7,.fn 2 (Sl.of [0,1]:Sl Int).n (D0 [pI .i64 0] [(0,cI .i64 0),(1,cI .i64 1)]) (fun i=>cI .i64 ((Sl.of [0,1]:Sl Int).g i)))] (al1 ⟨rfl,(fun i a=>match i,a with|0,_=>rfl|1,_=>rfl|_+2,a=>Lq a (by omega))⟩ al0));refine kC hS h (DA hS hL) (fun f h=>?_);refine kG hS h (fun h=>?_) (fun h=>?_)
         .refine kG hS h (fun h=>?_) (fun h=>?_)
          .refine kG hS h (fun h=>?_) (fun h=>?_)
           .refine Cu hS (rfl:true=true) ⟨[(105,.vec 106000),(104,.p (vSl 1 (cI .u64) y7.1.Has)),(102,.p (.v (.bool true))),(15,pN y9.2),(14,.p (.ptr [pI .i64 y9.1.Langs,vSl 1 (cI .u64) y9.1.Has])),(11,pN y7.2)],[(106000,.vec X6 1 (Sl.of [3,2]:Sl Int).n (fun i=>cI .u64 ((Sl.of [3,2]:Sl Int).g i)) false)]⟩ (ids:=[(106000,106000)]) ?_ (hle:=klR [(5,.fn 2 (Sl.of [3,2]:Sl Int).n (D0 [pI .u64 0] [(0,cI .u64 3),(1,cI .u64 2)]) (fun i=>cI .u64 ((Sl.of [3,2]:Sl Int).g i)))] (al1 ⟨rfl,(fun i a=>match i,a with|0,_=>rfl|1,_=>rfl|_+2,a=>Lq a (by omega))⟩ al0));refine kC hS h (I7 hS hL) (fun j h=>?_);refine kG hS h (fun h=>?_) (fun h=>?_)
            .refine kG hS h (fun h=>?_) (fun h=>?_)
             .refine Cu hS (rfl:true=true) ⟨[(115,.vec 116000),(114,.p (vSl 1 (cI .u64) y9.1.Has)),(112,.p (.v (.bool true))),(15,pN y9.2)],[(116000,.vec X6 1 (Sl.of [3,4,3,4]:Sl Int).n (fun i=>cI .u64 ((Sl.of [3,4,3,4]:Sl Int).g i)) false)]⟩ (ids:=[(116000,116000)]) ?_ (hle:=klR [(3,.fn 4 (Sl.of [3,4,3,4]:Sl Int).n (D0 [pI .u64 0] [(0,cI .u64 3),(1,cI .u64 4),(2,cI .u64 3),(3,cI .u64 4)]) (fun i=>cI .u64 ((Sl.of [3,4,3,4]:Sl Int).g i)))] (al1 ⟨rfl,(fun i a=>match i,a with|0,_=>rfl|1,_=>rfl|2,_=>rfl|3,_=>rfl|_+4,a=>Lq a (by omega))⟩ al0));refine kC hS h (I7 hS hL) (fun l h=>?_);refine kG hS h (fun h=>?_) (fun h=>?_)
              .exact b _ [] _ (y9.2==0) Mg h
              exact b _ [] _ false Mg h
             exact b _ [] _ false Mg h
            exact b _ [] _ false Mg h
           exact b _ [] _ false Mg h
          exact b _ [] _ false Mg h
         exact b _ [] _ false Mg h
        exact b _ [] _ false Mg h
       exact b _ [] _ false Mg h
      exact b _ [] _ false Mg h
     exact b _ [] _ false Mg h
    exact b _ [] _ false Mg h
   exact b _ [] _ false Mg h
  exact b _ [] _ false Mg h
 cases h;exact kR hS
end Go.AM
namespace Go.AM
open Go.Proofs
set_option maxRecDepth 10000
set_option maxHeartbeats 2000000
variable {S:Q7}(hS:F4 S Tryz.prog) (hL:Ig S)
include hS hL
end Go.AM
namespace Go.AM
open IntKind (wrap)
open Go.Proofs
set_option maxRecDepth 10000
set_option maxHeartbeats 2000000
variable {S:Q7}(hS:F4 S Tryz.prog) (hL:Ig S)
include hS hL
def Y1 (N:Nat)(a:Int):Option A6:= Yj N (fun b (x1:Sl F0) (x2:Sl (Sl Int)) (x3:Int)=>if (decide (x3<a)) then if ((x1.n+(Sl.of [(⟨0,[UInt8.ofNat (wrap .u8 (97+(wrap .u8 (wrap .i64 (x3.tdiv 20))))).toNat,UInt8.ofNat (wrap .u8 (97+(wrap .u8 (x3.tmod 20)))).toNat]⟩:F0)]:Sl F0).n)*24<=140737488355328/\x1.n+(Sl.of [(⟨0,[UInt8.ofNat (wrap .u8 (97+(wrap .u8 (wrap .i64 (x3.tdiv 20))))).toNat,UInt8.ofNat (wrap .u8 (97+(wrap .u8 (x3.tmod 20)))).toNat]⟩:F0)]:Sl F0).n<=140737488355328)then if ((x2.n+(Sl.of [(Sl.nil:Sl Int)]:Sl (Sl Int)).n)*24<=140737488355328/\x2.n+(Sl.of [(Sl.nil:Sl Int)]:Sl (Sl Int)).n<=140737488355328)then b (x1.push (⟨0,[UInt8.ofNat (wrap .u8 (97+(wrap .u8 (wrap .i64 (x3.tdiv 20))))).toNat,UInt8.ofNat (wrap .u8 (97+(wrap .u8 (x3.tmod 20)))).toNat]⟩:F0)) (x2.app (Sl.of [(Sl.nil:Sl Int)]:Sl (Sl Int))) (wrap .i64 (x3+1)) else none else none else some (⟨x1,(Sl.nil:Sl Law),x2⟩:A6)) (Sl.of [(⟨-1,[114]⟩:F0)]:Sl F0) (Sl.of [(Sl.nil:Sl Int)]:Sl (Sl Int)) 0
theorem Eh {N:Nat}{a:Int}{y:A6}(h:Y1 N a=some y) :FunO S Ed [pN a] [] (.p (.agg (A8 y))) ([]) []:=by
 unfold Y1 at h;refine A3 hS Tryz.func48 ?_;refine SF hS (And.intro (rfl:true=true) (rfl:true=true)) 8 8000 (k:=1) (n:=1) (e:=AG) (vw:=false) (D0 [E9] [(0,[E9])]) (fun i=>cL 1 (cI .i64) ((Sl.of [(Sl.nil:Sl Int)]:Sl (Sl Int)).g i)) (fun i b=>match i,b with|0,_=>Al2|_+1,b=>Lq b (by omega)) ?_;refine Kk hS Mg h (fun x1 x2 x3=>⟨[(10,pN x3),(9,pN a),(3,.reg 4000 0),(2,.reg 3000 0)],[(4501,.vec AG 1 x2.n (fun i=>cL 1 (cI .i64) (x2.g i)) false),(4500,.vec Av 2 x1.n (fun i=>D5 (x1.g i)) false),(4000,.cells [.vec 4500,.p E9,.vec 4501]),(3000,.cells [.p E9,.p E9,.p E9])]⟩) (ids:=[(3000,3000),(4000,4000),(4500,7000),(4501,8000)]) (fun _ _ _ _ _ d x1 x2 x3 f h=>?_) (hle:=klR [(3,.fn 1 (Sl.of [(⟨-1,[114]⟩:F0)]:Sl F0).n (D0 [pI .i64 0,.str []] [(0,D5 (⟨-1,[114]⟩:F0))]) (fun i=>D5 ((Sl.of [(⟨-1,[114]⟩:F0)]:Sl F0).g i)))] (al1 ⟨rfl,(fun i b=>match i,b with|0,_=>rfl|_+1,b=>Lq b (by omega))⟩ al0));apply kI hS h<;>intro h
 .obtain⟨c6,h⟩:=E2 h;refine SF hS (And.intro (And.intro (And.intro (And.intro (And.intro (And.intro (by decide:(20:Int)≠0) (by decide:(20:Int)≠0)) (rfl:true=true)) ((fun i b=>match i,b with|0,_=>rfl|1,_=>rfl|_+2,b=>Lq b (by omega)):∀i:Nat,i<2->(DJ (D0 [pI .u8 0] [(0,cI .u8 (wrap .u8 (97+(wrap .u8 (wrap .i64 (x3.tdiv 20)))))),(1,cI .u8 (wrap .u8 (97+(wrap .u8 (x3.tmod 20)))))] i)).isSome=true)) (rfl:true=true)) c6) (rfl:true=true)) 32 32000 (k:=1) (n:=1) (e:=AG) (vw:=false) (D0 [E9] [(0,[E9])]) (fun i=>cL 1 (cI .i64) ((Sl.of [(Sl.nil:Sl Int)]:Sl (Sl Int)).g i)) (fun i b=>match i,b with|0,_=>Al2|_+1,b=>Lq b (by omega)) ?_;obtain⟨c7,h⟩:=E2 h;exact f _ [(3000,3000),(4000,4000),(4500,28000),(4501,33000)] _ (x1.push (⟨0,[UInt8.ofNat (wrap .u8 (97+(wrap .u8 (wrap .i64 (x3.tdiv 20))))).toNat,UInt8.ofNat (wrap .u8 (97+(wrap .u8 (x3.tmod 20)))).toNat]⟩:F0)) (x2.app (Sl.of [(Sl.nil:Sl Int)]:Sl (Sl Int))) (wrap .i64 (x3+1)) c7 h (hle:=klR [(2,.fn (x2.n+(Sl.of [(Sl.nil:Sl Int)]:Sl (Sl Int)).n) (x2.app (Sl.of [(Sl.nil:Sl Int)]:Sl (Sl Int))).n (AA x2.n (fun i=>cL 1 (cI .i64) (x2.g i)) (fun i=>cL 1 (cI .i64) ((Sl.of [(Sl.nil:Sl Int)]:Sl (Sl Int)).g i))) (fun i=>cL 1 (cI .i64) ((x2.app (Sl.of [(Sl.nil:Sl Int)]:Sl (Sl Int))).g i))),(3,.fn (x1.n+1) (x1.push (⟨0,[UInt8.ofNat (wrap .u8 (97+(wrap .u8 (wrap .i64 (x3.tdiv 20))))).toNat,UInt8.ofNat (wrap .u8 (97+(wrap .u8 (x3.tmod 20)))).toNat]⟩:F0)).n (AA x1.n (fun i=>D5 (x1.g i)) (D0 [pI .i64 0,.str []] [(0,D5 (⟨0,[UInt8.ofNat (wrap .u8 (97+(wrap .u8 (wrap .i64 (x3.tdiv 20))))).toNat,UInt8.ofNat (wrap .u8 (97+(wrap .u8 (x3.tmod 20)))).toNat]⟩:F0))])) (fun i=>D5 ((x1.push (⟨0,[UInt8.ofNat (wrap .u8 (97+(wrap .u8 (wrap .i64 (x3.tdiv 20))))).toNat,UInt8.ofNat (wrap .u8 (97+(wrap .u8 (x3.tmod 20)))).toNat]⟩:F0)).g i)))] (al1 ⟨rfl,Al9 (c:=cL 1 (cI .i64)) (v:=x2) (w:=(Sl.of [(Sl.nil:Sl Int)]:Sl (Sl Int))) same rfl same rfl⟩ (al1 ⟨rfl,Kj (c:=D5) (v:=x1) (x:=(⟨0,[UInt8.ofNat (wrap .u8 (97+(wrap .u8 (wrap .i64 (x3.tdiv 20))))).toNat,UInt8.ofNat (wrap .u8 (97+(wrap .u8 (x3.tmod 20)))).toNat]⟩:F0)) (z:=[(pI .i64 0),.str []]) same rfl rfl⟩ al0)))
 obtain rfl:=B7 h;exact A7 hS Mg ⟨[(2,.reg 3000 0)],[(3000,.cells [.p (vSl 2 D5 x1),.p (vSl 18 A9 (Sl.nil:Sl Law)),.p (vSl 1 (cL 1 (cI .i64)) x2)])]⟩ [] (ids:=[(3000,3000)]) ⟨rfl,rfl,rfl⟩
end Go.AM
namespace Go.AM
open Go.Proofs
set_option maxRecDepth 10000
set_option maxHeartbeats 2000000
variable {S:Q7}(hS:F4 S Tryz.prog) (hL:Ig S)
include hS hL
end Go.AM
namespace Go.AM
open Go.Proofs
set_option maxRecDepth 10000
set_option maxHeartbeats 2000000
variable {S:Q7}(hS:F4 S Tryz.prog) (hL:Ig S)
include hS hL
end Go.AM
namespace Go.AM
open IntKind (wrap)
open Go.Proofs
set_option maxRecDepth 10000
set_option maxHeartbeats 2000000
variable {S:Q7}(hS:F4 S Tryz.prog) (hL:Ig S)
include hS hL
def O0 (N:Nat)(a:Int)(b:Int):Option Bool:= if ((b.tmod 5)==0) then if ((0:Int)<=1/\1<=((Sl.of [4294967295,0]:Sl Int).n:Int))then (H4 N (⟨wrap .i64 (32+(wrap .i64 ((wrap .i64 (a.tmod 4))-2))),(Sl.of [4294967295,0]:Sl Int).drop 1⟩:A2)).bind fun y1=>if (decide (0<(wrap .i64 ((wrap .i64 (a.tmod 4))-2)))) then lt (fun (z1:Bool)=>some z1) fun k1=>if (y1==3) then (G7 N ).bind fun y3=>k1 y3 else k1 false else lt (fun (z2:Bool)=>some z2) fun k2=>if (y1==0) then (G7 N ).bind fun y5=>k2 y5 else k2 false else none else if ((b.tmod 5)==1) then if ((0:Int)<=(wrap .i64 (64+(wrap .i64 ((wrap .i64 (a.tmod 4))-2))))/\(wrap .i64 (64+(wrap .i64 ((wrap .i64 (a.tmod 4))-2))))<=(wrap .i64 (64+(wrap .i64 ((wrap .i64 (a.tmod 4))-2))))/\(wrap .i64 (64+(wrap .i64 ((wrap .i64 (a.tmod 4))-2))))*8<=140737488355328/\(wrap .i64 (64+(wrap .i64 ((wrap .i64 (a.tmod 4))-2))))<=140737488355328)then (Bp N (⟨3,(Sl.rep (wrap .i64 (64+(wrap .i64 ((wrap .i64 (a.tmod 4))-2)))).toNat 0:Sl Int)⟩:A2)).bind fun y6=>if (decide (0<(wrap .i64 ((wrap .i64 (a.tmod 4))-2)))) then lt (fun (z3:Bool)=>some z3) fun k3=>if (y6.2==12) then (G7 N ).bind fun y8=>k3 y8 else k3 false else lt (fun (z4:Bool)=>some z4) fun k4=>if (y6.2==0) then (G7 N ).bind fun g=>k4 g else k4 false else none else if ((b.tmod 5)==2) then (Y1 N (wrap .i64 (32+(wrap .i64 ((wrap .i64 (a.tmod 4))-2))))).bind fun i=>(T8 N i).bind fun d=>if ((((if (decide (0<(wrap .i64 ((wrap .i64 (a.tmod 4))-2)))) then 12 else 0):Int)==0)&&(d.1.Langs != (wrap .i64 (32+(wrap .i64 ((wrap .i64 (a.tmod 4))-2)))))) then some false else lt (fun (z5:Bool)=>some z5) fun k5=>if (d.2==((if (decide (0<(wrap .i64 ((wrap .i64 (a.tmod 4))-2)))) then 12 else 0):Int)) then (G7 N ).bind fun j=>k5 j else k5 false else if ((b.tmod 5)==3) then (Y1 N 2).bind fun l=>if ((0:Int)<=(wrap .i64 (256+(wrap .i64 ((wrap .i64 (a.tmod 4))-2))))/\(wrap .i64 (256+(wrap .i64 ((wrap .i64 (a.tmod 4))-2))))<=(wrap .i64 (256+(wrap .i64 ((wrap .i64 (a.tmod 4))-2))))/\(wrap .i64 (256+(wrap .i64 ((wrap .i64 (a.tmod 4))-2))))*24<=140737488355328/\(wrap .i64 (256+(wrap .i64 ((wrap .i64 (a.tmod 4))-2))))<=140737488355328)then (AS N l (Sl.rep (wrap .i64 (256+(wrap .i64 ((wrap .i64 (a.tmod 4))-2)))).toNat (Sl.nil:Sl Mh):Sl (Sl Mh))).bind fun f=>if (decide (0<(wrap .i64 ((wrap .i64 (a.tmod 4))-2)))) then lt (fun (z6:Bool)=>some z6) fun k6=>if (f.2==12) then (G7 N ).bind fun m=>k6 m else k6 false else lt (fun (z7:Bool)=>some z7) fun k7=>if (f.2==0) then (G7 N ).bind fun o=>k7 o else k7 false else none else (AT N ).bind fun q=>(H1 N (Sl.of [(Sl.of [(⟨2,5⟩:Mh),(⟨5,2⟩:Mh)]:Sl Mh)]:Sl (Sl Mh)) (wrap .i64 (32+(wrap .i64 ((wrap .i64 (a.tmod 4))-2))))).bind fun r=>(AS N q r).bind fun c=>if (((((if (decide (0<(wrap .i64 ((wrap .i64 (a.tmod 4))-2)))) then 12 else 0):Int)==0)&&((c.1.Has.n:Int) != (wrap .i64 (64+(wrap .i64 (2*(wrap .i64 ((wrap .i64 (a.tmod 4))-2))))))))||((((if (decide (0<(wrap .i64 ((wrap .i64 (a.tmod 4))-2)))) then 12 else 0):Int) != 0)&&((c.1.Langs != 0)||((c.1.Has.n:Int) != 0)))) then some false else lt (fun (z8:Bool)=>some z8) fun k8=>if (c.2==((if (decide (0<(wrap .i64 ((wrap .i64 (a.tmod 4))-2)))) then 12 else 0):Int)) then (G7 N ).bind fun s=>k8 s else k8 false
theorem Kv {N:Nat}{c:Int}{d:Int}{y:Bool}(h:O0 N c d=some y) :FunO S Cw [.p (pI .u8 c),.p (pI .u8 d)] [] (pB y) ([]) []:=by
 unfold O0 at h;refine A3 hS Fr ?_;refine D1 hS (And.intro (by decide:(4:Int)≠0) (by decide:(5:Int)≠0)) (b:=(d.tmod 5)==0) (fun c1=>?_) (fun c1=>?_)
 .replace h:=itT c1 h;refine H3 hS (rfl:true=true) 70 ⟨[(69,.vec 70000),(68,pN (wrap .i64 (32+(wrap .i64 ((wrap .i64 (c.tmod 4))-2))))),(8,pN 0),(5,pN (wrap .i64 ((wrap .i64 (c.tmod 4))-2)))],[(70000,.vec X6 1 (Sl.of [4294967295,0]:Sl Int).n (fun i=>cI .u64 ((Sl.of [4294967295,0]:Sl Int).g i)) false)]⟩ (ids:=[(70000,70000)]) ?_ (hle:=klR [(3,.fn 2 (Sl.of [4294967295,0]:Sl Int).n (D0 [pI .u64 0] [(0,cI .u64 4294967295),(1,cI .u64 0)]) (fun i=>cI .u64 ((Sl.of [4294967295,0]:Sl Int).g i)))] (al1 ⟨rfl,(fun i j=>match i,j with|0,_=>rfl|1,_=>rfl|_+2,j=>Lq j (by omega))⟩ al0));obtain⟨c2,h⟩:=E2 h;obtain⟨y1,e1,h⟩:=B5 h;refine B4 hS [] c2 (R6 hS hL e1) ?_;apply kI hS h<;>intro h
  .refine Ga hS Mg (A5 hS) h 0 (fun z1=>⟨[(4,pB z1)],[]⟩) (fun M1 k1 s h=>?_) (fun z1 h=>?_)
   .refine kG hS h (fun h=>?_) (fun h=>?_)
    .refine kC hS h (N7 hS hL) (fun y3 h=>?_);exact s _ [] _ y3 Mg h
    exact s _ [] _ false Mg h
   cases h;exact kR hS
  refine Ga hS Mg (A5 hS) h 0 (fun z2=>⟨[(4,pB z2)],[]⟩) (fun M2 k2 t h=>?_) (fun z2 h=>?_)
  .refine kG hS h (fun h=>?_) (fun h=>?_)
   .refine kC hS h (N7 hS hL) (fun y5 h=>?_);exact t _ [] _ y5 Mg h
   exact t _ [] _ false Mg h
  cases h;exact kR hS
 replace h:=itF c1 h;apply kI hS h<;>intro h
 .obtain⟨c11,h⟩:=E2 h;refine H3 hS c11 81 ⟨[(80,.p (vSl 1 (cI .u64) (Sl.rep (wrap .i64 (64+(wrap .i64 ((wrap .i64 (c.tmod 4))-2)))).toNat 0:Sl Int))),(8,pN 0),(5,pN (wrap .i64 ((wrap .i64 (c.tmod 4))-2)))],[]⟩ (ids:=[]) ?_;refine kC hS h (GI hS hL) (fun y6 h=>?_);apply kI hS h<;>intro h
  .refine Ga hS Mg (A5 hS) h 0 (fun z3=>⟨[(4,pB z3)],[]⟩) (fun M3 k3 u h=>?_) (fun z3 h=>?_)
   .refine kG hS h (fun h=>?_) (fun h=>?_)
    .refine kC hS h (N7 hS hL) (fun y8 h=>?_);exact u _ [] _ y8 Mg h
    exact u _ [] _ false Mg h
   cases h;exact kR hS
  refine Ga hS Mg (A5 hS) h 0 (fun z4=>⟨[(4,pB z4)],[]⟩) (fun M4 k4 v h=>?_) (fun z4 h=>?_)
  .refine kG hS h (fun h=>?_) (fun h=>?_)
   .refine kC hS h (N7 hS hL) (fun a3 h=>?_);exact v _ [] _ a3 Mg h
   exact v _ [] _ false Mg h
  cases h;exact kR hS
 apply kI hS h<;>intro h
 .refine kC hS h (Eh hS hL) (fun b0 h=>?_);refine kC hS h (Fn hS hL) (fun l h=>?_);obtain⟨t1,q⟩:∃x:Int,x=((if (decide (0<(wrap .i64 ((wrap .i64 (c.tmod 4))-2)))) then 12 else 0):Int):=⟨_,rfl⟩;refine NH hS Mg (A5 hS) 0 ⟨[(9,.reg 10000 0),(8,pN t1),(7,pN l.2),(5,pN (wrap .i64 ((wrap .i64 (c.tmod 4))-2)))],[(10000,.cells [pN l.1.Langs,.p (vSl 1 (cI .u64) l.1.Has)])]⟩ (fun M5 w=>?_) ?_
  .refine D1 hS Mg (b:=decide (0<(wrap .i64 ((wrap .i64 (c.tmod 4))-2)))) (fun c21=>?_) (fun c21=>?_)
   .exact w _ [(10000,10000)] _ Mg (hle:=klR [(0,.eq (pI .i64 12) (pI .i64 t1))] (al1 (by simp only[q,c21,Leaf.ok,pm,Ly,Lz]) al0))
   exact w _ [(10000,10000)] _ Mg (hle:=klR [(0,.eq (pI .i64 0) (pI .i64 t1))] (al1 (by simp only[q,c21,Leaf.ok,pm,Ly,Lz]) al0))
  subst q;refine kB hS (A5 hS) Mg Mg 6 (.n (.a (((if (decide (0<(wrap .i64 ((wrap .i64 (c.tmod 4))-2)))) then 12 else 0):Int)==0)) (.a (l.1.Langs != (wrap .i64 (32+(wrap .i64 ((wrap .i64 (c.tmod 4))-2))))))) ?_;apply kI hS h<;>intro h
  .cases h;exact kR hS
  refine Ga hS Mg (A5 hS) h 0 (fun z5=>⟨[(4,pB z5)],[]⟩) (fun M6 k5 z h=>?_) (fun z5 h=>?_)
  .refine kG hS h (fun h=>?_) (fun h=>?_)
   .refine kC hS h (N7 hS hL) (fun a4 h=>?_);exact z _ [] _ a4 Mg h
   exact z _ [] _ false Mg h
  cases h;exact kR hS
 apply kI hS h<;>intro h
 .refine G8 hS Mg [1] ?_;obtain⟨a5,e15,h⟩:=B5 h;refine AF Mg (Eh hS hL e15) ?_;obtain⟨c27,h⟩:=E2 h;obtain⟨b1,e16,h⟩:=B5 h;refine Th [] c27 (FunO.le hS (args:=[(.p (.agg (A8 a5))),.p (.sl false 1 (wrap .i64 (256+(wrap .i64 ((wrap .i64 (c.tmod 4))-2)))).toNat (fun _=>[E9]))]) (by exact⟨.inl rfl,⟨Xi rfl (fun _ _=>Al2),trivial⟩⟩) (EN hS hL e16)) ?_;refine O5 Mg ?_;apply kI hS h<;>intro h
  .refine Ga hS Mg (A5 hS) h 0 (fun z6=>⟨[(4,pB z6)],[]⟩) (fun M7 k6 a0 h=>?_) (fun z6 h=>?_)
   .refine kG hS h (fun h=>?_) (fun h=>?_)
    .refine kC hS h (N7 hS hL) (fun a6 h=>?_);exact a0 _ [] _ a6 Mg h
    exact a0 _ [] _ false Mg h
   cases h;exact kR hS
  refine Ga hS Mg (A5 hS) h 0 (fun z7=>⟨[(4,pB z7)],[]⟩) (fun M8 k7 a1 h=>?_) (fun z7 h=>?_)
  .refine kG hS h (fun h=>?_) (fun h=>?_)
   .refine kC hS h (N7 hS hL) (fun a7 h=>?_);exact a1 _ [] _ a7 Mg h
   exact a1 _ [] _ false Mg h
  cases h;exact kR hS
 refine kC hS h (EO hS hL) (fun a8 h=>?_);refine I1 hS Mg 22 11000 (A8 a8) ?_;refine RH hS Mg 12000 [pI .u32 2,pI .u32 5] ?_;refine RH hS Mg 13000 [pI .u32 5,pI .u32 2] ?_;refine G8 hS Mg [0,1,2,7,8] ?_;refine AE (And.intro (And.intro (by decide:(3:Nat)<=3) (by decide:(2:Nat)<=2)) (by decide:(2:Nat)<=2)) (x:=.sl true 2 2 (D0 [pI .u32 0,pI .u32 0] [(0,A0 (⟨2,5⟩:Mh)),(1,A0 (⟨5,2⟩:Mh))])) ?_;refine AE Mg (x:=.sl true 1 1 (D0 [E9] [(0,[.sl true 2 2 (D0 [pI .u32 0,pI .u32 0] [(0,A0 (⟨2,5⟩:Mh)),(1,A0 (⟨5,2⟩:Mh))])])])) ?_;obtain⟨b2,e22,h⟩:=B5 h;refine AF Mg (FunO.le hS (args:=[.p (.sl true 1 1 (D0 [E9] [(0,[.sl true 2 2 (D0 [pI .u32 0,pI .u32 0] [(0,A0 (⟨2,5⟩:Mh)),(1,A0 (⟨5,2⟩:Mh))])])])),pN (wrap .i64 (32+(wrap .i64 ((wrap .i64 (c.tmod 4))-2))))]) (by exact⟨Xi rfl (fun i j=>match i,j with|0,_=>leC1 rfl (fun i j=>match i,j with|0,_=>rfl|1,_=>rfl|_+2,j=>Lq j (by omega))|_+1,j=>Lq j (by omega)),⟨.inl rfl,trivial⟩⟩) (R0 hS hL e22)) ?_;obtain⟨f,e23,h⟩:=B5 h;refine AF Mg (EN hS hL e23) ?_;refine O5 Mg ?_;refine I1 hS Mg 36 14000 [pI .i64 f.1.Langs,vSl 1 (cI .u64) f.1.Has] ?_;obtain⟨t2,r⟩:∃x:Int,x=((if (decide (0<(wrap .i64 ((wrap .i64 (c.tmod 4))-2)))) then 12 else 0):Int):=⟨_,rfl⟩;refine NH hS Mg (A5 hS) 0 ⟨[(13,.p (.ptr [pI .i64 f.1.Langs,vSl 1 (cI .u64) f.1.Has])),(8,pN t2),(7,pN f.2),(5,pN (wrap .i64 ((wrap .i64 (c.tmod 4))-2)))],[]⟩ (fun M9 a2=>?_) ?_
 .refine D1 hS Mg (b:=decide (0<(wrap .i64 ((wrap .i64 (c.tmod 4))-2)))) (fun c36=>?_) (fun c36=>?_)
  .exact a2 _ [] _ Mg (hle:=klR [(1,.eq (pI .i64 12) (pI .i64 t2))] (al1 (by simp only[r,c36,Leaf.ok,pm,Ly,Lz]) al0))
  exact a2 _ [] _ Mg (hle:=klR [(1,.eq (pI .i64 0) (pI .i64 t2))] (al1 (by simp only[r,c36,Leaf.ok,pm,Ly,Lz]) al0))
 subst r;refine kB hS (A5 hS) Mg Mg 23 (.o (.n (.a (((if (decide (0<(wrap .i64 ((wrap .i64 (c.tmod 4))-2)))) then 12 else 0):Int)==0)) (.a ((f.1.Has.n:Int) != (wrap .i64 (64+(wrap .i64 (2*(wrap .i64 ((wrap .i64 (c.tmod 4))-2))))))))) (.n (.a (((if (decide (0<(wrap .i64 ((wrap .i64 (c.tmod 4))-2)))) then 12 else 0):Int) != 0)) (.o (.a (f.1.Langs != 0)) (.a ((f.1.Has.n:Int) != 0))))) ?_;apply kI hS h<;>intro h
 .cases h;exact kR hS
 refine Ga hS Mg (A5 hS) h 0 (fun z8=>⟨[(4,pB z8)],[]⟩) (fun M10 k8 m h=>?_) (fun z8 h=>?_)
 .refine kG hS h (fun h=>?_) (fun h=>?_)
  .refine kC hS h (N7 hS hL) (fun a9 h=>?_);exact m _ [] _ a9 Mg h
  exact m _ [] _ false Mg h
 cases h;exact kR hS
end Go.AM
namespace Go.AM
set_option maxRecDepth 1000000
end Go.AM
namespace Go.AM
open Go.Proofs
end Go.AM
namespace Go.AM
open Go.Proofs
end Go.AM
namespace Go.AM
open Go.Proofs
end Go.AM
namespace Go.AM
open Go.Proofs
end Go.AM
namespace Go.AM
open Go.Proofs
end Go.AM
namespace Go.AM
open Go.Proofs
end Go.AM
namespace Go.AM
open Go.Proofs
end Go.AM
namespace Go.AM
open Go.Proofs
end Go.AM
namespace Go.AM
open Go.Proofs
end Go.AM
namespace Go.AM
open Go.Proofs
end Go.AM
namespace Go.AM
open Go.Proofs
abbrev sOf (x y:BitVec 32):Mh:=⟨(x.toNat:Int),(y.toNat:Int)⟩
def vB (p m:BitVec 32):Bool:=decide (∀i:Fin 32,¬(p.getLsbD i=true/\m.getLsbD i=true)/\(24<=i.1->p.getLsbD i=false/\m.getLsbD i=false))
def gB (p m:BitVec 32)(f:Nat):Int:=if p.getLsbD f then 1 else if m.getLsbD f then -1 else 0
end Go.AM
namespace Go.AM
open Go.Proofs
def vS (s:Mh):Prop:=∃p m:BitVec 32,s=sOf p m/\vB p m=true
def LX (p:Pat):Prop:= (0<=p.Kind/\p.Kind<=6)/\(p.Kind≠1->(p.Is.Plus=0/\p.Is.Minus=0)/\p.Not=false)/\(p.Kind≠3->p.Kind≠4->p.Kind≠5->p.L.n=0)/\(p.Kind≠5->p.Min=0/\p.Max=0) /\ (p.Kind=5->p.L.n=1/\0<=p.Min/\p.Min<=32/\(p.Max = -1 \/ (p.Min<=p.Max/\p.Max<=32)))/\vS p.Is
def chk:Nat->List Pat->Prop
 |0,l=>l=[]
 |_+1,[]=>True
 |k+1,p::l=>LX p/\chk k (p.L.toList++l)
end Go.AM
namespace Go.AM
open Go.Proofs
end Go.AM
namespace Go.AM
open Go.Proofs
end Go.AM
namespace Go.AM
open Go.Proofs
end Go.AM
namespace Go.AM
open Go.Proofs
end Go.AM
namespace Go.AM
open Go.Proofs
end Go.AM
namespace Go.AM
open Go.Proofs
end Go.AM
namespace Go.AM
open Go.Proofs
end Go.AM
namespace Go.AM
open Go.Proofs
end Go.AM
namespace Go.AM
open Go.Proofs
end Go.AM
namespace Go.AM
open Go.Proofs
end Go.AM
namespace Go.AM
open Go.Proofs
end Go.AM
namespace Go.AM
open Go.Proofs
abbrev NJ (y:Int):Bool:=((((decide (97<=y))&&(decide (y<=122)))||((decide (65<=y))&&(decide (y<=90))))||((decide (48<=y))&&(decide (y<=57))))||(y==45)
end Go.AM
namespace Go.AM
open Go.Proofs
def Fq (N:Nat)(l:Law):Prop:=Ba N l.Name=some true/\chk 40 [l.Left]/\chk 40 [l.Right]/\l.If.n<=4/\l.Out.n<=6/\l.If.n+l.Out.n≠0/\1<=l.Mode/\l.Mode<=3/\(∀i,i<l.If.n->vS (l.If.g i))/\∀i,i<l.Out.n->Aw N (l.Out.g i) l.If.n=some true
end Go.AM
namespace Go.AM
open Go.Proofs
end Go.AM
namespace Go.AM
open Go.Proofs
end Go.AM
namespace Go.AM
open Go.Proofs
end Go.AM
namespace Go.AM
open Go.Proofs
end Go.AM
namespace Go.AM
open Go.Proofs
end Go.AM
namespace Go.AM
open Go.Proofs
end Go.AM
namespace Go.AM
open Go.Proofs
def Jz (s:Str):Bool:=(decide (1<=s.length)&&decide (s.length<=24))&&s.all fun c=>NJ ((c.toNat:Nat):Int)
def Yv (t:Sl F0)(v:Nat):Prop:=(v=0->(t.g 0).Parent = -1)/\(0<v->0<=(t.g v).Parent/\(t.g v).Parent<v)/\Jz (t.g v).Name=true/\∀u,u<v->(t.g u).Name≠(t.g v).Name
def Z4 (t:Sl F0):Prop:=1<=t.n/\t.n<=63/\∀v,v<t.n->Yv t v
end Go.AM
namespace Go.AM
open Go.Proofs
def N8 (h:A6)(v:Nat):Sl Int:= if hp:0<=(h.Tree.g v).Parent/\(h.Tree.g v).Parent<v then (N8 h (h.Tree.g v).Parent.toNat).app (h.On.g v)else (Sl.nil:Sl Int).app (h.On.g v)
termination_by v
decreasing_by omega
def RO (h:A6):Prop:=∃v,v<h.On.n/\64<(N8 h v).n
def Ad9 (h:A6)(v:Nat):Prop:=∃k,k<(h.On.g v).n/\((h.On.g v).g k<0 \/ (h.Laws.n:Int)<=(h.On.g v).g k)
end Go.AM
namespace Go.AM
open Go.Proofs
def Ak7 (h:A6)(i:Nat):Prop:=∃u v,u<v/\v<i/\(h.Laws.g u).Name=(h.Laws.g v).Name
open Classical in
noncomputable def hres (N:Nat) (h:A6):Int:= if ¬Z4 h.Tree then 16 else if 64<h.Laws.n then 12 else if ∃i,i<h.Laws.n/\¬Fq N (h.Laws.g i)then 17 else if Ak7 h h.Laws.n then 6 else if h.On.n≠h.Tree.n then 2 else if RO h then 2 else if ∃v,v<h.On.n/\Ad9 h v then 3 else 0
end Go.AM
namespace Go.AM
open Go.Proofs
end Go.AM
namespace Go.AM
open Go.Proofs
end Go.AM
namespace Go.AM
open Go.Proofs
end Go.AM
namespace Go.AM
open Go.Proofs
end Go.AM
namespace Go.AM
open Go.Proofs
end Go.AM
namespace Go.AM
open Go.Proofs
end Go.AM
namespace Go.AM
open Go.Proofs
end Go.AM
namespace Go.AM
open Go.Proofs
end Go.AM
namespace Go.AM
open Go.Proofs
end Go.AM
namespace Go.AM
set_option maxRecDepth 1000000
end Go.AM
namespace Go.AM
open Go.Proofs
end Go.AM
namespace Go.AM
open Go.Proofs
end Go.AM
