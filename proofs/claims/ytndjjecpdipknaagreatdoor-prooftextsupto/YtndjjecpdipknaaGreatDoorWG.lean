/- Part 7. -/
import Derived.Test.YtndjjecpdipknaaGreatDoorWF
import Derived.Test.YtndjjecpdipknaaGreatDoorWE
set_option linter.defProp false
set_option linter.unusedSimpArgs false
set_option linter.unusedVariables false
set_option linter.unusedSectionVars false
namespace Go.AM
open Go.Proofs.Tryz
def Nj:(4:Nat)<=4:=by decide
def Ni:(3:Nat)<=3:=by decide
def Mo:(1:Nat)<=1:=by decide
abbrev Lh(z:Int):Sl Int:=(Sl.of [IntKind.wrap .u8 z,IntKind.wrap .u8 (shI .shr .u32 z 8),IntKind.wrap .u8 (shI .shr .u32 z 16)]:Sl Int)
variable {N:Nat}
open IntKind (wrap)
def BM5:=@Option.ite_none_right_eq_some
open Go.Proofs
set_option maxRecDepth 10000
set_option maxHeartbeats 2000000
variable {S:U8}(Z:G0 S Tryz.prog) (Y:JU S)
include Z Y
def Jc (N:Nat)(a:Int):Option Bool:= some (((((decide (97<=a))&&(decide (a<=122)))||((decide (65<=a))&&(decide (a<=90))))||((decide (48<=a))&&(decide (a<=57))))||(a==45))
theorem Yy {b:Int}{y:Bool}(h:Jc N b=some y) :Sb S Od [.p (pI .u8 b)] [] (pB y) ([]) []:=by unfold Jc at h;refine A2 Z func103 ?_;refine kB Z (A4 Z) Lg Lg 23 (.o (.o (.o (.n (.a (decide (97<=b))) (.a (decide (b<=122)))) (.n (.a (decide (65<=b))) (.a (decide (b<=90))))) (.n (.a (decide (48<=b))) (.a (decide (b<=57))))) (.a (b==45))) ?_;cases h;exact kR Z
def CR (N:Nat)(a:Str):Option Bool:= R6 N (λb (x1:Int)=>if (decide (x1<(a.length:Int))) then if ((0:Int)<=x1/\x1<(a.length:Int))then (Jc N (D7 a x1)).bind λy3=>if (!y3) then some false else b (wrap .i64 (x1+1)) else none else some ((decide (1<=(a.length:Int)))&&(decide ((a.length:Int)<=24)))) 0
theorem Nr {b:Str}{y:Bool}(h:CR N b=some y) :Sb S TQ [.p (.str b)] [] (pB y) ([]) []:=by
 unfold CR at h;refine A2 Z func66 ?_;refine F1 Z Lg h (λx1=>⟨[(3,pN x1),(0,.p (.str b))],[]⟩) (ids:=[]) (λ_ _ _ _ _ c x1 d h=>?_);apply kI Z h<;>intro h
 .obtain⟨c8,h⟩:=B9 h;obtain⟨y3,e3,h⟩:=A9 h;refine B0 Z [] c8 (Yy Z Y e3) ?_;refine Su Z h fun h=>?_;exact d _ [] _ _ Lg h
 refine kB Z (A4 Z) Lg Lg 4 (.n (.a (decide (1<=(b.length:Int)))) (.a (decide ((b.length:Int)<=24)))) ?_;cases h;exact kR Z
def BR (N:Nat)(a:Sl Node):Option Int:= if ((decide ((a.n:Int)<1))=false->((decide (63<(a.n:Int)))=false->((0:Int)<=0/\0<(a.n:Int))))then if (((decide ((a.n:Int)<1))||(decide (63<(a.n:Int))))||((a.g 0).Sk != (-1))) then some 16 else R6 N (λb (x3:Int)=>if (decide (x3<(a.n:Int))) then lt (λ(z3:Bool)=>if z3 then some 16 else R6 N (λc (x7:Int)=>if (decide (x7<x3)) then if (((0:Int)<=x7/\x7<(a.n:Int))/\((0:Int)<=x3/\x3<(a.n:Int)))then if (((a.g x7.toNat).Name==(a.g x3.toNat).Name) != false) then some 16 else c (wrap .i64 (x7+1)) else none else b (wrap .i64 (x3+1))) 0) λk3=>if (decide (0<x3)) then if ((0:Int)<=x3/\x3<(a.n:Int))then if (decide ((a.g x3.toNat).Sk<0)) then k3 true else if ((0:Int)<=x3/\x3<(a.n:Int))then if (decide (x3<=(a.g x3.toNat).Sk)) then k3 true else if ((0:Int)<=x3/\x3<(a.n:Int))then (CR N (a.g x3.toNat).Name).bind λd=>k3 (!d) else none else none else none else if ((0:Int)<=x3/\x3<(a.n:Int))then (CR N (a.g x3.toNat).Name).bind λf=>k3 (!f) else none else some 0) 0 else none
theorem Ra {c:Sl Node}{y:Int}(h:BR N c=some y) :Sb S Qm [.p (vSl 2 D8 c)] [] (pN y) ([]) []:=by
 unfold BR at h;refine A2 Z func37 ?_;obtain⟨c1,h⟩:=B9 h;refine kB Z (A4 Z) Lg c1 11 (.o (.o (.a (decide ((c.n:Int)<1))) (.a (decide (63<(c.n:Int))))) (.a ((c.g 0).Sk != (-1)))) ?_;refine Su Z h fun h=>?_;refine F1 Z Lg h (λx3=>⟨[(3,pN x3),(0,.p (vSl 2 D8 c))],[]⟩) (ids:=[]) (λ_ _ _ _ _ f x3 i h=>?_);apply kI Z h<;>intro h
 .refine Ii Z Lg (A4 Z) h 0 (λz3=>⟨[(53,pB z3),(3,pN x3),(0,.p (vSl 2 D8 c))],[]⟩) (λM3 k3 d h=>?_) (λz3 h=>?_)
  .refine kG Z h (λh=>?_) (λh=>?_)
   .obtain⟨c71,h⟩:=B9 h;refine ER Z c71 (b:=decide ((c.g x3.toNat).Sk<0)) (λc72=>?_) (λc72=>?_)
    .replace h:=itT c72 h;exact d _ [] _ _ Lg h
    replace h:=itF c72 h;obtain⟨c73,h⟩:=B9 h;refine ER Z c73 (b:=decide (x3<=(c.g x3.toNat).Sk)) (λc74=>?_) (λc74=>?_)
    .replace h:=itT c74 h;exact d _ [] _ _ Lg h
    replace h:=itF c74 h;obtain⟨c75,h⟩:=B9 h;obtain⟨m,e11,h⟩:=A9 h;refine B0 Z [] c75 (Nr Z Y e11) ?_;exact d _ [] _ _ Lg h
   obtain⟨c76,h⟩:=B9 h;obtain⟨q,e12,h⟩:=A9 h;refine B0 Z [] c76 (Nr Z Y e12) ?_;exact d _ [] _ _ Lg h
  refine Su Z h fun h=>?_;refine F1 Z Lg h (λx7=>⟨[(4,pN x7),(3,pN x3),(0,.p (vSl 2 D8 c))],[]⟩) (ids:=[]) (λ_ _ _ _ _ j x7 l h=>?_);apply kI Z h<;>intro h
  .refine C4 Z Lg [2,4,7,9] ?_;obtain⟨c85,h⟩:=B9 h;refine C8 c85 ?_;refine Su Z h fun h=>?_;exact l _ [] _ _ Lg h
  exact i _ [] _ _ Lg h
 cases h;exact kR Z
def Hu (N:Nat)(a:Int):Option Bool:= some (((((decide (97<=a))&&(decide (a<=122)))||((decide (65<=a))&&(decide (a<=90))))||((decide (48<=a))&&(decide (a<=57))))||(a==45))
theorem VU {b:Int}{y:Bool}(h:Hu N b=some y) :Sb S Mq [.p (pI .u8 b)] [] (pB y) ([]) []:=by unfold Hu at h;refine A2 Z func131 ?_;refine kB Z (A4 Z) Lg Lg 23 (.o (.o (.o (.n (.a (decide (97<=b))) (.a (decide (b<=122)))) (.n (.a (decide (65<=b))) (.a (decide (b<=90))))) (.n (.a (decide (48<=b))) (.a (decide (b<=57))))) (.a (b==45))) ?_;cases h;exact kR Z
def DE (N:Nat)(a:Str):Option Bool:= R6 N (λb (x1:Int)=>if (decide (x1<(a.length:Int))) then if ((0:Int)<=x1/\x1<(a.length:Int))then (Hu N (D7 a x1)).bind λy3=>if (!y3) then some false else b (wrap .i64 (x1+1)) else none else some ((decide (0<(a.length:Int)))&&(decide ((a.length:Int)<=24)))) 0
theorem Yz {b:Str}{y:Bool}(h:DE N b=some y) :Sb S Oc [.p (.str b)] [] (pB y) ([]) []:=by
 unfold DE at h;refine A2 Z func86 ?_;refine F1 Z Lg h (λx1=>⟨[(6,pN x1),(5,pN (b.length:Int)),(0,.p (.str b))],[]⟩) (ids:=[]) (λ_ _ _ _ _ c x1 d h=>?_);apply kI Z h<;>intro h
 .obtain⟨c8,h⟩:=B9 h;obtain⟨y3,e3,h⟩:=A9 h;refine B0 Z [] c8 (VU Z Y e3) ?_;refine Su Z h fun h=>?_;exact d _ [] _ _ Lg h
 refine kB Z (A4 Z) Lg Lg 4 (.n (.a (decide (0<(b.length:Int)))) (.a (decide ((b.length:Int)<=24)))) ?_;cases h;exact kR Z
def U4 (N:Nat)(a:Sl Node):Option Int:= if (((a.n:Int)==0)||(decide (63<(a.n:Int)))) then some 16 else Co N (λb (x2:List (Str×Bool)) (x3:Int)=>if (decide (x3<(a.n:Int))) then if ((0:Int)<=x3/\x3<(a.n:Int))then lt (λ(z3:Bool)=>if z3 then some 16 else b (Fz eqS (a.g x3.toNat).Name true x2) (wrap .i64 (x3+1))) λk3=>if (decide (x3<=(a.g x3.toNat).Sk)) then k3 true else if (decide ((a.g x3.toNat).Sk<(if 0<(wrap .i64 (x3-1))then 0 else (wrap .i64 (x3-1))))) then k3 true else (DE N (a.g x3.toNat).Name).bind λy6=>if (!y6) then k3 true else Ih (K6 eqS (a.g x3.toNat).Name x2) (k3 false) λv6=>k3 v6 else none else some 0) [] 0
theorem FH {b:Sl Node}{y:Int}(h:U4 N b=some y) :Sb S NY [.p (vSl 2 D8 b)] [] (pN y) ([]) []:=by
 unfold U4 at h;refine A2 Z func53 ?_;refine kB Z (A4 Z) Lg Lg 4 (.o (.a ((b.n:Int)==0)) (.a (decide (63<(b.n:Int))))) ?_;refine Su Z h fun h=>?_;refine H7 Z Lg h (λx2 x3=>⟨[(17,pN x3),(16,pN (b.n:Int)),(15,.p (vSl 2 D8 b)),(3,.Se 15000)],[(15000,oM PV.str PV.bb x2)]⟩) (ids:=[(15000,15000)]) (λ_ _ _ _ _ d x2 x3 f h=>?_);apply kI Z h<;>intro h
 .obtain⟨c25,h⟩:=B9 h;refine Ii Z (Qu c25 Nh) (A4 Z) h 0 (λz3=>⟨[(45,pB z3),(17,pN x3),(16,pN (b.n:Int)),(15,.p (vSl 2 D8 b)),(5,.reg 6000 0),(3,.Se 15000)],[(15000,oM PV.str PV.bb x2),(6000,.cells [pN (b.g x3.toNat).Sk,.p (.str (b.g x3.toNat).Name)])]⟩) (λM3 k3 c h=>?_) (λz3 h=>?_)
  .refine kG Z h (λh=>?_) (λh=>?_)
   .exact c _ (Qp [6000,15000]) _ _ Lg h
   refine kG Z h (λh=>?_) (λh=>?_)
   .exact c _ (Qp [6000,15000]) _ _ Lg h
   refine kC Z h (Yz Z Y) (λy6 h=>?_);refine kG Z h (λh=>?_) (λh=>?_)
   .exact c _ (Qp [6000,15000]) _ _ Lg h
   rcases o6:K6 eqS (b.g x3.toNat).Name x2 with _|v6
   .replace h:=Zj o6 h;refine ZZ Z Lg H4 Ba4 PV.str PV.bb eqS o6 (.v (.bool false)) Lg ?_;exact c _ (Qp [6000,15000]) _ _ Lg h
   replace h:=Xr o6 h;refine ZY Z Lg H4 Ba4 PV.str PV.bb eqS o6 Lg ?_;exact c _ (Qp [6000,15000]) _ v6 Lg h
  refine Su Z h fun h=>?_;refine As1 Z Lg H4 PV.str PV.bb eqS (b.g x3.toNat).Name true x2 Lg ?_;exact f _ [(15000,15000)] _ _ _ Lg h
 cases h;exact kR Z
def Au (N:Nat)(a:Si):Option Int:= if ((0:Int)<=(a.On.n:Int)/\(a.On.n:Int)<=(a.On.n:Int)/\(a.On.n:Int)*8<=140737488355328/\(a.On.n:Int)<=140737488355328)then AZ3 N (λc (x4:Sl Int) (x5:Bool) (x6:Int)=>if (decide (x6<(a.On.n:Int))) then if ((((0:Int)<=x6/\x6<(a.On.n:Int))/\((0:Int)<=x6/\x6<(x4.n:Int)))/\x6.toNat<x4.n)then if ((0:Int)<=x6/\x6<(a.Tree.n:Int))then lt (λ(z3:Sl Int)=>if (((0:Int)<=x6/\x6<(z3.n:Int))/\x6.toNat<z3.n)then if (decide (64<(z3.g x6.toNat))) then some 2 else Co N (λd (f:Bool) (b:Int)=>if (decide (b<((a.On.g x6.toNat).n:Int))) then if ((0:Int)<=b/\b<((a.On.g x6.toNat).n:Int))then d ((f||(decide (((a.On.g x6.toNat).g b.toNat)<0)))||(decide ((a.Laws.n:Int)<=((a.On.g x6.toNat).g b.toNat)))) (wrap .i64 (b+1)) else none else c z3 f (wrap .i64 (x6+1))) x5 0 else none) λk3=>if (decide (0<=(a.Tree.g x6.toNat).Sk)) then if (((((((0:Int)<=x6/\x6<((x4.upd x6.toNat ((a.On.g x6.toNat).n:Int)).n:Int))/\x6.toNat<(x4.upd x6.toNat ((a.On.g x6.toNat).n:Int)).n)/\((0:Int)<=(a.Tree.g x6.toNat).Sk/\(a.Tree.g x6.toNat).Sk<((x4.upd x6.toNat ((a.On.g x6.toNat).n:Int)).n:Int)))/\(a.Tree.g x6.toNat).Sk.toNat<(x4.upd x6.toNat ((a.On.g x6.toNat).n:Int)).n)/\((0:Int)<=x6/\x6<((x4.upd x6.toNat ((a.On.g x6.toNat).n:Int)).n:Int)))/\x6.toNat<(x4.upd x6.toNat ((a.On.g x6.toNat).n:Int)).n)then k3 ((x4.upd x6.toNat ((a.On.g x6.toNat).n:Int)).upd x6.toNat (wrap .i64 (((x4.upd x6.toNat ((a.On.g x6.toNat).n:Int)).g x6.toNat)+((x4.upd x6.toNat ((a.On.g x6.toNat).n:Int)).g (a.Tree.g x6.toNat).Sk.toNat)))) else none else k3 (x4.upd x6.toNat ((a.On.g x6.toNat).n:Int)) else none else none else if x5 then some 3 else some 0) (Sl.rep (a.On.n:Int).toNat 0:Sl Int) false 0 else none
theorem Rb {d:Si}{y:Int}(h:Au N d=some y) :Sb S IO [.p (.agg (A8 d))] [] (pN y) ([]) []:=by
 unfold Au at h;refine A2 Z func127 ?_;refine F0 Z Lg 2 2000 (A8 d) ?_;obtain⟨c1,h⟩:=B9 h;refine Tz Z c1 h (λx4 x5 x6=>⟨[(17,pN x6),(16,pN (d.On.n:Int)),(15,.p (vSl 1 (cL 1 (cI .i64)) d.On)),(4,pB x5),(3,.vec 14000),(1,.p (.ptr (A8 d)))],[(14000,oV D1 1 (cI .i64) x4 false)]⟩) (ids:=[(14000,14000)]) (λ_ _ _ _ _ q x4 x5 x6 r h=>?_);apply kI Z h<;>intro h
 .obtain⟨c35,h⟩:=B9 h;refine N9 Z (Qu (Qu c35.1.1 c35.1.2) (Qu (rfl:(1:Nat)=1) (Qu c35.2 Mo))) 27 ⟨[(17,pN x6),(16,pN (d.On.n:Int)),(15,.p (vSl 1 (cL 1 (cI .i64)) d.On)),(6,.p (vSl 1 (cI .i64) (d.On.g x6.toNat))),(5,pN x6),(4,pB x5),(3,.vec 14000),(1,.p (.ptr (A8 d)))],[(14000,.vec D1 1 (x4.upd x6.toNat ((d.On.g x6.toNat).n:Int)).n (λi=>cI .i64 ((x4.upd x6.toNat ((d.On.g x6.toNat).n:Int)).g i)) false)]⟩ (ids:=[(14000,14000)]) ?_ (hle:=klR [(7,.fn x4.n (x4.upd x6.toNat ((d.On.g x6.toNat).n:Int)).n (λl=>if l=x6.toNat then splice ((λi=>cI .i64 (x4.g i)) l) 0 [pI .i64 ((d.On.g x6.toNat).n:Int)]else (λi=>cI .i64 (x4.g i)) l) (λi=>cI .i64 ((x4.upd x6.toNat ((d.On.g x6.toNat).n:Int)).g i)))] (al1 ⟨rfl,AZ4 (c:=cI .i64) (v:=x4) (x:=((d.On.g x6.toNat).n:Int)) same (λ_=>by first|rfl|(dsimp only;split<;>rfl))⟩ al0));obtain⟨c36,h⟩:=B9 h;refine Ii Z c36 (A4 Z) h 0 (λz3=>⟨[(17,pN x6),(16,pN (d.On.n:Int)),(15,.p (vSl 1 (cL 1 (cI .i64)) d.On)),(6,.p (vSl 1 (cI .i64) (d.On.g x6.toNat))),(5,pN x6),(4,pB x5),(3,.vec 14000),(1,.p (.ptr (A8 d)))],[(14000,oV D1 1 (cI .i64) z3 false)]⟩) (λM3 k3 m h=>?_) (λz3 h=>?_)
  .apply kI Z h<;>intro h
   .refine ES Z Lg ?_;obtain⟨c41,h⟩:=B9 h;refine C8 (Qu (Qu (Qu (Qu (Qu c41.1.1.1.1.1 c41.1.1.1.1.2) c41.1.1.1.2) c41.1.1.2) c41.1.2) (Qu (rfl:(1:Nat)=1) (Qu c41.2 Mo))) ?_;exact m _ [(14000,14000)] _ _ Lg h (hle:=klR [(7,.fn (x4.upd x6.toNat ((d.On.g x6.toNat).n:Int)).n ((x4.upd x6.toNat ((d.On.g x6.toNat).n:Int)).upd x6.toNat (wrap .i64 (((x4.upd x6.toNat ((d.On.g x6.toNat).n:Int)).g x6.toNat)+((x4.upd x6.toNat ((d.On.g x6.toNat).n:Int)).g (d.Tree.g x6.toNat).Sk.toNat)))).n (λl=>if l=x6.toNat then splice ((λi=>cI .i64 ((x4.upd x6.toNat ((d.On.g x6.toNat).n:Int)).g i)) l) 0 [pI .i64 (wrap .i64 (((x4.upd x6.toNat ((d.On.g x6.toNat).n:Int)).g x6.toNat)+((x4.upd x6.toNat ((d.On.g x6.toNat).n:Int)).g (d.Tree.g x6.toNat).Sk.toNat)))]else (λi=>cI .i64 ((x4.upd x6.toNat ((d.On.g x6.toNat).n:Int)).g i)) l) (λi=>cI .i64 (((x4.upd x6.toNat ((d.On.g x6.toNat).n:Int)).upd x6.toNat (wrap .i64 (((x4.upd x6.toNat ((d.On.g x6.toNat).n:Int)).g x6.toNat)+((x4.upd x6.toNat ((d.On.g x6.toNat).n:Int)).g (d.Tree.g x6.toNat).Sk.toNat)))).g i)))] (al1 ⟨rfl,AZ4 (c:=cI .i64) (v:=x4.upd x6.toNat ((d.On.g x6.toNat).n:Int)) (x:=wrap .i64 (((x4.upd x6.toNat ((d.On.g x6.toNat).n:Int)).g x6.toNat)+((x4.upd x6.toNat ((d.On.g x6.toNat).n:Int)).g (d.Tree.g x6.toNat).Sk.toNat))) same (λ_=>by first|rfl|(dsimp only;split<;>rfl))⟩ al0))
   exact m _ [(14000,14000)] _ _ Lg h
  obtain⟨c42,h⟩:=B9 h;refine C7 Z c42 (b:=decide (64<(z3.g x6.toNat))) (λc43=>?_) (λc43=>?_)
  .replace h:=itT c43 h;cases h;exact kR Z
  replace h:=itF c43 h;refine H7 Z Lg h (λf j=>⟨[(52,pN j),(51,pN ((d.On.g x6.toNat).n:Int)),(50,.p (vSl 1 (cI .i64) (d.On.g x6.toNat))),(17,pN x6),(16,pN (d.On.n:Int)),(15,.p (vSl 1 (cL 1 (cI .i64)) d.On)),(4,pB f),(3,.vec 14000),(1,.p (.ptr (A8 d)))],[(14000,oV D1 1 (cI .i64) z3 false)]⟩) (ids:=[(14000,14000)]) (λ_ _ _ _ _ s f j t h=>?_);apply kI Z h<;>intro h
  .obtain⟨c49,h⟩:=B9 h;refine kB Z (A4 Z) c49 Lg 10 (.o (.o (.a f) (.a (decide (((d.On.g x6.toNat).g j.toNat)<0)))) (.a (decide ((d.Laws.n:Int)<=((d.On.g x6.toNat).g j.toNat))))) ?_;exact t _ [(14000,14000)] _ _ _ Lg h
  exact r _ [(14000,14000)] _ z3 f _ Lg h
 refine Su Z h fun h=>?_;cases h;exact kR Z
def P5 (N:Nat)(a:Si):Option Int:= (U4 N a.Tree).bind λy1=>if (y1 != 0) then some 16 else if (decide (64<(a.Laws.n:Int))) then some 12 else Co N (λb (x1:List (Str×Int)) (x2:Int)=>if (decide (x2<(a.Laws.n:Int))) then if ((0:Int)<=x2/\x2<(a.Laws.n:Int))then (At N (a.Laws.g x2.toNat)).bind λy4=>if (y4 != 0) then some 17 else Ih (K6 eqS (a.Laws.g x2.toNat).Name x1) (b (Fz eqS (a.Laws.g x2.toNat).Name (wrap .i64 (0+1)) x1) (wrap .i64 (x2+1))) λv3=>b (Fz eqS (a.Laws.g x2.toNat).Name (wrap .i64 (v3+1)) x1) (wrap .i64 (x2+1)) else none else if (decide (((CC PV.str (pI .i64) x1).length:Int)<(a.Laws.n:Int))) then some 6 else if ((a.On.n:Int) != (a.Tree.n:Int)) then some 2 else (Au N a).bind λy5=>some y5) [] 0
theorem Fe {a:Si}{y:Int}(h:P5 N a=some y) :Sb S II [.p (.agg (A8 a))] [] (pN y) ([]) []:=by
 unfold P5 at h;refine A2 Z func82 ?_;refine kC Z h (FH Z Y) (λy1 h=>?_);refine Su Z h fun h=>?_;refine Su Z h fun h=>?_;refine H7 Z Lg h (λx1 x2=>⟨[(18,pN x2),(17,pN (a.Laws.n:Int)),(16,.p (vSl 18 B6 a.Laws)),(3,.Se 15000),(1,.reg 2000 0)],[(15000,oM PV.str (pI .i64) x1),(2000,.cells ((A8 a).map .p))]⟩) (ids:=(Qp [2000,15000])) (λ_ _ _ _ _ c x1 x2 b h=>?_);apply kI Z h<;>intro h
 .obtain⟨c10,h⟩:=B9 h;obtain⟨y4,e4,h⟩:=A9 h;refine B0 Z [] (Qu c10 Nl) (Ll Z Y e4) ?_;refine Su Z h fun h=>?_;rcases o3:K6 eqS (a.Laws.g x2.toNat).Name x1 with _|v3
  .replace h:=Zj o3 h;refine ZZ Z Lg H4 D1 PV.str (pI .i64) eqS o3 (pI .i64 0) Lg ?_;refine As1 Z Lg H4 PV.str (pI .i64) eqS (a.Laws.g x2.toNat).Name (wrap .i64 (0+1)) x1 Lg ?_;exact b _ (Qp [2000,15000]) _ _ _ Lg h
  replace h:=Xr o3 h;refine ZY Z Lg H4 D1 PV.str (pI .i64) eqS o3 Lg ?_;refine As1 Z Lg H4 PV.str (pI .i64) eqS (a.Laws.g x2.toNat).Name (wrap .i64 (v3+1)) x1 Lg ?_;exact b _ (Qp [2000,15000]) _ _ _ Lg h
 refine Su Z h fun h=>?_;refine Su Z h fun h=>?_;refine kC Z h (Rb Z Y) (λy5 h=>?_);cases h;exact kR Z
def Dj (N:Nat)(b:Si)(a:Int):Option Bool:= some ((decide (0<=a))&&(decide (a<(b.Tree.n:Int))))
theorem KH {c:Si}{b:Int}{y:Bool}(h:Dj N c b=some y) :Sb S Ko [.p (.agg (A8 c)),pN b] [] (pB y) ([]) []:=by unfold Dj at h;refine A2 Z func94 ?_;refine kB Z (A4 Z) Lg Lg 6 (.n (.a (decide (0<=b))) (.a (decide (b<(c.Tree.n:Int))))) ?_;cases h;exact kR Z
def Ff (N:Nat)(q0:Int)(q1:Sl Node):Option (List (Int)):= Co N (λa (x1:Int) (x2:Sl Int)=>if (decide (0<=x1)) then if ((Qt 8 (x2.n+(Sl.of [x1]:Sl Int).n))/\((0:Int)<=x1/\x1<(q1.n:Int)))then a (q1.g x1.toNat).Sk (x2.push x1) else none else R6 N (λb (x3:Int)=>if (decide (0<=x3)) then if (((0:Int)<=x3/\x3<(x2.n:Int))/\x3.toNat<x2.n)then JQ (x2.g x3.toNat) (b (wrap .i64 (x3-1))) else none else some []) (wrap .i64 ((x2.n:Int)-1))) q0 Q5
theorem Rc {q0:Int}{q1:Sl Node}{L:List (Int)}(h:Ff N q0 q1=some L) :EP S EY [] [.reg 0 0,.reg 1 0] [.cells [pN q0],.cells [.p (vSl 2 D8 q1)]] (L.map (λ(x:Int)=>[pI .i64 x])):=by
 unfold Ff at h;refine Ek Z func195 ?_;refine UZ Z Lg h (λx1 x2 L1=>⟨[(4,.vec 5500),(2,.reg 1 0),(1,.reg 0 0),(0,.yf 2)],[(5500,oV D1 1 (cI .i64) x2 false),(2,.yld (L1.map (λ(x:Int)=>[pI .i64 x])) true),(1,.cells [.p (vSl 2 D8 q1)]),(0,.cells [pN x1])]⟩) (ids:=(Qp [0,1,2])) (λ_ _ _ _ _ d x1 x2 L1 f h=>?_);apply kI Z h<;>intro h
 .obtain⟨c4,h⟩:=B9 h;exact f _ [(0,0),(1,1),(2,2),(5500,17000)] _ (q1.g x1.toNat).Sk (x2.push x1) L1 (Qu (Qu Nm c4.1) c4.2) h (hle:=kl1 0 (Ci (cI .i64) x2 x1 [pI .i64 0]))
 refine CM Z Lg h (λx3 L2=>⟨[(5,pN x3),(4,.vec 5500),(0,.yf 2)],[(5500,oV D1 1 (cI .i64) x2 false),(2,.yld (L2.map (λ(x:Int)=>[pI .i64 x])) true),(1,.cells [.p (vSl 2 D8 q1)]),(0,.cells [pN x1])]⟩) (ids:=(Qp [0,1,2,5500])) (λ_ _ _ _ _ i x3 L2 j h=>?_);apply kI Z h<;>intro h
 .obtain⟨c14,h⟩:=B9 h;obtain⟨L5,rfl,c⟩:=Ng h;replace h:=c;refine CL Z c14 (ys:=(λ(x:Int)=>[pI .i64 x]) (x2.g x3.toNat)) (rest:=L5.map (λ(x:Int)=>[pI .i64 x])) ?_ ?_
  .refine C7 Z Lg (b:=false) (λc15=>?_) (λc15=>?_)
   .exact Bool.noConfusion ((rfl:false=false).symm.trans c15)
   exact j _ (Qp [0,1,2,5500]) _ _ L5 Lg h
  refine C7 Z Lg (b:=true) (λc16=>?_) (λc16=>?_)
  .exact kO Z Lg (a:=.tup []) (objs:=[(.cells [pN x1]),.cells [.p (vSl 2 D8 q1)],.yld [] false]) [0,1,2] ⟨false,rfl,rfl,_,rfl⟩
  exact Bool.noConfusion (Nm.symm.trans c16)
 obtain rfl:=B1 h;exact kO Z Lg (a:=.tup []) (objs:=[(.cells [pN x1]),.cells [.p (vSl 2 D8 q1)],.yld [] true]) [0,1,2] ⟨true,rfl,rfl,_,rfl⟩
def Hv (N:Nat)(a:Sl Node)(b:Int):Option (Int×(Sl Node)):= some (b,a)
theorem VV {a:Sl Node}{b:Int}{y:Int×(Sl Node)}(h:Hv N a b=some y) :Sb S Ms [.p (vSl 2 D8 a),pN b] [] (.clo EY [] [.reg 0 0,.reg 1 0]) ([.cells [pN y.1],.cells [.p (vSl 2 D8 y.2)]]) []:=by unfold Hv at h;refine A2 Z func156 ?_;obtain rfl:=B1 h;exact kO Z Lg [4000,3000]
def Ge (N:Nat)(a:Si)(c:Int):Option ((Sl Int)×Int):= (P5 N a).bind λy1=>if (y1 != 0) then some (Q5,y1) else (Dj N a c).bind λy2=>if (!y2) then some (Q5,3) else (Hv N a.Tree c).bind λy3=>(Ff N y3.1 y3.2).bind λL1=>Cp L1 (λb (x1:Int) (z1:Sl Int)=>if (((0:Int)<=x1/\x1<(a.On.n:Int))/\(Qt 8 (z1.n+(a.On.g x1.toNat).n)))then b (z1.app (a.On.g x1.toNat)) else none) (λ(z1:Sl Int)=>some (z1,0)) Q5
theorem SI {a:Si}{b:Int}{y:(Sl Int)×Int}(h:Ge N a b=some y) :Sb S Ks [.p (.agg (A8 a)),pN b] [] (.tup [.vec 0,pN y.2]) ([oV D1 1 (cI .i64) y.1 true]) []:=by
 unfold Ge at h;refine A2 Z func115 ?_;refine F0 Z Lg 4 3000 (A8 a) ?_;obtain⟨y1,e1,h⟩:=A9 h;refine B0 Z [] Ni (Fe Z Y e1) ?_;apply kI Z h<;>intro h
 .obtain rfl:=B1 h;exact kO Z Lg [5700]
 obtain⟨y2,e2,h⟩:=A9 h;refine B0 Z [] Ni (KH Z Y e2) ?_;apply kI Z h<;>intro h
 .obtain rfl:=B1 h;exact kO Z Lg [5700]
 refine kC Z h (VV Z Y) (λy3 h=>?_);obtain⟨L1,e4,h⟩:=A9 h;refine IB Z Lg [22000,22001] [7,2] 901 (λz1=>⟨[(7,.reg 8000 0),(2,.p (.ptr (A8 a)))],[(8500,oV D1 1 (cI .i64) z1 false),(8000,.cells [.vec 8500])]⟩) (idl:=[(8000,8000)]) h (Rc Z Y e4) (λ_=>by kernel_rfl) (λ_=>by kernel_rfl) (λ_=>by kernel_rfl) (λ_=>by kernel_rfl) (λx1 _ c z1 d h=>?_) (λz1 h=>?_)
 .refine Ma Z Lg ?_;refine C4 Z Lg [2,4,5] ?_;obtain⟨c5,h⟩:=B9 h;refine C8 c5 ?_;exact d _ [(901,901),(8000,8000),(8500,30000)] _ _ Lg h (hle:=kl1 0 (Bx8 (cI .i64) z1 (a.On.g x1.toNat)))
 obtain rfl:=B1 h;exact kO Z Lg [8500]
def T2 (rec:Pat->Option Pat)(N:Nat)(a:Pat):Option Pat:= R6 N (λb (x2:Int)=>if (decide (x2<(a.L.n:Int))) then if ((0:Int)<=x2/\x2<(a.L.n:Int))then (rec (a.L.g x2.toNat)).bind λy3=>if (Qt 64 (x2.toNat+1))then b (wrap .i64 (x2+1)) else none else none else if x2.toNat=a.L.n then some a else none) 0
def S3:Nat->Pat->Option Pat
 |0=>λ_=>none
 |N+1=>T2 (S3 N) N
omit Z Y in
theorem wrapN {x:Int}(h:0<=x)(a:x.toNat+1<=140737488355328):(wrap .i64 (x+1)).toNat=x.toNat+1:=by have h1:(x+1) % (2 ^ 64:Int)=x+1:=BI9 (by omega) (by omega);unfold wrap;simp only[IntKind.bits,IntKind.signed,h1];rw[Hj (by simp;omega)];omega
theorem MG {rec:Pat->Option Pat}(b:∀{a:Pat}{y:Pat},rec a=some y->Sb S AN [.p (.agg (C0 a))] [] (.p (.agg (C0 a))) ([]) []){a:Pat}{y:Pat}(h:T2 rec N a=some y) :Sb S AN [.p (.agg (C0 a))] [] (.p (.agg (C0 a))) ([]) []:=by
 unfold T2 at h;refine A2 Z func138 ?_;refine N9 Z Lg 8 ⟨[(7,.p (vSl 7 C0 a.L)),(3,.p I4),(2,.reg 3000 0),(1,.reg 2000 0)],[(3000,.cells [pN 0,pU 0,pU 0,.p (.v (.bool false)),pN 0,pN 0,.p I4]),(2000,.cells ((C0 a).map .p))]⟩ (ids:=(Qp [2000,3000])) ?_ (hle:=klR [(0,.fn a.L.n a.L.n (Du a) (λi=>C0 (a.L.g i)))] (al1 ⟨rfl,V8 a⟩ al0));refine F1 Z Lg h (λx2=>⟨[(9,pN x2),(8,pN (a.L.n:Int)),(7,.p (vSl 7 C0 a.L)),(3,.vec 4500),(2,.reg 3000 0),(1,.reg 2000 0)],[(4500,.vec GE 7 x2.toNat (λi=>C0 (a.L.g i)) false),(3000,.cells [pN 0,pU 0,pU 0,.p (.v (.bool false)),pN 0,pN 0,.p I4]),(2000,.cells ((C0 a).map .p))]⟩) (ids:=(Qp [2000,3000])) (λ_ _ _ _ _ c x2 d h=>?_);apply kI Z h<;>intro h
 .obtain⟨c6,h⟩:=B9 h;obtain⟨y3,e3,h⟩:=A9 h;refine B0 Z [] (Qu c6 Nk) (b e3) ?_;obtain⟨c7,h⟩:=B9 h;exact d _ [(2000,2000),(3000,3000),(4500,18000)] _ (wrap .i64 (x2+1)) (Qu Nm c7) h (hle:=kl1 3 (L:=.fn (x2.toNat+1) (wrap .i64 (x2+1)).toNat (Ey x2.toNat (λi=>C0 (a.L.g i)) (H0 [pI .i64 0,pI .u32 0,pI .u32 0,.v (.bool false),pI .i64 0,pI .i64 0,I4] [(0,C0 (a.L.g x2.toNat))])) (λi=>C0 (a.L.g i))) ⟨(wrapN c6.1 c7.2).symm,λi f=>by
   unfold Ey;split
   .rfl
   obtain rfl:i=x2.toNat:=by omega
   simp[H0]⟩)
 obtain⟨c8,h⟩:=B9 h;exact M8 Z Lg ⟨[(2,.reg 3000 0)],[(3000,.cells [pN a.Kind,pU a.Is.Plus,pU a.Is.Minus,pB a.Not,pN a.Min,pN a.Max,.p (.sl false 7 a.L.n (Du a))])]⟩ [] (ids:=[(3000,3000)]) ⟨rfl,rfl,rfl⟩ (hle:=kl1 6 (L:=.fn x2.toNat a.L.n (λi=>C0 (a.L.g i)) (Du a)) ⟨c8,λi f=>(V8 a i (by omega)).symm⟩)
theorem GF {a:Pat}{y:Pat}(h:S3 N a=some y) :Sb S AN [.p (.agg (C0 a))] [] (.p (.agg (C0 a))) ([]) []:=by
 induction N generalizing a y with
 |zero=>cases (show (none:Option Pat)=some y from h)
 |succ N ih=>exact MG Z Y (λe=>ih e) h
def T8 (N:Nat)(a:Law):Option Law:= (S3 N a.Left).bind λ_=>(S3 N a.Right).bind λ_=>(B7 N a.If).bind λy3=>(G9 N a.Out).bind λy4=>some (⟨a.Name,a.Left,a.Right,y3,y4,a.Mode⟩:Law)
theorem Ia {a:Law}{y:Law}(h:T8 N a=some y) :Sb S HR [.p (.agg (B6 a))] [] (.p (.agg (B6 y))) ([]) []:=by unfold T8 at h;refine A2 Z func96 ?_;refine C4 Z Lg [2,5] ?_;obtain⟨y1,e1,h⟩:=A9 h;refine F9 Lg (GF Z Y e1) ?_;obtain⟨y2,e2,h⟩:=A9 h;refine F9 Lg (GF Z Y e2) ?_;refine C8 Lg ?_;refine C4 Z Lg [2,5] ?_;obtain⟨y3,e3,h⟩:=A9 h;refine F9 Lg (AQ Z Y e3) ?_;obtain⟨y4,e4,h⟩:=A9 h;refine F9 Lg (Cj Z Y e4) ?_;refine C8 Lg ?_;cases h;exact kR Z
def Gf (N:Nat)(c:Si)(a:Sl Int):Option (Sl Law):= Co N (λb (x1:Sl Law) (x2:Int)=>if (decide (x2<(a.n:Int))) then if (((0:Int)<=x2/\x2<(a.n:Int))/\((0:Int)<=(a.g x2.toNat)/\(a.g x2.toNat)<(c.Laws.n:Int)))then (T8 N (c.Laws.g (a.g x2.toNat).toNat)).bind λy3=>if (Qt 200 (x1.n+(Sl.of [y3]:Sl Law).n))then b (x1.push y3) (wrap .i64 (x2+1)) else none else none else some x1) (Sl.nil:Sl Law) 0
theorem SJ {b:Si}{a:Sl Int}{y:Sl Law}(h:Gf N b a=some y) :Sb S Kt [.p (.agg (A8 b)),.p (vSl 1 (cI .i64) a)] [] (.p (vSl 18 B6 y)) ([]) []:=by
 unfold Gf at h;refine A2 Z func116 ?_;refine H7 Z Lg h (λx1 x2=>⟨[(10,pN x2),(9,pN (a.n:Int)),(8,.p (vSl 1 (cI .i64) a)),(5,.vec 6500),(2,.reg 3000 0)],[(6500,oV I5 18 B6 x1 false),(3000,.cells ((A8 b).map .p))]⟩) (ids:=[(3000,3000)]) (λ_ _ _ _ _ c x1 x2 d h=>?_);apply kI Z h<;>intro h
 .obtain⟨c6,h⟩:=B9 h;obtain⟨y3,e3,h⟩:=A9 h;refine B0 Z [] (Qu (Qu c6.1 c6.2) Nl) (Ia Z Y e3) ?_;obtain⟨c7,h⟩:=B9 h;exact d _ [(3000,3000),(6500,23000)] _ (x1.push y3) (wrap .i64 (x2+1)) (Qu Nm c7) h (hle:=kl1 3 (Ci B6 x1 y3 [.str [],pI .i64 0,pI .u32 0,pI .u32 0,.v (.bool false),pI .i64 0,pI .i64 0,I4,pI .i64 0,pI .u32 0,pI .u32 0,.v (.bool false),pI .i64 0,pI .i64 0,I4,I4,I4,pI .i64 0]))
 obtain rfl:=B1 h;exact kO Z Lg []
def Gg (N:Nat)(a:Si)(b:Int):Option ((Sl Law)×Int):= (Ge N a b).bind λy1=>(Gf N a y1.1).bind λy2=>some (y2,y1.2)
theorem SK {a:Si}{b:Int}{y:(Sl Law)×Int}(h:Gg N a b=some y) :Sb S Kk [.p (.agg (A8 a)),pN b] [] (.tup [.p (vSl 18 B6 y.1),pN y.2]) ([]) []:=by unfold Gg at h;refine A2 Z func78 ?_;refine kC Z h (SI Z Y) (λy1 h=>?_);refine kC Z h (SJ Z Y) (λy2 h=>?_);cases h;exact kR Z
omit Z Y
abbrev Cf {T:Type}(e:TypeId)(k:Nat)(c:T->List PV)(x:Sl T):Obj:=.vec e k x.n (λq=>c (x.g q)) false
def Bt6 {T:Type}{e:TypeId}{k n i:Nat}{c:T->List PV}{X:Sl (Sl T)}{z:Sl T}:∀q,q<n->(λq=>if q=i then Cf e k c z else if q=i then Obj.dead else Cf e k c (X.g q)) q=(λq=>Cf e k c ((X.upd i z).g q)) q:=λq _=>by by_cases h:q=i<;>simp[h]
include Z Y
def Av (N:Nat)(a:Sl Node):Option (Sl (Sl Int)):= if ((0:Int)<=(a.n:Int)/\(a.n:Int)<=(a.n:Int)/\(a.n:Int)*24<=140737488355328/\(a.n:Int)<=140737488355328)then Co N (λb (x:Int) (X:Sl (Sl Int))=>if (decide (x<(a.n:Int))) then if ((0:Int)<=x/\x<(a.n:Int))then if (a.g x.toNat).Sk.toNat<X.n then lt (λ(z:Sl Int)=>b (wrap .i64 (x+1)) (X.upd (a.g x.toNat).Sk.toNat z)) λk=>if (decide (0<x)) then if (((0:Int)<=(a.g x.toNat).Sk/\(a.g x.toNat).Sk<(X.n:Int))/\(Qt 8 ((X.g (a.g x.toNat).Sk.toNat).n+1)))then k ((X.g (a.g x.toNat).Sk.toNat).push x) else none else k (X.g (a.g x.toNat).Sk.toNat) else none else none else some X) 0 ⟨a.n,λ_=>Sl.nil⟩ else none
theorem Rd {N:Nat}{b:Sl Node}{y:Sl (Sl Int)}(h:Av N b=some y) :Sb S IJ [.p (vSl 2 D8 b)] [] (.p (vSl 1 (cL 1 (cI .i64)) y)) [] []:=by
 unfold Av at h;refine A2 Z Tryz.func87 ?_;obtain⟨c1,h⟩:=B9 h;refine Cd Z c1 9 (.fam 9000 9901 λi=>Cf D1 1 (cI .i64) ((⟨b.n,λ_=>Sl.nil⟩:Sl (Sl Int)).g i)) (⟨by decide,λi _=>rfl⟩:1000<=9901/\∀i,i<b.n->Po [I4] (Cf D1 1 (cI .i64) ((⟨b.n,λ_=>Sl.nil⟩:Sl (Sl Int)).g i))) ?_;refine H7 Z Lg h (λx X=>⟨[(11,pN x),(10,pN (b.n:Int)),(9,.p (vSl 2 D8 b)),(3,.vec 9000)],[(9901,.rows X.n λi=>Cf D1 1 (cI .i64) (X.g i)),(9000,.fam Ct X.n 9901 none)]⟩) (ids:=(Qp [9901,9000])) (λ_ _ _ _ _ f x X d h=>?_);apply kI Z h<;>intro h
 .obtain⟨c2,h⟩:=B9 h;obtain⟨c3,h⟩:=B9 h;refine Cd Z (Qu c2 Nh) 17 (.take 9000 (b.g x.toNat).Sk.toNat 9801) (⟨⟨by decide,rfl⟩,c3⟩:(1000<=9801/\X.n=X.n)/\(b.g x.toNat).Sk.toNat<X.n) ?_;refine Ii Z Lg (A4 Z) h 0 (λz=>⟨[(11,pN x),(10,pN (b.n:Int)),(9,.p (vSl 2 D8 b)),(3,.vec 9000)],
   [(9901,(.rows X.n λl=>if l=(b.g x.toNat).Sk.toNat then .dead else Cf D1 1 (cI .i64) (X.g l))),(9801,Cf D1 1 (cI .i64) z),(9000,.fam Ct X.n 9901 (some ((b.g x.toNat).Sk.toNat,.vec 9801)))]⟩) (λM k c h=>?_) (λz h=>?_)
  .apply kI Z h<;>intro h
   .obtain⟨c4,h⟩:=B9 h;refine G8 Z Lg [(0,.n),(1,.n),(2,.l [6000]),(3,.n),(4,.n),(5,.l [6000]),(6,.l [9000]),(7,.l [9000]),(8,.n),(10,.a [29000,9801]),(11,.l [9000]),(12,.a [9000])] ?_;refine O9 (Qu c4.1 (Qu c3 (rfl:(b.g x.toNat).Sk.toNat=(b.g x.toNat).Sk.toNat))) (x:=.sl true 1 1 (H0 [pI .i64 0] [(0,cI .i64 x)])) ?_;refine C8 (Qu (Qu c4.2 c4.1) (Qu c3 (rfl:(b.g x.toNat).Sk.toNat=(b.g x.toNat).Sk.toNat))) ?_;exact c _ [(9901,9901),(9801,29000),(9000,9000)] _ _ Lg h (hle:=kl1 5 (Ci (cI .i64) (X.g (b.g x.toNat).Sk.toNat) x [pI .i64 0]))
   exact c _ (Qp [9901,9801,9000]) _ _ Lg h
  refine Cd Z Lg 30 (.put 9000 9902) (⟨⟨by decide,rfl⟩,c3⟩:(1000<=9902/\X.n=X.n)/\(b.g x.toNat).Sk.toNat<X.n) ?_;exact d _ [(9901,9902),(9000,9000)] _ _ _ Lg h (hle:=klR [(4,.ob X.n (λq=>if q=(b.g x.toNat).Sk.toNat then Cf D1 1 (cI .i64) z else if q=(b.g x.toNat).Sk.toNat then .dead else Cf D1 1 (cI .i64) (X.g q)) λi=>Cf D1 1 (cI .i64) ((X.upd (b.g x.toNat).Sk.toNat z).g i))] (al1 Bt6 al0))
 refine Cd Z Lg 31 (.pub 9000) (⟨rfl,λi _=>rfl⟩:X.n=X.n/\∀i,i<X.n->(RG (Cf D1 1 (cI .i64) (X.g i))).isSome=true) ?_;obtain rfl:=B1 h;exact kO Z Lg [] (hle:=klR [(0,.fn X.n X.n (λi=>[(RG (Cf D1 1 (cI .i64) (X.g i))).getD default]) (λi=>cL 1 (cI .i64) (X.g i)))] (al1 ⟨rfl,λ_ _=>rfl⟩ al0))
def Cw (N:Nat)(b:Sl Node):Option (Sl Int):= (Av N b).bind λy1=>Co N (λa (x1:Sl Int) (x2:Int)=>if (decide (x2<(y1.n:Int))) then if ((0:Int)<=x2/\x2<(y1.n:Int))then if (((y1.g x2.toNat).n:Int)==0) then if (Qt 8 (x1.n+(Sl.of [x2]:Sl Int).n))then a (x1.push x2) (wrap .i64 (x2+1)) else none else a x1 (wrap .i64 (x2+1)) else none else some x1) Q5 0
theorem VW {a:Sl Node}{y:Sl Int}(h:Cw N a=some y) :Sb S Mm [.p (vSl 2 D8 a)] [] (.vec 0) ([oV D1 1 (cI .i64) y true]) []:=by
 unfold Cw at h;refine A2 Z func54 ?_;refine kC Z h (Rd Z Y) (λy1 h=>?_);refine H7 Z Lg h (λx1 x2=>⟨[(9,pN x2),(8,pN (y1.n:Int)),(7,.p (vSl 1 (cL 1 (cI .i64)) y1)),(3,.vec 4500)],[(4500,oV D1 1 (cI .i64) x1 false)]⟩) (ids:=[]) (λ_ _ _ _ _ d x1 x2 c h=>?_);apply kI Z h<;>intro h
 .obtain⟨c8,h⟩:=B9 h;refine C7 Z c8 (b:=((y1.g x2.toNat).n:Int)==0) (λc9=>?_) (λc9=>?_)
  .replace h:=itT c9 h;obtain⟨c10,h⟩:=B9 h;exact c _ [(4500,21000)] _ (x1.push x2) (wrap .i64 (x2+1)) (Qu Nm c10) h (hle:=kl1 3 (Ci (cI .i64) x1 x2 [pI .i64 0]))
  replace h:=itF c9 h;exact c _ [(4500,4500)] _ x1 _ Lg h
 obtain rfl:=B1 h;exact kO Z Lg [4500]
def O8 (N:Nat)(a:Sl Node):Option ((Sl Int)×Int):= (U4 N a).bind λy1=>if (y1 != 0) then some (Q5,y1) else (Cw N a).bind λy2=>some (y2,0)
theorem Es {a:Sl Node}{y:(Sl Int)×Int}(h:O8 N a=some y) :Sb S Mh [.p (vSl 2 D8 a)] [] (.tup [.vec 0,pN y.2]) ([oV D1 1 (cI .i64) y.1 true]) []:=by
 unfold O8 at h;refine A2 Z func21 ?_;refine kC Z h (FH Z Y) (λy1 h=>?_);apply kI Z h<;>intro h
 .obtain rfl:=B1 h;exact kO Z Lg [3700]
 refine kC Z h (VW Z Y) (λy2 h=>?_);obtain rfl:=B1 h;exact kO Z Lg [12000]
def BB (N:Nat)(b:Sl Node)(c:Int):Option (Sl Int):= Co N (λa (x1:Sl Int) (x2:Int)=>if (decide (x2<(b.n:Int))) then if ((0:Int)<=x2/\x2<(b.n:Int))then if ((b.g x2.toNat).Sk==c) then if (Qt 8 (x1.n+(Sl.of [x2]:Sl Int).n))then a (x1.push x2) (wrap .i64 (x2+1)) else none else a x1 (wrap .i64 (x2+1)) else none else some x1) Q5 0
theorem SL {a:Sl Node}{c:Int}{y:Sl Int}(h:BB N a c=some y) :Sb S Kq [.p (vSl 2 D8 a),pN c] [] (.vec 0) ([oV D1 1 (cI .i64) y true]) []:=by
 unfold BB at h;refine A2 Z func102 ?_;refine H7 Z Lg h (λx1 x2=>⟨[(6,pN x2),(5,.vec 6500),(1,pN c),(0,.p (vSl 2 D8 a))],[(6500,oV D1 1 (cI .i64) x1 false)]⟩) (ids:=[]) (λ_ _ _ _ _ f x1 x2 d h=>?_);apply kI Z h<;>intro h
 .obtain⟨c8,h⟩:=B9 h;refine C7 Z c8 (b:=(a.g x2.toNat).Sk==c) (λc9=>?_) (λc9=>?_)
  .replace h:=itT c9 h;obtain⟨c10,h⟩:=B9 h;exact d _ [(6500,24000)] _ (x1.push x2) (wrap .i64 (x2+1)) (Qu Nm c10) h (hle:=kl1 3 (Ci (cI .i64) x1 x2 [pI .i64 0]))
  replace h:=itF c9 h;exact d _ [(6500,6500)] _ x1 _ Lg h
 obtain rfl:=B1 h;exact kO Z Lg [6500]
def Aw (N:Nat)(b:Sl Node):Option ((Sl Int)×Int):= (BR N b).bind λy1=>if (y1 != 0) then some (Q5,y1) else Co N (λa (x1:Sl Int) (x2:Int)=>if (decide (x2<(b.n:Int))) then (BB N b x2).bind λy4=>if ((y4.n:Int)==0) then if (Qt 8 (x1.n+(Sl.of [x2]:Sl Int).n))then a (x1.push x2) (wrap .i64 (x2+1)) else none else a x1 (wrap .i64 (x2+1)) else some (x1,0)) Q5 0
theorem Or {a:Sl Node}{y:(Sl Int)×Int}(h:Aw N a=some y) :Sb S NZ [.p (vSl 2 D8 a)] [] (.tup [.vec 0,pN y.2]) ([oV D1 1 (cI .i64) y.1 true]) []:=by
 unfold Aw at h;refine A2 Z func61 ?_;refine kC Z h (Ra Z Y) (λy1 h=>?_);apply kI Z h<;>intro h
 .obtain rfl:=B1 h;exact kO Z Lg [3700]
 refine H7 Z Lg h (λx1 x2=>⟨[(6,pN x2),(5,.vec 6500),(0,.p (vSl 2 D8 a))],[(6500,oV D1 1 (cI .i64) x1 false)]⟩) (ids:=[]) (λ_ _ _ _ _ c x1 x2 b h=>?_);apply kI Z h<;>intro h
 .refine kC Z h (SL Z Y) (λy4 h=>?_);apply kI Z h<;>intro h
  .obtain⟨c8,h⟩:=B9 h;exact b _ [(6500,27000)] _ (x1.push x2) (wrap .i64 (x2+1)) (Qu Nm c8) h (hle:=kl1 2 (Ci (cI .i64) x1 x2 [pI .i64 0]))
  exact b _ [(6500,6500)] _ x1 _ Lg h
 obtain rfl:=B1 h;exact kO Z Lg [6500]
def Jd (N:Nat)(c:Sl Node)(a:Sl Int):Option Int:= (U4 N c).bind λy1=>if (y1 != 0) then some y1 else R6 N (λb (x1:Int)=>if (decide (x1<(a.n:Int))) then if ((0:Int)<=x1/\x1<(a.n:Int))then if ((decide ((a.g x1.toNat)<0))||(decide ((c.n:Int)<=(a.g x1.toNat)))) then some 3 else b (wrap .i64 (x1+1)) else none else some 0) 0
theorem YA {c:Sl Node}{b:Sl Int}{y:Int}(h:Jd N c b=some y) :Sb S Og [.p (vSl 2 D8 c),.p (vSl 1 (cI .i64) b)] [] (pN y) ([]) []:=by
 unfold Jd at h;refine A2 Z func148 ?_;refine kC Z h (FH Z Y) (λy1 h=>?_);refine Su Z h fun h=>?_;refine F1 Z Lg h (λx1=>⟨[(15,pN x1),(14,pN (b.n:Int)),(13,.p (vSl 1 (cI .i64) b)),(0,.p (vSl 2 D8 c))],[]⟩) (ids:=[]) (λ_ _ _ _ _ d x1 f h=>?_);apply kI Z h<;>intro h
 .obtain⟨c9,h⟩:=B9 h;refine kB Z (A4 Z) c9 Lg 5 (.o (.a (decide ((b.g x1.toNat)<0))) (.a (decide ((c.n:Int)<=(b.g x1.toNat))))) ?_;refine Su Z h fun h=>?_;exact f _ [] _ _ Lg h
 cases h;exact kR Z
def Lq (N:Nat)(q0:Int)(q1:Sl Node):Option (List (Int)):= R6 N (λa (x1:Int)=>if (decide (0<=x1)) then JQ x1 (if ((0:Int)<=x1/\x1<(q1.n:Int))then a (q1.g x1.toNat).Sk else none) else some []) q0
theorem Ae1 {q0:Int}{q1:Sl Node}{L:List (Int)}(h:Lq N q0 q1=some L) :EP S Li [] [.reg 0 0,.reg 1 0] [.cells [pN q0],.cells [.p (vSl 2 D8 q1)]] (L.map (λ(x:Int)=>[pI .i64 x])):=by
 unfold Lq at h;refine Ek Z func191 ?_;refine CM Z Lg h (λx1 L1=>⟨[(2,.reg 1 0),(1,.reg 0 0),(0,.yf 2)],[(2,.yld (L1.map (λ(x:Int)=>[pI .i64 x])) true),(1,.cells [.p (vSl 2 D8 q1)]),(0,.cells [pN x1])]⟩) (ids:=(Qp [0,1,2])) (λ_ _ _ _ _ d x1 L1 f h=>?_);apply kI Z h<;>intro h
 .obtain⟨L4,rfl,c⟩:=Ng h;replace h:=c;refine CL Z Lg (ys:=(λ(x:Int)=>[pI .i64 x]) x1) (rest:=L4.map (λ(x:Int)=>[pI .i64 x])) ?_ ?_
  .refine C7 Z Lg (b:=false) (λc8=>?_) (λc8=>?_)
   .exact Bool.noConfusion ((rfl:false=false).symm.trans c8)
   obtain⟨c9,h⟩:=B9 h;exact f _ (Qp [0,1,2]) _ (q1.g x1.toNat).Sk L4 c9 h
  refine C7 Z Lg (b:=true) (λc10=>?_) (λc10=>?_)
  .exact kO Z Lg (a:=.tup []) (objs:=[(.cells [pN x1]),.cells [.p (vSl 2 D8 q1)],.yld [] false]) [0,1,2] ⟨false,rfl,rfl,_,rfl⟩
  exact Bool.noConfusion (Nm.symm.trans c10)
 obtain rfl:=B1 h;exact kO Z Lg (a:=.tup []) (objs:=[(.cells [pN x1]),.cells [.p (vSl 2 D8 q1)],.yld [] true]) [0,1,2] ⟨true,rfl,rfl,_,rfl⟩
def Re (N:Nat)(a:Sl Node)(b:Int):Option (Int×(Sl Node)):= some (b,a)
theorem AG7 {a:Sl Node}{b:Int}{y:Int×(Sl Node)}(h:Re N a b=some y) :Sb S Yf [.p (vSl 2 D8 a),pN b] [] (.clo Li [] [.reg 0 0,.reg 1 0]) ([.cells [pN y.1],.cells [.p (vSl 2 D8 y.2)]]) []:=by unfold Re at h;refine A2 Z func150 ?_;obtain rfl:=B1 h;exact kO Z Lg [4000,3000]
def P6 (N:Nat)(a:List (Int)):Option (Sl Int):= Cp a (λb (x1:Int) (z1:Sl Int)=>if (Qt 8 (z1.n+(Sl.of [x1]:Sl Int).n))then b (z1.push x1) else none) (λ(z1:Sl Int)=>some z1) Q5
theorem DF {c:List (Int)}{a:Int}{b:(Sl Node)}{kp_seq:Nat}(fp_seq:∃fn,By1[kp_seq]? = some fn/\fn.body.isSome=true/\(fn.name == "runtime.NumGoroutine")=false)(d:EP S kp_seq [] [.reg 0 0,.reg 1 0] [(.cells [(pN a)]),(.cells [(.p (vSl 2 D8 b))])] (c.map (λ(x:Int)=>[(pI .i64) x]))){y:(Sl Int)}(h:P6 N c=some y) :Sb S Q1 [(.p I4),(.clo kp_seq [] [(.reg 0 0),(.reg 1 0)])] [(.cells [(pN a)]),(.cells [(.p (vSl 2 D8 b))])] (.vec 0) ([(oV D1 1 (cI .i64) y false)]) [false,false]:=by
 unfold P6 at h;refine A2 Z func190 ?_;refine Pc Z Lg fp_seq [0,1] [2] 901 (λz1=>⟨[(2,(.reg 3000 0))],[(3500,(oV D1 1 (cI .i64) z1 false)),(3000,(.cells [(.vec 3500)]))]⟩) (idl:=[(3000,3000)]) h d (λ_=>by kernel_rfl) (λ_=>by kernel_rfl) (λ_=>by kernel_rfl) (λ_=>by kernel_rfl) (λx1 _ f z1 g h=>?_) (λz1 h=>?_)
 .refine Ma Z Lg ?_;obtain⟨c1,h⟩:=B9 h;exact g _ [(901,901),(3000,3000),(3500,12000)] _ (z1.push x1) (Qu Nm c1) h (hle:=kl1 0 (Ci (cI .i64) z1 x1 [(pI .i64 0)]))
 obtain rfl:=B1 h;exact kO Z Lg [3500]
def Ax (N:Nat)(a:List (Int)):Option (Sl Int):= (P6 N a).bind λy1=>some y1
theorem Je {c:List (Int)}{a:Int}{b:(Sl Node)}{kp_seq:Nat}(fp_seq:∃fn,By1[kp_seq]? = some fn/\fn.body.isSome=true/\(fn.name == "runtime.NumGoroutine")=false)(d:EP S kp_seq [] [.reg 0 0,.reg 1 0] [(.cells [(pN a)]),(.cells [(.p (vSl 2 D8 b))])] (c.map (λ(x:Int)=>[(pI .i64) x]))){y:(Sl Int)}(h:Ax N c=some y) :Sb S Ba [(.clo kp_seq [] [(.reg 0 0),(.reg 1 0)])] [(.cells [(pN a)]),(.cells [(.p (vSl 2 D8 b))])] (.vec 0) ([(oV D1 1 (cI .i64) y false)]) [false,false]:=by unfold Ax at h;refine A2 Z func149 ?_;obtain⟨y1,e1,h⟩:=A9 h;refine B0 Z [0,1] Lg (DF Z Y fp_seq d e1) ?_;obtain rfl:=B1 h;exact kO Z Lg [5000]
def T3 (N:Nat)(b:Sl Int):Option (Sl Int):= AZ3 N (λa (x1:Sl Int) (x2:Int) (x3:Int)=>if (decide (x2<x3)) then if (((((((((0:Int)<=x3/\x3<(x1.n:Int))/\x3.toNat<x1.n)/\((0:Int)<=x2/\x2<(x1.n:Int)))/\x2.toNat<x1.n)/\((0:Int)<=x2/\x2<(x1.n:Int)))/\x2.toNat<x1.n)/\((0:Int)<=x3/\x3<((x1.upd x2.toNat (x1.g x3.toNat)).n:Int)))/\x3.toNat<(x1.upd x2.toNat (x1.g x3.toNat)).n)then a ((x1.upd x2.toNat (x1.g x3.toNat)).upd x3.toNat (x1.g x2.toNat)) (wrap .i64 (x2+1)) (wrap .i64 (x3-1)) else none else some x1) b 0 (wrap .i64 ((b.n:Int)-1))
theorem Fg {a:Sl Int}{y:Sl Int}(h:T3 N a=some y) :Sb S Aj [.vec 0] [oV D1 1 (cI .i64) a false] (.tup []) ([oV D1 1 (cI .i64) y false]) [true]:=by
 unfold T3 at h;refine A2 Z func151 ?_;refine Tz Z Lg h (λx1 x2 x3=>⟨[(3,pN x3),(2,pN x2),(0,.vec 0)],[(0,oV D1 1 (cI .i64) x1 false)]⟩) (ids:=[(0,0)]) (λ_ _ _ _ _ b x1 x2 x3 d h=>?_);apply kI Z h<;>intro h
 .refine ES Z Lg ?_;obtain⟨c6,h⟩:=B9 h;refine C8 (Qu (Qu (Qu (Qu (Qu (Qu (Qu c6.1.1.1.1.1.1.1 c6.1.1.1.1.1.1.2) c6.1.1.1.1.1.2) c6.1.1.1.1.2) c6.1.1.1.2) (Qu (rfl:(1:Nat)=1) (Qu c6.1.1.2 Mo))) c6.1.2) (Qu (rfl:(1:Nat)=1) (Qu c6.2 Mo))) ?_;exact d _ [(0,0)] _ _ _ _ Lg h (hle:=klR [(2,.fn x1.n ((x1.upd x2.toNat (x1.g x3.toNat)).upd x3.toNat (x1.g x2.toNat)).n (λl=>if l=x3.toNat then splice ((λl=>if l=x2.toNat then splice ((λi=>cI .i64 (x1.g i)) l) 0 [pI .i64 (x1.g x3.toNat)]else (λi=>cI .i64 (x1.g i)) l) l) 0 [pI .i64 (x1.g x2.toNat)]else (λl=>if l=x2.toNat then splice ((λi=>cI .i64 (x1.g i)) l) 0 [pI .i64 (x1.g x3.toNat)]else (λi=>cI .i64 (x1.g i)) l) l) (λi=>cI .i64 (((x1.upd x2.toNat (x1.g x3.toNat)).upd x3.toNat (x1.g x2.toNat)).g i)))] (al1 ⟨rfl,AZ4 (c:=cI .i64) (v:=x1.upd x2.toNat (x1.g x3.toNat)) (x:=x1.g x2.toNat) (AZ4 (c:=cI .i64) (v:=x1) (x:=x1.g x3.toNat) same (λ_=>by first|rfl|(dsimp only;split<;>rfl))) (λ_=>by first|rfl|(dsimp only;split<;>rfl))⟩ al0))
 obtain rfl:=B1 h;exact kO Z Lg [0]
def Lr (N:Nat)(a:Sl Node)(b:Int):Option ((Sl Int)×Int):= (Jd N a (Sl.of [b]:Sl Int)).bind λy1=>if (y1 != 0) then some (Q5,y1) else (Re N a b).bind λy2=>(Lq N y2.1 y2.2).bind λL1=>(Ax N L1).bind λy3=>(T3 N y3).bind λy4=>some (y4,0)
theorem Ae2 {b:Sl Node}{a:Int}{y:(Sl Int)×Int}(h:Lr N b a=some y) :Sb S Qz [.p (vSl 2 D8 b),pN a] [] (.tup [.vec 0,pN y.2]) ([oV D1 1 (cI .i64) y.1 true]) []:=by
 unfold Lr at h;refine A2 Z func105 ?_;refine LY Z Nm ⟨[(10,.vec 11000),(8,.p (vSl 2 D8 b)),(1,pN a),(0,.p (vSl 2 D8 b))],[(11000,oV D1 1 (cI .i64) (Sl.of [a]:Sl Int) false)]⟩ (ids:=[(11000,11000)]) ?_ (hle:=kl1 3 (Ay3 (cI .i64) ([a]:List Int) [pI .i64 0]));refine kC Z h (YA Z Y) (λy1 h=>?_);apply kI Z h<;>intro h
 .obtain rfl:=B1 h;exact kO Z Lg [5700]
 refine kC Z h (AG7 Z Y) (λy2 h=>?_);obtain⟨L1,e3,h⟩:=A9 h;obtain⟨y3,e4,h⟩:=A9 h;refine B0 Z [18000,18001] Lg (Je Z Y ⟨_,func191,by decide +kernel,by decide +kernel⟩ (Ae1 Z Y e3) e4) ?_;obtain⟨y4,e5,h⟩:=A9 h;refine Bh3 Z [19000] Lg (Fg Z Y e5) ?_;obtain rfl:=B1 h;exact kO Z Lg [19000]
def Jf (N:Nat)(a:Sl Qj):Option Str:= Co N (λb (x1:Sl Int) (x2:Int)=>if (decide (x2<(a.n:Int))) then if ((0:Int)<=x2/\x2<(a.n:Int))then if (Qt 1 (x1.n+(Lh (a.g x2.toNat).Plus).n))then if (Qt 1 ((x1.app (Lh (a.g x2.toNat).Plus)).n+(Lh (a.g x2.toNat).Minus).n))then b ((x1.app (Lh (a.g x2.toNat).Plus)).app (Lh (a.g x2.toNat).Minus)) (wrap .i64 (x2+1)) else none else none else none else some (strOf x1)) Q5 0
theorem Ot {a:Sl Qj}{y:Str}(h:Jf N a=some y) :Sb S Oe [.p (vSl 2 A0 a)] [] (.p (.str y)) ([]) []:=by
 unfold Jf at h;refine A2 Z func107 ?_;refine H7 Z Lg h (λx1 x2=>⟨[(10,pN x2),(9,pN (a.n:Int)),(8,.p (vSl 2 A0 a)),(3,.vec 4500)],[(4500,oV H1 1 (cI .u8) x1 false)]⟩) (ids:=[]) (λ_ _ _ _ _ d x1 x2 l h=>?_);apply kI Z h<;>intro h
 .obtain⟨c22,h⟩:=B9 h;refine AT2 Z (Qu c22 Nh) 2 (unrT [λt=>t=⟨[(19,pN 0),(18,.p (.agg [pI .u32 (a.g x2.toNat).Plus,pI .u32 (a.g x2.toNat).Minus])),(10,pN x2),(9,pN (a.n:Int)),(8,.p (vSl 2 A0 a)),(3,.vec 4501)],[(4501,oV H1 1 (cI .u8) x1 false)]⟩/\(
   if (Qt 1 (x1.n+(Lh (a.g x2.toNat).Plus).n))then
    if (Qt 1 ((x1.app (Lh (a.g x2.toNat).Plus)).n+(Lh (a.g x2.toNat).Minus).n))then
     d ((x1.app (Lh (a.g x2.toNat).Plus)).app (Lh (a.g x2.toNat).Minus)) (wrap .i64 (x2+1))
    else none
   else none
   )=some y,λt=>t=⟨[(19,pN 1),(18,.p (.agg [pI .u32 (a.g x2.toNat).Plus,pI .u32 (a.g x2.toNat).Minus])),(10,pN x2),(9,pN (a.n:Int)),(8,.p (vSl 2 A0 a)),(3,.vec 4500)],[(4500,.vec H1 1 (x1.app (Lh (a.g x2.toNat).Plus)).n (λi=>cI .u8 ((x1.app (Lh (a.g x2.toNat).Plus)).g i)) false)]⟩/\(
    if (Qt 1 ((x1.app (Lh (a.g x2.toNat).Plus)).n+(Lh (a.g x2.toNat).Minus).n))then
     d ((x1.app (Lh (a.g x2.toNat).Plus)).app (Lh (a.g x2.toNat).Minus)) (wrap .i64 (x2+1))
    else none
   )=some y,λt=>t=⟨[(19,pN 2),(18,.p (.agg [pI .u32 (a.g x2.toNat).Plus,pI .u32 (a.g x2.toNat).Minus])),(10,pN x2),(9,pN (a.n:Int)),(8,.p (vSl 2 A0 a)),(3,.vec 4501)],[(4501,.vec H1 1 ((x1.app (Lh (a.g x2.toNat).Plus)).app (Lh (a.g x2.toNat).Minus)).n (λi=>cI .u8 (((x1.app (Lh (a.g x2.toNat).Plus)).app (Lh (a.g x2.toNat).Minus)).g i)) false)]⟩/\(
    d ((x1.app (Lh (a.g x2.toNat).Plus)).app (Lh (a.g x2.toNat).Minus)) (wrap .i64 (x2+1))
   )=some y]) ⟨[(19,pN 0),(18,.p (.agg [pI .u32 (a.g x2.toNat).Plus,pI .u32 (a.g x2.toNat).Minus])),(10,pN x2),(9,pN (a.n:Int)),(8,.p (vSl 2 A0 a)),(3,.vec 4501)],[(4501,oV H1 1 (cI .u8) x1 false)]⟩ (ids:=[(4501,4500)]) ⟨rfl,h⟩ (λ_ _ _ _ i _ t f ht j=>?_)
  rcases i with _|_|_|i
  .obtain⟨rfl,h⟩:=ht;refine C7 Z Lg (b:=decide ((0:Int)<2)) (λc29=>?_) (λc29=>?_)
   .obtain⟨c30,h⟩:=B9 h;exact j _ [(4500,33000)] _ _ (Qu (Qu (Qu (Qu (by decide:(0:Int)<=0/\(0:Int)<2) (by decide:(0:Int)<=8)) (by decide:(0:Int)<=16)) Nm) c30) rfl ⟨rfl,h⟩ (hle:=klR [(5,.fn (x1.n+3) (x1.app (Lh (a.g x2.toNat).Plus)).n (Ey x1.n (λi=>cI .u8 (x1.g i)) (H0 [pI .u8 0] [(0,cI .u8 (wrap .u8 (a.g x2.toNat).Plus)),(1,cI .u8 (wrap .u8 (shI .shr .u32 (a.g x2.toNat).Plus 8))),(2,cI .u8 (wrap .u8 (shI .shr .u32 (a.g x2.toNat).Plus 16)))])) (λi=>cI .u8 ((x1.app (Lh (a.g x2.toNat).Plus)).g i)))] (al1 ⟨rfl,Bm2 (c:=cI .u8) (v:=x1) (w:=(Lh (a.g x2.toNat).Plus)) same rfl (λi f=>match i,f with|0,_=>rfl|1,_=>rfl|2,_=>rfl|_+3,f=>Ij f (by omega)) rfl⟩ al0))
   exact Bool.noConfusion ((by decide:decide ((0:Int)<2)=true).symm.trans c29)
  .obtain⟨rfl,h⟩:=ht;refine C7 Z Lg (b:=decide ((1:Int)<2)) (λc27=>?_) (λc27=>?_)
   .obtain⟨c28,h⟩:=B9 h;exact j _ [(4501,33000)] _ _ (Qu (Qu (Qu (Qu (by decide:(0:Int)<=1/\(1:Int)<2) (by decide:(0:Int)<=8)) (by decide:(0:Int)<=16)) Nm) c28) rfl ⟨rfl,h⟩ (hle:=klR [(5,.fn ((x1.app (Lh (a.g x2.toNat).Plus)).n+3) ((x1.app (Lh (a.g x2.toNat).Plus)).app (Lh (a.g x2.toNat).Minus)).n (Ey (x1.app (Lh (a.g x2.toNat).Plus)).n (λi=>cI .u8 ((x1.app (Lh (a.g x2.toNat).Plus)).g i)) (H0 [pI .u8 0] [(0,cI .u8 (wrap .u8 (a.g x2.toNat).Minus)),(1,cI .u8 (wrap .u8 (shI .shr .u32 (a.g x2.toNat).Minus 8))),(2,cI .u8 (wrap .u8 (shI .shr .u32 (a.g x2.toNat).Minus 16)))])) (λi=>cI .u8 (((x1.app (Lh (a.g x2.toNat).Plus)).app (Lh (a.g x2.toNat).Minus)).g i)))] (al1 ⟨rfl,Bm2 (c:=cI .u8) (v:=x1.app (Lh (a.g x2.toNat).Plus)) (w:=(Lh (a.g x2.toNat).Minus)) same rfl (λi f=>match i,f with|0,_=>rfl|1,_=>rfl|2,_=>rfl|_+3,f=>Ij f (by omega)) rfl⟩ al0))
   exact Bool.noConfusion ((by decide:decide ((1:Int)<2)=true).symm.trans c27)
  .obtain⟨rfl,h⟩:=ht;refine C7 Z Lg (b:=decide ((2:Int)<2)) (λc26=>?_) (λc26=>?_)
   .exact Bool.noConfusion ((by decide:decide ((2:Int)<2)=false).symm.trans c26)
   exact l _ [(4500,4501)] _ _ _ Lg h
  exact Ij f (by omega)
 obtain rfl:=B1 h;exact Xw Z ((λ_ _=>rfl):∀i:Nat,i<x1.n->true=true) [] ⟨rfl,rfl,rfl⟩
def E2 (N:Nat)(a:Sl U9)(c:U9->Option Bool):Option Int:= R6 N (λb (x1:Int)=>if (decide (x1<(a.n:Int))) then if ((0:Int)<=x1/\x1<(a.n:Int))then (c (a.g x1.toNat)).bind λy3=>if y3 then some x1 else b (wrap .i64 (x1+1)) else none else some (-1)) 0
theorem Ay {a:Sl U9}{c:U9->Option Bool}{kp_f:Nat}(d:∀{a0:U9}{b:Bool},c a0=some b->Sb S kp_f [.p (.agg (G4 a0))] [] (pB b) [] []){y:Int}(h:E2 N a c=some y) :Sb S P2 [.p (vSl 2 G4 a),.clo kp_f [] []] [] (pN y) ([]) []:=by
 unfold E2 at h;refine A2 Z func180 ?_;refine F1 Z Lg h (λx1=>⟨[(8,pN x1),(7,pN (a.n:Int)),(1,.clo kp_f [] []),(0,.p (vSl 2 G4 a))],[]⟩) (ids:=[]) (λ_ _ _ _ _ f x1 g h=>?_);apply kI Z h<;>intro h
 .obtain⟨c8,h⟩:=B9 h;obtain⟨y3,e3,h⟩:=A9 h;refine B0 Z [] (Qu c8 Nh) (d e3) ?_;refine Su Z h fun h=>?_;exact g _ [] _ _ Lg h
 cases h;exact kR Z
def E6 (N:Nat)(a:Sl U9)(b:U9->Option Bool):Option Bool:= (E2 N a b).bind λy1=>some (decide (0<=y1))
theorem Y4 {a:Sl U9}{c:U9->Option Bool}{kp_f:Nat}(d:∀{a0:U9}{b:Bool},c a0=some b->Sb S kp_f [.p (.agg (G4 a0))] [] (pB b) [] []){y:Bool}(h:E6 N a c=some y) :Sb S N8 [.p (vSl 2 G4 a),.clo kp_f [] []] [] (pB y) ([]) []:=by unfold E6 at h;refine A2 Z func128 ?_;refine kC Z h (Ay Z Y (λe=>d e)) (λy1 h=>?_);cases h;exact kR Z
def BI (N:Nat)(a:U9):Option Bool:= some ((!a.Has)&&(decide (0<(a.W.n:Int))))
theorem OP {b:U9}{y:Bool}(h:BI N b=some y) :Sb S HU [.p (.agg (G4 b))] [] (pB y) ([]) []:=by unfold BI at h;refine A2 Z func129 ?_;refine kB Z (A4 Z) Lg Lg 5 (.n (.a (!b.Has)) (.a (decide (0<(b.W.n:Int))))) ?_;cases h;exact kR Z
def Z2 (N:Nat)(a:Sl U9):Option Bool:= (E6 N a (λ(u1:U9)=>BI N u1)).bind λy1=>some (!y1)
theorem KI {a:Sl U9}{y:Bool}(h:Z2 N a=some y) :Sb S Km [.p (vSl 2 G4 a)] [] (pB y) ([]) []:=by unfold Z2 at h;refine A2 Z func83 ?_;refine kC Z h (Y4 Z Y (λe=>OP Z Y e)) (λy1 h=>?_);cases h;exact kR Z
def S0 (N:Nat)(a:Sl U9):Option Int:= R6 N (λb (x1:Int)=>if (decide (x1<(a.n:Int))) then if ((0:Int)<=x1/\x1<(a.n:Int))then (U2 N (a.g x1.toNat).W).bind λy3=>if (y3 != 0) then some y3 else b (wrap .i64 (x1+1)) else none else some 0) 0
theorem KJ {a:Sl U9}{y:Int}(h:S0 N a=some y) :Sb S Kn [.p (vSl 2 G4 a)] [] (pN y) ([]) []:=by
 unfold S0 at h;refine A2 Z func85 ?_;refine F1 Z Lg h (λx1=>⟨[(8,pN x1),(7,pN (a.n:Int)),(6,.p (vSl 2 G4 a))],[]⟩) (ids:=[]) (λ_ _ _ _ _ b x1 c h=>?_);apply kI Z h<;>intro h
 .obtain⟨c8,h⟩:=B9 h;obtain⟨y3,e3,h⟩:=A9 h;refine B0 Z [] (Qu c8 Nh) (FC Z Y e3) ?_;refine Su Z h fun h=>?_;exact c _ [] _ _ Lg h
 cases h;exact kR Z
def BC (N:Nat)(a:Str):Option Bool:= (U4 N (Sl.of [(⟨-1,a⟩:Node)]:Sl Node)).bind λy1=>some (y1==0)
theorem SM {a:Str}{y:Bool}(h:BC N a=some y) :Sb S Ku [.p (.str a)] [] (pB y) ([]) []:=by unfold BC at h;refine A2 Z func130 ?_;refine LY Z Nm ⟨[(5,.vec 6000)],[(6000,oV S2 2 D8 (Sl.of [(⟨-1,a⟩:Node)]:Sl Node) false)]⟩ (ids:=[(6000,6000)]) ?_ (hle:=kl1 0 (Ay3 D8 ([(⟨-1,a⟩:Node)]:List Node) [pI .i64 0,.str []]));refine kC Z h (FH Z Y) (λy1 h=>?_);cases h;exact kR Z
def Q3 (N:Nat)(a:Sl So)(b:Int):Option Int:= R6 N (λc (x2:Int)=>if (decide (x2<(a.n:Int))) then if ((0:Int)<=x2/\x2<(a.n:Int))then lt (λ(z3:Bool)=>if z3 then some 2 else c (wrap .i64 (x2+1))) λk3=>if (((a.g x2.toNat).Sn.n:Int) != b) then k3 true else (Z2 N (a.g x2.toNat).Sn).bind λy6=>k3 (!y6) else none else R6 N (λd (x5:Int)=>if (decide (x5<(a.n:Int))) then if ((0:Int)<=x5/\x5<(a.n:Int))then (BC N (a.g x5.toNat).Gloss).bind λy9=>if (!y9) then some 15 else d (wrap .i64 (x5+1)) else none else some 0) 0) 0
theorem OQ {b:Sl So}{a:Int}{y:Int}(h:Q3 N b a=some y) :Sb S HQ [.p (vSl 2 G5 b),pN a] [] (pN y) ([]) []:=by
 unfold Q3 at h;refine A2 Z func84 ?_;refine F1 Z Lg h (λx2=>⟨[(11,pN x2),(10,pN (b.n:Int)),(9,.p (vSl 2 G5 b)),(1,pN a),(0,.p (vSl 2 G5 b))],[]⟩) (ids:=[]) (λ_ _ _ _ _ d x2 f h=>?_);apply kI Z h<;>intro h
 .obtain⟨c14,h⟩:=B9 h;refine Ii Z (Qu c14 Nh) (A4 Z) h 0 (λz3=>⟨[(25,pB z3),(11,pN x2),(10,pN (b.n:Int)),(9,.p (vSl 2 G5 b)),(1,pN a),(0,.p (vSl 2 G5 b))],[]⟩) (λM3 k3 c h=>?_) (λz3 h=>?_)
  .refine kG Z h (λh=>?_) (λh=>?_)
   .exact c _ [] _ _ Lg h
   refine kC Z h (KI Z Y) (λy6 h=>?_);exact c _ [] _ _ Lg h
  refine Su Z h fun h=>?_;exact f _ [] _ _ Lg h
 refine F1 Z Lg h (λx5=>⟨[(29,pN x5),(28,pN (b.n:Int)),(27,.p (vSl 2 G5 b))],[]⟩) (ids:=[]) (λ_ _ _ _ _ g x5 i h=>?_);apply kI Z h<;>intro h
 .obtain⟨c26,h⟩:=B9 h;obtain⟨y9,e9,h⟩:=A9 h;refine B0 Z [] (Qu c26 Nh) (SM Z Y e9) ?_;refine Su Z h fun h=>?_;exact i _ [] _ _ Lg h
 cases h;exact kR Z
def Z3 (N:Nat)(d:Si)(a:Sl U9)(b:Sl So):Option Int:= (P5 N d).bind λy1=>if (y1 != 0) then some y1 else (O8 N d.Tree).bind λy2=>if (decide (256<(b.n:Int))) then some 12 else lt (λ(z1:Bool)=>if z1 then some 2 else (Q3 N b (y2.1.n:Int)).bind λy5=>if (y5 != 0) then some y5 else (S0 N a).bind λy6=>if (y6 != 0) then some y6 else R6 N (λc (x2:Int)=>if (decide (x2<(b.n:Int))) then if ((0:Int)<=x2/\x2<(b.n:Int))then (S0 N (b.g x2.toNat).Sn).bind λy9=>if (y9 != 0) then some y9 else c (wrap .i64 (x2+1)) else none else some 0) 0) λk1=>if ((a.n:Int) != (b.n:Int)) then k1 true else (Z2 N a).bind λy4=>k1 (!y4)
theorem KK {c:Si}{a:Sl U9}{b:Sl So}{y:Int}(h:Z3 N c a b=some y) :Sb S Kh [.p (.agg (A8 c)),.p (vSl 2 G4 a),.p (vSl 2 G5 b)] [] (pN y) ([]) []:=by
 unfold Z3 at h;refine A2 Z func52 ?_;refine kC Z h (Fe Z Y) (λy1 h=>?_);refine Su Z h fun h=>?_;refine kC Z h (Es Z Y) (λy2 h=>?_);refine Su Z h fun h=>?_;refine Ii Z Lg (A4 Z) h 0 (λz1=>⟨[(30,pB z1),(8,.vec 24000),(2,.p (vSl 2 G5 b)),(1,.p (vSl 2 G4 a))],[(24000,oV D1 1 (cI .i64) y2.1 true)]⟩) (λM1 k1 d h=>?_) (λz1 h=>?_)
 .refine kG Z h (λh=>?_) (λh=>?_)
  .exact d _ [(24000,24000)] _ _ Lg h
  refine kC Z h (KI Z Y) (λy4 h=>?_);exact d _ [(24000,24000)] _ _ Lg h
 refine Su Z h fun h=>?_;refine kC Z h (OQ Z Y) (λy5 h=>?_);refine Su Z h fun h=>?_;refine kC Z h (KJ Z Y) (λy6 h=>?_);refine Su Z h fun h=>?_;refine F1 Z Lg h (λx2=>⟨[(55,pN x2),(54,pN (b.n:Int)),(53,.p (vSl 2 G5 b))],[]⟩) (ids:=[]) (λ_ _ _ _ _ f x2 g h=>?_);apply kI Z h<;>intro h
 .obtain⟨c16,h⟩:=B9 h;obtain⟨y9,e9,h⟩:=A9 h;refine B0 Z [] (Qu c16 Nh) (KJ Z Y e9) ?_;refine Su Z h fun h=>?_;exact g _ [] _ _ Lg h
 cases h;exact kR Z
def BS (N:Nat)(q0:Sl So):Option (List (place×(Sl Qj))):= R6 N (λb (x2:Int)=>if (decide (x2<(q0.n:Int))) then if ((0:Int)<=x2/\x2<(q0.n:Int))then R6 N (λa (x4:Int)=>if (decide (x4<((q0.g x2.toNat).Sn.n:Int))) then if ((0:Int)<=x4/\x4<((q0.g x2.toNat).Sn.n:Int))then if ((q0.g x2.toNat).Sn.g x4.toNat).Has then JQ ((⟨x2,x4⟩:place),((q0.g x2.toNat).Sn.g x4.toNat).W) (a (wrap .i64 (x4+1))) else a (wrap .i64 (x4+1)) else none else b (wrap .i64 (x2+1))) 0 else none else some []) 0
theorem Ls {q0:Sl So}{L:List (place×(Sl Qj))}(h:BS N q0=some L) :EP S BN [] [.reg 0 0] [.cells [.p (vSl 2 G5 q0)]] (L.map (λ(x:place×(Sl Qj))=>[(λx=>.agg (Qd x)) x.1,vSl 2 A0 x.2])):=by
 unfold BS at h;refine Ek Z func108 ?_;refine CM Z Lg h (λx2 L1=>⟨[(9,pN x2),(8,pN (q0.n:Int)),(7,.p (vSl 2 G5 q0)),(0,.yf 1)],[(1,.yld (L1.map (λ(x:place×(Sl Qj))=>[(λx=>.agg (Qd x)) x.1,vSl 2 A0 x.2])) true),(0,.cells [.p (vSl 2 G5 q0)])]⟩) (ids:=(Qp [0,1])) (λ_ _ _ _ _ f x2 L1 i h=>?_);apply kI Z h<;>intro h
 .obtain⟨c48,h⟩:=B9 h;refine CM Z (Qu c48 Nh) h (λx4 L16=>⟨[(17,pN x4),(16,pN ((q0.g x2.toNat).Sn.n:Int)),(15,.p (vSl 2 G4 (q0.g x2.toNat).Sn)),(9,pN x2),(8,pN (q0.n:Int)),(7,.p (vSl 2 G5 q0)),(3,pN x2),(0,.yf 1)],[(1,.yld (L16.map (λ(x:place×(Sl Qj))=>[(λx=>.agg (Qd x)) x.1,vSl 2 A0 x.2])) true),(0,.cells [.p (vSl 2 G5 q0)])]⟩) (ids:=(Qp [0,1])) (λ_ _ _ _ _ j x4 L16 d h=>?_);apply kI Z h<;>intro h
  .obtain⟨c64,h⟩:=B9 h;refine ER Z (Qu c64 Nh) (b:=((q0.g x2.toNat).Sn.g x4.toNat).Has) (λc67=>?_) (λc67=>?_)
   .replace h:=itT c67 h;obtain⟨L22,rfl,c⟩:=Ng h;replace h:=c;refine CL Z Lg (ys:=(λ(x:place×(Sl Qj))=>[(λx=>.agg (Qd x)) x.1,vSl 2 A0 x.2]) ((⟨x2,x4⟩:place),((q0.g x2.toNat).Sn.g x4.toNat).W)) (rest:=L22.map (λ(x:place×(Sl Qj))=>[(λx=>.agg (Qd x)) x.1,vSl 2 A0 x.2])) ?_ ?_
    .refine C7 Z Lg (b:=false) (λc68=>?_) (λc68=>?_)
     .exact Bool.noConfusion ((rfl:false=false).symm.trans c68)
     exact d _ (Qp [0,1]) _ _ L22 Lg h
    refine C7 Z Lg (b:=true) (λc69=>?_) (λc69=>?_)
    .exact kO Z Lg (a:=.tup []) (objs:=[(.cells [.p (vSl 2 G5 q0)]),.yld [] false]) [0,1] ⟨false,rfl,rfl,_,rfl⟩
    exact Bool.noConfusion (Nm.symm.trans c69)
   replace h:=itF c67 h;exact d _ (Qp [0,1]) _ _ L16 Lg h
  exact i _ (Qp [0,1]) _ _ L16 Lg h
 obtain rfl:=B1 h;exact kO Z Lg (a:=.tup []) (objs:=[(.cells [.p (vSl 2 G5 q0)]),.yld [] true]) [0,1] ⟨true,rfl,rfl,_,rfl⟩
def CS (N:Nat)(a:Sl So):Option (Sl So):= some a
theorem Ns {a:Sl So}{y:Sl So}(h:CS N a=some y) :Sb S Gz [.p (vSl 2 G5 a)] [] (.clo BN [] [.reg 0 0]) ([.cells [.p (vSl 2 G5 y)]]) []:=by unfold CS at h;refine A2 Z func72 ?_;obtain rfl:=B1 h;exact kO Z Lg [2000]
omit Z Y
abbrev OR (es:List (Str×U9)):Obj:=.map (CC PV.str (λx=>.agg (G4 x)) es)
abbrev Bi9 (M:Sl (List (Str×U9))):List Obj:=[.cells [.vec 1],.fam E1 M.n 2 none,.rows M.n λi=>OR (M.g i)]
def Bt7 {i n:Nat}{g:Nat->Obj}:∀q,q<n->(λq=>if q=i then g i else if q=i then Obj.dead else g q) q=(λq=>g q) q:=λq _=>by
 show (if q=i then g i else if q=i then Obj.dead else g q)=g q;by_cases h:q=i
 .subst h;rw[Gy rfl]
 rw[Hj h,Hj h]
def Bt8 {i n:Nat}{M:Sl (List (Str×U9))}{x:List (Str×U9)}:∀q,q<n->(λq=>if q=i then OR x else if q=i then Obj.dead else OR (M.g q)) q=(λq=>OR ((M.upd i x).g q)) q:=λq _=>by
 show (if q=i then OR x else if q=i then Obj.dead else OR (M.g q))=OR (if q=i then x else M.g q);by_cases h:q=i
 .rw[Gy h,Gy h]
 rw[Hj h,Hj h,Hj h]
abbrev knO (K i:Nat):Obj:=if i<K then OR []else .ghost [.p (.v (.map none))]
def obKn {K x n:Nat}(hx:x=K):∀q,q<n->(λq=>if q=x then Obj.map []else if q=x then Obj.dead else knO K q) q=(λi=>knO (K+1) i) q:=λq _=>by
 show (if q=x then OR []else if q=x then Obj.dead else if q<K then OR []else .ghost [.p (.v (.map none))])=if q<K+1 then OR []else .ghost [.p (.v (.map none))]
 by_cases e:q=x
 .rw[Gy e,Gy (by omega)]
 rw[Hj e,Hj e];by_cases e2:q<K
 .rw[Gy e2,Gy (by omega)]
 rw[Hj e2,Hj (by omega)]
include Z Y
def Cx (N:Nat)(p:U9)(leaf:Int)(M:Sl (List (Str×U9)))(X:Sl (Sl Law)):Option (Sl Qj×Bool×Sl (List (Str×U9))):= if (!p.Has) then some ((Sl.nil:Sl Qj),false,M) else if leaf.toNat<M.n then if ((0:Int)<=leaf/\leaf<(M.n:Int))then (Jf N p.W).bind λk=>Ih (K6 eqS k (M.g leaf.toNat)) (if ((0:Int)<=leaf/\leaf<(X.n:Int))then (Cv N (X.g leaf.toNat) p.W).bind λw=>some (w.1,w.2==0,M.upd leaf.toNat (Fz eqS k (⟨w.2==0,w.1⟩:U9) (M.g leaf.toNat))) else none) λv=>some (v.W,v.Has,M) else none else none
theorem MH {N:Nat}{p:U9}{leaf:Int}{X:Sl (Sl Law)}{M:Sl (List (Str×U9))}{y:Sl Qj×Bool×Sl (List (Str×U9))}(h:Cx N p leaf M X=some y) :Sb S T9 [.p (.agg (G4 p)),pN leaf,.reg 0 0,.p (.ptr [vSl 1 (cL 18 B6) X])] (Bi9 M) (.tup [.p (vSl 2 A0 y.1),pB y.2.1]) (Bi9 y.2.2) [true,true,false]:=by
 unfold Cx at h;refine A2 Z Tryz.func106 ?_;refine F0 Z Lg 12 5000 (G4 p) ?_;apply kI Z h<;>intro h
 .obtain rfl:=B1 h;exact M8 Z Lg ⟨[(7,pB false),(6,.p (vSl 2 A0 (Sl.nil:Sl Qj)))],[(9902,.rows M.n λi=>OR (M.g i)),(1,.fam E1 M.n 9902 none),(0,.cells [.vec 1])]⟩ [0,1,9902] (ids:=[(0,0),(1,1),(9902,2)]) ⟨rfl,rfl,rfl⟩
 obtain⟨c1,h⟩:=B9 h;obtain⟨c2,h⟩:=B9 h;refine Am1 Z Lg (.take 1 leaf.toNat 9801) (⟨⟨by decide,rfl⟩,c1⟩:(1000<=9801/\M.n=M.n)/\leaf.toNat<M.n) ?_;obtain⟨k,e1,h⟩:=A9 h;refine G8 Z Lg [(0,.l [0]),(2,.l [1]),(3,.l [1]),(5,.n),(6,.n),(7,.l [9801]),(11,.a [9000]),(12,.a [9000])] ?_;refine F9 (Qu c2 (Qu c1 (rfl:leaf.toNat=leaf.toNat))) (Ot Z Y e1) ?_;rcases o1:K6 eqS k (M.g leaf.toNat)with _|v1
 .replace h:=Zj o1 h;refine Bi4 Lg H4 JH PV.str (λx=>.agg (G4 x)) eqS o1 (.agg [.v (.bool false),I4]) Lg ?_;refine C8 Lg ?_;refine C7 Z Lg (b:=true) (λc=>?_) (λc=>Bool.noConfusion (Nm.symm.trans c));obtain⟨c3,h⟩:=B9 h;obtain⟨w,e2,h⟩:=A9 h;refine C4 Z Lg [0,2,3,5,6] ?_;refine F9 c3 (Jb Z Y e2) ?_;refine C8 Lg ?_;refine G8 Z Lg [(0,.l [0]),(2,.l [1]),(3,.l [1]),(5,.n),(6,.n),(7,.l [9000])] ?_;refine F9 (Qu c2 (Qu c1 (rfl:leaf.toNat=leaf.toNat))) (Ot Z Y e1) ?_;refine Vh Lg H4 PV.str (λx=>.agg (G4 x)) eqS k (⟨w.2==0,w.1⟩:U9) (M.g leaf.toNat) Lg ?_;refine C8 Lg ?_;obtain rfl:=B1 h;refine Am1 Z Lg (.put 1 9902) (⟨⟨by decide,rfl⟩,c1⟩:(1000<=9902/\M.n=M.n)/\leaf.toNat<M.n) ?_;refine ES Z Lg ?_;refine C8 Lg ?_;exact M8 Z Lg ⟨[(7,pB (w.2==0)),(6,.p (vSl 2 A0 w.1))],[(9902,.rows M.n λi=>OR ((M.upd leaf.toNat (Fz eqS k (⟨w.2==0,w.1⟩:U9) (M.g leaf.toNat))).g i)),(1,.fam E1 M.n 9902 none),(0,.cells [.vec 1])]⟩ [0,1,9902] (ids:=(Qp [0,1,9902])) ⟨rfl,rfl,rfl⟩ (hle:=klR [(3,.ob M.n (λq=>if q=leaf.toNat then OR (Fz eqS k (⟨w.2==0,w.1⟩:U9) (M.g leaf.toNat))else if q=leaf.toNat then .dead else OR (M.g q)) λi=>OR ((M.upd leaf.toNat (Fz eqS k (⟨w.2==0,w.1⟩:U9) (M.g leaf.toNat))).g i))] (al1 Bt8 al0))
 replace h:=Xr o1 h;refine AU8 Lg H4 JH PV.str (λx=>.agg (G4 x)) eqS o1 Lg ?_;refine C8 Lg ?_;obtain rfl:=B1 h;refine C7 Z Lg (b:=false) (λc=>Bool.noConfusion ((rfl:false=false).symm.trans c)) (λc=>?_);refine Am1 Z Lg (.put 1 9902) (⟨⟨by decide,rfl⟩,c1⟩:(1000<=9902/\M.n=M.n)/\leaf.toNat<M.n) ?_;refine ES Z Lg ?_;refine C8 Lg ?_;exact M8 Z Lg ⟨[(7,pB v1.Has),(6,.p (vSl 2 A0 v1.W))],[(9902,.rows M.n λi=>OR (M.g i)),(1,.fam E1 M.n 9902 none),(0,.cells [.vec 1])]⟩ [0,1,9902] (ids:=(Qp [0,1,9902])) ⟨rfl,rfl,rfl⟩ (hle:=klR [(3,.ob M.n (λq=>if q=leaf.toNat then OR (M.g leaf.toNat)else if q=leaf.toNat then .dead else OR (M.g q)) λi=>OR (M.g i))] (al1 (Bt7 (g:=λi=>OR (M.g i))) al0))
def DY (N:Nat)(a:Si)(b:Int):Option (Sl (Sl Law)):= (O8 N a.Tree).bind λl=>if ((0:Int)<=(l.1.n:Int)/\(l.1.n:Int)<=(l.1.n:Int)/\(l.1.n:Int)*24<=140737488355328/\(l.1.n:Int)<=140737488355328)then if ((0:Int)<=(l.1.n:Int)/\(l.1.n:Int)<=(l.1.n:Int)/\(l.1.n:Int)*8<=140737488355328/\(l.1.n:Int)<=140737488355328)then AZ3 N (λf (K:Nat) (X:Sl (Sl Law)) (x:Int)=>if (decide (x<(l.1.n:Int))) then if (((0:Int)<=x/\x<(l.1.n:Int))/\x.toNat<l.1.n)then (Lr N a.Tree (l.1.g x.toNat)).bind λw=>Co N (λd (X:Sl (Sl Law)) (y:Int)=>if (decide (y<(w.1.n:Int))) then if ((((0:Int)<=y/\y<(w.1.n:Int))/\y.toNat<w.1.n)/\((0:Int)<=(w.1.g y.toNat)/\(w.1.g y.toNat)<(a.On.n:Int)))then Co N (λc (X:Sl (Sl Law)) (z:Int)=>if (decide (z<((a.On.g (w.1.g y.toNat).toNat).n:Int))) then if ((0:Int)<=z/\z<((a.On.g (w.1.g y.toNat).toNat).n:Int))then if (((a.On.g (w.1.g y.toNat).toNat).g z.toNat) != b) then if x.toNat<X.n then if (((0:Int)<=x/\x<(X.n:Int))/\((0:Int)<=((a.On.g (w.1.g y.toNat).toNat).g z.toNat)/\((a.On.g (w.1.g y.toNat).toNat).g z.toNat)<(a.Laws.n:Int)))then if (Qt 200 ((X.g x.toNat).n+1))then c (X.upd x.toNat ((X.g x.toNat).push (a.Laws.g ((a.On.g (w.1.g y.toNat).toNat).g z.toNat).toNat))) (wrap .i64 (z+1)) else none else none else none else c X (wrap .i64 (z+1)) else none else d X (wrap .i64 (y+1))) X 0 else none else if x.toNat=K/\K<l.1.n then f (K+1) X (wrap .i64 (x+1))else none) X 0 else none else if K=l.1.n/\X.n=l.1.n then some X else none) 0 ⟨l.1.n,λ_=>Sl.nil⟩ 0 else none else none
theorem OT {N:Nat}{d:Si}{c:Int}{y:Sl (Sl Law)}(h:DY N d c=some y) :Sb S HO [.p (.agg (A8 d)),pN c] [] (.clo T9 [] [.reg 0 0,.p (.ptr [vSl 1 (cL 18 B6) y])]) (Bi9 ⟨y.n,λ_=>[]⟩) []:=by
 unfold DY at h;refine A2 Z Tryz.func71 ?_;refine F0 Z Lg 18 3000 (A8 d) ?_;obtain⟨l,e1,h⟩:=A9 h;refine B0 Z [] Lg (Es Z Y e1) ?_;obtain⟨c1,h⟩:=B9 h;refine Cd Z c1 26 (.fam 26000 9901 λi=>Cf I5 18 B6 ((⟨l.1.n,λ_=>Sl.nil⟩:Sl (Sl Law)).g i)) (⟨by decide,λi _=>rfl⟩:1000<=9901/\∀i,i<l.1.n->Po [I4] (Cf I5 18 B6 ((⟨l.1.n,λ_=>Sl.nil⟩:Sl (Sl Law)).g i))) ?_;obtain⟨c2,h⟩:=B9 h;refine Cd Z c2 29 (.fam 29000 9951 λi=>knO 0 i) (⟨by decide,λi _=>⟨rfl,rfl⟩⟩:1000<=9951/\∀i,i<l.1.n->Po [.v (.map none)] (knO 0 i)) ?_;refine Tz Z Lg h (λK X x=>⟨[(31,pN x),(30,pN (l.1.n:Int)),(29,.vec 21000),(8,.reg 9000 0),(7,.reg 8000 0),(2,.p (.ptr (A8 d))),(1,pN c)],
  [(29000,.fam E1 l.1.n 9951 none),(26000,.fam DA X.n 9901 none),(21000,oV D1 1 (cI .i64) l.1 true),(9951,.rows l.1.n λi=>knO K i),(9901,.rows X.n λi=>Cf I5 18 B6 (X.g i)),(9000,.cells [.vec 29000]),(8000,.cells [.vec 26000])]⟩) (ids:=(Qp [29000,26000,21000,9951,9901,9000,8000])) (λ_ _ _ _ _ s K X x j h=>?_)
 apply kI Z h<;>intro h
 .obtain⟨c3,h⟩:=B9 h;obtain⟨w,e2,h⟩:=A9 h;refine B0 Z [] c3 (Ae2 Z Y e2) ?_;refine H7 Z Lg h (λX u=>⟨[(45,pN u),(44,pN (w.1.n:Int)),(43,.vec 41000),(31,pN x),(30,pN (l.1.n:Int)),(29,.vec 21000),(9,pN x),(8,.reg 9000 0),(7,.reg 8000 0),(2,.p (.ptr (A8 d))),(1,pN c)],[(41000,oV D1 1 (cI .i64) w.1 true),(29000,.fam E1 l.1.n 9951 none),(26000,.fam DA X.n 9901 none),(21000,oV D1 1 (cI .i64) l.1 true),(9951,.rows l.1.n λi=>knO K i),(9901,.rows X.n λi=>Cf I5 18 B6 (X.g i)),(9000,.cells [.vec 29000]),(8000,.cells [.vec 26000])]⟩) (ids:=(Qp [41000,29000,26000,21000,9951,9901,9000,8000])) (λ_ _ _ _ _ m X u o h=>?_);apply kI Z h<;>intro h
  .obtain⟨c4,h⟩:=B9 h;refine H7 Z c4 h (λX z=>⟨[(55,pN z),(54,pN ((d.On.g (w.1.g u.toNat).toNat).n:Int)),(53,.p (vSl 1 (cI .i64) (d.On.g (w.1.g u.toNat).toNat))),(45,pN u),(44,pN (w.1.n:Int)),(43,.vec 41000),(31,pN x),(30,pN (l.1.n:Int)),(29,.vec 21000),(9,pN x),(8,.reg 9000 0),(7,.reg 8000 0),(2,.p (.ptr (A8 d))),(1,pN c)],[(41000,oV D1 1 (cI .i64) w.1 true),(29000,.fam E1 l.1.n 9951 none),(26000,.fam DA X.n 9901 none),(21000,oV D1 1 (cI .i64) l.1 true),(9951,.rows l.1.n λi=>knO K i),(9901,.rows X.n λi=>Cf I5 18 B6 (X.g i)),(9000,.cells [.vec 29000]),(8000,.cells [.vec 26000])]⟩) (ids:=(Qp [41000,29000,26000,21000,9951,9901,9000,8000])) (λ_ _ _ _ _ r X z f h=>?_);apply kI Z h<;>intro h
   .obtain⟨c5,h⟩:=B9 h;refine C7 Z c5 (b:=((d.On.g (w.1.g u.toNat).toNat).g z.toNat) != c) (λc6=>?_) (λc6=>?_)
    .replace h:=itT c6 h;obtain⟨c7,h⟩:=B9 h;obtain⟨c8,h⟩:=B9 h;obtain⟨c9,h⟩:=B9 h;refine Am1 Z Lg (.take 26000 x.toNat 9801) (⟨⟨by decide,rfl⟩,c7⟩:(1000<=9801/\X.n=X.n)/\x.toNat<X.n) ?_;refine G8 Z Lg [(0,.l [8000]),(2,.l [8000]),(4,.l [26000]),(5,.l [26000]),(6,.n),(7,.n),(9,.n),(10,.n),(12,.a [75000,9801]),(13,.l [26000]),(14,.a [26000])] ?_;refine O9 (Qu (Qu (Qu c8.1 (Qu c7 (rfl:x.toNat=x.toNat))) c8.2) Nl) (x:=.sl true 18 1 (H0 [.str [],pI .i64 0,pI .u32 0,pI .u32 0,.v (.bool false),pI .i64 0,pI .i64 0,I4,pI .i64 0,pI .u32 0,pI .u32 0,.v (.bool false),pI .i64 0,pI .i64 0,I4,I4,I4,pI .i64 0] [(0,B6 (d.Laws.g ((d.On.g (w.1.g u.toNat).toNat).g z.toNat).toNat))])) ?_;refine C8 (Qu (Qu c9 c8.1) (Qu c7 (rfl:x.toNat=x.toNat))) ?_;refine N9 Z Lg 76 ⟨[(55,pN z),(54,pN ((d.On.g (w.1.g u.toNat).toNat).n:Int)),(53,.p (vSl 1 (cI .i64) (d.On.g (w.1.g u.toNat).toNat))),(45,pN u),(44,pN (w.1.n:Int)),(43,.vec 41000),(31,pN x),(30,pN (l.1.n:Int)),(29,.vec 21000),(9,pN x),(8,.reg 9000 0),(7,.reg 8000 0),(2,.p (.ptr (A8 d))),(1,pN c)],[(75000,Cf I5 18 B6 ((X.g x.toNat).push (d.Laws.g ((d.On.g (w.1.g u.toNat).toNat).g z.toNat).toNat))),(41000,oV D1 1 (cI .i64) w.1 true),(29000,.fam E1 l.1.n 9951 none),(26000,.fam DA X.n 9901 (some (x.toNat,.vec 75000))),(21000,oV D1 1 (cI .i64) l.1 true),(9951,.rows l.1.n λi=>knO K i),(9901,(.rows X.n λq=>if q=x.toNat then .dead else Cf I5 18 B6 (X.g q))),(9000,.cells [.vec 29000]),(8000,.cells [.vec 26000])]⟩ (ids:=(Qp [75000,41000,29000,26000,21000,9951,9901,9000,8000])) ?_ (hle:=kl1 10 (Ci B6 (X.g x.toNat) (d.Laws.g ((d.On.g (w.1.g u.toNat).toNat).g z.toNat).toNat) [.str [],pI .i64 0,pI .u32 0,pI .u32 0,.v (.bool false),pI .i64 0,pI .i64 0,I4,pI .i64 0,pI .u32 0,pI .u32 0,.v (.bool false),pI .i64 0,pI .i64 0,I4,I4,I4,pI .i64 0]));refine Cd Z Lg 76 (.put 26000 9902) (⟨⟨by decide,rfl⟩,c7⟩:(1000<=9902/\X.n=X.n)/\x.toNat<X.n) ?_;exact f _ [(41000,41000),(29000,29000),(26000,26000),(21000,21000),(9951,9951),(9901,9902),(9000,9000),(8000,8000)] _ _ _ Lg h (hle:=klR [(17,.ob X.n (λq=>if q=x.toNat then Cf I5 18 B6 ((X.g x.toNat).push (d.Laws.g ((d.On.g (w.1.g u.toNat).toNat).g z.toNat).toNat))else if q=x.toNat then .dead else Cf I5 18 B6 (X.g q)) λi=>Cf I5 18 B6 ((X.upd x.toNat ((X.g x.toNat).push (d.Laws.g ((d.On.g (w.1.g u.toNat).toNat).g z.toNat).toNat))).g i))] (al1 Bt6 al0))
    replace h:=itF c6 h;exact f _ (Qp [41000,29000,26000,21000,9951,9901,9000,8000]) _ X _ Lg h
   exact o _ (Qp [41000,29000,26000,21000,9951,9901,9000,8000]) _ X _ Lg h
  obtain⟨c4,h⟩:=B9 h;refine Cd Z Lg 78 (.over 29000 x.toNat) (⟨rfl,by omega⟩:l.1.n=l.1.n/\x.toNat<l.1.n) ?_;refine Cd Z (Qu c3.1 (Qu c3.2 (rfl:x.toNat=x.toNat))) 82 (.put 29000 9952) (⟨⟨by decide,rfl⟩,c3.2⟩:(1000<=9952/\l.1.n=l.1.n)/\x.toNat<l.1.n) ?_;exact j _ [(29000,29000),(26000,26000),(21000,21000),(9951,9952),(9901,9901),(9000,9000),(8000,8000)] _ _ X _ Lg h (hle:=klR [(8,.ob l.1.n (λq=>if q=x.toNat then .map []else if q=x.toNat then .dead else knO K q) λi=>knO (K+1) i)] (al1 (obKn c4.1) al0))
 obtain⟨c3,h⟩:=B9 h;obtain rfl:=B1 h;refine Cd Z Lg 83 (.pub 26000) (⟨rfl,λi _=>rfl⟩:X.n=X.n/\∀i,i<X.n->(RG (Cf I5 18 B6 (X.g i))).isSome=true) ?_;refine N9 Z Lg 83 ⟨[(8,.reg 9000 0),(7,.reg 8000 0)],[(29000,.fam E1 X.n 9951 none),(9951,.rows X.n λi=>OR []),(9000,.cells [.vec 29000]),(8000,.cells [.p (vSl 1 (cL 18 B6) X)])]⟩ (ids:=(Qp [29000,9951,9000,8000])) ?_ (hle:=klR [(0,.nt l.1.n X.n),(1,.nt l.1.n X.n),(2,.ob X.n (λi=>knO K i) (λi=>OR [])),(3,.fn X.n X.n (λi=>[(RG (Cf I5 18 B6 (X.g i))).getD default]) (λi=>cL 18 B6 (X.g i)))] (al1 c3.2.symm (al1 c3.2.symm (al1 (λi t=>Gy (by omega)) (al1 ⟨rfl,λ_ _=>rfl⟩ al0)))));refine F0 Z Lg 83 8000 [vSl 1 (cL 18 B6) X] ?_;exact M8 Z Lg ⟨[(4,.clo T9 [] [.reg 9000 0,.p (.ptr [vSl 1 (cL 18 B6) X])])],[(29000,.fam E1 X.n 9951 none),(9951,.rows X.n λi=>OR []),(9000,.cells [.vec 29000])]⟩ [9000,29000,9951] (ids:=(Qp [29000,9951,9000])) ⟨rfl,rfl,rfl⟩
def Jg (N:Nat)(d:Si)(b:Sl U9)(f:Sl So)(a:Int):Option ((Sl B3)×Int):= (Z3 N d b f).bind λy1=>if (y1 != 0) then some ((Sl.nil:Sl B3),y1) else if ((decide (a<0))||(decide (1073741824<a))) then some ((Sl.nil:Sl B3),2) else (DY N d (-1)).bind λy2=>(CS N f).bind λy3=>(BS N y3).bind λL1=>Cp L1 (λc (x1:place×(Sl Qj)) (z1:(Sl (List (Str×U9)))×(Sl B3))=>if ((0:Int)<=x1.1.entry/\x1.1.entry<(b.n:Int))then (Cx N (b.g x1.1.entry.toNat) x1.1.leaf z1.1 y2).bind λy8=>if (!y8.2.1) then if (Qt 32 (z1.2.n+(Sl.of [(⟨x1.1.entry,x1.1.leaf,2,a⟩:B3)]:Sl B3).n))then c (y8.2.2,z1.2.push (⟨x1.1.entry,x1.1.leaf,2,a⟩:B3)) else none else (FD N y8.1 x1.2).bind λy9=>if (!y9) then if (Qt 32 (z1.2.n+(Sl.of [(⟨x1.1.entry,x1.1.leaf,1,a⟩:B3)]:Sl B3).n))then c (y8.2.2,z1.2.push (⟨x1.1.entry,x1.1.leaf,1,a⟩:B3)) else none else c (y8.2.2,z1.2) else none) (λ(z1:(Sl (List (Str×U9)))×(Sl B3))=>some (z1.2,0)) ((⟨y2.n,λ_=>[]⟩:Sl (List (Str×U9))),(Sl.nil:Sl B3))
theorem YB {N:Nat}{d:Si}{c:Sl U9}{j:Sl So}{b:Int}{y:(Sl B3)×Int}(h:Jg N d c j b=some y) :Sb S NV [.p (.agg (A8 d)),.p (vSl 2 G4 c),.p (vSl 2 G5 j),pN b] [] (.tup [.vec 0,pN y.2]) ([oV T1 4 B4 y.1 false]) []:=by
 unfold Jg at h;refine A2 Z Tryz.func44 ?_;refine F0 Z Lg 5 5000 (A8 d) ?_;refine F0 Z Lg 7 6000 [vSl 2 G4 c] ?_;refine F0 Z Lg 8 8000 [pI .i64 b] ?_;obtain⟨y1,e1,h⟩:=A9 h;refine B0 Z [] Ni (KK Z Y e1) ?_;apply kI Z h<;>intro h
 .obtain rfl:=B1 h;exact kO Z Lg [9700]
 refine kB Z (A4 Z) Lg Lg 3 (.o (.a (decide (b<0))) (.a (decide (1073741824<b)))) ?_;apply kI Z h<;>intro h
 .obtain rfl:=B1 h;exact kO Z Lg [9700]
 obtain⟨y2,e2,h⟩:=A9 h;refine B0 Z [] Ni (OT Z Y e2) ?_;refine kC Z h (Ns Z Y) (λy3 h=>?_);obtain⟨L1,e4,h⟩:=A9 h;refine IB Z Lg [34000] [12,11,7,5] 901 (λz1=>⟨[(12,.reg 13000 0),(11,.reg 12000 0),(7,.p (.ptr [pI .i64 b])),(5,.p (.ptr [vSl 2 G4 c]))],[(32001,.fam E1 z1.1.n 12500 none),(32000,.cells [.vec 32001]),(13500,oV T1 4 B4 z1.2 false),(13000,.cells [.vec 13500]),(12500,.rows z1.1.n λi=>OR (z1.1.g i)),(12000,.cells [.clo T9 [] [.reg 32000 0,.p (.ptr [vSl 1 (cL 18 B6) y2])]])]⟩) (idl:=[(12000,12000),(12500,32002),(13000,13000),(32000,32000),(32001,32001)]) h (Ls Z Y e4) (λ_=>by kernel_rfl) (λ_=>by kernel_rfl) (λ_=>by kernel_rfl) (λ_=>by kernel_rfl) (λx1 _ l z1 f h=>?_) (λz1 h=>?_)
 .refine F0 Z Lg 14 14000 [pI .i64 x1.1.entry,pI .i64 x1.1.leaf] ?_;refine Ma Z Lg ?_;refine C4 Z Lg [1,3,4,5,7] ?_;obtain⟨c9,h⟩:=B9 h;obtain⟨y8,e9,h⟩:=A9 h;refine LZ [32000,32001,12500] (Qu c9 Nh) (MH Z Y e9) ?_;refine C8 Lg ?_;apply kI Z h<;>intro h
  .obtain⟨c11,h⟩:=B9 h;exact f _ [(901,901),(12000,12000),(12500,46002),(13000,13000),(13500,60000),(32000,32000),(32001,32001)] _ (y8.2.2,z1.2.push (⟨x1.1.entry,x1.1.leaf,2,b⟩:B3)) (Qu Nm c11) h (hle:=kl1 1 (Ci B4 z1.2 (⟨x1.1.entry,x1.1.leaf,2,b⟩:B3) [pI .i64 0,pI .i64 0,pI .i64 0,pI .i64 0]))
  refine kC Z h (Oo Z Y) (λy9 h=>?_);apply kI Z h<;>intro h
  .obtain⟨c13,h⟩:=B9 h;exact f _ [(901,901),(12000,12000),(12500,46002),(13000,13000),(13500,74000),(32000,32000),(32001,32001)] _ (y8.2.2,z1.2.push (⟨x1.1.entry,x1.1.leaf,1,b⟩:B3)) (Qu Nm c13) h (hle:=kl1 1 (Ci B4 z1.2 (⟨x1.1.entry,x1.1.leaf,1,b⟩:B3) [pI .i64 0,pI .i64 0,pI .i64 0,pI .i64 0]))
  exact f _ [(901,901),(12000,12000),(12500,46002),(13000,13000),(13500,13500),(32000,32000),(32001,32001)] _ _ Lg h
 obtain rfl:=B1 h;exact kO Z Lg [13500]
end Go.AM
namespace Go.AM
open Go.Proofs.Tryz
variable {N:Nat}
open Go.Proofs
section
variable {S:U8}(Z:G0 S Tryz.prog) (Y:JU S)
include Z Y
def H9 (N:Nat)(s:Sl Str)(t:Str):Option Str:= if s.n<=140737488355328/\(Lib.join ((List.range s.n).map s.g) t).length<=140737488355328 then some (Lib.join ((List.range s.n).map s.g) t)else none
theorem SN {s:Sl Str}{t:Str}{y:Str}(h:H9 N s t=some y):Sb S Dh [.p (vSl 1 cS s),.p (.str t)] [] (.p (.str y)) [] []:=by simp only[H9,BM5,By4]at h;obtain⟨⟨h1,a⟩,rfl⟩:=h;exact Y.join false s.n s.g t h1 a
def O3 (N:Nat)(s:Str)(t:Int):Option Int:= if 0<=t/\t<256 then some (Lib.indexByte s (UInt8.ofNat t.toNat))else none
theorem Fh {s:Str}{t:Int}{y:Int}(h:O3 N s t=some y):Sb S X4 [.p (.str s),.p (pI .u8 t)] [] (.p (pI .i64 y)) [] []:=by
 simp only[O3,BM5,By4]at h;obtain⟨h1,rfl⟩:=h
 have:=Y.indexByte s (UInt8.ofNat t.toNat)
 have e:(((UInt8.ofNat t.toNat).toNat:Nat):Int)=t:=by
  have:(UInt8.ofNat t.toNat).toNat=t.toNat:=UInt8.toNat_ofNat_of_lt' (by show t.toNat<256;omega)
  omega
 rw[e]at this;exact this
def D3 (N:Nat)(s:Sl Str):Option (Sl Str):=if (0+s.n)*16<=140737488355328/\0+s.n<=140737488355328 then some s else none
theorem O4 {s y:Sl Str}(h:D3 N s=some y):Sb S W5 [.p (vSl 1 cS s)] [] (.vec 0) [.vec H4 1 y.n (λi=>cS (y.g i)) true] []:=by
 unfold D3 at h;obtain⟨c1,h⟩:=B9 h;obtain rfl:=B1 h;refine A2 Z func159 ?_;refine XD Z Lg 3 (k:=1) (n:=s.n) (f:=λi=>cS (s.g i)) (λa=>?_) ?_
 .obtain⟨n,g⟩:=s;obtain rfl:n=0:=a;exact kO Z Lg [3700]
 exact kO Z (Qu Nm c1) [8000]
  (hle:=kl1 0 (AM7 cS s [.str []]))
def J0 (N:Nat)(s:Sl F2):Option (Sl F2):=if (0+s.n)*24<=140737488355328/\0+s.n<=140737488355328 then some s else none
theorem Bj {s y:Sl F2}(h:J0 N s=some y):Sb S Q6 [.p (vSl 3 D5 s)] [] (.vec 0) [.vec D2 3 y.n (λi=>D5 (y.g i)) true] []:=by
 unfold J0 at h;obtain⟨c1,h⟩:=B9 h;obtain rfl:=B1 h;refine A2 Z func164 ?_;refine XD Z Lg 3 (k:=3) (n:=s.n) (f:=λi=>D5 (s.g i)) (λa=>?_) ?_
 .obtain⟨n,g⟩:=s;obtain rfl:n=0:=a;exact kO Z Lg [3700]
 exact kO Z (Qu Nm c1) [8000]
  (hle:=kl1 0 (AM7 D5 s [.str [],pI .u32 0,pI .u32 0]))
def G3 (N:Nat)(s:Sl Fw):Option (Sl Fw):=if (0+s.n)*32<=140737488355328/\0+s.n<=140737488355328 then some s else none
theorem BU {s y:Sl Fw}(h:G3 N s=some y):Sb S S9 [.p (vSl 4 S5 s)] [] (.vec 0) [.vec TY 4 y.n (λi=>S5 (y.g i)) true] []:=by
 unfold G3 at h;obtain⟨c1,h⟩:=B9 h;obtain rfl:=B1 h;refine A2 Z func125 ?_;refine XD Z Lg 3 (k:=4) (n:=s.n) (f:=λi=>S5 (s.g i)) (λa=>?_) ?_
 .obtain⟨n,g⟩:=s;obtain rfl:n=0:=a;exact kO Z Lg [3700]
 exact kO Z (Qu Nm c1) [8000]
  (hle:=kl1 0 (AM7 S5 s [.str [],pI .u32 0,pI .u32 0,pI .u32 0]))
end
open IntKind (wrap)
set_option maxRecDepth 10000
set_option maxHeartbeats 2000000
variable {S:U8}(Z:G0 S Tryz.prog) (Y:JU S)
include Z Y
def S4 (N:Nat)(a:Int):Option Bool:= some (((decide (97<=a))&&(decide (a<=122)))||((decide (48<=a))&&(decide (a<=57))))
theorem GG {b:Int}{y:Bool}(h:S4 N b=some y) :Sb S GB [.p (pI .u8 b)] [] (pB y) ([]) []:=by unfold S4 at h;refine A2 Z func158 ?_;refine kB Z (A4 Z) Lg Lg 11 (.o (.n (.a (decide (97<=b))) (.a (decide (b<=122)))) (.n (.a (decide (48<=b))) (.a (decide (b<=57))))) ?_;cases h;exact kR Z
abbrev iO (v:A5)(a b c d:Nat):List Obj:=[(.cells [.p (vSl 1 cS v.feats),.Se a,.vec b,.Se c,.Se d]),oM PV.str (pI .i64) v.number,oV D2 3 D5 v.sounds true,oM PV.str (pI .i64) v.symbols,oM (λx=>.agg (A0 x)) (pI .i64) v.values]
def J1 (N:Nat)(a:A5):Option Bool:= some true
theorem Bk {a:A5}{y:Bool}(h:J1 N a=some y) :Sb S Ed [.reg 0 0] (iO a 1 2 3 4) (pB y) (iO a 1 2 3 4) [true,true,true,true,true]:=by unfold J1 at h;refine A2 Z func160 ?_;obtain rfl:=B1 h;exact kO Z Lg [0,1,2,3,4]
def N4 (N:Nat)(b:A5)(a:Qj):Option Bool:= if (0:Int)<=(b.feats.n:Int)then some (((G6 .and .u32 a.Plus a.Minus)==0)&&((G6 .andNot .u32 (G6 .or .u32 a.Plus a.Minus) (wrap .u32 ((shI .shl .u32 1 (b.feats.n:Int))-1)))==0)) else none
theorem Hw {c:A5}{b:Qj}{y:Bool}(h:N4 N c b=some y) :Sb S Cs [.reg 0 0,.p (.agg (A0 b))] (iO c 1 2 3 4) (pB y) (iO c 1 2 3 4) [true,true,true,true,true]:=by unfold N4 at h;refine A2 Z func163 ?_;obtain⟨c1,h⟩:=B9 h;refine kB Z (A4 Z) c1 Lg 9 (.n (.a ((G6 .and .u32 b.Plus b.Minus)==0)) (.a ((G6 .andNot .u32 (G6 .or .u32 b.Plus b.Minus) (wrap .u32 ((shI .shl .u32 1 (c.feats.n:Int))-1)))==0))) ?_;obtain rfl:=B1 h;exact kO Z Lg [0,1,2,3,4]
def J2 (N:Nat)(a:Str)(b:Int)(d:Int->Option Bool):Option Bool:= if ((decide ((a.length:Int)<1))||(decide (b<(a.length:Int)))) then some false else R6 N (λc (x1:Int)=>if (decide (x1<(a.length:Int))) then if ((0:Int)<=x1/\x1<(a.length:Int))then (d (D7 a x1)).bind λy3=>if (!y3) then some false else c (wrap .i64 (x1+1)) else none else some true) 0
theorem Ef {d:Str}{c:Int}{f:Int->Option Bool}{kp_of:Nat}(g:∀{a0:Int}{b:Bool},f a0=some b->Sb S kp_of [.p (pI .u8 a0)] [] (pB b) [] []){y:Bool}(h:J2 N d c f=some y) :Sb S Ec [.p (.str d),pN c,.clo kp_of [] []] [] (pB y) ([]) []:=by
 unfold J2 at h;refine A2 Z func157 ?_;refine kB Z (A4 Z) Lg Lg 5 (.o (.a (decide ((d.length:Int)<1))) (.a (decide (c<(d.length:Int))))) ?_;refine Su Z h fun h=>?_;refine F1 Z Lg h (λx1=>⟨[(19,pN x1),(18,pN (d.length:Int)),(2,.clo kp_of [] []),(0,.p (.str d))],[]⟩) (ids:=[]) (λ_ _ _ _ _ i x1 j h=>?_);apply kI Z h<;>intro h
 .obtain⟨c9,h⟩:=B9 h;obtain⟨y3,e3,h⟩:=A9 h;refine B0 Z [] c9 (g e3) ?_;refine Su Z h fun h=>?_;exact j _ [] _ _ Lg h
 cases h;exact kR Z
def L0 (N:Nat)(a:Int):Option Bool:= (S4 N a).bind λy1=>lt (λ(z1:Bool)=>some z1) λk1=>if y1 then k1 true else if (decide (65<=a)) then if (decide (a<=90)) then k1 true else (O3 N [64,63,33,38,42,36,37] a).bind λy4=>k1 (decide (0<=y4)) else (O3 N [64,63,33,38,42,36,37] a).bind λy5=>k1 (decide (0<=y5))
theorem Jh {b:Int}{y:Bool}(h:L0 N b=some y) :Sb S Dy [.p (pI .u8 b)] [] (pB y) ([]) []:=by
 unfold L0 at h;refine A2 Z func161 ?_;refine kC Z h (GG Z Y) (λy1 h=>?_);refine Ii Z Lg (A4 Z) h 0 (λz1=>⟨[(2,pB z1)],[]⟩) (λM1 k1 a h=>?_) (λz1 h=>?_)
 .refine kG Z h (λh=>?_) (λh=>?_)
  .exact a _ [] _ _ Lg h
  refine kG Z h (λh=>?_) (λh=>?_)
  .refine kG Z h (λh=>?_) (λh=>?_)
   .exact a _ [] _ _ Lg h
   refine kC Z h (Fh Z Y) (λy4 h=>?_);exact a _ [] _ _ Lg h
  refine kC Z h (Fh Z Y) (λy5 h=>?_);exact a _ [] _ _ Lg h
 cases h;exact kR Z
def O5 (N:Nat)(b:A5)(a:Str)(c:Qj):Option (Int×A5):= (J1 N b).bind λy1=>if (!y1) then some (1,b) else (J2 N a 4 (λ(u1:Int)=>L0 N u1)).bind λy2=>if (!y2) then some (15,b) else (N4 N b c).bind λy3=>if (!y3) then some (14,b) else Ih (K6 eqS a b.symbols) (Ih (K6 F3 c b.values) (if (false||false) then some (6,b) else if ((b.sounds.n:Int)==256) then some (4,b) else if (Qt 24 (b.sounds.n+(Sl.of [(⟨a,c⟩:F2)]:Sl F2).n))then some (0,(⟨b.feats,b.number,b.sounds.push (⟨a,c⟩:F2),Fz eqS a (b.sounds.n:Int) b.symbols,Fz F3 c (b.sounds.n:Int) b.values⟩:A5)) else none) λv2=>if (false||true) then some (6,b) else if ((b.sounds.n:Int)==256) then some (4,b) else if (Qt 24 (b.sounds.n+(Sl.of [(⟨a,c⟩:F2)]:Sl F2).n))then some (0,(⟨b.feats,b.number,b.sounds.push (⟨a,c⟩:F2),Fz eqS a (b.sounds.n:Int) b.symbols,Fz F3 c (b.sounds.n:Int) b.values⟩:A5)) else none) λv1=>Ih (K6 F3 c b.values) (if (true||false) then some (6,b) else if ((b.sounds.n:Int)==256) then some (4,b) else if (Qt 24 (b.sounds.n+(Sl.of [(⟨a,c⟩:F2)]:Sl F2).n))then some (0,(⟨b.feats,b.number,b.sounds.push (⟨a,c⟩:F2),Fz eqS a (b.sounds.n:Int) b.symbols,Fz F3 c (b.sounds.n:Int) b.values⟩:A5)) else none) λv3=>if (true||true) then some (6,b) else if ((b.sounds.n:Int)==256) then some (4,b) else if (Qt 24 (b.sounds.n+(Sl.of [(⟨a,c⟩:F2)]:Sl F2).n))then some (0,(⟨b.feats,b.number,b.sounds.push (⟨a,c⟩:F2),Fz eqS a (b.sounds.n:Int) b.symbols,Fz F3 c (b.sounds.n:Int) b.values⟩:A5)) else none
theorem Lt {c:A5}{b:Str}{d:Qj}{y:Int×A5}(h:O5 N c b d=some y) :Sb S EV [.reg 0 0,.p (.str b),.p (.agg (A0 d))] (iO c 1 2 3 4) (pN y.1) ([.cells [.p (vSl 1 cS y.2.feats),.Se 1,.vec 2,.Se 3,.Se 4],oM PV.str (pI .i64) y.2.number,oV D2 3 D5 y.2.sounds true,oM PV.str (pI .i64) y.2.symbols,oM (λx=>.agg (A0 x)) (pI .i64) y.2.values]) [true,true,false,true,true]:=by
 unfold O5 at h;refine A2 Z func118 ?_;refine F0 Z Lg 6 6000 [pI .u32 d.Plus,pI .u32 d.Minus] ?_;obtain⟨y1,e1,h⟩:=A9 h;refine B0 Z [0,1,2,3,4] Lg (Bk Z Y e1) ?_;apply kI Z h<;>intro h
 .obtain rfl:=B1 h;exact kOi Z Lg [(0,0),(1,1),(3,3),(4,4),(990002,2)] [0,1,990002,3,4]
 refine kC Z h (Ef Z Y (λe=>Jh Z Y e)) (λy2 h=>?_);apply kI Z h<;>intro h
 .obtain rfl:=B1 h;exact kOi Z Lg [(0,0),(1,1),(3,3),(4,4),(990002,2)] [0,1,990002,3,4]
 obtain⟨y3,e3,h⟩:=A9 h;refine B0 Z [0,1,2,3,4] Nh (Hw Z Y e3) ?_;apply kI Z h<;>intro h
 .obtain rfl:=B1 h;exact kOi Z Lg [(0,0),(1,1),(3,3),(4,4),(990002,2)] [0,1,990002,3,4]
 rcases o1:K6 eqS b c.symbols with _|v1
 .replace h:=Zj o1 h;refine ZZ Z Lg H4 D1 PV.str (pI .i64) eqS o1 (pI .i64 0) Lg ?_;refine C4 Z Lg [4] ?_;rcases o2:K6 F3 d c.values with _|v2
  .replace h:=Zj o2 h;refine Bi4 Nh B5 D1 (λx=>.agg (A0 x)) (pI .i64) F3 o2 (pI .i64 0) (by decide +kernel:RF Tryz.prog B5=true) ?_;refine C8 Lg ?_;refine kB Z (A4 Z) Lg Lg 2 (.o (.a false) (.a false)) ?_;apply kI Z h<;>intro h
   .obtain rfl:=B1 h;exact kOi Z Lg [(0,0),(1,1),(3,3),(4,4),(990002,2)] [0,1,990002,3,4]
   apply kI Z h<;>intro h
   .obtain rfl:=B1 h;exact kOi Z Lg [(0,0),(1,1),(3,3),(4,4),(990002,2)] [0,1,990002,3,4]
   refine ES Z Lg ?_;refine Vh Lg H4 PV.str (pI .i64) eqS b (c.sounds.n:Int) c.symbols Lg ?_;refine C8 Lg ?_;refine C4 Z Lg [4] ?_;refine Vh Nh B5 (λx=>.agg (A0 x)) (pI .i64) F3 d (c.sounds.n:Int) c.values (by decide +kernel:RF Tryz.prog B5=true) ?_;refine C8 Lg ?_;refine C4 Z Lg [6] ?_;refine O9 Nh (x:=.sl true 3 1 (H0 [.str [],pI .u32 0,pI .u32 0] [(0,D5 (⟨b,d⟩:F2))])) ?_;obtain⟨c6,h⟩:=B9 h;refine C8 c6 ?_;obtain rfl:=B1 h;exact kO Z Lg [0,1,79000,3,4] (hle:=kl1 1 (Ci D5 c.sounds (⟨b,d⟩:F2) [.str [],pI .u32 0,pI .u32 0]))
  replace h:=Xr o2 h;refine AU8 Nh B5 D1 (λx=>.agg (A0 x)) (pI .i64) F3 o2 (by decide +kernel:RF Tryz.prog B5=true) ?_;refine C8 Lg ?_;refine kB Z (A4 Z) Lg Lg 2 (.o (.a false) (.a true)) ?_;apply kI Z h<;>intro h
  .obtain rfl:=B1 h;exact kOi Z Lg [(0,0),(1,1),(3,3),(4,4),(990002,2)] [0,1,990002,3,4]
  apply kI Z h<;>intro h
  .obtain rfl:=B1 h;exact kOi Z Lg [(0,0),(1,1),(3,3),(4,4),(990002,2)] [0,1,990002,3,4]
  refine ES Z Lg ?_;refine Vh Lg H4 PV.str (pI .i64) eqS b (c.sounds.n:Int) c.symbols Lg ?_;refine C8 Lg ?_;refine C4 Z Lg [4] ?_;refine Vh Nh B5 (λx=>.agg (A0 x)) (pI .i64) F3 d (c.sounds.n:Int) c.values (by decide +kernel:RF Tryz.prog B5=true) ?_;refine C8 Lg ?_;refine C4 Z Lg [6] ?_;refine O9 Nh (x:=.sl true 3 1 (H0 [.str [],pI .u32 0,pI .u32 0] [(0,D5 (⟨b,d⟩:F2))])) ?_;obtain⟨c9,h⟩:=B9 h;refine C8 c9 ?_;obtain rfl:=B1 h;exact kO Z Lg [0,1,79000,3,4] (hle:=kl1 1 (Ci D5 c.sounds (⟨b,d⟩:F2) [.str [],pI .u32 0,pI .u32 0]))
 replace h:=Xr o1 h;refine ZY Z Lg H4 D1 PV.str (pI .i64) eqS o1 Lg ?_;refine C4 Z Lg [4] ?_;rcases o3:K6 F3 d c.values with _|v3
 .replace h:=Zj o3 h;refine Bi4 Nh B5 D1 (λx=>.agg (A0 x)) (pI .i64) F3 o3 (pI .i64 0) (by decide +kernel:RF Tryz.prog B5=true) ?_;refine C8 Lg ?_;refine kB Z (A4 Z) Lg Lg 2 (.o (.a true) (.a false)) ?_;apply kI Z h<;>intro h
  .obtain rfl:=B1 h;exact kOi Z Lg [(0,0),(1,1),(3,3),(4,4),(990002,2)] [0,1,990002,3,4]
  apply kI Z h<;>intro h
  .obtain rfl:=B1 h;exact kOi Z Lg [(0,0),(1,1),(3,3),(4,4),(990002,2)] [0,1,990002,3,4]
  refine ES Z Lg ?_;refine Vh Lg H4 PV.str (pI .i64) eqS b (c.sounds.n:Int) c.symbols Lg ?_;refine C8 Lg ?_;refine C4 Z Lg [4] ?_;refine Vh Nh B5 (λx=>.agg (A0 x)) (pI .i64) F3 d (c.sounds.n:Int) c.values (by decide +kernel:RF Tryz.prog B5=true) ?_;refine C8 Lg ?_;refine C4 Z Lg [6] ?_;refine O9 Nh (x:=.sl true 3 1 (H0 [.str [],pI .u32 0,pI .u32 0] [(0,D5 (⟨b,d⟩:F2))])) ?_;obtain⟨c12,h⟩:=B9 h;refine C8 c12 ?_;obtain rfl:=B1 h;exact kO Z Lg [0,1,79000,3,4] (hle:=kl1 1 (Ci D5 c.sounds (⟨b,d⟩:F2) [.str [],pI .u32 0,pI .u32 0]))
 replace h:=Xr o3 h;refine AU8 Nh B5 D1 (λx=>.agg (A0 x)) (pI .i64) F3 o3 (by decide +kernel:RF Tryz.prog B5=true) ?_;refine C8 Lg ?_;refine kB Z (A4 Z) Lg Lg 2 (.o (.a true) (.a true)) ?_;apply kI Z h<;>intro h
 .obtain rfl:=B1 h;exact kOi Z Lg [(0,0),(1,1),(3,3),(4,4),(990002,2)] [0,1,990002,3,4]
 apply kI Z h<;>intro h
 .obtain rfl:=B1 h;exact kOi Z Lg [(0,0),(1,1),(3,3),(4,4),(990002,2)] [0,1,990002,3,4]
 refine ES Z Lg ?_;refine Vh Lg H4 PV.str (pI .i64) eqS b (c.sounds.n:Int) c.symbols Lg ?_;refine C8 Lg ?_;refine C4 Z Lg [4] ?_;refine Vh Nh B5 (λx=>.agg (A0 x)) (pI .i64) F3 d (c.sounds.n:Int) c.values (by decide +kernel:RF Tryz.prog B5=true) ?_;refine C8 Lg ?_;refine C4 Z Lg [6] ?_;refine O9 Nh (x:=.sl true 3 1 (H0 [.str [],pI .u32 0,pI .u32 0] [(0,D5 (⟨b,d⟩:F2))])) ?_;obtain⟨c15,h⟩:=B9 h;refine C8 c15 ?_;obtain rfl:=B1 h;exact kO Z Lg [0,1,79000,3,4] (hle:=kl1 1 (Ci D5 c.sounds (⟨b,d⟩:F2) [.str [],pI .u32 0,pI .u32 0]))
def Az (N:Nat)(a:Sl Str):Option ((Option A5)×Int):= if (decide (24<(a.n:Int))) then some (none,12) else R6 N (λb (x1:Int)=>if (decide (x1<(a.n:Int))) then if ((0:Int)<=x1/\x1<(a.n:Int))then (J2 N (a.g x1.toNat) 16 (λ(u3:Int)=>S4 N u3)).bind λy3=>if ((!y3)=false->((0:Int)<=0/\0<((a.g x1.toNat).length:Int)))then if ((!y3)||(decide ((D7 (a.g x1.toNat) 0)<=57))) then some (none,15) else b (wrap .i64 (x1+1)) else none else none else Co N (λc (x2:List (Str×Int)) (x3:Int)=>if (decide (x3<(a.n:Int))) then if ((0:Int)<=x3/\x3<(a.n:Int))then Ih (K6 eqS (a.g x3.toNat) x2) (c (Fz eqS (a.g x3.toNat) x3 x2) (wrap .i64 (x3+1))) λv3=>some (none,6) else none else (D3 N a).bind λy4=>some (some (⟨y4,x2,(Sl.nil:Sl F2),[],[]⟩:A5),0)) [] 0) 0
theorem Ji {c:Sl Str}{y:(Option A5)×Int}(h:Az N c=some y) :Sb S IM [.p (vSl 1 cS c)] [] (.tup [Ih y.1 (.p Bm1) λ_=>.reg 0 0,pN y.2]) (Ih y.1 [] λo=>iO o 1 2 3 4) []:=by
 unfold Az at h;refine A2 Z func117 ?_;apply kI Z h<;>intro h
 .obtain rfl:=B1 h;exact kO Z Lg []
 refine F1 Z Lg h (λx1=>⟨[(21,pN x1),(20,pN (c.n:Int)),(19,.p (vSl 1 cS c)),(4,.reg 19000 0),(0,.p (vSl 1 cS c))],[(19000,.cells [.p I4,.Se 15000,.p I4,.Se 16000,.Se 17000]),(17000,oM (λx=>.agg (A0 x)) (pI .i64) []),(16000,oM PV.str (pI .i64) []),(15000,oM PV.str (pI .i64) [])]⟩) (ids:=(Qp [15000,16000,17000,19000])) (λ_ _ _ _ _ d x1 f h=>?_);apply kI Z h<;>intro h
 .obtain⟨c11,h⟩:=B9 h;obtain⟨y3,e3,h⟩:=A9 h;refine B0 Z [] c11 (Ef Z Y (λe=>GG Z Y e) e3) ?_;obtain⟨c12,h⟩:=B9 h;refine kB Z (A4 Z) Lg c12 4 (.o (.a (!y3)) (.a (decide ((D7 (c.g x1.toNat) 0)<=57)))) ?_;apply kI Z h<;>intro h
  .obtain rfl:=B1 h;exact kO Z Lg []
  exact f _ (Qp [15000,16000,17000,19000]) _ _ Lg h
 refine H7 Z Lg h (λx2 x3=>⟨[(36,pN x3),(35,pN (c.n:Int)),(34,.p (vSl 1 cS c)),(4,.reg 19000 0),(0,.p (vSl 1 cS c))],[(19000,.cells [.p I4,.Se 15000,.p I4,.Se 16000,.Se 17000]),(17000,oM (λx=>.agg (A0 x)) (pI .i64) []),(16000,oM PV.str (pI .i64) []),(15000,oM PV.str (pI .i64) x2)]⟩) (ids:=(Qp [15000,16000,17000,19000])) (λ_ _ _ _ _ i x2 x3 j h=>?_);apply kI Z h<;>intro h
 .obtain⟨c23,h⟩:=B9 h;rcases o3:K6 eqS (c.g x3.toNat) x2 with _|v3
  .replace h:=Zj o3 h;refine ZZ Z c23 H4 D1 PV.str (pI .i64) eqS o3 (pI .i64 0) Lg ?_;refine C7 Z Lg (b:=false) (λc24=>?_) (λc24=>?_)
   .exact Bool.noConfusion ((rfl:false=false).symm.trans c24)
   refine As1 Z Lg H4 PV.str (pI .i64) eqS (c.g x3.toNat) x3 x2 Lg ?_;exact j _ (Qp [15000,16000,17000,19000]) _ _ _ Lg h
  replace h:=Xr o3 h;refine ZY Z c23 H4 D1 PV.str (pI .i64) eqS o3 Lg ?_;refine C7 Z Lg (b:=true) (λc25=>?_) (λc25=>?_)
  .obtain rfl:=B1 h;exact kO Z Lg []
  exact Bool.noConfusion (Nm.symm.trans c25)
 refine kC Z h (O4 Z Y) (λy4 h=>?_);obtain rfl:=B1 h;exact kO Z Lg [19000,15000,3802,16000,17000]
def P7 (N:Nat)(a:A5):Option (Sl Str):= (J1 N a).bind λy1=>if (!y1) then some (Sl.nil:Sl Str) else (D3 N a.feats).bind λy2=>some y2
theorem Jj {a:A5}{y:Sl Str}(h:P7 N a=some y) :Sb S Dx [.reg 0 0] (iO a 1 2 3 4) (.vec 5) ([.cells [.p (vSl 1 cS a.feats),.Se 1,.vec 2,.Se 3,.Se 4],oM PV.str (pI .i64) a.number,oV D2 3 D5 a.sounds true,oM PV.str (pI .i64) a.symbols,oM (λx=>.agg (A0 x)) (pI .i64) a.values,oV H4 1 cS y true]) [true,true,true,true,true]:=by
 unfold P7 at h;refine A2 Z func120 ?_;obtain⟨y1,e1,h⟩:=A9 h;refine B0 Z [0,1,2,3,4] Lg (Bk Z Y e1) ?_;apply kI Z h<;>intro h
 .obtain rfl:=B1 h;exact kO Z Lg [0,1,2,3,4,3700]
 refine kC Z h (O4 Z Y) (λy2 h=>?_);obtain rfl:=B1 h;exact kO Z Lg [0,1,2,3,4,11000]
end Go.AM
namespace Go.AM
open IntKind (wrap)
open Go.Proofs
set_option maxRecDepth 10000
set_option maxHeartbeats 4000000
def BV {κ ν : Type}(kP : κ -> PV)(vP : ν -> PV):∀l:List (κ × ν),(CC kP vP l).length=l.length
 |[]=>rfl
 |_::l=>congrArg (· + 1) (BV kP vP l)
variable {S:U8}(Z:G0 S Tryz.prog) (Y:JU S)
include Z Y
def R0 (N:Nat)(a:A5):Option (Option A5):= (J1 N a).bind λy1=>if (!y1) then some none else (D3 N a.feats).bind λy2=>(J0 N a.sounds).bind λy3=>Co N (λb (x1:List (Str×Int)) (x2:Int)=>if (decide (x2<(y2.n:Int))) then if (((0:Int)<=x2/\x2<(y2.n:Int))/\x2.toNat<y2.n)then b (Fz eqS (y2.g x2.toNat) x2 x1) (wrap .i64 (x2+1)) else none else AZ3 N (λc (x3:List (Str×Int)) (x4:List (Qj×Int)) (x5:Int)=>if (decide (x5<(y3.n:Int))) then if (((0:Int)<=x5/\x5<(y3.n:Int))/\x5.toNat<y3.n)then c (Fz eqS (y3.g x5.toNat).Sp x5 x3) (Fz F3 (y3.g x5.toNat).S x5 x4) (wrap .i64 (x5+1)) else none else some (some (⟨y2,x1,y3,x3,x4⟩:A5))) [] [] 0) [] 0
theorem Eg {N:Nat}{b:A5}{y:Option A5}(h:R0 N b=some y) :Sb S Ea [.reg 0 0] (iO b 1 2 3 4) (Ih y (.p Bm1) λ_=>.reg 5 0) ((iO b 1 2 3 4)++(Ih y [] λo=>iO o 6 7 8 9)) [true,true,true,true,true]:=by
 unfold R0 at h;refine A2 Z Tryz.func119 ?_;obtain⟨y1,e1,h⟩:=A9 h;refine B0 Z [0,1,2,3,4] Lg (Bk Z Y e1) ?_;apply kI Z h<;>intro h
 .obtain rfl:=B1 h;exact kO Z Lg [0,1,2,3,4]
 refine G8 Z Lg [(3,.l [0]),(4,.a [16000]),(8,.l [0]),(9,.a [2,21000]),(10,.a [22000]),(11,.a [23000]),(12,.a [24000])] ?_;obtain⟨y2,e2,h⟩:=A9 h;refine LZ [] Lg (O4 Z Y e2) ?_;obtain⟨y3,e3,h⟩:=A9 h;refine LZ [] Lg (Bj Z Y e3) ?_;refine C8 Lg ?_;refine H7 Z Lg h (λx1 x2=>⟨[(31,pN x2),(30,pN (y2.n:Int)),(29,.vec 16000),(3,.reg 26000 0)],[(26000,.cells [.vec 16000,.Se 22000,.vec 21000,.Se 23000,.Se 24000]),(24000,oM (λx=>.agg (A0 x)) (pI .i64) []),(23000,oM PV.str (pI .i64) []),(22000,oM PV.str (pI .i64) x1),(21000,oV D2 3 D5 y3 true),(16000,oV H4 1 cS y2 true),(4,oM (λx=>.agg (A0 x)) (pI .i64) b.values),(3,oM PV.str (pI .i64) b.symbols),(2,oV D2 3 D5 b.sounds true),(1,oM PV.str (pI .i64) b.number),(0,.cells [.p (vSl 1 cS b.feats),.Se 1,.vec 2,.Se 3,.Se 4])]⟩) (ids:=(Qp [0,1,2,3,4,16000,21000,22000,23000,24000,26000])) (λ_ _ _ _ _ c x1 x2 d h=>?_);apply kI Z h<;>intro h
 .obtain⟨c7,h⟩:=B9 h;refine As1 Z c7 H4 PV.str (pI .i64) eqS (y2.g x2.toNat) x2 x1 Lg ?_;exact d _ (Qp [0,1,2,3,4,16000,21000,22000,23000,24000,26000]) _ _ _ Lg h
 refine Tz Z Lg h (λx3 x4 x5=>⟨[(48,pN x5),(47,pN (y3.n:Int)),(46,.vec 21000),(3,.reg 26000 0)],[(26000,.cells [.vec 16000,.Se 22000,.vec 21000,.Se 23000,.Se 24000]),(24000,oM (λx=>.agg (A0 x)) (pI .i64) x4),(23000,oM PV.str (pI .i64) x3),(22000,oM PV.str (pI .i64) x1),(21000,oV D2 3 D5 y3 true),(16000,oV H4 1 cS y2 true),(4,oM (λx=>.agg (A0 x)) (pI .i64) b.values),(3,oM PV.str (pI .i64) b.symbols),(2,oV D2 3 D5 b.sounds true),(1,oM PV.str (pI .i64) b.number),(0,.cells [.p (vSl 1 cS b.feats),.Se 1,.vec 2,.Se 3,.Se 4])]⟩) (ids:=(Qp [0,1,2,3,4,16000,21000,22000,23000,24000,26000])) (λ_ _ _ _ _ f x3 x4 x5 j h=>?_);apply kI Z h<;>intro h
 .obtain⟨c13,h⟩:=B9 h;refine XE Z (Qu (Qu c13.1 Ni) c13.2) 8000 (D5 (y3.g x5.toNat)) ?_;refine C4 Z Lg [5,11] ?_;refine AE8 Nh (kt:=H4) (key:=PV.str (y3.g x5.toNat).Sp) (z:=pI .i64 0) (y:=pI .i64 (Ik eqS (y3.g x5.toNat).Sp (0:Int) x3).2.1) (es:=CC PV.str (pI .i64) x3) (es':=CC PV.str (pI .i64) (Ik eqS (y3.g x5.toNat).Sp (0:Int) x3).2.2) (i:=(Ik eqS (y3.g x5.toNat).Sp (0:Int) x3).1) (Pf (kP:=PV.str) (vP:=pI .i64) (eq:=eqS) (λ_ _=>by kernel_rfl) (y3.g x5.toNat).Sp 0 x3) Lg ?_;refine Ve Lg (i:=(Ik eqS (y3.g x5.toNat).Sp (0:Int) x3).1) (y:=pI .i64 x5) (es:=CC PV.str (pI .i64) (Ik eqS (y3.g x5.toNat).Sp (0:Int) x3).2.2) (es':=CC PV.str (pI .i64) (Fz eqS (y3.g x5.toNat).Sp x5 x3)) (by rw[BV];exact Lb eqS (y3.g x5.toNat).Sp 0 x3) ((Mb (Ik eqS (y3.g x5.toNat).Sp (0:Int) x3).2.2 (Ik eqS (y3.g x5.toNat).Sp (0:Int) x3).1 x5 (Lb eqS (y3.g x5.toNat).Sp 0 x3)).trans (congrArg (CC PV.str (pI .i64)) (Mc eqS (y3.g x5.toNat).Sp 0 x5 x3))) ?_;refine AE8 Lg (kt:=B5) (key:=(λx=>.agg (A0 x)) (y3.g x5.toNat).S) (z:=pI .i64 0) (y:=pI .i64 (Ik F3 (y3.g x5.toNat).S (0:Int) x4).2.1) (es:=CC (λx=>.agg (A0 x)) (pI .i64) x4) (es':=CC (λx=>.agg (A0 x)) (pI .i64) (Ik F3 (y3.g x5.toNat).S (0:Int) x4).2.2) (i:=(Ik F3 (y3.g x5.toNat).S (0:Int) x4).1) (Pf (kP:=λx=>.agg (A0 x)) (vP:=pI .i64) (eq:=F3) (λ_ _=>by kernel_rfl) (y3.g x5.toNat).S 0 x4) (by decide +kernel:RF Tryz.prog B5=true) ?_;refine Ve Lg (i:=(Ik F3 (y3.g x5.toNat).S (0:Int) x4).1) (y:=pI .i64 x5) (es:=CC (λx=>.agg (A0 x)) (pI .i64) (Ik F3 (y3.g x5.toNat).S (0:Int) x4).2.2) (es':=CC (λx=>.agg (A0 x)) (pI .i64) (Fz F3 (y3.g x5.toNat).S x5 x4)) (by rw[BV];exact Lb F3 (y3.g x5.toNat).S 0 x4) ((Mb (Ik F3 (y3.g x5.toNat).S (0:Int) x4).2.2 (Ik F3 (y3.g x5.toNat).S (0:Int) x4).1 x5 (Lb F3 (y3.g x5.toNat).S 0 x4)).trans (congrArg (CC (λx=>.agg (A0 x)) (pI .i64)) (Mc F3 (y3.g x5.toNat).S 0 x5 x4))) ?_;refine C8 Lg ?_;exact j _ (Qp [0,1,2,3,4,16000,21000,22000,23000,24000,26000]) _ _ _ _ Lg h
 obtain rfl:=B1 h;exact kO Z Lg [0,1,2,3,4,26000,22000,21000,23000,24000]
end Go.AM
namespace Go.AM
open Go.Proofs.Tryz
variable {N:Nat}
open IntKind (wrap)
open Go.Proofs
set_option maxRecDepth 10000
set_option maxHeartbeats 2000000
variable {S:U8}(Z:G0 S Tryz.prog) (Y:JU S)
include Z Y
def Y5 (N:Nat)(a:A6):Option ((Option A5)×Int):= (Az N a.Feats).bind λy1=>Ih y1.1 (if (y1.2 != 0) then some (none,y1.2) else none) λz1=>if (y1.2 != 0) then some (none,y1.2) else fix6 N (λb (x2:Sl Str) (x3:List (Str×Int)) (x4:Sl F2) (x5:List (Str×Int)) (x6:List (Qj×Int)) (x7:Int)=>if (decide (x7<(a.Sounds.n:Int))) then if ((0:Int)<=x7/\x7<(a.Sounds.n:Int))then (O5 N (⟨x2,x3,x4,x5,x6⟩:A5) (a.Sounds.g x7.toNat).Sp (a.Sounds.g x7.toNat).S).bind λy7=>if (y7.1 != 0) then some (none,y7.1) else b y7.2.feats y7.2.number y7.2.sounds y7.2.symbols y7.2.values (wrap .i64 (x7+1)) else none else some (some (⟨x2,x3,x4,x5,x6⟩:A5),0)) z1.feats z1.number z1.sounds z1.symbols z1.values 0
theorem Ib {a:A6}{y:(Option A5)×Int}(h:Y5 N a=some y) :Sb S HP [.p (.agg (A7 a))] [] (.tup [Ih y.1 (.p Bm1) λ_=>.reg 0 0,pN y.2]) (Ih y.1 [] λo=>iO o 1 2 3 4) []:=by
 unfold Y5 at h;refine A2 Z func80 ?_;obtain⟨y1,e1,h⟩:=A9 h;rcases o1:y1.1 with _|z1
 .replace h:=Zj o1 h;have w1:=(Ji Z Y e1);simp only[o1,K7,K8,BC4,BA0,BD3]at w1;refine B0 Z [] Lg w1 ?_;apply kI Z h<;>intro h
  .obtain rfl:=B1 h;exact kO Z Lg []
  cases h
 replace h:=Xr o1 h;have w2:=(Ji Z Y e1);simp only[o1,K7,K8,BC4,BA0,BD3]at w2;refine B0 Z [] Lg w2 ?_;apply kI Z h<;>intro h
 .obtain rfl:=B1 h;exact kO Z Lg []
 refine Br0 Z Lg h (λx2 x3 x4 x5 x6 x7=>⟨[(21,pN x7),(20,pN (a.Sounds.n:Int)),(19,.p (vSl 3 D5 a.Sounds)),(4,.reg 13000 0)],[(13004,oM (λx=>.agg (A0 x)) (pI .i64) x6),(13003,oM PV.str (pI .i64) x5),(13001,oM PV.str (pI .i64) x3),(13000,.cells [.p (vSl 1 cS x2),.Se 13001,.vec 5500,.Se 13003,.Se 13004]),(5500,oV D2 3 D5 x4 true)]⟩) (ids:=[(5500,13002),(13000,13000),(13001,13001),(13003,13003),(13004,13004)]) (λ_ _ _ _ _ b x2 x3 x4 x5 x6 x7 c h=>?_);apply kI Z h<;>intro h
 .obtain⟨c19,h⟩:=B9 h;obtain⟨y7,e7,h⟩:=A9 h;refine B0 Z [13000,13001,5500,13003,13004] (Qu c19 Ni) (Lt Z Y e7) ?_;apply kI Z h<;>intro h
  .obtain rfl:=B1 h;exact kO Z Lg []
  exact c _ [(5500,31002),(13000,13000),(13001,13001),(13003,13003),(13004,13004)] _ _ _ _ _ _ _ Lg h
 obtain rfl:=B1 h;exact kO Z Lg [13000,13001,5500,13003,13004]
def Y6 (N:Nat)(a:Fw)(q0:Fw):Option Bool:= some ((a.Text==q0.Text) != false)
theorem OU {a:Fw}{q0:Fw}{y:Bool}(h:Y6 N a q0=some y) :Sb S HT [.p (.agg (S5 a)),.p (.ptr (S5 q0))] [] (pB y) ([]) []:=by unfold Y6 at h;refine A2 Z func124 ?_;cases h;exact kR Z
def E3 (N:Nat)(a:Sl Fw)(c:Fw->Option Bool):Option Int:= R6 N (λb (x1:Int)=>if (decide (x1<(a.n:Int))) then if ((0:Int)<=x1/\x1<(a.n:Int))then (c (a.g x1.toNat)).bind λy3=>if y3 then some x1 else b (wrap .i64 (x1+1)) else none else some (-1)) 0
theorem AA {a:Sl Fw}{c:Fw->Option Bool}{kp_f:Nat}{cp_f_0:List PV}(d:∀{a0:Fw}{b:Bool},c a0=some b->Sb S kp_f [.p (.agg (S5 a0)),.p (.ptr cp_f_0)] [] (pB b) [] []){y:Int}(h:E3 N a c=some y) :Sb S P1 [.p (vSl 4 S5 a),.clo kp_f [] [.p (.ptr cp_f_0)]] [] (pN y) ([]) []:=by
 unfold E3 at h;refine A2 Z func172 ?_;refine F1 Z Lg h (λx1=>⟨[(8,pN x1),(7,pN (a.n:Int)),(1,.clo kp_f [] [.p (.ptr cp_f_0)]),(0,.p (vSl 4 S5 a))],[]⟩) (ids:=[]) (λ_ _ _ _ _ f x1 g h=>?_);apply kI Z h<;>intro h
 .obtain⟨c8,h⟩:=B9 h;obtain⟨y3,e3,h⟩:=A9 h;refine B0 Z [] (Qu c8 Nj) (d e3) ?_;refine Su Z h fun h=>?_;exact g _ [] _ _ Lg h
 cases h;exact kR Z
def C9 (N:Nat)(a:Sl Fw)(b:Fw->Option Bool):Option Bool:= (E3 N a b).bind λy1=>some (decide (0<=y1))
theorem Y7 {a:Sl Fw}{c:Fw->Option Bool}{kp_f:Nat}{cp_f_0:List PV}(d:∀{a0:Fw}{b:Bool},c a0=some b->Sb S kp_f [.p (.agg (S5 a0)),.p (.ptr cp_f_0)] [] (pB b) [] []){y:Bool}(h:C9 N a c=some y) :Sb S N7 [.p (vSl 4 S5 a),.clo kp_f [] [.p (.ptr cp_f_0)]] [] (pB y) ([]) []:=by unfold C9 at h;refine A2 Z func123 ?_;refine kC Z h (AA Z Y (λe=>d e)) (λy1 h=>?_);cases h;exact kR Z
def BD (N:Nat)(c:A5)(a:Sl Fw):Option Int:= (R0 N c).bind λy1=>Ih y1 (some 1) λz1=>if (decide (32<(a.n:Int))) then some 12 else (P7 N z1).bind λy2=>if (0:Int)<=(y2.n:Int)then R6 N (λb (x3:Int)=>if (decide (x3<(a.n:Int))) then if ((0:Int)<=x3/\x3<(a.n:Int))then lt (λ(z6:Bool)=>if z6 then some 15 else lt (λ(z7:Bool)=>if z7 then some 2 else if ((0:Int)<=x3/\x3<=(a.n:Int))then (C9 N (a.take x3.toNat) (λ(u3:Fw)=>Y6 N u3 (a.g x3.toNat))).bind λd=>if d then some 6 else b (wrap .i64 (x3+1)) else none) λk6=>if ((G6 .and .u32 (G6 .or .u32 (a.g x3.toNat).Clear (G6 .or .u32 (a.g x3.toNat).Set.Plus (a.g x3.toNat).Set.Minus)) (G6 .xor .u32 4294967295 (wrap .u32 ((shI .shl .u32 1 (y2.n:Int))-1)))) != 0) then k6 true else if ((G6 .and .u32 (a.g x3.toNat).Clear (G6 .or .u32 (a.g x3.toNat).Set.Plus (a.g x3.toNat).Set.Minus)) != 0) then k6 true else (G2 N (a.g x3.toNat).Set).bind λf=>k6 (!f)) λk5=>if (((a.g x3.toNat).Text==[]) != false) then k5 true else if (decide (3<((a.g x3.toNat).Text.length:Int))) then k5 true else (Z0 N (a.g x3.toNat).Text [58,39,34,126,94,95,61,96]).bind λi=>k5 ((i==[]) != true) else none else (G3 N a).bind λj=>some 0) 0 else none
theorem SO {b:A5}{a:Sl Fw}{y:Int}(h:BD N b a=some y) :Sb S Kl [.reg 0 0,.p (vSl 4 S5 a)] (iO b 1 2 3 4) (.tup [.top,pN y]) (iO b 1 2 3 4) [true,true,true,true,true]:=by
 unfold BD at h;refine A2 Z func81 ?_;obtain⟨y1,e1,h⟩:=A9 h;rcases o1:y1 with _|z1
 .replace h:=Zj o1 h;have w1:=(Eg Z Y e1);simp only[o1,K7,K8,BC4,BA0,BD3]at w1;refine B0 Z [0,1,2,3,4] Lg w1 ?_;obtain rfl:=B1 h;exact kO Z Lg [0,1,2,3,4]
 replace h:=Xr o1 h;have w2:=(Eg Z Y e1);simp only[o1,K7,K8,BC4,BA0,BD3]at w2;refine B0 Z [0,1,2,3,4] Lg w2 ?_;apply kI Z h<;>intro h
 .obtain rfl:=B1 h;exact kO Z Lg [0,1,2,3,4]
 obtain⟨y2,e2,h⟩:=A9 h;refine B0 Z [13005,13006,13007,13008,13009] Lg (Jj Z Y e2) ?_;obtain⟨c2,h⟩:=B9 h;refine F1 Z c2 h (λx3=>⟨[(26,pN x3),(25,pN (a.n:Int)),(24,.p (vSl 4 S5 a)),(7,pU (G6 .xor .u32 4294967295 (wrap .u32 ((shI .shl .u32 1 (y2.n:Int))-1)))),(6,.reg 13005 0),(1,.p (vSl 4 S5 a))],[(13009,oM (λx=>.agg (A0 x)) (pI .i64) z1.values),(13008,oM PV.str (pI .i64) z1.symbols),(13007,oV D2 3 D5 z1.sounds true),(13006,oM PV.str (pI .i64) z1.number),(13005,.cells [.p (vSl 1 cS z1.feats),.Se 13006,.vec 13007,.Se 13008,.Se 13009]),(4,oM (λx=>.agg (A0 x)) (pI .i64) b.values),(3,oM PV.str (pI .i64) b.symbols),(2,oV D2 3 D5 b.sounds true),(1,oM PV.str (pI .i64) b.number),(0,.cells [.p (vSl 1 cS b.feats),.Se 1,.vec 2,.Se 3,.Se 4])]⟩) (ids:=(Qp [0,1,2,3,4,13005,13006,13007,13008,13009])) (λ_ _ _ _ _ f x3 i h=>?_);apply kI Z h<;>intro h
 .obtain⟨c40,h⟩:=B9 h;refine Ii Z (Qu c40 Nj) (A4 Z) h 0 (λz6=>⟨[(38,pB z6),(26,pN x3),(25,pN (a.n:Int)),(24,.p (vSl 4 S5 a)),(10,pU (G6 .or .u32 (a.g x3.toNat).Set.Plus (a.g x3.toNat).Set.Minus)),(9,.reg 10000 0),(8,pN x3),(7,pU (G6 .xor .u32 4294967295 (wrap .u32 ((shI .shl .u32 1 (y2.n:Int))-1)))),(6,.reg 13005 0),(1,.p (vSl 4 S5 a))],[(13009,oM (λx=>.agg (A0 x)) (pI .i64) z1.values),(13008,oM PV.str (pI .i64) z1.symbols),(13007,oV D2 3 D5 z1.sounds true),(13006,oM PV.str (pI .i64) z1.number),(13005,.cells [.p (vSl 1 cS z1.feats),.Se 13006,.vec 13007,.Se 13008,.Se 13009]),(10000,.cells ((S5 (a.g x3.toNat)).map .p)),(4,oM (λx=>.agg (A0 x)) (pI .i64) b.values),(3,oM PV.str (pI .i64) b.symbols),(2,oV D2 3 D5 b.sounds true),(1,oM PV.str (pI .i64) b.number),(0,.cells [.p (vSl 1 cS b.feats),.Se 1,.vec 2,.Se 3,.Se 4])]⟩) (λM5 k5 c h=>?_) (λz6 h=>?_)
  .refine kG Z h (λh=>?_) (λh=>?_)
   .exact c _ (Qp [0,1,2,3,4,10000,13005,13006,13007,13008,13009]) _ _ Lg h
   refine kG Z h (λh=>?_) (λh=>?_)
   .exact c _ (Qp [0,1,2,3,4,10000,13005,13006,13007,13008,13009]) _ _ Lg h
   refine kC Z h (KE Z Y) (λj h=>?_);exact c _ (Qp [0,1,2,3,4,10000,13005,13006,13007,13008,13009]) _ _ Lg h
  apply kI Z h<;>intro h
  .obtain rfl:=B1 h;exact kO Z Lg [0,1,2,3,4]
  refine Ii Z Lg (A4 Z) h 0 (λz7=>⟨[(54,pB z7),(26,pN x3),(25,pN (a.n:Int)),(24,.p (vSl 4 S5 a)),(9,.reg 10000 0),(8,pN x3),(7,pU (G6 .xor .u32 4294967295 (wrap .u32 ((shI .shl .u32 1 (y2.n:Int))-1)))),(6,.reg 13005 0),(1,.p (vSl 4 S5 a))],[(13009,oM (λx=>.agg (A0 x)) (pI .i64) z1.values),(13008,oM PV.str (pI .i64) z1.symbols),(13007,oV D2 3 D5 z1.sounds true),(13006,oM PV.str (pI .i64) z1.number),(13005,.cells [.p (vSl 1 cS z1.feats),.Se 13006,.vec 13007,.Se 13008,.Se 13009]),(10000,.cells ((S5 (a.g x3.toNat)).map .p)),(4,oM (λx=>.agg (A0 x)) (pI .i64) b.values),(3,oM PV.str (pI .i64) b.symbols),(2,oV D2 3 D5 b.sounds true),(1,oM PV.str (pI .i64) b.number),(0,.cells [.p (vSl 1 cS b.feats),.Se 1,.vec 2,.Se 3,.Se 4])]⟩) (λM6 k6 d h=>?_) (λz7 h=>?_)
  .refine kG Z h (λh=>?_) (λh=>?_)
   .exact d _ (Qp [0,1,2,3,4,10000,13005,13006,13007,13008,13009]) _ _ Lg h
   refine kG Z h (λh=>?_) (λh=>?_)
   .exact d _ (Qp [0,1,2,3,4,10000,13005,13006,13007,13008,13009]) _ _ Lg h
   refine kC Z h (R5 Z Y) (λl h=>?_);exact d _ (Qp [0,1,2,3,4,10000,13005,13006,13007,13008,13009]) _ _ Lg h
  apply kI Z h<;>intro h
  .obtain rfl:=B1 h;exact kO Z Lg [0,1,2,3,4]
  obtain⟨c55,h⟩:=B9 h;refine F0 Z c55 79 10000 (S5 (a.g x3.toNat)) ?_;refine kC Z h (Y7 Z Y (λe=>OU Z Y e)) (λm h=>?_);apply kI Z h<;>intro h
  .obtain rfl:=B1 h;exact kO Z Lg [0,1,2,3,4]
  exact i _ (Qp [0,1,2,3,4,13005,13006,13007,13008,13009]) _ _ Lg h
 refine kC Z h (BU Z Y) (λo h=>?_);obtain rfl:=B1 h;exact kO Z Lg [0,1,2,3,4]
def FI (N:Nat)(a:A6):Option Int:= (Y5 N a).bind λy1=>Ih y1.1 (if (y1.2 != 0) then some y1.2 else none) λz1=>if (y1.2 != 0) then some y1.2 else (BD N z1 a.Marks).bind λy3=>if (y3 != 0) then some y3 else some 0
theorem YC {a:A6}{y:Int}(h:FI N a=some y) :Sb S NX [.p (.agg (A7 a))] [] (.tup [.top,.top,pN y]) ([]) []:=by
 unfold FI at h;refine A2 Z func51 ?_;obtain⟨y1,e1,h⟩:=A9 h;rcases o1:y1.1 with _|z1
 .replace h:=Zj o1 h;have w1:=(Ib Z Y e1);simp only[o1,K7,K8,BC4,BA0,BD3]at w1;refine B0 Z [] Lg w1 ?_;apply kI Z h<;>intro h
  .obtain rfl:=B1 h;exact kO Z Lg []
  cases h
 replace h:=Xr o1 h;have w2:=(Ib Z Y e1);simp only[o1,K7,K8,BC4,BA0,BD3]at w2;refine B0 Z [] Lg w2 ?_;apply kI Z h<;>intro h
 .obtain rfl:=B1 h;exact kO Z Lg []
 obtain⟨y3,e3,h⟩:=A9 h;refine B0 Z [11000,11001,11002,11003,11004] Lg (SO Z Y e3) ?_;apply kI Z h<;>intro h
 .obtain rfl:=B1 h;exact kO Z Lg []
 obtain rfl:=B1 h;exact kO Z Lg []
def U5 (N:Nat)(a:A6):Option Int:= (FI N a).bind λy1=>if (y1 != 0) then some y1 else (Z3 N a.Si a.Sh a.Sm).bind λy2=>some y2
theorem FJ {a:A6}{y:Int}(h:U5 N a=some y) :Sb S NU [.p (.agg (A7 a))] [] (pN y) ([]) []:=by
 unfold U5 at h;refine A2 Z func20 ?_;refine kC Z h (YC Z Y) (λy1 h=>?_);refine Su Z h fun h=>?_;refine kC Z h (KK Z Y) (λy2 h=>?_);cases h;exact kR Z
omit Z Y
def Ba5 {T:Type}{e:TypeId}{k:Nat}{c:T->List PV}{X:Sl (Sl T)}{z:Sl T}:∀q,q<X.n+1->(λq=>if q=X.n then Cf e k c z else Cf e k c (X.g q)) q=(λq=>Cf e k c ((X.push z).g q)) q:=λq a=>by
 show (if q=X.n then Cf e k c z else Cf e k c (X.g q))=Cf e k c (if q<X.n then X.g q else z);by_cases h:q=X.n
 .rw[Gy h,Hj (by omega)]
 rw[Hj h,Gy (by omega)]
def AG8 {T:Type}{e:TypeId}{k n i:Nat}{c:T->List PV}{X:Sl (Sl T)}{z:Sl T}:∀q,q<n->(RG (if q=i then Cf e k c z else if q=i then Obj.dead else Cf e k c (X.g q))).isSome=true:=λq _=>by
 by_cases h:q=i
 .rw[Gy h];rfl
 rw[Hj h,Hj h];rfl
def Ba6 {T:Type}{e:TypeId}{k n i:Nat}{c:T->List PV}{X:Sl (Sl T)}{z:Sl T}:∀q,q<n->[(RG (if q=i then Cf e k c z else if q=i then Obj.dead else Cf e k c (X.g q))).getD default]=cL k c ((X.upd i z).g q):=λq _=>by
 show _=cL k c (if q=i then z else X.g q);by_cases h:q=i
 .rw[Gy h,Gy h];rfl
 rw[Hj h,Hj h,Hj h];rfl
include Z Y
def K3 (N:Nat)(s:Sl Node):Option (Sl Node):=if (0+s.n)*24<=140737488355328/\0+s.n<=140737488355328 then some s else none
theorem BW {s y:Sl Node}(h:K3 N s=some y):Sb S S8 [.p (vSl 2 D8 s)] [] (.vec 0) [.vec S2 2 y.n (λi=>D8 (y.g i)) true] []:=by
 unfold K3 at h;obtain⟨c1,h⟩:=B9 h;obtain rfl:=B1 h;refine A2 Z func95 ?_;refine XD Z Lg 3 (k:=2) (n:=s.n) (f:=λi=>D8 (s.g i)) (λa=>?_) ?_
 .obtain⟨n,g⟩:=s;obtain rfl:n=0:=a;exact kO Z Lg [3700]
 exact kO Z (Qu Nm c1) [8000]
  (hle:=kl1 0 (AM7 D8 s [pI .i64 0,.str []]))
def V4 (N:Nat)(s:Sl Int):Option (Sl Int):=if (0+s.n)*8<=140737488355328/\0+s.n<=140737488355328 then some s else none
theorem Gh {s y:Sl Int}(h:V4 N s=some y):Sb S Bt [.p (vSl 1 (cI .i64) s)] [] (.vec 0) [.vec D1 1 y.n (λi=>cI .i64 (y.g i)) false] []:=by
 unfold V4 at h;obtain⟨c1,h⟩:=B9 h;obtain rfl:=B1 h;refine A2 Z func97 ?_;refine XD Z Lg 3 (k:=1) (n:=s.n) (f:=λi=>cI .i64 (s.g i)) (λa=>?_) ?_
 .obtain⟨n,g⟩:=s;obtain rfl:n=0:=a;exact kO Z Lg [3700]
 exact kO Z (Qu Nm c1) [8000]
  (hle:=kl1 0 (AM7 (cI .i64) s [pI .i64 0]))
def S1 (N:Nat)(c:Si)(b:Int)(a:Int):Option (Si×Int):= (P5 N c).bind λy1=>if (y1 != 0) then some ((⟨(Sl.nil:Sl Node),(Sl.nil:Sl Law),(Sl.nil:Sl (Sl Int))⟩:Si),y1) else (Dj N c b).bind λy2=>if ((!y2)=false->((decide (a<0))=false->((0:Int)<=b/\b<(c.On.n:Int))))then if (((!y2)||(decide (a<0)))||(decide ((wrap .i64 (((c.On.g b.toNat).n:Int)-1))<=a))) then some ((⟨(Sl.nil:Sl Node),(Sl.nil:Sl Law),(Sl.nil:Sl (Sl Int))⟩:Si),3) else (K3 N c.Tree).bind λy3=>Co N (λd (x1:Sl Law) (x2:Int)=>if (decide (x2<(c.Laws.n:Int))) then if ((0:Int)<=x2/\x2<(c.Laws.n:Int))then (T8 N (c.Laws.g x2.toNat)).bind λy6=>if (Qt 200 (x1.n+(Sl.of [y6]:Sl Law).n))then d (x1.push y6) (wrap .i64 (x2+1)) else none else none else Co N (λf (x3:Sl (Sl Int)) (x4:Int)=>if (decide (x4<(c.On.n:Int))) then if ((0:Int)<=x4/\x4<(c.On.n:Int))then (V4 N (c.On.g x4.toNat)).bind λy9=>if (Qt 24 (x3.n+(Sl.of [y9]:Sl (Sl Int)).n))then f (x3.push y9) (wrap .i64 (x4+1)) else none else none else if b.toNat<x3.n then if (((0:Int)<=b/\b<(x3.n:Int))/\((0:Int)<=a/\a<((x3.g b.toNat).n:Int))/\((0:Int)<=(wrap .i64 (a+1))/\(wrap .i64 (a+1))<((x3.g b.toNat).n:Int)))then some ((⟨y3,x1,x3.upd b.toNat (((x3.g b.toNat).upd a.toNat ((x3.g b.toNat).g (wrap .i64 (a+1)).toNat)).upd (wrap .i64 (a+1)).toNat ((x3.g b.toNat).g a.toNat))⟩:Si),0) else none else none) (Sl.nil:Sl (Sl Int)) 0) (Sl.nil:Sl Law) 0 else none
theorem KL {j:Si}{f:Int}{d:Int}{y:Si×Int}(h:S1 N j f d=some y) :Sb S Ki [.p (.agg (A8 j)),pN f,pN d] [] (.tup [.p (.agg (A8 y.1)),pN y.2]) ([]) []:=by
 unfold S1 at h;refine A2 Z func58 ?_;refine F0 Z Lg 6 4000 (A8 j) ?_;obtain⟨y1,e1,h⟩:=A9 h;refine B0 Z [] Ni (Fe Z Y e1) ?_;apply kI Z h<;>intro h
 .obtain rfl:=B1 h;exact M8 Z Lg ⟨[(7,pN y1),(6,.reg 7000 0)],[(7000,.cells [.p (vSl 2 D8 (Sl.nil:Sl Node)),.p (vSl 18 B6 (Sl.nil:Sl Law)),.p (vSl 1 (cL 1 (cI .i64)) (Sl.nil:Sl (Sl Int)))])]⟩ [] (ids:=[(7000,7000)]) ⟨rfl,rfl,rfl⟩
 obtain⟨y2,e2,h⟩:=A9 h;refine B0 Z [] Ni (KH Z Y e2) ?_;obtain⟨c2,h⟩:=B9 h;refine kB Z (A4 Z) Lg c2 14 (.o (.o (.a (!y2)) (.a (decide (d<0)))) (.a (decide ((wrap .i64 (((j.On.g f.toNat).n:Int)-1))<=d)))) ?_;apply kI Z h<;>intro h
 .obtain rfl:=B1 h;exact M8 Z Lg ⟨[(7,pN 3),(6,.reg 7000 0)],[(7000,.cells [.p (vSl 2 D8 (Sl.nil:Sl Node)),.p (vSl 18 B6 (Sl.nil:Sl Law)),.p (vSl 1 (cL 1 (cI .i64)) (Sl.nil:Sl (Sl Int)))])]⟩ [] (ids:=[(7000,7000)]) ⟨rfl,rfl,rfl⟩
 refine kC Z h (BW Z Y) (λy3 h=>?_);refine H7 Z Lg h (λx1 x2=>⟨[(48,pN x2),(47,pN (j.Laws.n:Int)),(46,.p (vSl 18 B6 j.Laws)),(9,.reg 10000 0),(6,.reg 7000 0),(3,.p (.ptr (A8 j))),(2,pN d),(1,pN f)],[(44000,oV S2 2 D8 y3 true),(10500,oV I5 18 B6 x1 false),(10000,.cells [.vec 44000,.vec 10500,.p I4]),(7000,.cells [.p I4,.p I4,.p I4])]⟩) (ids:=(Qp [7000,10000,44000])) (λ_ _ _ _ _ m x1 x2 r h=>?_);apply kI Z h<;>intro h
 .obtain⟨c11,h⟩:=B9 h;refine XE Z (Qu c11 Nl) 12000 (B6 (j.Laws.g x2.toNat)) ?_;refine C4 Z Lg [2,3] ?_;obtain⟨y6,e6,h⟩:=A9 h;refine F9 Nl (Ia Z Y e6) ?_;refine O9 Lg (x:=.sl true 18 1 (H0 [.str [],pI .i64 0,pI .u32 0,pI .u32 0,.v (.bool false),pI .i64 0,pI .i64 0,I4,pI .i64 0,pI .u32 0,pI .u32 0,.v (.bool false),pI .i64 0,pI .i64 0,I4,I4,I4,pI .i64 0] [(0,B6 y6)])) ?_;obtain⟨c12,h⟩:=B9 h;refine C8 c12 ?_;exact r _ [(7000,7000),(10000,10000),(10500,58000),(44000,44000)] _ _ _ Lg h (hle:=kl1 7 (Ci B6 x1 y6 [.str [],pI .i64 0,pI .u32 0,pI .u32 0,.v (.bool false),pI .i64 0,pI .i64 0,I4,pI .i64 0,pI .u32 0,pI .u32 0,.v (.bool false),pI .i64 0,pI .i64 0,I4,I4,I4,pI .i64 0]))
 refine N9 Z Lg 60 ⟨[(9,.reg 10000 0),(6,.reg 7000 0),(3,.p (.ptr (A8 j))),(2,pN d),(1,pN f)],[(44000,oV S2 2 D8 y3 true),(10501,.vec Ct 1 0 (λ_=>[]) false),(10500,oV I5 18 B6 x1 false),(10000,.cells [.vec 44000,.vec 10500,.vec 10501]),(7000,.cells [.p I4,.p I4,.p I4])]⟩ (ids:=(Qp [7000,10000,10500,44000])) ?_;refine Cd Z Lg 60 (.fam 10501 10901 λi=>Cf D1 1 (cI .i64) ((Sl.nil:Sl (Sl Int)).g i)) (⟨by decide,λi u=>Ij u (BB5 i)⟩:1000<=10901/\∀i,i<0->Po ((λ_=>[]) i) (Cf D1 1 (cI .i64) ((Sl.nil:Sl (Sl Int)).g i))) ?_;refine H7 Z Lg h (λx3 x4=>⟨[(63,pN x4),(62,pN (j.On.n:Int)),(61,.p (vSl 1 (cL 1 (cI .i64)) j.On)),(9,.reg 10000 0),(6,.reg 7000 0),(2,pN d),(1,pN f)],[(44000,oV S2 2 D8 y3 true),(10901,.rows x3.n λi=>Cf D1 1 (cI .i64) (x3.g i)),(10501,.fam Ct x3.n 10901 none),(10500,oV I5 18 B6 x1 false),(10000,.cells [.vec 44000,.vec 10500,.vec 10501]),(7000,.cells [.p I4,.p I4,.p I4])]⟩) (ids:=(Qp [7000,10000,10500,10501,10901,44000])) (λ_ _ _ _ _ s x3 x4 t h=>?_);apply kI Z h<;>intro h
 .obtain⟨c20,h⟩:=B9 h;refine G8 Z c20 [(1,.l [10000]),(3,.b [71000]),(4,.b [72000,71000])] ?_;obtain⟨y9,e9,h⟩:=A9 h;refine LZ [] Lg (Gh Z Y e9) ?_;obtain⟨c21,h⟩:=B9 h;refine C8 c21 ?_;refine Cd Z Lg 74 (.psh 73000 10902) (⟨by decide,rfl,rfl⟩:1000<=10902/\x3.n+1=x3.n+1/\x3.n=x3.n) ?_;exact t _ [(7000,7000),(10000,10000),(10500,10500),(10501,73000),(10901,10902),(44000,44000)] _ _ _ Lg h (hle:=klR [(7,.ob (x3.n+1) (λq=>if q=x3.n then Cf D1 1 (cI .i64) y9 else Cf D1 1 (cI .i64) (x3.g q)) (λi=>Cf D1 1 (cI .i64) ((x3.push y9).g i)))] (al1 Ba5 al0))
 obtain⟨cT,h⟩:=B9 h;obtain⟨⟨c30,c31,c32⟩,h⟩:=B9 h;refine Cd Z Lg 75 (.take 10501 f.toNat 10801) (⟨⟨by decide,rfl⟩,cT⟩:(1000<=10801/\x3.n=x3.n)/\f.toNat<x3.n) ?_;refine G8 Z (Qu c30 (Qu cT (rfl:f.toNat=f.toNat))) [(8,.l [10801]),(9,.l [10801]),(12,.l [10801]),(13,.l [10801]),(14,.l [10801]),(15,.a [10801]),(16,.l [10801]),(17,.a [10801])] ?_;have l1:(wrap .i64 (d+1)).toNat<(x3.g f.toNat).n:=by omega
 have l2:d.toNat<(x3.g f.toNat).n:=by omega
 refine C8 (Qu (Qu (Qu (Qu (Qu (Qu (Qu c32 l1) c31) l2) c31) (Qu (rfl:(1:Nat)=1) (Qu l2 Mo))) c32) (Qu (rfl:(1:Nat)=1) (Qu l1 Mo))) ?_;refine N9 Z Lg 96 ⟨[(9,.reg 10000 0),(6,.reg 7000 0)],[(44000,oV S2 2 D8 y3 true),(10901,(.rows x3.n λl=>if l=f.toNat then .dead else Cf D1 1 (cI .i64) (x3.g l))),(10801,Cf D1 1 (cI .i64) (((x3.g f.toNat).upd d.toNat ((x3.g f.toNat).g (wrap .i64 (d+1)).toNat)).upd (wrap .i64 (d+1)).toNat ((x3.g f.toNat).g d.toNat))),(10501,.fam Ct x3.n 10901 (some (f.toNat,.vec 10801))),(10500,oV I5 18 B6 x1 false),(10000,.cells [.vec 44000,.vec 10500,.vec 10501]),(7000,.cells [.p I4,.p I4,.p I4])]⟩ (ids:=(Qp [7000,10000,10500,10501,10801,10901,44000])) ?_ (hle:=klR [(3,.fn (x3.g f.toNat).n (((x3.g f.toNat).upd d.toNat ((x3.g f.toNat).g (wrap .i64 (d+1)).toNat)).upd (wrap .i64 (d+1)).toNat ((x3.g f.toNat).g d.toNat)).n (λl=>if l=(wrap .i64 (d+1)).toNat then splice ((λl=>if l=d.toNat then splice ((λi=>cI .i64 ((x3.g f.toNat).g i)) l) 0 [pI .i64 ((x3.g f.toNat).g (wrap .i64 (d+1)).toNat)]else (λi=>cI .i64 ((x3.g f.toNat).g i)) l) l) 0 [pI .i64 ((x3.g f.toNat).g d.toNat)]else (λl=>if l=d.toNat then splice ((λi=>cI .i64 ((x3.g f.toNat).g i)) l) 0 [pI .i64 ((x3.g f.toNat).g (wrap .i64 (d+1)).toNat)]else (λi=>cI .i64 ((x3.g f.toNat).g i)) l) l) (λi=>cI .i64 ((((x3.g f.toNat).upd d.toNat ((x3.g f.toNat).g (wrap .i64 (d+1)).toNat)).upd (wrap .i64 (d+1)).toNat ((x3.g f.toNat).g d.toNat)).g i)))] (al1 ⟨rfl,AZ4 (c:=cI .i64) (v:=(x3.g f.toNat).upd d.toNat ((x3.g f.toNat).g (wrap .i64 (d+1)).toNat)) (x:=(x3.g f.toNat).g d.toNat) (AZ4 (c:=cI .i64) (v:=x3.g f.toNat) (x:=(x3.g f.toNat).g (wrap .i64 (d+1)).toNat) same (λ_=>by first|rfl|(dsimp only;split<;>rfl))) (λ_=>by first|rfl|(dsimp only;split<;>rfl))⟩ al0));refine Cd Z Lg 96 (.put 10501 10902) (⟨⟨by decide,rfl⟩,cT⟩:(1000<=10902/\x3.n=x3.n)/\f.toNat<x3.n) ?_;refine Cd Z Lg 96 (.pub 10501) (⟨rfl,AG8⟩:x3.n=x3.n/\∀q,q<x3.n->(RG (if q=f.toNat then Cf D1 1 (cI .i64) (((x3.g f.toNat).upd d.toNat ((x3.g f.toNat).g (wrap .i64 (d+1)).toNat)).upd (wrap .i64 (d+1)).toNat ((x3.g f.toNat).g d.toNat))else if q=f.toNat then Obj.dead else Cf D1 1 (cI .i64) (x3.g q))).isSome=true) ?_;obtain rfl:=B1 h;exact M8 Z Lg ⟨[(7,pN 0),(6,.reg 7000 0)],[(7000,.cells [.p (vSl 2 D8 y3),.p (vSl 18 B6 x1),.p (vSl 1 (cL 1 (cI .i64)) (x3.upd f.toNat (((x3.g f.toNat).upd d.toNat ((x3.g f.toNat).g (wrap .i64 (d+1)).toNat)).upd (wrap .i64 (d+1)).toNat ((x3.g f.toNat).g d.toNat))))])]⟩ [] (ids:=[(7000,7000)]) ⟨rfl,rfl,rfl⟩ (hle:=klR [(3,.fn x3.n (x3.upd f.toNat (((x3.g f.toNat).upd d.toNat ((x3.g f.toNat).g (wrap .i64 (d+1)).toNat)).upd (wrap .i64 (d+1)).toNat ((x3.g f.toNat).g d.toNat))).n (λq=>[(RG (if q=f.toNat then Cf D1 1 (cI .i64) (((x3.g f.toNat).upd d.toNat ((x3.g f.toNat).g (wrap .i64 (d+1)).toNat)).upd (wrap .i64 (d+1)).toNat ((x3.g f.toNat).g d.toNat))else if q=f.toNat then Obj.dead else Cf D1 1 (cI .i64) (x3.g q))).getD default]) (λi=>cL 1 (cI .i64) ((x3.upd f.toNat (((x3.g f.toNat).upd d.toNat ((x3.g f.toNat).g (wrap .i64 (d+1)).toNat)).upd (wrap .i64 (d+1)).toNat ((x3.g f.toNat).g d.toNat))).g i)))] (al1 ⟨rfl,Ba6⟩ al0))
def Et (N:Nat)(b:A6)(a:Int):Option Int:= (U5 N b).bind λy1=>if (y1 != 0) then some y1 else if ((decide (a<0))||(decide (1073741824<a))) then some 2 else some 0
theorem MI {c:A6}{b:Int}{y:Int}(h:Et N c b=some y) :Sb S Mj [.p (.agg (A7 c)),pN b] [] (pN y) ([]) []:=by
 unfold Et at h;refine A2 Z func43 ?_;refine kC Z h (FJ Z Y) (λy1 h=>?_);refine Su Z h fun h=>?_;refine kB Z (A4 Z) Lg Lg 3 (.o (.a (decide (b<0))) (.a (decide (1073741824<b)))) ?_;refine Su Z h fun h=>?_;cases h;exact kR Z
def T4 (N:Nat)(b:Sl Law)(a:U9)(c:U9):Option Bool:= if ((!a.Has)||(!c.Has)) then some false else (Cv N b a.W).bind λy1=>lt (λ(z1:Bool)=>some z1) λk1=>if (y1.2==0) then (FD N y1.1 c.W).bind λy3=>k1 y3 else k1 false
theorem AB {c:Sl Law}{b:U9}{d:U9}{y:Bool}(h:T4 N c b d=some y) :Sb S IG [.p (vSl 18 B6 c),.p (.agg (G4 b)),.p (.agg (G4 d))] [] (pB y) ([]) []:=by
 unfold T4 at h;refine A2 Z func48 ?_;refine kB Z (A4 Z) Lg Lg 4 (.o (.a (!b.Has)) (.a (!d.Has))) ?_;refine Su Z h fun h=>?_;refine kC Z h (Jb Z Y) (λy1 h=>?_);refine Ii Z Lg (A4 Z) h 0 (λz1=>⟨[(6,pB z1)],[]⟩) (λM1 k1 f h=>?_) (λz1 h=>?_)
 .refine kG Z h (λh=>?_) (λh=>?_)
  .refine kC Z h (Oo Z Y) (λy3 h=>?_);exact f _ [] _ y3 Lg h
  exact f _ [] _ _ Lg h
 cases h;exact kR Z
def X5 (N:Nat)(b:Si):Option (Sl (Sl Law)):= (O8 N b.Tree).bind λy1=>Co N (λa (x1:Sl (Sl Law)) (x2:Int)=>if (decide (x2<(y1.1.n:Int))) then if (((0:Int)<=x2/\x2<(y1.1.n:Int))/\x2.toNat<y1.1.n)then (Gg N b (y1.1.g x2.toNat)).bind λy4=>if (Qt 24 (x1.n+(Sl.of [y4.1]:Sl (Sl Law)).n))then a (x1.push y4.1) (wrap .i64 (x2+1)) else none else none else some x1) (Sl.nil:Sl (Sl Law)) 0
theorem Cy {a:Si}{y:Sl (Sl Law)}(h:X5 N a=some y) :Sb S Ml [.p (.agg (A8 a))] [] (.p (vSl 1 (cL 18 B6) y)) ([]) []:=by
 unfold X5 at h;refine A2 Z func49 ?_;refine kC Z h (Es Z Y) (λy1 h=>?_);refine H7 Z Lg h (λx1 x2=>⟨[(18,pN x2),(17,pN (y1.1.n:Int)),(16,.vec 14000),(5,.vec 6500),(1,.reg 2000 0)],[(14000,oV D1 1 (cI .i64) y1.1 true),(6500,oV DA 1 (cL 18 B6) x1 false),(2000,.cells ((A8 a).map .p))]⟩) (ids:=(Qp [2000,14000])) (λ_ _ _ _ _ b x1 x2 c h=>?_);apply kI Z h<;>intro h
 .obtain⟨c6,h⟩:=B9 h;obtain⟨y4,e4,h⟩:=A9 h;refine B0 Z [] c6 (SK Z Y e4) ?_;obtain⟨c7,h⟩:=B9 h;exact c _ [(2000,2000),(6500,32000),(14000,14000)] _ (x1.push y4.1) (wrap .i64 (x2+1)) (Qu Nm c7) h (hle:=kl1 3 (Ci (cL 18 B6) x1 y4.1 [I4]))
 obtain rfl:=B1 h;exact kO Z Lg []
def CT (N:Nat)(c:A6)(a:Int)(b:Int):Option Bool:= if ((decide (0<=a))=true->((decide (a<(c.Sm.n:Int)))=true->((decide (0<=b))=true->((0:Int)<=a/\a<(c.Sm.n:Int)))))then some ((((decide (0<=a))&&(decide (a<(c.Sm.n:Int))))&&(decide (0<=b)))&&(decide (b<((c.Sm.g a.toNat).Sn.n:Int)))) else none
theorem Rf {d:A6}{b:Int}{c:Int}{y:Bool}(h:CT N d b c=some y) :Sb S Qi [.p (.agg (A7 d)),pN b,pN c] [] (pB y) ([]) []:=by unfold CT at h;refine A2 Z func25 ?_;obtain⟨c1,h⟩:=B9 h;refine kB Z (A4 Z) Lg c1 21 (.n (.n (.n (.a (decide (0<=b))) (.a (decide (b<(d.Sm.n:Int))))) (.a (decide (0<=c)))) (.a (decide (c<((d.Sm.g b.toNat).Sn.n:Int))))) ?_;cases h;exact kR Z
def T5 (N:Nat)(a:A6)(p_x:FR):Option (Si×Int):= (S1 N a.Si p_x.Node p_x.Place).bind λy1=>lt (λ(z1:Bool)=>if z1 then some ((⟨(Sl.nil:Sl Node),(Sl.nil:Sl Law),(Sl.nil:Sl (Sl Int))⟩:Si),3) else some (y1.1,0)) λk1=>if (y1.2 != 0) then k1 true else (CT N a p_x.So p_x.Sf).bind λy3=>k1 (!y3)
theorem Jk {a:A6}{p_x:FR}{y:Si×Int}(h:T5 N a p_x=some y) :Sb S IE [.p (.agg (A7 a)),.p (.agg (P0 p_x))] [] (.tup [.p (.agg (A8 y.1)),pN y.2]) ([]) []:=by
 unfold T5 at h;refine A2 Z func27 ?_;refine kC Z h (KL Z Y) (λy1 h=>?_);refine Ii Z Lg (A4 Z) h 0 (λz1=>⟨[(28,pB z1),(6,.reg 7000 0),(4,.reg 5000 0)],[(7000,.cells ((A8 y1.1).map .p)),(5000,.cells [.p I4,.p I4,.p I4])]⟩) (λM1 k1 b h=>?_) (λz1 h=>?_)
 .refine kG Z h (λh=>?_) (λh=>?_)
  .exact b _ (Qp [5000,7000]) _ _ Lg h
  refine kC Z h (Rf Z Y) (λy3 h=>?_);exact b _ (Qp [5000,7000]) _ _ Lg h
 apply kI Z h<;>intro h
 .obtain rfl:=B1 h;exact M8 Z Lg ⟨[(5,pN 3),(4,.reg 5000 0)],[(5000,.cells [.p (vSl 2 D8 (Sl.nil:Sl Node)),.p (vSl 18 B6 (Sl.nil:Sl Law)),.p (vSl 1 (cL 1 (cI .i64)) (Sl.nil:Sl (Sl Int)))])]⟩ [] (ids:=[(5000,5000)]) ⟨rfl,rfl,rfl⟩
 cases h;exact kR Z
def Jl (N:Nat)(a:A6)(p_x:FR):Option (Bool×Int):= (U5 N a).bind λy1=>if (y1 != 0) then some (false,y1) else (T5 N a p_x).bind λy2=>if (y2.2 != 0) then some (false,y2.2) else if ((((0:Int)<=p_x.So/\p_x.So<(a.Sh.n:Int))/\((0:Int)<=p_x.So/\p_x.So<(a.Sm.n:Int)))/\((0:Int)<=p_x.Sf/\p_x.Sf<((a.Sm.g p_x.So.toNat).Sn.n:Int)))then (X5 N a.Si).bind λy3=>if ((0:Int)<=p_x.Sf/\p_x.Sf<(y3.n:Int))then (T4 N (y3.g p_x.Sf.toNat) (a.Sh.g p_x.So.toNat) ((a.Sm.g p_x.So.toNat).Sn.g p_x.Sf.toNat)).bind λy4=>if y4 then (X5 N y2.1).bind λy5=>if ((0:Int)<=p_x.Sf/\p_x.Sf<(y5.n:Int))then (T4 N (y5.g p_x.Sf.toNat) (a.Sh.g p_x.So.toNat) ((a.Sm.g p_x.So.toNat).Sn.g p_x.Sf.toNat)).bind λy6=>some (!y6,0) else none else some (false,0) else none else none
theorem YD {c:A6}{p_x:FR}{y:Bool×Int}(h:Jl N c p_x=some y) :Sb S NT [.p (.agg (A7 c)),.p (.agg (P0 p_x))] [] (.tup [pB y.1,pN y.2]) ([]) []:=by
 unfold Jl at h;refine A2 Z func16 ?_;refine F0 Z Lg 3 3000 (A7 c) ?_;refine F0 Z Lg 4 4000 (P0 p_x) ?_;obtain⟨y1,e1,h⟩:=A9 h;refine B0 Z [] (by decide:(8:Nat)<=8) (FJ Z Y e1) ?_;refine Su Z h fun h=>?_;obtain⟨y2,e2,h⟩:=A9 h;refine B0 Z [] (Qu (by decide:(8:Nat)<=8) Nj) (Jk Z Y e2) ?_;refine F0 Z Lg 8 8000 (A8 y2.1) ?_;refine Su Z h fun h=>?_;refine G8 Z Lg [(1,.n),(3,.n),(4,.n),(5,.n),(7,.n),(9,.n),(10,.n),(12,.n),(14,.n),(15,.n),(16,.n),(17,.a [10000]),(18,.a [11000]),(19,.a [10000]),(20,.a [11000])] ?_;obtain⟨c3,h⟩:=B9 h;refine C8 (Qu (Qu (Qu (Qu c3.1.1 Nh) c3.1.2) c3.2) Nh) ?_;refine XE Z Lg 10000 [.bb (c.Sh.g p_x.So.toNat).Has,vSl 2 A0 (c.Sh.g p_x.So.toNat).W] ?_;refine XE Z Lg 11000 [.bb ((c.Sm.g p_x.So.toNat).Sn.g p_x.Sf.toNat).Has,vSl 2 A0 ((c.Sm.g p_x.So.toNat).Sn.g p_x.Sf.toNat).W] ?_;refine C4 Z Lg [1,2,4,5,6,7,8,9,11,12,14,15,16,17,18,19] ?_;obtain⟨y3,e3,h⟩:=A9 h;refine F9 (by decide:(3:Nat)<=5) (Cy Z Y e3) ?_;obtain⟨c4,h⟩:=B9 h;obtain⟨y4,e4,h⟩:=A9 h;refine F9 (Qu (Qu c4 Nh) Nh) (AB Z Y e4) ?_;refine T7 Lg (b:=y4) (λc5=>?_) (λc5=>?_)
 .replace h:=itT c5 h;obtain⟨y5,e5,h⟩:=A9 h;refine F9 Ni (Cy Z Y e5) ?_;obtain⟨c6,h⟩:=B9 h;obtain⟨y6,e6,h⟩:=A9 h;refine F9 (Qu (Qu c6 Nh) Nh) (AB Z Y e6) ?_;refine C8 Lg ?_;cases h;exact kR Z
 replace h:=itF c5 h;refine C8 Lg ?_;cases h;exact kR Z
def L7 (N:Nat)(a:List (F4)):Option (Sl F4):= Cp a (λb (x1:F4) (z1:Sl F4)=>if (Qt 16 (z1.n+(Sl.of [x1]:Sl F4).n))then b (z1.push x1) else none) (λ(z1:Sl F4)=>some z1) (Sl.nil:Sl F4)
theorem Ck {c:List (F4)}{a:A6}{b:(Sl (Sl Law))}{kp_seq:Nat}(fp_seq:∃fn,By1[kp_seq]? = some fn/\fn.body.isSome=true/\(fn.name == "runtime.NumGoroutine")=false)(d:EP S kp_seq [] [.reg 0 0,.reg 1 0] [(.cells ((A7 a).map .p)),(.cells [(.p (vSl 1 (cL 18 B6) b))])] (c.map (λ(x:F4)=>[(λx=>.agg (D6 x)) x]))){y:(Sl F4)}(h:L7 N c=some y) :Sb S U0 [(.p I4),(.clo kp_seq [] [(.reg 0 0),(.reg 1 0)])] [(.cells ((A7 a).map .p)),(.cells [(.p (vSl 1 (cL 18 B6) b))])] (.vec 0) ([(oV Bf 2 D6 y false)]) [false,false]:=by
 unfold L7 at h;refine A2 Z func110 ?_;refine Pc Z Lg fp_seq [0,1] [2] 901 (λz1=>⟨[(2,(.reg 3000 0))],[(3500,(oV Bf 2 D6 z1 false)),(3000,(.cells [(.vec 3500)]))]⟩) (idl:=[(3000,3000)]) h d (λ_=>by kernel_rfl) (λ_=>by kernel_rfl) (λ_=>by kernel_rfl) (λ_=>by kernel_rfl) (λx1 _ f z1 g h=>?_) (λz1 h=>?_)
 .refine Ma Z Lg ?_;obtain⟨c1,h⟩:=B9 h;exact g _ [(901,901),(3000,3000),(3500,12000)] _ (z1.push x1) (Qu Nm c1) h (hle:=kl1 0 (Ci D6 z1 x1 [(pI .i64 0),(pI .i64 0)]))
 obtain rfl:=B1 h;exact kO Z Lg [3500]
def X6 (N:Nat)(a:List (F4)):Option (Sl F4):= (L7 N a).bind λy1=>some y1
theorem Hx {c:List (F4)}{a:A6}{b:(Sl (Sl Law))}{kp_seq:Nat}(fp_seq:∃fn,By1[kp_seq]? = some fn/\fn.body.isSome=true/\(fn.name == "runtime.NumGoroutine")=false)(d:EP S kp_seq [] [.reg 0 0,.reg 1 0] [(.cells ((A7 a).map .p)),(.cells [(.p (vSl 1 (cL 18 B6) b))])] (c.map (λ(x:F4)=>[(λx=>.agg (D6 x)) x]))){y:(Sl F4)}(h:X6 N c=some y) :Sb S CD [(.clo kp_seq [] [(.reg 0 0),(.reg 1 0)])] [(.cells ((A7 a).map .p)),(.cells [(.p (vSl 1 (cL 18 B6) b))])] (.vec 0) ([(oV Bf 2 D6 y false)]) [false,false]:=by unfold X6 at h;refine A2 Z func74 ?_;obtain⟨y1,e1,h⟩:=A9 h;refine B0 Z [0,1] Lg (Ck Z Y fp_seq d e1) ?_;obtain rfl:=B1 h;exact kO Z Lg [5000]
def BX (N:Nat)(q0:A6):Option (List (F4×Si)):= R6 N (λa (x2:Int)=>if (decide (x2<(q0.Si.On.n:Int))) then if ((0:Int)<=x2/\x2<(q0.Si.On.n:Int))then R6 N (λb (x4:Int)=>if (decide (x4<(wrap .i64 (((q0.Si.On.g x2.toNat).n:Int)-1)))) then (S1 N q0.Si x2 x4).bind λy9=>JQ ((⟨x2,x4⟩:F4),y9.1) (b (wrap .i64 (x4+1))) else a (wrap .i64 (x2+1))) 0 else none else some []) 0
theorem Lu {q0:A6}{L:List (F4×Si)}(h:BX N q0=some L) :EP S BO [] [.reg 0 0] [.cells ((A7 q0).map .p)] (L.map (λ(x:F4×Si)=>[(λx=>.agg (D6 x)) x.1,(λx=>.agg (A8 x)) x.2])):=by
 unfold BX at h;refine Ek Z func112 ?_;refine CM Z Lg h (λx2 L1=>⟨[(12,pN x2),(11,pN (q0.Si.On.n:Int)),(10,.p (vSl 1 (cL 1 (cI .i64)) q0.Si.On)),(1,.reg 0 0),(0,.yf 1)],[(1,.yld (L1.map (λ(x:F4×Si)=>[(λx=>.agg (D6 x)) x.1,(λx=>.agg (A8 x)) x.2])) true),(0,.cells ((A7 q0).map .p))]⟩) (ids:=(Qp [0,1])) (λ_ _ _ _ _ d x2 L1 f h=>?_);apply kI Z h<;>intro h
 .obtain⟨c24,h⟩:=B9 h;refine CM Z c24 h (λx4 L10=>⟨[(20,pN x4),(19,pN (wrap .i64 (((q0.Si.On.g x2.toNat).n:Int)-1))),(12,pN x2),(11,pN (q0.Si.On.n:Int)),(10,.p (vSl 1 (cL 1 (cI .i64)) q0.Si.On)),(3,pN x2),(1,.reg 0 0),(0,.yf 1)],[(1,.yld (L10.map (λ(x:F4×Si)=>[(λx=>.agg (D6 x)) x.1,(λx=>.agg (A8 x)) x.2])) true),(0,.cells ((A7 q0).map .p))]⟩) (ids:=(Qp [0,1])) (λ_ _ _ _ _ i x4 L10 j h=>?_);apply kI Z h<;>intro h
  .refine kC Z h (KL Z Y) (λy9 h=>?_);obtain⟨L13,rfl,c⟩:=Ng h;replace h:=c;refine CL Z Lg (ys:=(λ(x:F4×Si)=>[(λx=>.agg (D6 x)) x.1,(λx=>.agg (A8 x)) x.2]) ((⟨x2,x4⟩:F4),y9.1)) (rest:=L13.map (λ(x:F4×Si)=>[(λx=>.agg (D6 x)) x.1,(λx=>.agg (A8 x)) x.2])) ?_ ?_
   .refine C7 Z Lg (b:=false) (λc32=>?_) (λc32=>?_)
    .exact Bool.noConfusion ((rfl:false=false).symm.trans c32)
    exact j _ (Qp [0,1]) _ _ L13 Lg h
   refine C7 Z Lg (b:=true) (λc33=>?_) (λc33=>?_)
   .exact kO Z Lg (a:=.tup []) (objs:=[(.cells ((A7 q0).map .p)),.yld [] false]) [0,1] ⟨false,rfl,rfl,_,rfl⟩
   exact Bool.noConfusion (Nm.symm.trans c33)
  exact f _ (Qp [0,1]) _ _ L10 Lg h
 obtain rfl:=B1 h;exact kO Z Lg (a:=.tup []) (objs:=[(.cells ((A7 q0).map .p)),.yld [] true]) [0,1] ⟨true,rfl,rfl,_,rfl⟩
def CU (N:Nat)(a:A6):Option (A6):= some a
theorem Nt {a:A6}{y:A6}(h:CU N a=some y) :Sb S GA [.p (.agg (A7 a))] [] (.clo BO [] [.reg 0 0]) ([.cells ((A7 y).map .p)]) []:=by unfold CU at h;refine A2 Z func76 ?_;obtain rfl:=B1 h;exact kO Z Lg [2000]
def F8 (N:Nat)(a:Sl B3)(b:Sl B3):Option Bool:= if ((a.n:Int) != (b.n:Int)) then some false else R6 N (λc (x1:Int)=>if (decide (x1<(a.n:Int))) then if (((0:Int)<=x1/\x1<(a.n:Int))/\((0:Int)<=x1/\x1<(b.n:Int)))then if ((((a.g x1.toNat).So==(b.g x1.toNat).So)&&(((a.g x1.toNat).Sf==(b.g x1.toNat).Sf)&&(((a.g x1.toNat).Kind==(b.g x1.toNat).Kind)&&((a.g x1.toNat).Cost==(b.g x1.toNat).Cost)))) != true) then some false else c (wrap .i64 (x1+1)) else none else some true) 0
theorem W6 {a:Sl B3}{b:Sl B3}{y:Bool}(h:F8 N a b=some y) :Sb S K9 [.p (vSl 4 B4 a),.p (vSl 4 B4 b)] [] (pB y) ([]) []:=by
 unfold F8 at h;refine A2 Z func46 ?_;refine Su Z h fun h=>?_;refine F1 Z Lg h (λx1=>⟨[(13,pN x1),(12,pN (a.n:Int)),(1,.p (vSl 4 B4 b)),(0,.p (vSl 4 B4 a))],[]⟩) (ids:=[]) (λ_ _ _ _ _ c x1 d h=>?_);apply kI Z h<;>intro h
 .refine C4 Z Lg [2,3,6,7] ?_;obtain⟨c9,h⟩:=B9 h;refine C8 (Qu (Qu (Qu (Qu c9.1 Nj) c9.2) Nj) (by decide +kernel:RF Tryz.prog T1=true)) ?_;refine Su Z h fun h=>?_;exact d _ [] _ _ Lg h
 cases h;exact kR Z
def K4 (N:Nat)(a:Sl FR)(b:Sl FR):Option Bool:= if ((a.n:Int) != (b.n:Int)) then some false else R6 N (λc (x1:Int)=>if (decide (x1<(a.n:Int))) then if (((0:Int)<=x1/\x1<(a.n:Int))/\((0:Int)<=x1/\x1<(b.n:Int)))then if ((((a.g x1.toNat).Node==(b.g x1.toNat).Node)&&(((a.g x1.toNat).Place==(b.g x1.toNat).Place)&&(((a.g x1.toNat).So==(b.g x1.toNat).So)&&((a.g x1.toNat).Sf==(b.g x1.toNat).Sf)))) != true) then some false else c (wrap .i64 (x1+1)) else none else some true) 0
theorem BY {a:Sl FR}{b:Sl FR}{y:Bool}(h:K4 N a b=some y) :Sb S S6 [.p (vSl 4 P0 a),.p (vSl 4 P0 b)] [] (pB y) ([]) []:=by
 unfold K4 at h;refine A2 Z func47 ?_;refine Su Z h fun h=>?_;refine F1 Z Lg h (λx1=>⟨[(13,pN x1),(12,pN (a.n:Int)),(1,.p (vSl 4 P0 b)),(0,.p (vSl 4 P0 a))],[]⟩) (ids:=[]) (λ_ _ _ _ _ c x1 d h=>?_);apply kI Z h<;>intro h
 .refine C4 Z Lg [2,3,6,7] ?_;obtain⟨c9,h⟩:=B9 h;refine C8 (Qu (Qu (Qu (Qu c9.1 Nj) c9.2) Nj) (by decide +kernel:RF Tryz.prog EA=true)) ?_;refine Su Z h fun h=>?_;exact d _ [] _ _ Lg h
 cases h;exact kR Z
def Hy (N:Nat)(d:A6)(a:Sl (Sl Qj))(b:Int)(f:Int):Option (Int×Int):= (Et N d f).bind λy1=>if (y1 != 0) then some (0,y1) else if (decide (256<(a.n:Int))) then some (0,12) else R6 N (λo (x1:Int)=>if (decide (x1<(a.n:Int))) then if ((0:Int)<=x1/\x1<(a.n:Int))then (U2 N (a.g x1.toNat)).bind λy4=>if (y4 != 0) then some (0,y4) else o (wrap .i64 (x1+1)) else none else if ((decide (b<0))||(decide ((d.Sm.n:Int)<=b))) then some (0,3) else if ((a.n:Int)==0) then some (0,5) else (X5 N d.Si).bind λy5=>AZ3 N (λl (x8:Int) (x9:Int) (i:Int)=>if (decide (i<(a.n:Int))) then if (((0:Int)<=i/\i<(a.n:Int))/\((0:Int)<=b/\b<(d.Sm.n:Int)))then Co N (λj (m:Int) (c:Int)=>if (decide (c<((d.Sm.g b.toNat).Sn.n:Int))) then if ((0:Int)<=c/\c<((d.Sm.g b.toNat).Sn.n:Int))then if ((d.Sm.g b.toNat).Sn.g c.toNat).Has then if ((0:Int)<=c/\c<(y5.n:Int))then (T4 N (y5.g c.toNat) (⟨true,a.g i.toNat⟩:U9) ((d.Sm.g b.toNat).Sn.g c.toNat)).bind λq=>if (!q) then j (wrap .i64 (m+f)) (wrap .i64 (c+1)) else j m (wrap .i64 (c+1)) else none else j m (wrap .i64 (c+1)) else none else if ((i==0)||(decide (m<x9))) then l i m (wrap .i64 (i+1)) else l x8 x9 (wrap .i64 (i+1))) 0 0 else none else some (x8,0)) 0 0 0) 0
theorem VX {i:A6}{d:Sl (Sl Qj)}{c:Int}{f:Int}{y:Int×Int}(h:Hy N i d c f=some y) :Sb S Mg [.p (.agg (A7 i)),.p (vSl 1 (cL 2 A0) d),pN c,pN f] [] (.tup [pN y.1,pN y.2]) ([]) []:=by
 unfold Hy at h;refine A2 Z func18 ?_;refine F0 Z Lg 8 5000 (A7 i) ?_;obtain⟨y1,e1,h⟩:=A9 h;refine B0 Z [] (by decide:(8:Nat)<=8) (MI Z Y e1) ?_;refine Su Z h fun h=>?_;refine Su Z h fun h=>?_;refine F1 Z Lg h (λx1=>⟨[(33,pN x1),(32,pN (d.n:Int)),(31,.p (vSl 1 (cL 2 A0) d)),(4,.p (.ptr (A7 i))),(3,pN f),(2,pN c),(1,.p (vSl 1 (cL 2 A0) d))],[]⟩) (ids:=[]) (λ_ _ _ _ _ s x1 t h=>?_);apply kI Z h<;>intro h
 .obtain⟨c10,h⟩:=B9 h;obtain⟨y4,e4,h⟩:=A9 h;refine B0 Z [] c10 (FC Z Y e4) ?_;refine Su Z h fun h=>?_;exact t _ [] _ _ Lg h
 refine kB Z (A4 Z) Lg Lg 6 (.o (.a (decide (c<0))) (.a (decide ((i.Sm.n:Int)<=c)))) ?_;refine Su Z h fun h=>?_;refine Su Z h fun h=>?_;obtain⟨y5,e5,h⟩:=A9 h;refine B0 Z [] (by decide:(3:Nat)<=5) (Cy Z Y e5) ?_;refine Tz Z Lg h (λx8 x9 j=>⟨[(62,pN j),(61,pN (d.n:Int)),(60,.p (vSl 1 (cL 2 A0) d)),(16,pN x9),(15,pN x8),(14,.p (vSl 1 (cL 18 B6) y5)),(4,.p (.ptr (A7 i))),(3,pN f),(2,pN c)],[]⟩) (ids:=[]) (λ_ _ _ _ _ u x8 x9 j r h=>?_);apply kI Z h<;>intro h
 .obtain⟨c69,h⟩:=B9 h;refine H7 Z c69 h (λl m=>⟨[(74,pN m),(73,pN ((i.Sm.g c.toNat).Sn.n:Int)),(72,.p (vSl 2 G4 (i.Sm.g c.toNat).Sn)),(62,pN j),(61,pN (d.n:Int)),(60,.p (vSl 1 (cL 2 A0) d)),(19,pN l),(18,.p (vSl 2 A0 (d.g j.toNat))),(17,pN j),(16,pN x9),(15,pN x8),(14,.p (vSl 1 (cL 18 B6) y5)),(4,.p (.ptr (A7 i))),(3,pN f),(2,pN c)],[]⟩) (ids:=[]) (λ_ _ _ _ _ v l m q h=>?_);apply kI Z h<;>intro h
  .obtain⟨c81,h⟩:=B9 h;refine XE Z (Qu c81 Nh) 22000 [.bb ((i.Sm.g c.toNat).Sn.g m.toNat).Has,vSl 2 A0 ((i.Sm.g c.toNat).Sn.g m.toNat).W] ?_;refine C4 Z Lg [1,5,6,9,10] ?_;refine T7 Lg (b:=((i.Sm.g c.toNat).Sn.g m.toNat).Has) (λc82=>?_) (λc82=>?_)
   .replace h:=itT c82 h;obtain⟨c83,h⟩:=B9 h;obtain⟨w,e17,h⟩:=A9 h;refine F9 (Qu c83 Nh) (AB Z Y e17) ?_;refine C8 Lg ?_;apply kI Z h<;>intro h
    .exact q _ [] _ _ _ Lg h
    exact q _ [] _ l _ Lg h
   replace h:=itF c82 h;refine C8 Lg ?_;exact q _ [] _ l _ Lg h
  refine kB Z (A4 Z) Lg Lg 4 (.o (.a (j==0)) (.a (decide (l<x9)))) ?_;apply kI Z h<;>intro h
  .exact r _ [] _ j l _ Lg h
  exact r _ [] _ x8 x9 _ Lg h
 cases h;exact kR Z
def Fi (N:Nat)(q0:A6)(q1:Sl (Sl Law)):Option (List (F4)):= R6 N (λb (x2:Int)=>if (decide (x2<(q0.Sm.n:Int))) then if ((0:Int)<=x2/\x2<(q0.Sm.n:Int))then R6 N (λa (x4:Int)=>if (decide (x4<((q0.Sm.g x2.toNat).Sn.n:Int))) then if ((0:Int)<=x4/\x4<((q0.Sm.g x2.toNat).Sn.n:Int))then if (((0:Int)<=x4/\x4<(q1.n:Int))/\((0:Int)<=x2/\x2<(q0.Sh.n:Int)))then (T4 N (q1.g x4.toNat) (q0.Sh.g x2.toNat) ((q0.Sm.g x2.toNat).Sn.g x4.toNat)).bind λy9=>if y9 then JQ (⟨x2,x4⟩:F4) (a (wrap .i64 (x4+1))) else a (wrap .i64 (x4+1)) else none else none else b (wrap .i64 (x2+1))) 0 else none else some []) 0
theorem Rg {q0:A6}{q1:Sl (Sl Law)}{L:List (F4)}(h:Fi N q0 q1=some L) :EP S EU [] [.reg 0 0,.reg 1 0] [.cells ((A7 q0).map .p),.cells [.p (vSl 1 (cL 18 B6) q1)]] (L.map (λ(x:F4)=>[(λx=>.agg (D6 x)) x])):=by
 unfold Fi at h;refine Ek Z func111 ?_;refine CM Z Lg h (λx2 L1=>⟨[(11,pN x2),(10,pN (q0.Sm.n:Int)),(9,.p (vSl 2 G5 q0.Sm)),(2,.reg 1 0),(1,.reg 0 0),(0,.yf 2)],[(2,.yld (L1.map (λ(x:F4)=>[(λx=>.agg (D6 x)) x])) true),(1,.cells [.p (vSl 1 (cL 18 B6) q1)]),(0,.cells ((A7 q0).map .p))]⟩) (ids:=(Qp [0,1,2])) (λ_ _ _ _ _ f x2 L1 i h=>?_);apply kI Z h<;>intro h
 .obtain⟨c78,h⟩:=B9 h;refine CM Z (Qu c78 Nh) h (λx4 L16=>⟨[(19,pN x4),(18,pN ((q0.Sm.g x2.toNat).Sn.n:Int)),(17,.p (vSl 2 G4 (q0.Sm.g x2.toNat).Sn)),(11,pN x2),(10,pN (q0.Sm.n:Int)),(9,.p (vSl 2 G5 q0.Sm)),(4,pN x2),(2,.reg 1 0),(1,.reg 0 0),(0,.yf 2)],[(2,.yld (L16.map (λ(x:F4)=>[(λx=>.agg (D6 x)) x])) true),(1,.cells [.p (vSl 1 (cL 18 B6) q1)]),(0,.cells ((A7 q0).map .p))]⟩) (ids:=(Qp [0,1,2])) (λ_ _ _ _ _ j x4 L16 d h=>?_);apply kI Z h<;>intro h
  .obtain⟨c104,h⟩:=B9 h;refine XE Z (Qu c104 Nh) 8000 [.bb ((q0.Sm.g x2.toNat).Sn.g x4.toNat).Has,vSl 2 A0 ((q0.Sm.g x2.toNat).Sn.g x4.toNat).W] ?_;refine AU2 Z Lg 16 [(0,.l [1]),(2,.n),(3,.n),(5,.l [0]),(7,.n),(8,.n),(9,.n),(10,.n)] ?_;obtain⟨c105,h⟩:=B9 h;obtain⟨y9,e9,h⟩:=A9 h;refine F9 (Qu (Qu (Qu c105.1 c105.2) Nh) Nh) (AB Z Y e9) ?_;refine T7 Lg (b:=y9) (λc106=>?_) (λc106=>?_)
   .replace h:=itT c106 h;refine C8 Lg ?_;refine ER Z Lg (b:=true) (λc109=>?_) (λc109=>?_)
    .obtain⟨L22,rfl,c⟩:=Ng h;replace h:=c;refine CL Z Lg (ys:=(λ(x:F4)=>[(λx=>.agg (D6 x)) x]) (⟨x2,x4⟩:F4)) (rest:=L22.map (λ(x:F4)=>[(λx=>.agg (D6 x)) x])) ?_ ?_
     .refine C7 Z Lg (b:=false) (λc110=>?_) (λc110=>?_)
      .exact Bool.noConfusion ((rfl:false=false).symm.trans c110)
      exact d _ (Qp [0,1,2]) _ _ L22 Lg h
     refine C7 Z Lg (b:=true) (λc111=>?_) (λc111=>?_)
     .exact kO Z Lg (a:=.tup []) (objs:=[(.cells ((A7 q0).map .p)),.cells [.p (vSl 1 (cL 18 B6) q1)],.yld [] false]) [0,1,2] ⟨false,rfl,rfl,_,rfl⟩
     exact Bool.noConfusion (Nm.symm.trans c111)
    exact Bool.noConfusion (Nm.symm.trans c109)
   replace h:=itF c106 h;refine C8 Lg ?_;refine ER Z Lg (b:=false) (λc114=>?_) (λc114=>?_)
   .exact Bool.noConfusion ((rfl:false=false).symm.trans c114)
   exact d _ (Qp [0,1,2]) _ _ L16 Lg h
  exact i _ (Qp [0,1,2]) _ _ L16 Lg h
 obtain rfl:=B1 h;exact kO Z Lg (a:=.tup []) (objs:=[(.cells ((A7 q0).map .p)),.cells [.p (vSl 1 (cL 18 B6) q1)],.yld [] true]) [0,1,2] ⟨true,rfl,rfl,_,rfl⟩
def Hz (N:Nat)(b:A6)(a:Sl (Sl Law)):Option (A6×(Sl (Sl Law))):= some (b,a)
theorem VY {b:A6}{a:Sl (Sl Law)}{y:A6×(Sl (Sl Law))}(h:Hz N b a=some y) :Sb S Mn [.p (.agg (A7 b)),.p (vSl 1 (cL 18 B6) a)] [] (.clo EU [] [.reg 0 0,.reg 1 0]) ([.cells ((A7 y.1).map .p),.cells [.p (vSl 1 (cL 18 B6) y.2)]]) []:=by unfold Hz at h;refine A2 Z func75 ?_;obtain rfl:=B1 h;exact kO Z Lg [3000,4000]
def HA (N:Nat)(a:A6):Option ((Sl FR)×Int):= (U5 N a).bind λy1=>if (y1 != 0) then some ((Sl.nil:Sl FR),y1) else (X5 N a.Si).bind λy2=>(Hz N a y2).bind λy3=>(Fi N y3.1 y3.2).bind λL1=>(X6 N L1).bind λy4=>(CU N a).bind λy5=>(BX N y5).bind λL2=>Cp L2 (λb (x1:F4×Si) (z1:Sl FR)=>(X5 N x1.2).bind λd=>R6 N (λc (x5:Int)=>if (decide (x5<(y4.n:Int))) then if (((0:Int)<=x5/\x5<(y4.n:Int))/\x5.toNat<y4.n)then if (((((0:Int)<=(y4.g x5.toNat).a1/\(y4.g x5.toNat).a1<(d.n:Int))/\((0:Int)<=(y4.g x5.toNat).a0/\(y4.g x5.toNat).a0<(a.Sh.n:Int)))/\((0:Int)<=(y4.g x5.toNat).a0/\(y4.g x5.toNat).a0<(a.Sm.n:Int)))/\((0:Int)<=(y4.g x5.toNat).a1/\(y4.g x5.toNat).a1<((a.Sm.g (y4.g x5.toNat).a0.toNat).Sn.n:Int)))then (T4 N (d.g (y4.g x5.toNat).a1.toNat) (a.Sh.g (y4.g x5.toNat).a0.toNat) ((a.Sm.g (y4.g x5.toNat).a0.toNat).Sn.g (y4.g x5.toNat).a1.toNat)).bind λf=>if (!f) then if (Qt 32 (z1.n+(Sl.of [(⟨x1.1.a0,x1.1.a1,(y4.g x5.toNat).a0,(y4.g x5.toNat).a1⟩:FR)]:Sl FR).n))then b (z1.push (⟨x1.1.a0,x1.1.a1,(y4.g x5.toNat).a0,(y4.g x5.toNat).a1⟩:FR)) else none else c (wrap .i64 (x5+1)) else none else none else b z1) 0) (λ(z1:Sl FR)=>some (z1,0)) (Sl.nil:Sl FR)
theorem VZ {b:A6}{y:(Sl FR)×Int}(h:HA N b=some y) :Sb S Mk [.p (.agg (A7 b))] [] (.tup [.vec 0,pN y.2]) ([oV EA 4 P0 y.1 true]) []:=by
 unfold HA at h;refine A2 Z func45 ?_;refine F0 Z Lg 2 2000 (A7 b) ?_;obtain⟨y1,e1,h⟩:=A9 h;refine B0 Z [] (by decide:(8:Nat)<=8) (FJ Z Y e1) ?_;apply kI Z h<;>intro h
 .obtain rfl:=B1 h;exact kO Z Lg [3700]
 refine G8 Z Lg [(0,.n),(2,.n),(3,.n),(4,.a [22000,22001]),(5,.a [22000,22001,23000,23001,23002]),(6,.a [6000]),(7,.a [6000,23000])] ?_;obtain⟨y2,e2,h⟩:=A9 h;refine F9 (Qu (by decide:(8:Nat)<=8) (by decide:(3:Nat)<=5)) (Cy Z Y e2) ?_;obtain⟨y3,e3,h⟩:=A9 h;refine LZ [] Lg (VY Z Y e3) ?_;obtain⟨L1,e4,h⟩:=A9 h;obtain⟨y4,e5,h⟩:=A9 h;refine Vg [22000,22001] Lg (Hx Z Y ⟨_,func111,by decide +kernel,by decide +kernel⟩ (Rg Z Y e4) e5) ?_;refine C8 Lg ?_;obtain⟨y5,e6,h⟩:=A9 h;refine B0 Z [] (by decide:(8:Nat)<=8) (Nt Z Y e6) ?_;obtain⟨L2,e7,h⟩:=A9 h;refine IB Z Lg [25000] [6,5,1] 901 (λz1=>⟨[(6,.reg 7000 0),(5,.reg 6000 0),(1,.p (.ptr (A7 b)))],[(23000,oV Bf 2 D6 y4 false),(7500,oV EA 4 P0 z1 false),(7000,.cells [.vec 7500]),(6000,.cells [.vec 23000])]⟩) (idl:=(Qp [6000,7000,23000])) h (Lu Z Y e7) (λ_=>by kernel_rfl) (λ_=>by kernel_rfl) (λ_=>by kernel_rfl) (λ_=>by kernel_rfl) (λx1 _ d z1 c h=>?_) (λz1 h=>?_)
 .refine F0 Z Lg 8 8000 [pI .i64 x1.1.a0,pI .i64 x1.1.a1] ?_;refine Ma Z Lg ?_;refine F0 Z Lg 27 9000 (A8 x1.2) ?_;obtain⟨f,e16,h⟩:=A9 h;refine B0 Z [] Ni (Cy Z Y e16) ?_;refine F1 Z Lg h (λx5=>⟨[(31,pN x5),(30,pN (y4.n:Int)),(29,.vec 23000),(9,.p (vSl 1 (cL 18 B6) f)),(7,.p (.ptr [pI .i64 x1.1.a0,pI .i64 x1.1.a1])),(6,.reg 7000 0),(1,.p (.ptr (A7 b)))],[(23000,oV Bf 2 D6 y4 false),(7500,oV EA 4 P0 z1 false),(7000,.cells [.vec 7500]),(6000,.cells [.vec 23000]),(901,.ghost [.reg 7000 0,.reg 6000 0,.p (.ptr (A7 b))])]⟩) (ids:=(Qp [901,6000,7000,7500,23000])) (λ_ _ _ _ _ i x5 j h=>?_);apply kI Z h<;>intro h
  .obtain⟨c35,h⟩:=B9 h;refine G8 Z (Qu (Qu c35.1 Nh) c35.2) [(1,.l [12000]),(2,.l [12000]),(3,.n),(4,.n),(6,.n),(7,.l [12000]),(8,.l [12000]),(9,.n),(10,.n),(12,.n),(13,.l [12000]),(14,.l [12000]),(15,.n),(17,.n),(18,.l [12000]),(19,.l [12000]),(20,.n),(21,.n),(22,.n)] ?_;obtain⟨c36,h⟩:=B9 h;obtain⟨m,e19,h⟩:=A9 h;refine F9 (Qu (Qu (Qu (Qu (Qu (Qu (Qu (Qu (Qu (by decide:(0:Int)<=1/\(1:Int)<2) c36.1.1.1) (by decide:(0:Int)<=0/\(0:Int)<2)) c36.1.1.2) Nh) (by decide:(0:Int)<=0/\(0:Int)<2)) c36.1.2) (by decide:(0:Int)<=1/\(1:Int)<2)) c36.2) Nh) (AB Z Y e19) ?_;refine C8 Lg ?_;apply kI Z h<;>intro h
   .refine F0 Z Lg 59 12000 [pI .i64 (y4.g x5.toNat).a0,pI .i64 (y4.g x5.toNat).a1] ?_;obtain⟨c38,h⟩:=B9 h;exact c _ [(901,901),(6000,6000),(7000,7000),(7500,71000),(23000,23000)] _ (z1.push (⟨x1.1.a0,x1.1.a1,(y4.g x5.toNat).a0,(y4.g x5.toNat).a1⟩:FR)) (Qu (Qu (Qu (Qu (Qu (by decide:(0:Int)<=0/\(0:Int)<2) (by decide:(0:Int)<=1/\(1:Int)<2)) (by decide:(0:Int)<=0/\(0:Int)<2)) (by decide:(0:Int)<=1/\(1:Int)<2)) Nm) c38) h (hle:=kl1 1 (Ci P0 z1 (⟨x1.1.a0,x1.1.a1,(y4.g x5.toNat).a0,(y4.g x5.toNat).a1⟩:FR) [pI .i64 0,pI .i64 0,pI .i64 0,pI .i64 0]))
   refine F0 Z Lg 71 12000 [pI .i64 (y4.g x5.toNat).a0,pI .i64 (y4.g x5.toNat).a1] ?_;exact j _ (Qp [901,6000,7000,7500,23000]) _ _ Lg h
  exact c _ (Qp [901,6000,7000,7500,23000]) _ z1 Lg h
 obtain rfl:=B1 h;exact kO Z Lg [7500]
def DH (N:Nat)(b:A6)(a:Int):Option (V7×Int):= (Et N b a).bind λy1=>if (y1 != 0) then some ((⟨(Sl.nil:Sl B3),(Sl.nil:Sl FR)⟩:V7),y1) else (Jg N b.Si b.Sh b.Sm a).bind λy2=>(HA N b).bind λy3=>some ((⟨y2.1,y3.1⟩:V7),0)
theorem Jm {b:A6}{a:Int}{y:V7×Int}(h:DH N b a=some y) :Sb S NS [.p (.agg (A7 b)),pN a] [] (.tup [.p (.agg (FM y.1)),pN y.2]) ([]) []:=by
 unfold DH at h;refine A2 Z func13 ?_;refine kC Z h (MI Z Y) (λy1 h=>?_);apply kI Z h<;>intro h
 .obtain rfl:=B1 h;exact M8 Z Lg ⟨[(5,pN y1),(4,.reg 5000 0)],[(5000,.cells [.p (vSl 4 B4 (Sl.nil:Sl B3)),.p (vSl 4 P0 (Sl.nil:Sl FR))])]⟩ [] (ids:=[(5000,5000)]) ⟨rfl,rfl,rfl⟩
 refine kC Z h (YB Z Y) (λy2 h=>?_);refine kC Z h (VZ Z Y) (λy3 h=>?_);obtain rfl:=B1 h;exact M8 Z Lg ⟨[(5,pN 0),(4,.reg 5000 0)],[(5000,.cells [.p (vSl 4 B4 y2.1),.p (vSl 4 P0 y3.1)])]⟩ [] (ids:=[(5000,5000)]) ⟨rfl,rfl,rfl⟩
def Dk (N:Nat)(c:A6)(a:Int)(b:V7):Option (Bool×Int):= (DH N c a).bind λy1=>if (y1.2 != 0) then some (false,y1.2) else (F8 N y1.1.Bad b.Bad).bind λy2=>lt (λ(z1:Bool)=>some (z1,0)) λk1=>if y2 then (K4 N y1.1.Sj b.Sj).bind λy4=>k1 y4 else k1 false
theorem KM {b:A6}{a:Int}{c:V7}{y:Bool×Int}(h:Dk N b a c=some y) :Sb S Kg [.p (.agg (A7 b)),pN a,.p (.agg (FM c))] [] (.tup [pB y.1,pN y.2]) ([]) []:=by
 unfold Dk at h;refine A2 Z func14 ?_;refine kC Z h (Jm Z Y) (λy1 h=>?_);refine Su Z h fun h=>?_;refine kC Z h (W6 Z Y) (λy2 h=>?_);refine Ii Z Lg (A4 Z) h 0 (λz1=>⟨[(7,pN 0),(6,pB z1)],[]⟩) (λM1 k1 d h=>?_) (λz1 h=>?_)
 .refine kG Z h (λh=>?_) (λh=>?_)
  .refine kC Z h (BY Z Y) (λy4 h=>?_);exact d _ [] _ y4 Lg h
  exact d _ [] _ _ Lg h
 cases h;exact kR Z
abbrev Ou (s:Str):Nat->List PV:=λi=>[.v (.int .u8 ((s.getD i 0).toNat:Nat))]
theorem Wa {s:Str}{u n:Nat}{f:Nat->List PV}(hc:(n+s.length)*1<=140737488355328/\n+s.length<=140737488355328) :Sb S X8 [.reg 0 0,.p (.str s)] [.blk [0,76,u] 1,.vec H1 1 n f false] (.tup [pN (s.length:Int),.p (.v .nilIface)]) [.blk [0,76,1] 1,.vec H1 1 (n+s.length) (Ey n f (Ou s)) false] [true,false]:=by refine A2 Z func23 ?_;refine B0 Z [0,1] Lg (Y.copyCheck 76 u n f rfl) ?_;exact kO Z hc [0,15000]
theorem w_Len {u n:Nat}{f:Nat->List PV}:Sb S Dw [.reg 0 0] [.blk [0,76,u] 1,.vec H1 1 n f false] (pN (n:Int)) [.blk [0,76,u] 1,.vec H1 1 n f false] [true,true]:=by refine A2 Z func28 ?_;exact kO Z Lg [0,1]
theorem AV2 {N:Nat}{ws:Sl Str}{j:Str}{u n:Nat}{f:Nat->List PV}(b:H9 N ws [32]=some j)(hc:(n+(j++[10]).length)*1<=140737488355328/\n+(j++[10]).length<=140737488355328) :Sb S Bs [.p (vSl 1 cS ws),.reg 0 0] [.blk [0,76,u] 1,.vec H1 1 n f false] (.tup []) [.blk [0,76,1] 1,.vec H1 1 (n+(j++[10]).length) (Ey n f (Ou (j++[10]))) false] [true,false]:=by
 have a:((j.length+([10]:Str).length:Nat):Int)<=9223372036854775807:=by have h1:=hc.2;rw[Bz6]at h1;have c:([10]:Str).length=1:=rfl;omega
 refine A2 Z func22 ?_;refine B0 Z [] Lg (SN Z Y b) ?_;refine B0 Z [0,1] a (Wa Z Y (u:=u) (f:=f) hc) ?_;exact kO Z Lg [0,7001]
end Go.AM
namespace Go.AM
open IntKind (wrap)
open Go.Proofs
set_option maxRecDepth 10000
set_option maxHeartbeats 4000000
abbrev I6 (a b:F4):Bool:=(a.a0==b.a0&&a.a1==b.a1)
def AV3 (a b:F4)(h:I6 a b=true):a=b:=by cases a;cases b;simpa[I6]using h
def Rh {κ ν : Type}{kP : κ -> PV}{vP : ν -> PV}[Inhabited κ][Inhabited ν]:∀(l:List (κ × ν)) (i:Nat),i<l.length->(CC kP vP l).getD i default=(kP (l.getD i default).1,vP (l.getD i default).2)
 |p::l,0,_=>rfl
 |p::l,i+1,h=>Rh l i (BP1 h)
variable {S:U8}(Z:G0 S Tryz.prog) (Y:JU S)
include Z Y
def HB (N:Nat)(d:A6)(a:V7):Option (Bool×Int):= (DH N d 0).bind λy1=>if (y1.2 != 0) then some (false,y1.2) else Co N (λc (x1:List (F4×Int)) (x2:Int)=>if (decide (x2<(y1.1.Bad.n:Int))) then if ((0:Int)<=x2/\x2<(y1.1.Bad.n:Int))then c (Fz I6 (⟨(y1.1.Bad.g x2.toNat).So,(y1.1.Bad.g x2.toNat).Sf⟩:F4) 0 x1) (wrap .i64 (x2+1)) else none else Co N (λb (x3:List (F4×Int)) (x4:Int)=>if (decide (x4<(a.Bad.n:Int))) then if ((0:Int)<=x4/\x4<(a.Bad.n:Int))then Ih (K6 I6 (⟨(a.Bad.g x4.toNat).So,(a.Bad.g x4.toNat).Sf⟩:F4) x3) (some (false,0)) λv5=>Ih (K6 I6 (⟨(a.Bad.g x4.toNat).So,(a.Bad.g x4.toNat).Sf⟩:F4) x3) (b (Fz I6 (⟨(a.Bad.g x4.toNat).So,(a.Bad.g x4.toNat).Sf⟩:F4) (wrap .i64 (0+1)) x3) (wrap .i64 (x4+1))) λv6=>b (Fz I6 (⟨(a.Bad.g x4.toNat).So,(a.Bad.g x4.toNat).Sf⟩:F4) (wrap .i64 (v6+1)) x3) (wrap .i64 (x4+1)) else none else some (!(x3.any λe=>e.2==0),0)) x1 0) [] 0
theorem Wb {N:Nat}{j:A6}{d:V7}{y:Bool×Int}(h:HB N j d=some y) :Sb S Mf [.p (.agg (A7 j)),.p (.agg (FM d))] [] (.tup [pB y.1,pN y.2]) ([]) []:=by
 unfold HB at h;refine A2 Z Tryz.func17 ?_;refine F0 Z Lg 3 3000 (A7 j) ?_;refine F0 Z Lg 4 4000 [vSl 4 B4 d.Bad,vSl 4 P0 d.Sj] ?_;obtain⟨y1,e1,h⟩:=A9 h;refine B0 Z [] (by decide:(8:Nat)<=8) (Jm Z Y e1) ?_;refine F0 Z Lg 7 7000 [vSl 4 B4 y1.1.Bad,vSl 4 P0 y1.1.Sj] ?_;refine Su Z h fun h=>?_;refine H7 Z Lg h (λx1 x2=>⟨[(30,pN x2),(29,pN (y1.1.Bad.n:Int)),(28,.p (vSl 4 B4 y1.1.Bad)),(8,.Se 27000),(3,.p (.ptr [vSl 4 B4 d.Bad,vSl 4 P0 d.Sj]))],[(27000,oM (λx=>.agg (D6 x)) (pI .i64) x1)]⟩) (ids:=[(27000,27000)]) (λ_ _ _ _ _ v x1 x2 w h=>?_);apply kI Z h<;>intro h
 .obtain⟨c7,h⟩:=B9 h;refine F0 Z (Qu c7 Nj) 34 11000 (B4 (y1.1.Bad.g x2.toNat)) ?_;refine As1 Z Lg Bf (λx=>.agg (D6 x)) (pI .i64) I6 (⟨(y1.1.Bad.g x2.toNat).So,(y1.1.Bad.g x2.toNat).Sf⟩:F4) 0 x1 (by decide +kernel:(!Tryz.prog.eqGuardType Tryz.prog.depth Bf)=true) ?_;exact w _ [(27000,27000)] _ _ _ Lg h
 refine H7 Z Lg h (λx3 x4=>⟨[(44,pN x4),(43,pN (d.Bad.n:Int)),(42,.p (vSl 4 B4 d.Bad)),(8,.Se 27000)],[(27000,oM (λx=>.agg (D6 x)) (pI .i64) x3)]⟩) (ids:=[(27000,27000)]) (λ_ _ _ _ _ a0 x3 x4 a1 h=>?_);apply kI Z h<;>intro h
 .obtain⟨c17,h⟩:=B9 h;refine F0 Z (Qu c17 Nj) 48 13000 (B4 (d.Bad.g x4.toNat)) ?_;refine F0 Z Lg 54 14000 [pI .i64 (d.Bad.g x4.toNat).So,pI .i64 (d.Bad.g x4.toNat).Sf] ?_;rcases o5:K6 I6 (⟨(d.Bad.g x4.toNat).So,(d.Bad.g x4.toNat).Sf⟩:F4) x3 with _|v5
  .replace h:=Zj o5 h;refine ZZ Z Nh Bf D1 (λx=>.agg (D6 x)) (pI .i64) I6 o5 (pI .i64 0) (by decide +kernel:(!Tryz.prog.eqGuardType Tryz.prog.depth Bf)=true) ?_;refine C7 Z Lg (b:=true) (λc18=>?_) (λc18=>?_)
   .cases h;exact kR Z
   exact Bool.noConfusion (Nm.symm.trans c18)
  replace h:=Xr o5 h;refine ZY Z Nh Bf D1 (λx=>.agg (D6 x)) (pI .i64) I6 o5 (by decide +kernel:(!Tryz.prog.eqGuardType Tryz.prog.depth Bf)=true) ?_;refine C7 Z Lg (b:=false) (λc19=>?_) (λc19=>?_)
  .exact Bool.noConfusion ((rfl:false=false).symm.trans c19)
  refine G8 Z Lg [(1,.n),(2,.l [27000]),(4,.l [27000]),(6,.a [27000])] ?_;rcases o6:K6 I6 (⟨(d.Bad.g x4.toNat).So,(d.Bad.g x4.toNat).Sf⟩:F4) x3 with _|v6
  .exact Ij (o5.symm.trans o6) (by simp)
  replace h:=Xr o6 h;refine AU8 Nh Bf D1 (λx=>.agg (D6 x)) (pI .i64) I6 o6 (by decide +kernel:(!Tryz.prog.eqGuardType Tryz.prog.depth Bf)=true) ?_;have ha:=XJ AV3 (z:=(0:Int)) o6;refine AU5 Lg (kt:=Bf) (key:=(λx=>.agg (D6 x)) (⟨(d.Bad.g x4.toNat).So,(d.Bad.g x4.toNat).Sf⟩:F4)) (z:=pI .i64 0) (y:=pI .i64 v6) (es:=CC (λx=>.agg (D6 x)) (pI .i64) x3) (i:=(Ik I6 (⟨(d.Bad.g x4.toNat).So,(d.Bad.g x4.toNat).Sf⟩:F4) (0:Int) x3).1) (by have:=Pf (kP:=λx=>.agg (D6 x)) (vP:=pI .i64) (cmp:=Ic Tryz.prog Bf) (eq:=I6) (λ_ _=>by kernel_rfl) (⟨(d.Bad.g x4.toNat).So,(d.Bad.g x4.toNat).Sf⟩:F4) 0 x3;rw[ha]at this;exact this) (by decide +kernel:(!Tryz.prog.eqGuardType Tryz.prog.depth Bf)=true) ?_;refine Ve Lg (i:=(Ik I6 (⟨(d.Bad.g x4.toNat).So,(d.Bad.g x4.toNat).Sf⟩:F4) (0:Int) x3).1) (y:=pI .i64 (wrap .i64 (v6+1))) (es:=CC (λx=>.agg (D6 x)) (pI .i64) x3) (es':=CC (λx=>.agg (D6 x)) (pI .i64) (Fz I6 (⟨(d.Bad.g x4.toNat).So,(d.Bad.g x4.toNat).Sf⟩:F4) (wrap .i64 (v6+1)) x3)) (by have:=Lb I6 (⟨(d.Bad.g x4.toNat).So,(d.Bad.g x4.toNat).Sf⟩:F4) 0 x3;rw[ha]at this;rw[BV];exact this) (by have:=(Mb (Ik I6 (⟨(d.Bad.g x4.toNat).So,(d.Bad.g x4.toNat).Sf⟩:F4) (0:Int) x3).2.2 (Ik I6 (⟨(d.Bad.g x4.toNat).So,(d.Bad.g x4.toNat).Sf⟩:F4) (0:Int) x3).1 (wrap .i64 (v6+1)) (Lb I6 (⟨(d.Bad.g x4.toNat).So,(d.Bad.g x4.toNat).Sf⟩:F4) 0 x3)).trans (congrArg (CC (λx=>.agg (D6 x)) (pI .i64)) (Mc I6 (⟨(d.Bad.g x4.toNat).So,(d.Bad.g x4.toNat).Sf⟩:F4) 0 (wrap .i64 (v6+1)) x3));rw[ha]at this;exact this) ?_;refine C8 Lg ?_;exact a1 _ [(27000,27000)] _ _ _ Lg h
 refine Bt0 Z Lg (CC (λx=>.agg (D6 x)) (pI .i64) x3).length (λi=>(x3.getD i default).2≠0) (λs=>⟨[(69,.reg 70000 0)],[(70000,.blk (1::(CC (λx=>.agg (D6 x)) (pI .i64) x3).length::(CC (λx=>.agg (D6 x)) (pI .i64) x3).length::s) 27000),(27000,oM (λx=>.agg (D6 x)) (pI .i64) x3)]⟩) (ids:=(Qp [27000,70000])) (λX s' J m k seen o a2=>?_);refine Bs6 Z Lg (cl:=(CC (λx=>.agg (D6 x)) (pI .i64) x3).length) (last:=(CC (λx=>.agg (D6 x)) (pI .i64) x3).length) (seen:=seen) (es:=CC (λx=>.agg (D6 x)) (pI .i64) x3) rfl (Bz5 _) (ky:=λi=>.agg (D6 (x3.getD i default).1)) (vl:=λi=>pI .i64 (x3.getD i default).2) (λi f=>Rh x3 i (by rw[BV]at f;exact f)) (λr=>?_) (λi f a3=>?_)
 .have a4:(x3.any λe=>e.2==0)=false:=by rw[List.any_eq_false];intro e he h0;obtain⟨i,f,rfl⟩:=BE2 he;have h1:=(o i (r i (by rw[BV];exact f))).2;rw[By3,By7 f]at h1;exact h1 (by simpa using h0)
  rw[a4]at h;refine C7 Z Lg (b:=false) (λc18=>Bool.noConfusion c18) (λc18=>?_);cases h;exact kR Z
 have q : i<x3.length:=by rw[BV]at f;exact f
 have t:((CC (λx=>.agg (D6 x)) (pI .i64) x3).getD i default)=((λx=>PV.agg (D6 x)) (x3.getD i default).1,pI .i64 (x3.getD i default).2):=Rh x3 i q;refine C7 Z Lg (b:=true) (λ_=>?_) (λc=>Bool.noConfusion c);refine Bs9 Z Lg 72 (last:=(CC (λx=>.agg (D6 x)) (pI .i64) x3).length) (i:=i) (es:=CC (λx=>.agg (D6 x)) (pI .i64) x3) rfl f (.agg (D6 (x3.getD i default).1)) (pI .i64 (x3.getD i default).2) t ?_;refine C7 Z Lg (b:=(x3.getD i default).2==0) (λc=>?_) (λc=>?_)
 .have u:(x3.any λe=>e.2==0)=true:=by refine List.any_eq_true.2 ⟨x3.getD i default,?_,c⟩;rw[By3,By7 q];exact BJ7 q
  rw[u]at h;cases h;exact kR Z
 exact a2 _ (Qp [27000,70000]) _ i Lg f a3 (λh0=>by rw[h0]at c;cases c)
end Go.AM
