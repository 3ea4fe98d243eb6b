/- Part 7. -/
import Derived.Test.YtcoileenpgjmoaaGreatDoorSF
import Derived.Test.YtcoileenpgjmoaaGreatDoorSE
set_option linter.defProp false
set_option linter.unusedSimpArgs false
set_option linter.unusedVariables false
set_option linter.unusedSectionVars false
namespace Go.AM
open Go.Proofs.Tryz
abbrev Ip:Sl Iu:=Sl.nil
def Hx:(4:Nat)<=4:=by decide
def Hk:(3:Nat)<=3:=by decide
def Fd:(1:Nat)<=1:=by decide
abbrev Fc(z:Int):Sl Int:=(Sl.of [IntKind.wrap .u8 z,IntKind.wrap .u8 (shI .shr .u32 z 8),IntKind.wrap .u8 (shI .shr .u32 z 16)]:Sl Int)
variable {N:Nat}
open IntKind (wrap)
def Br2:=@Option.ite_none_right_eq_some
open Go.Proofs
set_option maxRecDepth 10000
set_option maxHeartbeats 2000000
variable {S:V2}(Z:G8 S Tryz.prog) (Y:Kd S)
include Z Y
def Iz (N:Nat)(a:Int):Option Bool:= some (((((decide (97<=a))&&(decide (a<=122)))||((decide (65<=a))&&(decide (a<=90))))||((decide (48<=a))&&(decide (a<=57))))||(a==45))
theorem VF {b:Int}{y:Bool}(h:Iz N b=some y) :FunO S MG [.p (pI .u8 b)] [] (pB y) ([]) []:=by unfold Iz at h;refine A2 Z func106 ?_;refine kB Z (A4 Z) Fb Fb 23 (.o (.o (.o (.n (.a (decide (97<=b))) (.a (decide (b<=122)))) (.n (.a (decide (65<=b))) (.a (decide (b<=90))))) (.n (.a (decide (48<=b))) (.a (decide (b<=57))))) (.a (b==45))) ?_;cases h;exact kR Z
def EI (N:Nat)(a:Str):Option Bool:= Y3 N (λb (x1:Int)=>if (decide (x1<(a.length:Int))) then if ((0:Int)<=x1/\x1<(a.length:Int))then (Iz N (HU a x1)).bind λy3=>if (!y3) then some false else b (wrap .i64 (x1+1)) else none else some ((decide (1<=(a.length:Int)))&&(decide ((a.length:Int)<=24)))) 0
theorem RE {b:Str}{y:Bool}(h:EI N b=some y) :FunO S Rw [.p (.str b)] [] (pB y) ([]) []:=by
 unfold EI at h;refine A2 Z func66 ?_;refine R8 Z Fb h (λx1=>⟨[(3,pN x1),(0,.p (.str b))],[]⟩) (ids:=[]) (λ_ _ _ _ _ c x1 d h=>?_);apply kI Z h<;>intro h
 .obtain⟨c8,h⟩:=D1 h;obtain⟨y3,e3,h⟩:=A7 h;refine B3 Z [] c8 (VF Z Y e3) ?_;apply kI Z h<;>intro h
  .cases h;exact kR Z
  exact d _ [] _ (wrap .i64 (x1+1)) Fb h
 refine kB Z (A4 Z) Fb Fb 4 (.n (.a (decide (1<=(b.length:Int)))) (.a (decide ((b.length:Int)<=24)))) ?_;cases h;exact kR Z
def Dv (N:Nat)(a:Sl Node):Option Int:= if ((decide ((a.n:Int)<1))=false->((decide (63<(a.n:Int)))=false->((0:Int)<=0/\0<(a.n:Int))))then if (((decide ((a.n:Int)<1))||(decide (63<(a.n:Int))))||((a.g 0).Parent != (-1))) then some 16 else Y3 N (λb (x3:Int)=>if (decide (x3<(a.n:Int))) then lt (λ(z3:Bool)=>if z3 then some 16 else Y3 N (λc (x7:Int)=>if (decide (x7<x3)) then if (((0:Int)<=x7/\x7<(a.n:Int))/\((0:Int)<=x3/\x3<(a.n:Int)))then if (((a.g x7.toNat).Name==(a.g x3.toNat).Name) != false) then some 16 else c (wrap .i64 (x7+1)) else none else b (wrap .i64 (x3+1))) 0) λk3=>if (decide (0<x3)) then if ((0:Int)<=x3/\x3<(a.n:Int))then if (decide ((a.g x3.toNat).Parent<0)) then k3 true else if ((0:Int)<=x3/\x3<(a.n:Int))then if (decide (x3<=(a.g x3.toNat).Parent)) then k3 true else if ((0:Int)<=x3/\x3<(a.n:Int))then (EI N (a.g x3.toNat).Name).bind λd=>k3 (!d) else none else none else none else if ((0:Int)<=x3/\x3<(a.n:Int))then (EI N (a.g x3.toNat).Name).bind λf=>k3 (!f) else none else some 0) 0 else none
theorem XJ {c:Sl Node}{y:Int}(h:Dv N c=some y) :FunO S OK [.p (vSl 2 C7 c)] [] (pN y) ([]) []:=by
 unfold Dv at h;refine A2 Z func34 ?_;obtain⟨c1,h⟩:=D1 h;refine kB Z (A4 Z) Fb c1 11 (.o (.o (.a (decide ((c.n:Int)<1))) (.a (decide (63<(c.n:Int))))) (.a ((c.g 0).Parent != (-1)))) ?_;apply kI Z h<;>intro h
 .cases h;exact kR Z
 refine R8 Z Fb h (λx3=>⟨[(3,pN x3),(0,.p (vSl 2 C7 c))],[]⟩) (ids:=[]) (λ_ _ _ _ _ f x3 i h=>?_);apply kI Z h<;>intro h
 .refine LO Z Fb (A4 Z) h 0 (λz3=>⟨[(53,pB z3),(3,pN x3),(0,.p (vSl 2 C7 c))],[]⟩) (λM3 k3 d h=>?_) (λz3 h=>?_)
  .refine kG Z h (λh=>?_) (λh=>?_)
   .obtain⟨c71,h⟩:=D1 h;refine GQ Z c71 (b:=decide ((c.g x3.toNat).Parent<0)) (λc72=>?_) (λc72=>?_)
    .replace h:=itT c72 h;exact d _ [] _ true Fb h
    replace h:=itF c72 h;obtain⟨c73,h⟩:=D1 h;refine GQ Z c73 (b:=decide (x3<=(c.g x3.toNat).Parent)) (λc74=>?_) (λc74=>?_)
    .replace h:=itT c74 h;exact d _ [] _ true Fb h
    replace h:=itF c74 h;obtain⟨c75,h⟩:=D1 h;obtain⟨j,e11,h⟩:=A7 h;refine B3 Z [] c75 (RE Z Y e11) ?_;exact d _ [] _ (!j) Fb h
   obtain⟨c76,h⟩:=D1 h;obtain⟨l,e12,h⟩:=A7 h;refine B3 Z [] c76 (RE Z Y e12) ?_;exact d _ [] _ (!l) Fb h
  apply kI Z h<;>intro h
  .cases h;exact kR Z
  refine R8 Z Fb h (λx7=>⟨[(4,pN x7),(3,pN x3),(0,.p (vSl 2 C7 c))],[]⟩) (ids:=[]) (λ_ _ _ _ _ m x7 q h=>?_);apply kI Z h<;>intro h
  .refine E4 Z Fb [2,4,7,9] ?_;obtain⟨c85,h⟩:=D1 h;refine D6 c85 ?_;apply kI Z h<;>intro h
   .cases h;exact kR Z
   exact q _ [] _ (wrap .i64 (x7+1)) Fb h
  exact i _ [] _ (wrap .i64 (x3+1)) Fb h
 cases h;exact kR Z
def Hb (N:Nat)(a:Int):Option Bool:= some (((((decide (97<=a))&&(decide (a<=122)))||((decide (65<=a))&&(decide (a<=90))))||((decide (48<=a))&&(decide (a<=57))))||(a==45))
theorem Tr {b:Int}{y:Bool}(h:Hb N b=some y) :FunO S Lc [.p (pI .u8 b)] [] (pB y) ([]) []:=by unfold Hb at h;refine A2 Z func151 ?_;refine kB Z (A4 Z) Fb Fb 23 (.o (.o (.o (.n (.a (decide (97<=b))) (.a (decide (b<=122)))) (.n (.a (decide (65<=b))) (.a (decide (b<=90))))) (.n (.a (decide (48<=b))) (.a (decide (b<=57))))) (.a (b==45))) ?_;cases h;exact kR Z
def DW (N:Nat)(a:Str):Option Bool:= Y3 N (λb (x1:Int)=>if (decide (x1<(a.length:Int))) then if ((0:Int)<=x1/\x1<(a.length:Int))then (Hb N (HU a x1)).bind λy3=>if (!y3) then some false else b (wrap .i64 (x1+1)) else none else some ((decide (0<(a.length:Int)))&&(decide ((a.length:Int)<=24)))) 0
theorem VG {b:Str}{y:Bool}(h:DW N b=some y) :FunO S MH [.p (.str b)] [] (pB y) ([]) []:=by
 unfold DW at h;refine A2 Z func115 ?_;refine R8 Z Fb h (λx1=>⟨[(6,pN x1),(5,pN (b.length:Int)),(0,.p (.str b))],[]⟩) (ids:=[]) (λ_ _ _ _ _ c x1 d h=>?_);apply kI Z h<;>intro h
 .obtain⟨c8,h⟩:=D1 h;obtain⟨y3,e3,h⟩:=A7 h;refine B3 Z [] c8 (Tr Z Y e3) ?_;apply kI Z h<;>intro h
  .cases h;exact kR Z
  exact d _ [] _ (wrap .i64 (x1+1)) Fb h
 refine kB Z (A4 Z) Fb Fb 4 (.n (.a (decide (0<(b.length:Int)))) (.a (decide ((b.length:Int)<=24)))) ?_;cases h;exact kR Z
def X0 (N:Nat)(a:Sl Node):Option Int:= if (((a.n:Int)==0)||(decide (63<(a.n:Int)))) then some 16 else Bj N (λb (x2:List (Str×Bool)) (x3:Int)=>if (decide (x3<(a.n:Int))) then if ((0:Int)<=x3/\x3<(a.n:Int))then lt (λ(z3:Bool)=>if z3 then some 16 else b (Df eqS (a.g x3.toNat).Name true x2) (wrap .i64 (x3+1))) λk3=>if (decide (x3<=(a.g x3.toNat).Parent)) then k3 true else if (decide ((a.g x3.toNat).Parent<(if 0<(wrap .i64 (x3-1))then 0 else (wrap .i64 (x3-1))))) then k3 true else (DW N (a.g x3.toNat).Name).bind λy6=>if (!y6) then k3 true else MX (P5 eqS (a.g x3.toNat).Name x2) (k3 false) λv6=>k3 v6 else none else some 0) [] 0
theorem FK {b:Sl Node}{y:Int}(h:X0 N b=some y) :FunO S MD [.p (vSl 2 C7 b)] [] (pN y) ([]) []:=by
 unfold X0 at h;refine A2 Z func73 ?_;refine kB Z (A4 Z) Fb Fb 4 (.o (.a ((b.n:Int)==0)) (.a (decide (63<(b.n:Int))))) ?_;apply kI Z h<;>intro h
 .cases h;exact kR Z
 refine H3 Z Fb h (λx2 x3=>⟨[(17,pN x3),(16,pN (b.n:Int)),(15,.p (vSl 2 C7 b)),(3,.mref 15000)],[(15000,oM PV.str PV.bb x2)]⟩) (ids:=[(15000,15000)]) (λ_ _ _ _ _ d x2 x3 f h=>?_);apply kI Z h<;>intro h
 .obtain⟨c25,h⟩:=D1 h;refine LO Z (And.intro c25 Gq) (A4 Z) h 0 (λz3=>⟨[(45,pB z3),(17,pN x3),(16,pN (b.n:Int)),(15,.p (vSl 2 C7 b)),(5,.reg 6000 0),(3,.mref 15000)],[(15000,oM PV.str PV.bb x2),(6000,.cells [pN (b.g x3.toNat).Parent,.p (.str (b.g x3.toNat).Name)])]⟩) (λM3 k3 c h=>?_) (λz3 h=>?_)
  .refine kG Z h (λh=>?_) (λh=>?_)
   .exact c _ (Jt [6000,15000]) _ true Fb h
   refine kG Z h (λh=>?_) (λh=>?_)
   .exact c _ (Jt [6000,15000]) _ true Fb h
   refine kC Z h (VG Z Y) (λy6 h=>?_);refine kG Z h (λh=>?_) (λh=>?_)
   .exact c _ (Jt [6000,15000]) _ true Fb h
   rcases o6:P5 eqS (b.g x3.toNat).Name x2 with _|v6
   .replace h:=ZW o6 h;refine Xd Z Fb F8 AH1 PV.str PV.bb eqS o6 (.v (.bool false)) Fb ?_;exact c _ (Jt [6000,15000]) _ false Fb h
   replace h:=YI o6 h;refine Xc Z Fb F8 AH1 PV.str PV.bb eqS o6 Fb ?_;exact c _ (Jt [6000,15000]) _ v6 Fb h
  apply kI Z h<;>intro h
  .cases h;exact kR Z
  refine Aa6 Z Fb F8 PV.str PV.bb eqS (b.g x3.toNat).Name true x2 Fb ?_;exact f _ [(15000,15000)] _ (Df eqS (b.g x3.toNat).Name true x2) (wrap .i64 (x3+1)) Fb h
 cases h;exact kR Z
def AA (N:Nat)(a:History):Option Int:= if ((0:Int)<=(a.On.n:Int)/\(a.On.n:Int)<=(a.On.n:Int)/\(a.On.n:Int)*8<=140737488355328/\(a.On.n:Int)<=140737488355328)then Aj0 N (λc (x4:Sl Int) (x5:Bool) (x6:Int)=>if (decide (x6<(a.On.n:Int))) then if ((((0:Int)<=x6/\x6<(a.On.n:Int))/\((0:Int)<=x6/\x6<(x4.n:Int)))/\x6.toNat<x4.n)then if ((0:Int)<=x6/\x6<(a.Tree.n:Int))then lt (λ(z3:Sl Int)=>if (((0:Int)<=x6/\x6<(z3.n:Int))/\x6.toNat<z3.n)then if (decide (64<(z3.g x6.toNat))) then some 2 else Bj N (λd (f:Bool) (b:Int)=>if (decide (b<((a.On.g x6.toNat).n:Int))) then if ((0:Int)<=b/\b<((a.On.g x6.toNat).n:Int))then d ((f||(decide (((a.On.g x6.toNat).g b.toNat)<0)))||(decide ((a.Laws.n:Int)<=((a.On.g x6.toNat).g b.toNat)))) (wrap .i64 (b+1)) else none else c z3 f (wrap .i64 (x6+1))) x5 0 else none) λk3=>if (decide (0<=(a.Tree.g x6.toNat).Parent)) then if (((((((0:Int)<=x6/\x6<((x4.upd x6.toNat ((a.On.g x6.toNat).n:Int)).n:Int))/\x6.toNat<(x4.upd x6.toNat ((a.On.g x6.toNat).n:Int)).n)/\((0:Int)<=(a.Tree.g x6.toNat).Parent/\(a.Tree.g x6.toNat).Parent<((x4.upd x6.toNat ((a.On.g x6.toNat).n:Int)).n:Int)))/\(a.Tree.g x6.toNat).Parent.toNat<(x4.upd x6.toNat ((a.On.g x6.toNat).n:Int)).n)/\((0:Int)<=x6/\x6<((x4.upd x6.toNat ((a.On.g x6.toNat).n:Int)).n:Int)))/\x6.toNat<(x4.upd x6.toNat ((a.On.g x6.toNat).n:Int)).n)then k3 ((x4.upd x6.toNat ((a.On.g x6.toNat).n:Int)).upd x6.toNat (wrap .i64 (((x4.upd x6.toNat ((a.On.g x6.toNat).n:Int)).g x6.toNat)+((x4.upd x6.toNat ((a.On.g x6.toNat).n:Int)).g (a.Tree.g x6.toNat).Parent.toNat)))) else none else k3 (x4.upd x6.toNat ((a.On.g x6.toNat).n:Int)) else none else none else if x5 then some 3 else some 0) (Sl.rep (a.On.n:Int).toNat 0:Sl Int) false 0 else none
theorem Pt {d:History}{y:Int}(h:AA N d=some y) :FunO S Ij [.p (.agg (A8 d))] [] (pN y) ([]) []:=by
 unfold AA at h;refine A2 Z func107 ?_;refine F9 Z Fb 2 2000 (A8 d) ?_;obtain⟨c1,h⟩:=D1 h;refine KJ Z c1 h (λx4 x5 x6=>⟨[(17,pN x6),(16,pN (d.On.n:Int)),(15,.p (vSl 1 (cL 1 (cI .i64)) d.On)),(4,pB x5),(3,.vec 14000),(1,.p (.ptr (A8 d)))],[(14000,oV E5 1 (cI .i64) x4 false)]⟩) (ids:=[(14000,14000)]) (λ_ _ _ _ _ q x4 x5 x6 r h=>?_);apply kI Z h<;>intro h
 .obtain⟨c35,h⟩:=D1 h;refine O4 Z (And.intro (And.intro c35.1.1 c35.1.2) (And.intro (rfl:(1:Nat)=1) (And.intro c35.2 Fd))) 27 ⟨[(17,pN x6),(16,pN (d.On.n:Int)),(15,.p (vSl 1 (cL 1 (cI .i64)) d.On)),(6,.p (vSl 1 (cI .i64) (d.On.g x6.toNat))),(5,pN x6),(4,pB x5),(3,.vec 14000),(1,.p (.ptr (A8 d)))],[(14000,.vec E5 1 (x4.upd x6.toNat ((d.On.g x6.toNat).n:Int)).n (λi=>cI .i64 ((x4.upd x6.toNat ((d.On.g x6.toNat).n:Int)).g i)) false)]⟩ (ids:=[(14000,14000)]) ?_ (hle:=klR [(7,.fn x4.n (x4.upd x6.toNat ((d.On.g x6.toNat).n:Int)).n (λl=>if l=x6.toNat then splice ((λi=>cI .i64 (x4.g i)) l) 0 [pI .i64 ((d.On.g x6.toNat).n:Int)]else (λi=>cI .i64 (x4.g i)) l) (λi=>cI .i64 ((x4.upd x6.toNat ((d.On.g x6.toNat).n:Int)).g i)))] (al1 ⟨rfl,AS6 (c:=cI .i64) (v:=x4) (x:=((d.On.g x6.toNat).n:Int)) same (λ_=>by first|rfl|(dsimp only;split<;>rfl))⟩ al0));obtain⟨c36,h⟩:=D1 h;refine LO Z c36 (A4 Z) h 0 (λz3=>⟨[(17,pN x6),(16,pN (d.On.n:Int)),(15,.p (vSl 1 (cL 1 (cI .i64)) d.On)),(6,.p (vSl 1 (cI .i64) (d.On.g x6.toNat))),(5,pN x6),(4,pB x5),(3,.vec 14000),(1,.p (.ptr (A8 d)))],[(14000,oV E5 1 (cI .i64) z3 false)]⟩) (λM3 k3 m h=>?_) (λz3 h=>?_)
  .apply kI Z h<;>intro h
   .refine EV Z Fb ?_;obtain⟨c41,h⟩:=D1 h;refine D6 (And.intro (And.intro (And.intro (And.intro (And.intro c41.1.1.1.1.1 c41.1.1.1.1.2) c41.1.1.1.2) c41.1.1.2) c41.1.2) (And.intro (rfl:(1:Nat)=1) (And.intro c41.2 Fd))) ?_;exact m _ [(14000,14000)] _ ((x4.upd x6.toNat ((d.On.g x6.toNat).n:Int)).upd x6.toNat (wrap .i64 (((x4.upd x6.toNat ((d.On.g x6.toNat).n:Int)).g x6.toNat)+((x4.upd x6.toNat ((d.On.g x6.toNat).n:Int)).g (d.Tree.g x6.toNat).Parent.toNat)))) Fb h (hle:=klR [(7,.fn (x4.upd x6.toNat ((d.On.g x6.toNat).n:Int)).n ((x4.upd x6.toNat ((d.On.g x6.toNat).n:Int)).upd x6.toNat (wrap .i64 (((x4.upd x6.toNat ((d.On.g x6.toNat).n:Int)).g x6.toNat)+((x4.upd x6.toNat ((d.On.g x6.toNat).n:Int)).g (d.Tree.g x6.toNat).Parent.toNat)))).n (λl=>if l=x6.toNat then splice ((λi=>cI .i64 ((x4.upd x6.toNat ((d.On.g x6.toNat).n:Int)).g i)) l) 0 [pI .i64 (wrap .i64 (((x4.upd x6.toNat ((d.On.g x6.toNat).n:Int)).g x6.toNat)+((x4.upd x6.toNat ((d.On.g x6.toNat).n:Int)).g (d.Tree.g x6.toNat).Parent.toNat)))]else (λi=>cI .i64 ((x4.upd x6.toNat ((d.On.g x6.toNat).n:Int)).g i)) l) (λi=>cI .i64 (((x4.upd x6.toNat ((d.On.g x6.toNat).n:Int)).upd x6.toNat (wrap .i64 (((x4.upd x6.toNat ((d.On.g x6.toNat).n:Int)).g x6.toNat)+((x4.upd x6.toNat ((d.On.g x6.toNat).n:Int)).g (d.Tree.g x6.toNat).Parent.toNat)))).g i)))] (al1 ⟨rfl,AS6 (c:=cI .i64) (v:=x4.upd x6.toNat ((d.On.g x6.toNat).n:Int)) (x:=wrap .i64 (((x4.upd x6.toNat ((d.On.g x6.toNat).n:Int)).g x6.toNat)+((x4.upd x6.toNat ((d.On.g x6.toNat).n:Int)).g (d.Tree.g x6.toNat).Parent.toNat))) same (λ_=>by first|rfl|(dsimp only;split<;>rfl))⟩ al0))
   exact m _ [(14000,14000)] _ (x4.upd x6.toNat ((d.On.g x6.toNat).n:Int)) Fb h
  obtain⟨c42,h⟩:=D1 h;refine C9 Z c42 (b:=decide (64<(z3.g x6.toNat))) (λc43=>?_) (λc43=>?_)
  .replace h:=itT c43 h;cases h;exact kR Z
  replace h:=itF c43 h;refine H3 Z Fb h (λj f=>⟨[(52,pN f),(51,pN ((d.On.g x6.toNat).n:Int)),(50,.p (vSl 1 (cI .i64) (d.On.g x6.toNat))),(17,pN x6),(16,pN (d.On.n:Int)),(15,.p (vSl 1 (cL 1 (cI .i64)) d.On)),(4,pB j),(3,.vec 14000),(1,.p (.ptr (A8 d)))],[(14000,oV E5 1 (cI .i64) z3 false)]⟩) (ids:=[(14000,14000)]) (λ_ _ _ _ _ s j f t h=>?_);apply kI Z h<;>intro h
  .obtain⟨c49,h⟩:=D1 h;refine kB Z (A4 Z) c49 Fb 10 (.o (.o (.a j) (.a (decide (((d.On.g x6.toNat).g f.toNat)<0)))) (.a (decide ((d.Laws.n:Int)<=((d.On.g x6.toNat).g f.toNat))))) ?_;exact t _ [(14000,14000)] _ ((j||(decide (((d.On.g x6.toNat).g f.toNat)<0)))||(decide ((d.Laws.n:Int)<=((d.On.g x6.toNat).g f.toNat)))) (wrap .i64 (f+1)) Fb h
  exact r _ [(14000,14000)] _ z3 j (wrap .i64 (x6+1)) Fb h
 apply kI Z h<;>intro h
 .cases h;exact kR Z
 cases h;exact kR Z
def J9 (N:Nat)(a:History):Option Int:= (X0 N a.Tree).bind λy1=>if (y1 != 0) then some 16 else if (decide (64<(a.Laws.n:Int))) then some 12 else Bj N (λb (x1:List (Str×Int)) (x2:Int)=>if (decide (x2<(a.Laws.n:Int))) then if ((0:Int)<=x2/\x2<(a.Laws.n:Int))then (Ay N (a.Laws.g x2.toNat)).bind λy4=>if (y4 != 0) then some 17 else MX (P5 eqS (a.Laws.g x2.toNat).Name x1) (b (Df eqS (a.Laws.g x2.toNat).Name (wrap .i64 (0+1)) x1) (wrap .i64 (x2+1))) λv3=>b (Df eqS (a.Laws.g x2.toNat).Name (wrap .i64 (v3+1)) x1) (wrap .i64 (x2+1)) else none else if (decide (((Dd PV.str (pI .i64) x1).length:Int)<(a.Laws.n:Int))) then some 6 else if ((a.On.n:Int) != (a.Tree.n:Int)) then some 2 else (AA N a).bind λy5=>some y5) [] 0
theorem CV {a:History}{y:Int}(h:J9 N a=some y) :FunO S Ih [.p (.agg (A8 a))] [] (pN y) ([]) []:=by
 unfold J9 at h;refine A2 Z func67 ?_;refine kC Z h (FK Z Y) (λy1 h=>?_);apply kI Z h<;>intro h
 .cases h;exact kR Z
 apply kI Z h<;>intro h
 .cases h;exact kR Z
 refine H3 Z Fb h (λx1 x2=>⟨[(18,pN x2),(17,pN (a.Laws.n:Int)),(16,.p (vSl 18 B4 a.Laws)),(3,.mref 15000),(1,.reg 2000 0)],[(15000,oM PV.str (pI .i64) x1),(2000,.cells ((A8 a).map .p))]⟩) (ids:=(Jt [2000,15000])) (λ_ _ _ _ _ c x1 x2 b h=>?_);apply kI Z h<;>intro h
 .obtain⟨c10,h⟩:=D1 h;obtain⟨y4,e4,h⟩:=A7 h;refine B3 Z [] (And.intro c10 Ii) (Ha Z Y e4) ?_;apply kI Z h<;>intro h
  .cases h;exact kR Z
  rcases o3:P5 eqS (a.Laws.g x2.toNat).Name x1 with _|v3
  .replace h:=ZW o3 h;refine Xd Z Fb F8 E5 PV.str (pI .i64) eqS o3 (pI .i64 0) Fb ?_;refine Aa6 Z Fb F8 PV.str (pI .i64) eqS (a.Laws.g x2.toNat).Name (wrap .i64 (0+1)) x1 Fb ?_;exact b _ (Jt [2000,15000]) _ (Df eqS (a.Laws.g x2.toNat).Name (wrap .i64 (0+1)) x1) (wrap .i64 (x2+1)) Fb h
  replace h:=YI o3 h;refine Xc Z Fb F8 E5 PV.str (pI .i64) eqS o3 Fb ?_;refine Aa6 Z Fb F8 PV.str (pI .i64) eqS (a.Laws.g x2.toNat).Name (wrap .i64 (v3+1)) x1 Fb ?_;exact b _ (Jt [2000,15000]) _ (Df eqS (a.Laws.g x2.toNat).Name (wrap .i64 (v3+1)) x1) (wrap .i64 (x2+1)) Fb h
 apply kI Z h<;>intro h
 .cases h;exact kR Z
 apply kI Z h<;>intro h
 .cases h;exact kR Z
 refine kC Z h (Pt Z Y) (λy5 h=>?_);cases h;exact kR Z
def U3 (N:Nat)(b:History)(a:Int):Option Bool:= some ((decide (0<=a))&&(decide (a<(b.Tree.n:Int))))
theorem FX {c:History}{b:Int}{y:Bool}(h:U3 N c b=some y) :FunO S Jl [.p (.agg (A8 c)),pN b] [] (pB y) ([]) []:=by unfold U3 at h;refine A2 Z func37 ?_;refine kB Z (A4 Z) Fb Fb 6 (.n (.a (decide (0<=b))) (.a (decide (b<(c.Tree.n:Int))))) ?_;cases h;exact kR Z
def S6 (N:Nat)(q0:Int)(q1:Sl Node):Option (List (Int)):= Bj N (λa (x1:Int) (x2:Sl Int)=>if (decide (0<=x1)) then if ((Kb 8 (x2.n+(Sl.of [x1]:Sl Int).n))/\((0:Int)<=x1/\x1<(q1.n:Int)))then a (q1.g x1.toNat).Parent (x2.push x1) else none else Y3 N (λb (x3:Int)=>if (decide (0<=x3)) then if (((0:Int)<=x3/\x3<(x2.n:Int))/\x3.toNat<x2.n)then Ag (x2.g x3.toNat) (b (wrap .i64 (x3-1))) else none else some []) (wrap .i64 ((x2.n:Int)-1))) q0 Io
theorem IA {q0:Int}{q1:Sl Node}{L:List (Int)}(h:S6 N q0 q1=some L) :ES S EY [] [.reg 0 0,.reg 1 0] [.cells [pN q0],.cells [.p (vSl 2 C7 q1)]] (L.map (λ(x:Int)=>[pI .i64 x])):=by
 unfold S6 at h;refine EA Z func68 ?_;refine SE Z Fb h (λx1 x2 L1=>⟨[(4,.vec 5500),(2,.reg 1 0),(1,.reg 0 0),(0,.yf 2)],[(5500,oV E5 1 (cI .i64) x2 false),(2,.yld (L1.map (λ(x:Int)=>[pI .i64 x])) true),(1,.cells [.p (vSl 2 C7 q1)]),(0,.cells [pN x1])]⟩) (ids:=(Jt [0,1,2])) (λ_ _ _ _ _ d x1 x2 L1 f h=>?_);apply kI Z h<;>intro h
 .obtain⟨c4,h⟩:=D1 h;exact f _ [(0,0),(1,1),(2,2),(5500,17000)] _ (q1.g x1.toNat).Parent (x2.push x1) L1 (And.intro (And.intro Ik c4.1) c4.2) h (hle:=kl1 0 (W6 (cI .i64) x2 x1 [pI .i64 0]))
 refine Dn Z Fb h (λx3 L2=>⟨[(5,pN x3),(4,.vec 5500),(0,.yf 2)],[(5500,oV E5 1 (cI .i64) x2 false),(2,.yld (L2.map (λ(x:Int)=>[pI .i64 x])) true),(1,.cells [.p (vSl 2 C7 q1)]),(0,.cells [pN x1])]⟩) (ids:=(Jt [0,1,2,5500])) (λ_ _ _ _ _ i x3 L2 j h=>?_);apply kI Z h<;>intro h
 .obtain⟨c14,h⟩:=D1 h;obtain⟨L5,rfl,c⟩:=LP h;replace h:=c;refine Dm Z c14 (ys:=(λ(x:Int)=>[pI .i64 x]) (x2.g x3.toNat)) (rest:=L5.map (λ(x:Int)=>[pI .i64 x])) ?_ ?_
  .refine C9 Z Fb (b:=false) (λc15=>?_) (λc15=>?_)
   .exact Bool.noConfusion ((rfl:false=false).symm.trans c15)
   exact j _ (Jt [0,1,2,5500]) _ (wrap .i64 (x3-1)) L5 Fb h
  refine C9 Z Fb (b:=true) (λc16=>?_) (λc16=>?_)
  .exact kO Z Fb (a:=.tup []) (objs:=[(.cells [pN x1]),.cells [.p (vSl 2 C7 q1)],.yld [] false]) [0,1,2] ⟨false,rfl,rfl,_,rfl⟩
  exact Bool.noConfusion (Ik.symm.trans c16)
 obtain rfl:=A9 h;exact kO Z Fb (a:=.tup []) (objs:=[(.cells [pN x1]),.cells [.p (vSl 2 C7 q1)],.yld [] true]) [0,1,2] ⟨true,rfl,rfl,_,rfl⟩
def Ba (N:Nat)(a:Sl Node)(b:Int):Option (Int×(Sl Node)):= some (b,a)
theorem Ln {a:Sl Node}{b:Int}{y:Int×(Sl Node)}(h:Ba N a b=some y) :FunO S KT [.p (vSl 2 C7 a),pN b] [] (.clo EY [] [.reg 0 0,.reg 1 0]) ([.cells [pN y.1],.cells [.p (vSl 2 C7 y.2)]]) []:=by unfold Ba at h;refine A2 Z func38 ?_;obtain rfl:=A9 h;exact kO Z Fb [4000,3000]
def Z8 (N:Nat)(a:History)(c:Int):Option ((Sl Int)×Int):= (J9 N a).bind λy1=>if (y1 != 0) then some (Io,y1) else (U3 N a c).bind λy2=>if (!y2) then some (Io,3) else (Ba N a.Tree c).bind λy3=>(S6 N y3.1 y3.2).bind λL1=>S9 L1 (λb (x1:Int) (z1:Sl Int)=>if (((0:Int)<=x1/\x1<(a.On.n:Int))/\(Kb 8 (z1.n+(a.On.g x1.toNat).n)))then b (z1.app (a.On.g x1.toNat)) else none) (λ(z1:Sl Int)=>some (z1,0)) Io
theorem QD {a:History}{b:Int}{y:(Sl Int)×Int}(h:Z8 N a b=some y) :FunO S Ju [.p (.agg (A8 a)),pN b] [] (.tup [.vec 0,pN y.2]) ([oV E5 1 (cI .i64) y.1 true]) []:=by
 unfold Z8 at h;refine A2 Z func105 ?_;refine F9 Z Fb 4 3000 (A8 a) ?_;obtain⟨y1,e1,h⟩:=A7 h;refine B3 Z [] Hk (CV Z Y e1) ?_;apply kI Z h<;>intro h
 .obtain rfl:=A9 h;exact kO Z Fb [5700]
 obtain⟨y2,e2,h⟩:=A7 h;refine B3 Z [] Hk (FX Z Y e2) ?_;apply kI Z h<;>intro h
 .obtain rfl:=A9 h;exact kO Z Fb [5700]
 refine kC Z h (Ln Z Y) (λy3 h=>?_);obtain⟨L1,e4,h⟩:=A7 h;refine GR Z Fb [22000,22001] [7,2] 901 (λz1=>⟨[(7,.reg 8000 0),(2,.p (.ptr (A8 a)))],[(8500,oV E5 1 (cI .i64) z1 false),(8000,.cells [.vec 8500])]⟩) (idl:=[(8000,8000)]) h (IA Z Y e4) (λ_=>by kernel_rfl) (λ_=>by kernel_rfl) (λ_=>by kernel_rfl) (λ_=>by kernel_rfl) (λx1 _ c z1 d h=>?_) (λz1 h=>?_)
 .refine JV Z Fb ?_;refine E4 Z Fb [2,4,5] ?_;obtain⟨c5,h⟩:=D1 h;refine D6 c5 ?_;exact d _ [(901,901),(8000,8000),(8500,30000)] _ (z1.app (a.On.g x1.toNat)) Fb h (hle:=kl1 0 (appS (cI .i64) z1 (a.On.g x1.toNat)))
 obtain rfl:=A9 h;exact kO Z Fb [8500]
def S7 (rec:Pat->Option Pat)(N:Nat)(a:Pat):Option Pat:= Bj N (λb (x1:Sl Pat) (x2:Int)=>if (decide (x2<(a.L.n:Int))) then if ((0:Int)<=x2/\x2<(a.L.n:Int))then (rec (a.L.g x2.toNat)).bind λy3=>if (Kb 64 (x1.n+(Sl.of [y3]:Sl Pat).n))then b (x1.push y3) (wrap .i64 (x2+1)) else none else none else some (Pat.mk a.Kind a.Is a.Not a.Min a.Max x1.n x1.g)) (Sl.nil:Sl Pat) 0
def R6:Nat->Pat->Option Pat
 |0=>λ_=>none
 |N+1=>S7 (R6 N) N
theorem Lo {rec:Pat->Option Pat}(b:∀{a:Pat}{y:Pat},rec a=some y->FunO S AO [.p (.agg (E1 a))] [] (.p (.agg (E1 y))) ([]) []){a:Pat}{y:Pat}(h:S7 rec N a=some y) :FunO S AO [.p (.agg (E1 a))] [] (.p (.agg (E1 y))) ([]) []:=by
 unfold S7 at h;refine A2 Z func112 ?_;refine O4 Z Fb 8 ⟨[(7,.p (vSl 7 E1 a.L)),(3,.p C8),(2,.reg 3000 0),(1,.reg 2000 0)],[(3000,.cells [pN 0,pU 0,pU 0,.p (.v (.bool false)),pN 0,pN 0,.p C8]),(2000,.cells ((E1 a).map .p))]⟩ (ids:=(Jt [2000,3000])) ?_ (hle:=klR [(0,.fn a.L.n a.L.n (EX a) (λi=>E1 (a.L.g i)))] (al1 ⟨rfl,CM a⟩ al0));refine H3 Z Fb h (λx1 x2=>⟨[(9,pN x2),(8,pN (a.L.n:Int)),(7,.p (vSl 7 E1 a.L)),(3,.vec 4500),(2,.reg 3000 0),(1,.reg 2000 0)],[(4500,oV Gv 7 E1 x1 false),(3000,.cells [pN 0,pU 0,pU 0,.p (.v (.bool false)),pN 0,pN 0,.p C8]),(2000,.cells ((E1 a).map .p))]⟩) (ids:=(Jt [2000,3000])) (λ_ _ _ _ _ c x1 x2 d h=>?_);apply kI Z h<;>intro h
 .obtain⟨c6,h⟩:=D1 h;obtain⟨y3,e3,h⟩:=A7 h;refine B3 Z [] (And.intro c6 Ig) (b e3) ?_;obtain⟨c7,h⟩:=D1 h;exact d _ [(2000,2000),(3000,3000),(4500,18000)] _ (x1.push y3) (wrap .i64 (x2+1)) (And.intro Ik c7) h (hle:=kl1 3 (W6 E1 x1 y3 [pI .i64 0,pI .u32 0,pI .u32 0,.v (.bool false),pI .i64 0,pI .i64 0,C8]))
 obtain rfl:=A9 h;exact J5 Z Fb ⟨[(2,.reg 3000 0)],[(3000,.cells [pN a.Kind,pU a.Is.Plus,pU a.Is.Minus,pB a.Not,pN a.Min,pN a.Max,.p (.sl false 7 x1.n (EX (Pat.mk a.Kind a.Is a.Not a.Min a.Max x1.n x1.g)))])]⟩ [] (ids:=[(3000,3000)]) ⟨rfl,rfl,rfl⟩
theorem Gw {a:Pat}{y:Pat}(h:R6 N a=some y) :FunO S AO [.p (.agg (E1 a))] [] (.p (.agg (E1 y))) ([]) []:=by
 induction N generalizing a y with
 |zero=>cases (show (none:Option Pat)=some y from h)
 |succ N ih=>exact Lo Z Y (λe=>ih e) h
def T2 (N:Nat)(a:Law):Option Law:= (R6 N a.Left).bind λy1=>(R6 N a.Right).bind λy2=>(A6 N a.If).bind λy3=>(H7 N a.Out).bind λy4=>some (⟨a.Name,y1,y2,y3,y4,a.Mode⟩:Law)
theorem HD {a:Law}{y:Law}(h:T2 N a=some y) :FunO S Hu [.p (.agg (B4 a))] [] (.p (.agg (B4 y))) ([]) []:=by unfold T2 at h;refine A2 Z func71 ?_;refine E4 Z Fb [2,5] ?_;obtain⟨y1,e1,h⟩:=A7 h;refine G5 Fb (Gw Z Y e1) ?_;obtain⟨y2,e2,h⟩:=A7 h;refine G5 Fb (Gw Z Y e2) ?_;refine D6 Fb ?_;refine E4 Z Fb [2,5] ?_;obtain⟨y3,e3,h⟩:=A7 h;refine G5 Fb (AR Z Y e3) ?_;obtain⟨y4,e4,h⟩:=A7 h;refine G5 Fb (CE Z Y e4) ?_;refine D6 Fb ?_;cases h;exact kR Z
def Q7 (N:Nat)(c:History)(a:Sl Int):Option (Sl Law):= Bj N (λb (x1:Sl Law) (x2:Int)=>if (decide (x2<(a.n:Int))) then if (((0:Int)<=x2/\x2<(a.n:Int))/\((0:Int)<=(a.g x2.toNat)/\(a.g x2.toNat)<(c.Laws.n:Int)))then (T2 N (c.Laws.g (a.g x2.toNat).toNat)).bind λy3=>if (Kb 200 (x1.n+(Sl.of [y3]:Sl Law).n))then b (x1.push y3) (wrap .i64 (x2+1)) else none else none else some x1) (Sl.nil:Sl Law) 0
theorem JD {b:History}{a:Sl Int}{y:Sl Law}(h:Q7 N b a=some y) :FunO S Jm [.p (.agg (A8 b)),.p (vSl 1 (cI .i64) a)] [] (.p (vSl 18 B4 y)) ([]) []:=by
 unfold Q7 at h;refine A2 Z func40 ?_;refine H3 Z Fb h (λx1 x2=>⟨[(10,pN x2),(9,pN (a.n:Int)),(8,.p (vSl 1 (cI .i64) a)),(5,.vec 6500),(2,.reg 3000 0)],[(6500,oV H6 18 B4 x1 false),(3000,.cells ((A8 b).map .p))]⟩) (ids:=[(3000,3000)]) (λ_ _ _ _ _ c x1 x2 d h=>?_);apply kI Z h<;>intro h
 .obtain⟨c6,h⟩:=D1 h;obtain⟨y3,e3,h⟩:=A7 h;refine B3 Z [] (And.intro (And.intro c6.1 c6.2) Ii) (HD Z Y e3) ?_;obtain⟨c7,h⟩:=D1 h;exact d _ [(3000,3000),(6500,23000)] _ (x1.push y3) (wrap .i64 (x2+1)) (And.intro Ik c7) h (hle:=kl1 3 (W6 B4 x1 y3 [.str [],pI .i64 0,pI .u32 0,pI .u32 0,.v (.bool false),pI .i64 0,pI .i64 0,C8,pI .i64 0,pI .u32 0,pI .u32 0,.v (.bool false),pI .i64 0,pI .i64 0,C8,C8,C8,pI .i64 0]))
 obtain rfl:=A9 h;exact kO Z Fb []
def Q8 (N:Nat)(a:History)(b:Int):Option ((Sl Law)×Int):= (Z8 N a b).bind λy1=>(Q7 N a y1.1).bind λy2=>some (y2,y1.2)
theorem QE {a:History}{b:Int}{y:(Sl Law)×Int}(h:Q8 N a b=some y) :FunO S Jp [.p (.agg (A8 a)),pN b] [] (.tup [.p (vSl 18 B4 y.1),pN y.2]) ([]) []:=by unfold Q8 at h;refine A2 Z func65 ?_;refine kC Z h (QD Z Y) (λy1 h=>?_);refine kC Z h (JD Z Y) (λy2 h=>?_);cases h;exact kR Z
def CW (N:Nat)(a:History)(b:Sl Iu):Option Int:= (J9 N a).bind λy1=>if (y1 != 0) then some y1 else (W8 N b).bind λy2=>some y2
theorem Pu {a:History}{b:Sl Iu}{y:Int}(h:CW N a b=some y) :FunO S Id [.p (.agg (A8 a)),.p (vSl 2 A0 b)] [] (pN y) ([]) []:=by
 unfold CW at h;refine A2 Z func36 ?_;refine kC Z h (CV Z Y) (λy1 h=>?_);apply kI Z h<;>intro h
 .cases h;exact kR Z
 refine kC Z h (DR Z Y) (λy2 h=>?_);cases h;exact kR Z
def Cy (N:Nat)(a:History)(c:Sl Iu)(d:Int):Option ((Sl Iu)×Int):= (CW N a c).bind λy1=>if (y1 != 0) then some (Ip,y1) else (U3 N a d).bind λy2=>if (!y2) then some (Ip,3) else (Ba N a.Tree d).bind λy3=>(S6 N y3.1 y3.2).bind λL1=>S9 L1 (λb (x1:Int) (z1:Sl Iu)=>if ((0:Int)<=x1/\x1<(a.On.n:Int))then (Q7 N a (a.On.g x1.toNat)).bind λy8=>(S5 N y8 z1).bind λy9=>if (y9.2 != 0) then some (Ip,y9.2) else b y9.1 else none) (λ(z1:Sl Iu)=>some (z1,0)) c
theorem VH {a:History}{b:Sl Iu}{c:Int}{y:(Sl Iu)×Int}(h:Cy N a b c=some y) :FunO S Mu [.p (.agg (A8 a)),.p (vSl 2 A0 b),pN c] [] (.tup [.p (vSl 2 A0 y.1),pN y.2]) ([]) []:=by
 unfold Cy at h;refine A2 Z func14 ?_;refine F9 Z Fb 4 4000 (A8 a) ?_;obtain⟨y1,e1,h⟩:=A7 h;refine B3 Z [] Hk (Pu Z Y e1) ?_;apply kI Z h<;>intro h
 .obtain rfl:=A9 h;exact J5 Z Fb ⟨[(7,.reg 8000 0),(6,.reg 7000 0)],[(8000,.cells [pN y1]),(7000,.cells [.p (vSl 2 A0 Ip)])]⟩ [] (ids:=(Jt [7000,8000])) ⟨rfl,rfl,rfl⟩
 obtain⟨y2,e2,h⟩:=A7 h;refine B3 Z [] Hk (FX Z Y e2) ?_;apply kI Z h<;>intro h
 .obtain rfl:=A9 h;exact J5 Z Fb ⟨[(7,.reg 8000 0),(6,.reg 7000 0)],[(8000,.cells [pN 3]),(7000,.cells [.p (vSl 2 A0 Ip)])]⟩ [] (ids:=(Jt [7000,8000])) ⟨rfl,rfl,rfl⟩
 refine kC Z h (Ln Z Y) (λy3 h=>?_);obtain⟨L1,e4,h⟩:=A7 h;refine GR Z Fb [25000,25001] [7,6,4,3] 901 (λz1=>⟨[(7,.reg 8000 0),(6,.reg 7000 0),(4,.reg 5000 0),(3,.p (.ptr (A8 a)))],[(8000,.cells [pN 0]),(7000,.cells [.p C8]),(5000,.cells [.p (vSl 2 A0 z1)])]⟩) (idl:=(Jt [5000,7000,8000])) h (IA Z Y e4) (λ_=>by kernel_rfl) (λ_=>by kernel_rfl) (λ_=>by kernel_rfl) (λ_=>by kernel_rfl) (λx1 _ d z1 f h=>?_) (λz1 h=>?_)
 .refine JV Z Fb ?_;refine E4 Z Fb [0,2,4,5,6,8] ?_;obtain⟨c7,h⟩:=D1 h;obtain⟨y8,e9,h⟩:=A7 h;refine G5 (And.intro Hk c7) (JD Z Y e9) ?_;obtain⟨y9,e10,h⟩:=A7 h;refine G5 Fb (Fl Z Y e10) ?_;refine D6 Fb ?_;apply kI Z h<;>intro h
  .refine NA Z Fb ⟨[(7,.reg 8000 0),(6,.reg 7000 0),(4,.reg 5000 0),(3,.p (.ptr (A8 a)))],[(8000,.cells [pN y9.2]),(7000,.cells [.p C8]),(5000,.cells [.p (vSl 2 A0 y9.1)])]⟩ (ids:=(Jt [901,5000,7000,8000])) ?_;obtain rfl:=A9 h;exact J5 Z Fb ⟨[(7,.reg 8000 0),(6,.reg 7000 0)],[(8000,.cells [pN y9.2]),(7000,.cells [.p (vSl 2 A0 Ip)])]⟩ [] (ids:=(Jt [7000,8000])) ⟨rfl,rfl,rfl⟩
  exact f _ (Jt [901,5000,7000,8000]) _ y9.1 Fb h
 cases h;exact kR Z
end Go.AM
namespace Go.AM
open IntKind (wrap)
open Go.Proofs
set_option maxRecDepth 10000
set_option maxHeartbeats 2000000
variable {S:V2}(Z:G8 S Tryz.prog) (Y:Kd S)
abbrev Fm {T:Type}(e:TypeId)(k:Nat)(c:T->List PV)(x:Sl T):Obj:=.vec e k x.n (λq=>c (x.g q)) false
theorem AZ8 {T:Type}{e:TypeId}{k n i:Nat}{c:T->List PV}{X:Sl (Sl T)}{z:Sl T}:∀q,q<n->(λq=>if q=i then Fm e k c z else if q=i then Obj.dead else Fm e k c (X.g q)) q=(λq=>Fm e k c ((X.upd i z).g q)) q:=λq _=>by by_cases h:q=i<;>simp[h]
include Z Y
def AB (N:Nat)(a:Sl Node):Option (Sl (Sl Int)):= if ((0:Int)<=(a.n:Int)/\(a.n:Int)<=(a.n:Int)/\(a.n:Int)*24<=140737488355328/\(a.n:Int)<=140737488355328)then Bj N (λb (x:Int) (X:Sl (Sl Int))=>if (decide (x<(a.n:Int))) then if ((0:Int)<=x/\x<(a.n:Int))then if (a.g x.toNat).Parent.toNat<X.n then lt (λ(z:Sl Int)=>b (wrap .i64 (x+1)) (X.upd (a.g x.toNat).Parent.toNat z)) λk=>if (decide (0<x)) then if (((0:Int)<=(a.g x.toNat).Parent/\(a.g x.toNat).Parent<(X.n:Int))/\(Kb 8 ((X.g (a.g x.toNat).Parent.toNat).n+1)))then k ((X.g (a.g x.toNat).Parent.toNat).push x) else none else k (X.g (a.g x.toNat).Parent.toNat) else none else none else some X) 0 ⟨a.n,λ_=>Sl.nil⟩ else none
theorem Pv {N:Nat}{b:Sl Node}{y:Sl (Sl Int)}(h:AB N b=some y) :FunO S Il [.p (vSl 2 C7 b)] [] (.p (vSl 1 (cL 1 (cI .i64)) y)) [] []:=by
 unfold AB at h;refine A2 Z Tryz.func116 ?_;obtain⟨c1,h⟩:=D1 h;refine EW Z c1 9 (.fam 9000 9901 λi=>Fm E5 1 (cI .i64) ((⟨b.n,λ_=>Sl.nil⟩:Sl (Sl Int)).g i)) (⟨by decide,λi _=>rfl⟩:1000<=9901/\∀i,i<b.n->QR [C8] (Fm E5 1 (cI .i64) ((⟨b.n,λ_=>Sl.nil⟩:Sl (Sl Int)).g i))) ?_;refine H3 Z Fb h (λx X=>⟨[(11,pN x),(10,pN (b.n:Int)),(9,.p (vSl 2 C7 b)),(3,.vec 9000)],[(9901,.rows X.n λi=>Fm E5 1 (cI .i64) (X.g i)),(9000,.fam FH X.n 9901 none)]⟩) (ids:=(Jt [9901,9000])) (λ_ _ _ _ _ f x X d h=>?_);apply kI Z h<;>intro h
 .obtain⟨c2,h⟩:=D1 h;obtain⟨c3,h⟩:=D1 h;refine EW Z (And.intro c2 Gq) 17 (.take 9000 (b.g x.toNat).Parent.toNat 9801) (⟨⟨by decide,rfl⟩,c3⟩:(1000<=9801/\X.n=X.n)/\(b.g x.toNat).Parent.toNat<X.n) ?_;refine LO Z Fb (A4 Z) h 0 (λz=>⟨[(11,pN x),(10,pN (b.n:Int)),(9,.p (vSl 2 C7 b)),(3,.vec 9000)],
   [(9901,(.rows X.n λl=>if l=(b.g x.toNat).Parent.toNat then .dead else Fm E5 1 (cI .i64) (X.g l))),(9801,Fm E5 1 (cI .i64) z),(9000,.fam FH X.n 9901 (some ((b.g x.toNat).Parent.toNat,.vec 9801)))]⟩) (λM k c h=>?_) (λz h=>?_)
  .apply kI Z h<;>intro h
   .obtain⟨c4,h⟩:=D1 h;refine G4 Z Fb [(0,.n),(1,.n),(2,.l [6000]),(3,.n),(4,.n),(5,.l [6000]),(6,.l [9000]),(7,.l [9000]),(8,.n),(10,.a [29000,9801]),(11,.l [9000]),(12,.a [9000])] ?_;refine N0 (And.intro c4.1 (And.intro c3 (rfl:(b.g x.toNat).Parent.toNat=(b.g x.toNat).Parent.toNat))) (x:=.sl true 1 1 (H9 [pI .i64 0] [(0,cI .i64 x)])) ?_;refine D6 (And.intro (And.intro c4.2 c4.1) (And.intro c3 (rfl:(b.g x.toNat).Parent.toNat=(b.g x.toNat).Parent.toNat))) ?_;exact c _ [(9901,9901),(9801,29000),(9000,9000)] _ ((X.g (b.g x.toNat).Parent.toNat).push x) Fb h (hle:=kl1 5 (W6 (cI .i64) (X.g (b.g x.toNat).Parent.toNat) x [pI .i64 0]))
   exact c _ (Jt [9901,9801,9000]) _ (X.g (b.g x.toNat).Parent.toNat) Fb h
  refine EW Z Fb 30 (.put 9000 9902) (⟨⟨by decide,rfl⟩,c3⟩:(1000<=9902/\X.n=X.n)/\(b.g x.toNat).Parent.toNat<X.n) ?_;exact d _ [(9901,9902),(9000,9000)] _ (wrap .i64 (x+1)) (X.upd (b.g x.toNat).Parent.toNat z) Fb h (hle:=klR [(4,.ob X.n (λq=>if q=(b.g x.toNat).Parent.toNat then Fm E5 1 (cI .i64) z else if q=(b.g x.toNat).Parent.toNat then .dead else Fm E5 1 (cI .i64) (X.g q)) λi=>Fm E5 1 (cI .i64) ((X.upd (b.g x.toNat).Parent.toNat z).g i))] (al1 AZ8 al0))
 refine EW Z Fb 31 (.pub 9000) (⟨rfl,λi _=>rfl⟩:X.n=X.n/\∀i,i<X.n->(QO (Fm E5 1 (cI .i64) (X.g i))).isSome=true) ?_;obtain rfl:=A9 h;exact kO Z Fb [] (hle:=klR [(0,.fn X.n X.n (λi=>[(QO (Fm E5 1 (cI .i64) (X.g i))).getD default]) (λi=>cL 1 (cI .i64) (X.g i)))] (al1 ⟨rfl,λ_ _=>rfl⟩ al0))
end Go.AM
namespace Go.AM
open Go.Proofs.Tryz
variable {N:Nat}
open IntKind (wrap)
open Go.Proofs
set_option maxRecDepth 10000
set_option maxHeartbeats 2000000
variable {S:V2}(Z:G8 S Tryz.prog) (Y:Kd S)
include Z Y
def CX (N:Nat)(b:Sl Node):Option (Sl Int):= (AB N b).bind λy1=>Bj N (λa (x1:Sl Int) (x2:Int)=>if (decide (x2<(y1.n:Int))) then if ((0:Int)<=x2/\x2<(y1.n:Int))then if (((y1.g x2.toNat).n:Int)==0) then if (Kb 8 (x1.n+(Sl.of [x2]:Sl Int).n))then a (x1.push x2) (wrap .i64 (x2+1)) else none else a x1 (wrap .i64 (x2+1)) else none else some x1) Io 0
theorem Ts {a:Sl Node}{y:Sl Int}(h:CX N a=some y) :FunO S KX [.p (vSl 2 C7 a)] [] (.vec 0) ([oV E5 1 (cI .i64) y true]) []:=by
 unfold CX at h;refine A2 Z func74 ?_;refine kC Z h (Pv Z Y) (λy1 h=>?_);refine H3 Z Fb h (λx1 x2=>⟨[(9,pN x2),(8,pN (y1.n:Int)),(7,.p (vSl 1 (cL 1 (cI .i64)) y1)),(3,.vec 4500)],[(4500,oV E5 1 (cI .i64) x1 false)]⟩) (ids:=[]) (λ_ _ _ _ _ d x1 x2 c h=>?_);apply kI Z h<;>intro h
 .obtain⟨c8,h⟩:=D1 h;refine C9 Z c8 (b:=((y1.g x2.toNat).n:Int)==0) (λc9=>?_) (λc9=>?_)
  .replace h:=itT c9 h;obtain⟨c10,h⟩:=D1 h;exact c _ [(4500,21000)] _ (x1.push x2) (wrap .i64 (x2+1)) (And.intro Ik c10) h (hle:=kl1 3 (W6 (cI .i64) x1 x2 [pI .i64 0]))
  replace h:=itF c9 h;exact c _ [(4500,4500)] _ x1 (wrap .i64 (x2+1)) Fb h
 obtain rfl:=A9 h;exact kO Z Fb [4500]
def T8 (N:Nat)(a:Sl Node):Option ((Sl Int)×Int):= (X0 N a).bind λy1=>if (y1 != 0) then some (Io,y1) else (CX N a).bind λy2=>some (y2,0)
theorem EC {a:Sl Node}{y:(Sl Int)×Int}(h:T8 N a=some y) :FunO S KU [.p (vSl 2 C7 a)] [] (.tup [.vec 0,pN y.2]) ([oV E5 1 (cI .i64) y.1 true]) []:=by
 unfold T8 at h;refine A2 Z func42 ?_;refine kC Z h (FK Z Y) (λy1 h=>?_);apply kI Z h<;>intro h
 .obtain rfl:=A9 h;exact kO Z Fb [3700]
 refine kC Z h (Ts Z Y) (λy2 h=>?_);obtain rfl:=A9 h;exact kO Z Fb [12000]
def BX (N:Nat)(b:Sl Node)(c:Int):Option (Sl Int):= Bj N (λa (x1:Sl Int) (x2:Int)=>if (decide (x2<(b.n:Int))) then if ((0:Int)<=x2/\x2<(b.n:Int))then if ((b.g x2.toNat).Parent==c) then if (Kb 8 (x1.n+(Sl.of [x2]:Sl Int).n))then a (x1.push x2) (wrap .i64 (x2+1)) else none else a x1 (wrap .i64 (x2+1)) else none else some x1) Io 0
theorem QF {a:Sl Node}{c:Int}{y:Sl Int}(h:BX N a c=some y) :FunO S Jk [.p (vSl 2 C7 a),pN c] [] (.vec 0) ([oV E5 1 (cI .i64) y true]) []:=by
 unfold BX at h;refine A2 Z func35 ?_;refine H3 Z Fb h (λx1 x2=>⟨[(6,pN x2),(5,.vec 6500),(1,pN c),(0,.p (vSl 2 C7 a))],[(6500,oV E5 1 (cI .i64) x1 false)]⟩) (ids:=[]) (λ_ _ _ _ _ f x1 x2 d h=>?_);apply kI Z h<;>intro h
 .obtain⟨c8,h⟩:=D1 h;refine C9 Z c8 (b:=(a.g x2.toNat).Parent==c) (λc9=>?_) (λc9=>?_)
  .replace h:=itT c9 h;obtain⟨c10,h⟩:=D1 h;exact d _ [(6500,24000)] _ (x1.push x2) (wrap .i64 (x2+1)) (And.intro Ik c10) h (hle:=kl1 3 (W6 (cI .i64) x1 x2 [pI .i64 0]))
  replace h:=itF c9 h;exact d _ [(6500,6500)] _ x1 (wrap .i64 (x2+1)) Fb h
 obtain rfl:=A9 h;exact kO Z Fb [6500]
def AC (N:Nat)(b:Sl Node):Option ((Sl Int)×Int):= (Dv N b).bind λy1=>if (y1 != 0) then some (Io,y1) else Bj N (λa (x1:Sl Int) (x2:Int)=>if (decide (x2<(b.n:Int))) then (BX N b x2).bind λy4=>if ((y4.n:Int)==0) then if (Kb 8 (x1.n+(Sl.of [x2]:Sl Int).n))then a (x1.push x2) (wrap .i64 (x2+1)) else none else a x1 (wrap .i64 (x2+1)) else some (x1,0)) Io 0
theorem VJ {a:Sl Node}{y:(Sl Int)×Int}(h:AC N a=some y) :FunO S Mt [.p (vSl 2 C7 a)] [] (.tup [.vec 0,pN y.2]) ([oV E5 1 (cI .i64) y.1 true]) []:=by
 unfold AC at h;refine A2 Z func13 ?_;refine kC Z h (XJ Z Y) (λy1 h=>?_);apply kI Z h<;>intro h
 .obtain rfl:=A9 h;exact kO Z Fb [3700]
 refine H3 Z Fb h (λx1 x2=>⟨[(6,pN x2),(5,.vec 6500),(0,.p (vSl 2 C7 a))],[(6500,oV E5 1 (cI .i64) x1 false)]⟩) (ids:=[]) (λ_ _ _ _ _ c x1 x2 b h=>?_);apply kI Z h<;>intro h
 .refine kC Z h (QF Z Y) (λy4 h=>?_);apply kI Z h<;>intro h
  .obtain⟨c8,h⟩:=D1 h;exact b _ [(6500,27000)] _ (x1.push x2) (wrap .i64 (x2+1)) (And.intro Ik c8) h (hle:=kl1 2 (W6 (cI .i64) x1 x2 [pI .i64 0]))
  exact b _ [(6500,6500)] _ x1 (wrap .i64 (x2+1)) Fb h
 obtain rfl:=A9 h;exact kO Z Fb [6500]
def DX (N:Nat)(c:Sl Node)(a:Sl Int):Option Int:= (X0 N c).bind λy1=>if (y1 != 0) then some y1 else Y3 N (λb (x1:Int)=>if (decide (x1<(a.n:Int))) then if ((0:Int)<=x1/\x1<(a.n:Int))then if ((decide ((a.g x1.toNat)<0))||(decide ((c.n:Int)<=(a.g x1.toNat)))) then some 3 else b (wrap .i64 (x1+1)) else none else some 0) 0
theorem VK {c:Sl Node}{b:Sl Int}{y:Int}(h:DX N c b=some y) :FunO S MI [.p (vSl 2 C7 c),.p (vSl 1 (cI .i64) b)] [] (pN y) ([]) []:=by
 unfold DX at h;refine A2 Z func137 ?_;refine kC Z h (FK Z Y) (λy1 h=>?_);apply kI Z h<;>intro h
 .cases h;exact kR Z
 refine R8 Z Fb h (λx1=>⟨[(15,pN x1),(14,pN (b.n:Int)),(13,.p (vSl 1 (cI .i64) b)),(0,.p (vSl 2 C7 c))],[]⟩) (ids:=[]) (λ_ _ _ _ _ d x1 f h=>?_);apply kI Z h<;>intro h
 .obtain⟨c9,h⟩:=D1 h;refine kB Z (A4 Z) c9 Fb 5 (.o (.a (decide ((b.g x1.toNat)<0))) (.a (decide ((c.n:Int)<=(b.g x1.toNat))))) ?_;apply kI Z h<;>intro h
  .cases h;exact kR Z
  exact f _ [] _ (wrap .i64 (x1+1)) Fb h
 cases h;exact kR Z
def Fn (N:Nat)(q0:Int)(q1:Sl Node):Option (List (Int)):= Y3 N (λa (x1:Int)=>if (decide (0<=x1)) then Ag x1 (if ((0:Int)<=x1/\x1<(q1.n:Int))then a (q1.g x1.toNat).Parent else none) else some []) q0
theorem XK {q0:Int}{q1:Sl Node}{L:List (Int)}(h:Fn N q0 q1=some L) :ES S Ka [] [.reg 0 0,.reg 1 0] [.cells [pN q0],.cells [.p (vSl 2 C7 q1)]] (L.map (λ(x:Int)=>[pI .i64 x])):=by
 unfold Fn at h;refine EA Z func176 ?_;refine Dn Z Fb h (λx1 L1=>⟨[(2,.reg 1 0),(1,.reg 0 0),(0,.yf 2)],[(2,.yld (L1.map (λ(x:Int)=>[pI .i64 x])) true),(1,.cells [.p (vSl 2 C7 q1)]),(0,.cells [pN x1])]⟩) (ids:=(Jt [0,1,2])) (λ_ _ _ _ _ d x1 L1 f h=>?_);apply kI Z h<;>intro h
 .obtain⟨L4,rfl,c⟩:=LP h;replace h:=c;refine Dm Z Fb (ys:=(λ(x:Int)=>[pI .i64 x]) x1) (rest:=L4.map (λ(x:Int)=>[pI .i64 x])) ?_ ?_
  .refine C9 Z Fb (b:=false) (λc8=>?_) (λc8=>?_)
   .exact Bool.noConfusion ((rfl:false=false).symm.trans c8)
   obtain⟨c9,h⟩:=D1 h;exact f _ (Jt [0,1,2]) _ (q1.g x1.toNat).Parent L4 c9 h
  refine C9 Z Fb (b:=true) (λc10=>?_) (λc10=>?_)
  .exact kO Z Fb (a:=.tup []) (objs:=[(.cells [pN x1]),.cells [.p (vSl 2 C7 q1)],.yld [] false]) [0,1,2] ⟨false,rfl,rfl,_,rfl⟩
  exact Bool.noConfusion (Ik.symm.trans c10)
 obtain rfl:=A9 h;exact kO Z Fb (a:=.tup []) (objs:=[(.cells [pN x1]),.cells [.p (vSl 2 C7 q1)],.yld [] true]) [0,1,2] ⟨true,rfl,rfl,_,rfl⟩
def Lp (N:Nat)(a:Sl Node)(b:Int):Option (Int×(Sl Node)):= some (b,a)
theorem Am4 {a:Sl Node}{b:Int}{y:Int×(Sl Node)}(h:Lp N a b=some y) :FunO S Vr [.p (vSl 2 C7 a),pN b] [] (.clo Ka [] [.reg 0 0,.reg 1 0]) ([.cells [pN y.1],.cells [.p (vSl 2 C7 y.2)]]) []:=by unfold Lp at h;refine A2 Z func139 ?_;obtain rfl:=A9 h;exact kO Z Fb [4000,3000]
def G7 (N:Nat)(a:List (Int)):Option (Sl Int):= S9 a (λb (x1:Int) (z1:Sl Int)=>if (Kb 8 (z1.n+(Sl.of [x1]:Sl Int).n))then b (z1.push x1) else none) (λ(z1:Sl Int)=>some z1) Io
theorem DY {c:List (Int)}{a:Int}{b:(Sl Node)}{kp_seq:Nat}(fp_seq:∃fn,Be0[kp_seq]? = some fn/\fn.body.isSome=true/\(fn.name == "runtime.NumGoroutine")=false)(d:ES S kp_seq [] [.reg 0 0,.reg 1 0] [(.cells [(pN a)]),(.cells [(.p (vSl 2 C7 b))])] (c.map (λ(x:Int)=>[(pI .i64) x]))){y:(Sl Int)}(h:G7 N c=some y) :FunO S P4 [(.p C8),(.clo kp_seq [] [(.reg 0 0),(.reg 1 0)])] [(.cells [(pN a)]),(.cells [(.p (vSl 2 C7 b))])] (.vec 0) ([(oV E5 1 (cI .i64) y false)]) [false,false]:=by
 unfold G7 at h;refine A2 Z func175 ?_;refine Nz Z Fb fp_seq [0,1] [2] 901 (λz1=>⟨[(2,(.reg 3000 0))],[(3500,(oV E5 1 (cI .i64) z1 false)),(3000,(.cells [(.vec 3500)]))]⟩) (idl:=[(3000,3000)]) h d (λ_=>by kernel_rfl) (λ_=>by kernel_rfl) (λ_=>by kernel_rfl) (λ_=>by kernel_rfl) (λx1 _ f z1 g h=>?_) (λz1 h=>?_)
 .refine JV Z Fb ?_;obtain⟨c1,h⟩:=D1 h;exact g _ [(901,901),(3000,3000),(3500,12000)] _ (z1.push x1) (And.intro Ik c1) h (hle:=kl1 0 (W6 (cI .i64) z1 x1 [(pI .i64 0)]))
 obtain rfl:=A9 h;exact kO Z Fb [3500]
def T9 (N:Nat)(a:List (Int)):Option (Sl Int):= (G7 N a).bind λy1=>some y1
theorem IB {c:List (Int)}{a:Int}{b:(Sl Node)}{kp_seq:Nat}(fp_seq:∃fn,Be0[kp_seq]? = some fn/\fn.body.isSome=true/\(fn.name == "runtime.NumGoroutine")=false)(d:ES S kp_seq [] [.reg 0 0,.reg 1 0] [(.cells [(pN a)]),(.cells [(.p (vSl 2 C7 b))])] (c.map (λ(x:Int)=>[(pI .i64) x]))){y:(Sl Int)}(h:T9 N c=some y) :FunO S Bm [(.clo kp_seq [] [(.reg 0 0),(.reg 1 0)])] [(.cells [(pN a)]),(.cells [(.p (vSl 2 C7 b))])] (.vec 0) ([(oV E5 1 (cI .i64) y false)]) [false,false]:=by unfold T9 at h;refine A2 Z func138 ?_;obtain⟨y1,e1,h⟩:=A7 h;refine B3 Z [0,1] Fb (DY Z Y fp_seq d e1) ?_;obtain rfl:=A9 h;exact kO Z Fb [5000]
def I6 (N:Nat)(b:Sl Int):Option (Sl Int):= Aj0 N (λa (x1:Sl Int) (x2:Int) (x3:Int)=>if (decide (x2<x3)) then if (((((((((0:Int)<=x3/\x3<(x1.n:Int))/\x3.toNat<x1.n)/\((0:Int)<=x2/\x2<(x1.n:Int)))/\x2.toNat<x1.n)/\((0:Int)<=x2/\x2<(x1.n:Int)))/\x2.toNat<x1.n)/\((0:Int)<=x3/\x3<((x1.upd x2.toNat (x1.g x3.toNat)).n:Int)))/\x3.toNat<(x1.upd x2.toNat (x1.g x3.toNat)).n)then a ((x1.upd x2.toNat (x1.g x3.toNat)).upd x3.toNat (x1.g x2.toNat)) (wrap .i64 (x2+1)) (wrap .i64 (x3-1)) else none else some x1) b 0 (wrap .i64 ((b.n:Int)-1))
theorem Fo {a:Sl Int}{y:Sl Int}(h:I6 N a=some y) :FunO S Ap [.vec 0] [oV E5 1 (cI .i64) a false] (.tup []) ([oV E5 1 (cI .i64) y false]) [true]:=by
 unfold I6 at h;refine A2 Z func140 ?_;refine KJ Z Fb h (λx1 x2 x3=>⟨[(3,pN x3),(2,pN x2),(0,.vec 0)],[(0,oV E5 1 (cI .i64) x1 false)]⟩) (ids:=[(0,0)]) (λ_ _ _ _ _ b x1 x2 x3 d h=>?_);apply kI Z h<;>intro h
 .refine EV Z Fb ?_;obtain⟨c6,h⟩:=D1 h;refine D6 (And.intro (And.intro (And.intro (And.intro (And.intro (And.intro (And.intro c6.1.1.1.1.1.1.1 c6.1.1.1.1.1.1.2) c6.1.1.1.1.1.2) c6.1.1.1.1.2) c6.1.1.1.2) (And.intro (rfl:(1:Nat)=1) (And.intro c6.1.1.2 Fd))) c6.1.2) (And.intro (rfl:(1:Nat)=1) (And.intro c6.2 Fd))) ?_;exact d _ [(0,0)] _ ((x1.upd x2.toNat (x1.g x3.toNat)).upd x3.toNat (x1.g x2.toNat)) (wrap .i64 (x2+1)) (wrap .i64 (x3-1)) Fb h (hle:=klR [(2,.fn x1.n ((x1.upd x2.toNat (x1.g x3.toNat)).upd x3.toNat (x1.g x2.toNat)).n (λl=>if l=x3.toNat then splice ((λl=>if l=x2.toNat then splice ((λi=>cI .i64 (x1.g i)) l) 0 [pI .i64 (x1.g x3.toNat)]else (λi=>cI .i64 (x1.g i)) l) l) 0 [pI .i64 (x1.g x2.toNat)]else (λl=>if l=x2.toNat then splice ((λi=>cI .i64 (x1.g i)) l) 0 [pI .i64 (x1.g x3.toNat)]else (λi=>cI .i64 (x1.g i)) l) l) (λi=>cI .i64 (((x1.upd x2.toNat (x1.g x3.toNat)).upd x3.toNat (x1.g x2.toNat)).g i)))] (al1 ⟨rfl,AS6 (c:=cI .i64) (v:=x1.upd x2.toNat (x1.g x3.toNat)) (x:=x1.g x2.toNat) (AS6 (c:=cI .i64) (v:=x1) (x:=x1.g x3.toNat) same (λ_=>by first|rfl|(dsimp only;split<;>rfl))) (λ_=>by first|rfl|(dsimp only;split<;>rfl))⟩ al0))
 obtain rfl:=A9 h;exact kO Z Fb [0]
def Fp (N:Nat)(a:Sl Node)(b:Int):Option ((Sl Int)×Int):= (DX N a (Sl.of [b]:Sl Int)).bind λy1=>if (y1 != 0) then some (Io,y1) else (Lp N a b).bind λy2=>(Fn N y2.1 y2.2).bind λL1=>(T9 N L1).bind λy3=>(I6 N y3).bind λy4=>some (y4,0)
theorem XL {b:Sl Node}{a:Int}{y:(Sl Int)×Int}(h:Fp N b a=some y) :FunO S OW [.p (vSl 2 C7 b),pN a] [] (.tup [.vec 0,pN y.2]) ([oV E5 1 (cI .i64) y.1 true]) []:=by
 unfold Fp at h;refine A2 Z func93 ?_;refine KI Z Ik ⟨[(10,.vec 11000),(8,.p (vSl 2 C7 b)),(1,pN a),(0,.p (vSl 2 C7 b))],[(11000,oV E5 1 (cI .i64) (Sl.of [a]:Sl Int) false)]⟩ (ids:=[(11000,11000)]) ?_ (hle:=kl1 3 (Aa5 (cI .i64) ([a]:List Int) [pI .i64 0]));refine kC Z h (VK Z Y) (λy1 h=>?_);apply kI Z h<;>intro h
 .obtain rfl:=A9 h;exact kO Z Fb [5700]
 refine kC Z h (Am4 Z Y) (λy2 h=>?_);obtain⟨L1,e3,h⟩:=A7 h;obtain⟨y3,e4,h⟩:=A7 h;refine B3 Z [18000,18001] Fb (IB Z Y ⟨_,func176,by decide +kernel,by decide +kernel⟩ (XK Z Y e3) e4) ?_;obtain⟨y4,e5,h⟩:=A7 h;refine AN6 Z [19000] Fb (Fo Z Y e5) ?_;obtain rfl:=A9 h;exact kO Z Fb [19000]
def Cz (N:Nat)(a:Sl Iu):Option Str:= Bj N (λb (x1:Sl Int) (x2:Int)=>if (decide (x2<(a.n:Int))) then if ((0:Int)<=x2/\x2<(a.n:Int))then if (Kb 1 (x1.n+(Fc (a.g x2.toNat).Plus).n))then if (Kb 1 ((x1.app (Fc (a.g x2.toNat).Plus)).n+(Fc (a.g x2.toNat).Minus).n))then b ((x1.app (Fc (a.g x2.toNat).Plus)).app (Fc (a.g x2.toNat).Minus)) (wrap .i64 (x2+1)) else none else none else none else some (strOf x1)) Io 0
theorem MO {a:Sl Iu}{y:Str}(h:Cz N a=some y) :FunO S MF [.p (vSl 2 A0 a)] [] (.p (.str y)) ([]) []:=by
 unfold Cz at h;refine A2 Z func95 ?_;refine H3 Z Fb h (λx1 x2=>⟨[(10,pN x2),(9,pN (a.n:Int)),(8,.p (vSl 2 A0 a)),(3,.vec 4500)],[(4500,oV I0 1 (cI .u8) x1 false)]⟩) (ids:=[]) (λ_ _ _ _ _ d x1 x2 l h=>?_);apply kI Z h<;>intro h
 .obtain⟨c22,h⟩:=D1 h;refine Ay1 Z (And.intro c22 Gq) 2 (unrT [λt=>t=⟨[(19,pN 0),(18,.p (.agg [pI .u32 (a.g x2.toNat).Plus,pI .u32 (a.g x2.toNat).Minus])),(10,pN x2),(9,pN (a.n:Int)),(8,.p (vSl 2 A0 a)),(3,.vec 4501)],[(4501,oV I0 1 (cI .u8) x1 false)]⟩/\(
   if (Kb 1 (x1.n+(Fc (a.g x2.toNat).Plus).n))then
    if (Kb 1 ((x1.app (Fc (a.g x2.toNat).Plus)).n+(Fc (a.g x2.toNat).Minus).n))then
     d ((x1.app (Fc (a.g x2.toNat).Plus)).app (Fc (a.g x2.toNat).Minus)) (wrap .i64 (x2+1))
    else none
   else none
   )=some y,λt=>t=⟨[(19,pN 1),(18,.p (.agg [pI .u32 (a.g x2.toNat).Plus,pI .u32 (a.g x2.toNat).Minus])),(10,pN x2),(9,pN (a.n:Int)),(8,.p (vSl 2 A0 a)),(3,.vec 4500)],[(4500,.vec I0 1 (x1.app (Fc (a.g x2.toNat).Plus)).n (λi=>cI .u8 ((x1.app (Fc (a.g x2.toNat).Plus)).g i)) false)]⟩/\(
    if (Kb 1 ((x1.app (Fc (a.g x2.toNat).Plus)).n+(Fc (a.g x2.toNat).Minus).n))then
     d ((x1.app (Fc (a.g x2.toNat).Plus)).app (Fc (a.g x2.toNat).Minus)) (wrap .i64 (x2+1))
    else none
   )=some y,λt=>t=⟨[(19,pN 2),(18,.p (.agg [pI .u32 (a.g x2.toNat).Plus,pI .u32 (a.g x2.toNat).Minus])),(10,pN x2),(9,pN (a.n:Int)),(8,.p (vSl 2 A0 a)),(3,.vec 4501)],[(4501,.vec I0 1 ((x1.app (Fc (a.g x2.toNat).Plus)).app (Fc (a.g x2.toNat).Minus)).n (λi=>cI .u8 (((x1.app (Fc (a.g x2.toNat).Plus)).app (Fc (a.g x2.toNat).Minus)).g i)) false)]⟩/\(
    d ((x1.app (Fc (a.g x2.toNat).Plus)).app (Fc (a.g x2.toNat).Minus)) (wrap .i64 (x2+1))
   )=some y]) ⟨[(19,pN 0),(18,.p (.agg [pI .u32 (a.g x2.toNat).Plus,pI .u32 (a.g x2.toNat).Minus])),(10,pN x2),(9,pN (a.n:Int)),(8,.p (vSl 2 A0 a)),(3,.vec 4501)],[(4501,oV I0 1 (cI .u8) x1 false)]⟩ (ids:=[(4501,4500)]) ⟨rfl,h⟩ (λ_ _ _ _ i _ t f ht j=>?_)
  rcases i with _|_|_|i
  .obtain⟨rfl,h⟩:=ht;refine C9 Z Fb (b:=decide ((0:Int)<2)) (λc29=>?_) (λc29=>?_)
   .obtain⟨c30,h⟩:=D1 h;exact j _ [(4500,33000)] _ _ (And.intro (And.intro (And.intro (And.intro (by decide:(0:Int)<=0/\(0:Int)<2) (by decide:(0:Int)<=8)) (by decide:(0:Int)<=16)) Ik) c30) rfl ⟨rfl,h⟩ (hle:=klR [(5,.fn (x1.n+3) (x1.app (Fc (a.g x2.toNat).Plus)).n (GB x1.n (λi=>cI .u8 (x1.g i)) (H9 [pI .u8 0] [(0,cI .u8 (wrap .u8 (a.g x2.toNat).Plus)),(1,cI .u8 (wrap .u8 (shI .shr .u32 (a.g x2.toNat).Plus 8))),(2,cI .u8 (wrap .u8 (shI .shr .u32 (a.g x2.toNat).Plus 16)))])) (λi=>cI .u8 ((x1.app (Fc (a.g x2.toNat).Plus)).g i)))] (al1 ⟨rfl,appL (c:=cI .u8) (v:=x1) (w:=(Fc (a.g x2.toNat).Plus)) same rfl (λi f=>match i,f with|0,_=>rfl|1,_=>rfl|2,_=>rfl|_+3,f=>Er f (by omega)) rfl⟩ al0))
   exact Bool.noConfusion ((by decide:decide ((0:Int)<2)=true).symm.trans c29)
  .obtain⟨rfl,h⟩:=ht;refine C9 Z Fb (b:=decide ((1:Int)<2)) (λc27=>?_) (λc27=>?_)
   .obtain⟨c28,h⟩:=D1 h;exact j _ [(4501,33000)] _ _ (And.intro (And.intro (And.intro (And.intro (by decide:(0:Int)<=1/\(1:Int)<2) (by decide:(0:Int)<=8)) (by decide:(0:Int)<=16)) Ik) c28) rfl ⟨rfl,h⟩ (hle:=klR [(5,.fn ((x1.app (Fc (a.g x2.toNat).Plus)).n+3) ((x1.app (Fc (a.g x2.toNat).Plus)).app (Fc (a.g x2.toNat).Minus)).n (GB (x1.app (Fc (a.g x2.toNat).Plus)).n (λi=>cI .u8 ((x1.app (Fc (a.g x2.toNat).Plus)).g i)) (H9 [pI .u8 0] [(0,cI .u8 (wrap .u8 (a.g x2.toNat).Minus)),(1,cI .u8 (wrap .u8 (shI .shr .u32 (a.g x2.toNat).Minus 8))),(2,cI .u8 (wrap .u8 (shI .shr .u32 (a.g x2.toNat).Minus 16)))])) (λi=>cI .u8 (((x1.app (Fc (a.g x2.toNat).Plus)).app (Fc (a.g x2.toNat).Minus)).g i)))] (al1 ⟨rfl,appL (c:=cI .u8) (v:=x1.app (Fc (a.g x2.toNat).Plus)) (w:=(Fc (a.g x2.toNat).Minus)) same rfl (λi f=>match i,f with|0,_=>rfl|1,_=>rfl|2,_=>rfl|_+3,f=>Er f (by omega)) rfl⟩ al0))
   exact Bool.noConfusion ((by decide:decide ((1:Int)<2)=true).symm.trans c27)
  .obtain⟨rfl,h⟩:=ht;refine C9 Z Fb (b:=decide ((2:Int)<2)) (λc26=>?_) (λc26=>?_)
   .exact Bool.noConfusion ((by decide:decide ((2:Int)<2)=false).symm.trans c26)
   exact l _ [(4500,4501)] _ ((x1.app (Fc (a.g x2.toNat).Plus)).app (Fc (a.g x2.toNat).Minus)) (wrap .i64 (x2+1)) Fb h
  exact Er f (by omega)
 obtain rfl:=A9 h;exact Aj7 Z ((λ_ _=>rfl):∀i:Nat,i<x1.n->true=true) [] ⟨rfl,rfl,rfl⟩
def D9 (N:Nat)(a:Sl H4)(c:H4->Option Bool):Option Int:= Y3 N (λb (x1:Int)=>if (decide (x1<(a.n:Int))) then if ((0:Int)<=x1/\x1<(a.n:Int))then (c (a.g x1.toNat)).bind λy3=>if y3 then some x1 else b (wrap .i64 (x1+1)) else none else some (-1)) 0
theorem AD {a:Sl H4}{c:H4->Option Bool}{kp_f:Nat}(d:∀{a0:H4}{b:Bool},c a0=some b->FunO S kp_f [.p (.agg (F5 a0))] [] (pB b) [] []){y:Int}(h:D9 N a c=some y) :FunO S O5 [.p (vSl 2 F5 a),.clo kp_f [] []] [] (pN y) ([]) []:=by
 unfold D9 at h;refine A2 Z func174 ?_;refine R8 Z Fb h (λx1=>⟨[(8,pN x1),(7,pN (a.n:Int)),(1,.clo kp_f [] []),(0,.p (vSl 2 F5 a))],[]⟩) (ids:=[]) (λ_ _ _ _ _ f x1 g h=>?_);apply kI Z h<;>intro h
 .obtain⟨c8,h⟩:=D1 h;obtain⟨y3,e3,h⟩:=A7 h;refine B3 Z [] (And.intro c8 Gq) (d e3) ?_;apply kI Z h<;>intro h
  .cases h;exact kR Z
  exact g _ [] _ (wrap .i64 (x1+1)) Fb h
 cases h;exact kR Z
def F0 (N:Nat)(a:Sl H4)(b:H4->Option Bool):Option Bool:= (D9 N a b).bind λy1=>some (decide (0<=y1))
theorem Z0 {a:Sl H4}{c:H4->Option Bool}{kp_f:Nat}(d:∀{a0:H4}{b:Bool},c a0=some b->FunO S kp_f [.p (.agg (F5 a0))] [] (pB b) [] []){y:Bool}(h:F0 N a c=some y) :FunO S N5 [.p (vSl 2 F5 a),.clo kp_f [] []] [] (pB y) ([]) []:=by unfold F0 at h;refine A2 Z func134 ?_;refine kC Z h (AD Z Y (λe=>d e)) (λy1 h=>?_);cases h;exact kR Z
def Cb (N:Nat)(a:H4):Option Bool:= some ((!a.Has)&&(decide (0<(a.W.n:Int))))
theorem Nm {b:H4}{y:Bool}(h:Cb N b=some y) :FunO S Hy [.p (.agg (F5 b))] [] (pB y) ([]) []:=by unfold Cb at h;refine A2 Z func135 ?_;refine kB Z (A4 Z) Fb Fb 5 (.n (.a (!b.Has)) (.a (decide (0<(b.W.n:Int))))) ?_;cases h;exact kR Z
def Z9 (N:Nat)(a:Sl H4):Option Bool:= (F0 N a (λ(u1:H4)=>Cb N u1)).bind λy1=>some (!y1)
theorem JE {a:Sl H4}{y:Bool}(h:Z9 N a=some y) :FunO S Jr [.p (vSl 2 F5 a)] [] (pB y) ([]) []:=by unfold Z9 at h;refine A2 Z func90 ?_;refine kC Z h (Z0 Z Y (λe=>Nm Z Y e)) (λy1 h=>?_);cases h;exact kR Z
def Aa (N:Nat)(a:Sl H4):Option Int:= Y3 N (λb (x1:Int)=>if (decide (x1<(a.n:Int))) then if ((0:Int)<=x1/\x1<(a.n:Int))then (W8 N (a.g x1.toNat).W).bind λy3=>if (y3 != 0) then some y3 else b (wrap .i64 (x1+1)) else none else some 0) 0
theorem JF {a:Sl H4}{y:Int}(h:Aa N a=some y) :FunO S Js [.p (vSl 2 F5 a)] [] (pN y) ([]) []:=by
 unfold Aa at h;refine A2 Z func92 ?_;refine R8 Z Fb h (λx1=>⟨[(8,pN x1),(7,pN (a.n:Int)),(6,.p (vSl 2 F5 a))],[]⟩) (ids:=[]) (λ_ _ _ _ _ b x1 c h=>?_);apply kI Z h<;>intro h
 .obtain⟨c8,h⟩:=D1 h;obtain⟨y3,e3,h⟩:=A7 h;refine B3 Z [] (And.intro c8 Gq) (DR Z Y e3) ?_;apply kI Z h<;>intro h
  .cases h;exact kR Z
  exact c _ [] _ (wrap .i64 (x1+1)) Fb h
 cases h;exact kR Z
def BY (N:Nat)(a:Str):Option Bool:= (X0 N (Sl.of [(⟨-1,a⟩:Node)]:Sl Node)).bind λy1=>some (y1==0)
theorem QG {a:Str}{y:Bool}(h:BY N a=some y) :FunO S Jx [.p (.str a)] [] (pB y) ([]) []:=by unfold BY at h;refine A2 Z func136 ?_;refine KI Z Ik ⟨[(5,.vec 6000)],[(6000,oV O0 2 C7 (Sl.of [(⟨-1,a⟩:Node)]:Sl Node) false)]⟩ (ids:=[(6000,6000)]) ?_ (hle:=kl1 0 (Aa5 C7 ([(⟨-1,a⟩:Node)]:List Node) [pI .i64 0,.str []]));refine kC Z h (FK Z Y) (λy1 h=>?_);cases h;exact kR Z
def Z1 (N:Nat)(a:Sl Entry)(b:Int):Option Int:= Y3 N (λc (x2:Int)=>if (decide (x2<(a.n:Int))) then if ((0:Int)<=x2/\x2<(a.n:Int))then lt (λ(z3:Bool)=>if z3 then some 2 else c (wrap .i64 (x2+1))) λk3=>if (((a.g x2.toNat).Forms.n:Int) != b) then k3 true else (Z9 N (a.g x2.toNat).Forms).bind λy6=>k3 (!y6) else none else Y3 N (λd (x5:Int)=>if (decide (x5<(a.n:Int))) then if ((0:Int)<=x5/\x5<(a.n:Int))then (BY N (a.g x5.toNat).Gloss).bind λy9=>if (!y9) then some 15 else d (wrap .i64 (x5+1)) else none else some 0) 0) 0
theorem Nn {b:Sl Entry}{a:Int}{y:Int}(h:Z1 N b a=some y) :FunO S Hv [.p (vSl 2 F6 b),pN a] [] (pN y) ([]) []:=by
 unfold Z1 at h;refine A2 Z func91 ?_;refine R8 Z Fb h (λx2=>⟨[(11,pN x2),(10,pN (b.n:Int)),(9,.p (vSl 2 F6 b)),(1,pN a),(0,.p (vSl 2 F6 b))],[]⟩) (ids:=[]) (λ_ _ _ _ _ d x2 f h=>?_);apply kI Z h<;>intro h
 .obtain⟨c14,h⟩:=D1 h;refine LO Z (And.intro c14 Gq) (A4 Z) h 0 (λz3=>⟨[(25,pB z3),(11,pN x2),(10,pN (b.n:Int)),(9,.p (vSl 2 F6 b)),(1,pN a),(0,.p (vSl 2 F6 b))],[]⟩) (λM3 k3 c h=>?_) (λz3 h=>?_)
  .refine kG Z h (λh=>?_) (λh=>?_)
   .exact c _ [] _ true Fb h
   refine kC Z h (JE Z Y) (λy6 h=>?_);exact c _ [] _ (!y6) Fb h
  apply kI Z h<;>intro h
  .cases h;exact kR Z
  exact f _ [] _ (wrap .i64 (x2+1)) Fb h
 refine R8 Z Fb h (λx5=>⟨[(29,pN x5),(28,pN (b.n:Int)),(27,.p (vSl 2 F6 b))],[]⟩) (ids:=[]) (λ_ _ _ _ _ g x5 i h=>?_);apply kI Z h<;>intro h
 .obtain⟨c26,h⟩:=D1 h;obtain⟨y9,e9,h⟩:=A7 h;refine B3 Z [] (And.intro c26 Gq) (QG Z Y e9) ?_;apply kI Z h<;>intro h
  .cases h;exact kR Z
  exact i _ [] _ (wrap .i64 (x5+1)) Fb h
 cases h;exact kR Z
def U4 (N:Nat)(d:History)(a:Sl H4)(b:Sl Entry):Option Int:= (J9 N d).bind λy1=>if (y1 != 0) then some y1 else (T8 N d.Tree).bind λy2=>if (decide (256<(b.n:Int))) then some 12 else lt (λ(z1:Bool)=>if z1 then some 2 else (Z1 N b (y2.1.n:Int)).bind λy5=>if (y5 != 0) then some y5 else (Aa N a).bind λy6=>if (y6 != 0) then some y6 else Y3 N (λc (x2:Int)=>if (decide (x2<(b.n:Int))) then if ((0:Int)<=x2/\x2<(b.n:Int))then (Aa N (b.g x2.toNat).Forms).bind λy9=>if (y9 != 0) then some y9 else c (wrap .i64 (x2+1)) else none else some 0) 0) λk1=>if ((a.n:Int) != (b.n:Int)) then k1 true else (Z9 N a).bind λy4=>k1 (!y4)
theorem JG {c:History}{a:Sl H4}{b:Sl Entry}{y:Int}(h:U4 N c a b=some y) :FunO S Jn [.p (.agg (A8 c)),.p (vSl 2 F5 a),.p (vSl 2 F6 b)] [] (pN y) ([]) []:=by
 unfold U4 at h;refine A2 Z func56 ?_;refine kC Z h (CV Z Y) (λy1 h=>?_);apply kI Z h<;>intro h
 .cases h;exact kR Z
 refine kC Z h (EC Z Y) (λy2 h=>?_);apply kI Z h<;>intro h
 .cases h;exact kR Z
 refine LO Z Fb (A4 Z) h 0 (λz1=>⟨[(30,pB z1),(8,.vec 24000),(2,.p (vSl 2 F6 b)),(1,.p (vSl 2 F5 a))],[(24000,oV E5 1 (cI .i64) y2.1 true)]⟩) (λM1 k1 d h=>?_) (λz1 h=>?_)
 .refine kG Z h (λh=>?_) (λh=>?_)
  .exact d _ [(24000,24000)] _ true Fb h
  refine kC Z h (JE Z Y) (λy4 h=>?_);exact d _ [(24000,24000)] _ (!y4) Fb h
 apply kI Z h<;>intro h
 .cases h;exact kR Z
 refine kC Z h (Nn Z Y) (λy5 h=>?_);apply kI Z h<;>intro h
 .cases h;exact kR Z
 refine kC Z h (JF Z Y) (λy6 h=>?_);apply kI Z h<;>intro h
 .cases h;exact kR Z
 refine R8 Z Fb h (λx2=>⟨[(55,pN x2),(54,pN (b.n:Int)),(53,.p (vSl 2 F6 b))],[]⟩) (ids:=[]) (λ_ _ _ _ _ f x2 g h=>?_);apply kI Z h<;>intro h
 .obtain⟨c16,h⟩:=D1 h;obtain⟨y9,e9,h⟩:=A7 h;refine B3 Z [] (And.intro c16 Gq) (JF Z Y e9) ?_;apply kI Z h<;>intro h
  .cases h;exact kR Z
  exact g _ [] _ (wrap .i64 (x2+1)) Fb h
 cases h;exact kR Z
def X6 (N:Nat)(q0:Sl Entry):Option (List (CD×(Sl Iu))):= Y3 N (λb (x2:Int)=>if (decide (x2<(q0.n:Int))) then if ((0:Int)<=x2/\x2<(q0.n:Int))then Y3 N (λa (x4:Int)=>if (decide (x4<((q0.g x2.toNat).Forms.n:Int))) then if ((0:Int)<=x4/\x4<((q0.g x2.toNat).Forms.n:Int))then if ((q0.g x2.toNat).Forms.g x4.toNat).Has then Ag ((⟨x2,x4⟩:CD),((q0.g x2.toNat).Forms.g x4.toNat).W) (a (wrap .i64 (x4+1))) else a (wrap .i64 (x4+1)) else none else b (wrap .i64 (x2+1))) 0 else none else some []) 0
theorem Ke {q0:Sl Entry}{L:List (CD×(Sl Iu))}(h:X6 N q0=some L) :ES S Cf [] [.reg 0 0] [.cells [.p (vSl 2 F6 q0)]] (L.map (λ(x:CD×(Sl Iu))=>[(λx=>.agg (OE x)) x.1,vSl 2 A0 x.2])):=by
 unfold X6 at h;refine EA Z func96 ?_;refine Dn Z Fb h (λx2 L1=>⟨[(9,pN x2),(8,pN (q0.n:Int)),(7,.p (vSl 2 F6 q0)),(0,.yf 1)],[(1,.yld (L1.map (λ(x:CD×(Sl Iu))=>[(λx=>.agg (OE x)) x.1,vSl 2 A0 x.2])) true),(0,.cells [.p (vSl 2 F6 q0)])]⟩) (ids:=(Jt [0,1])) (λ_ _ _ _ _ f x2 L1 i h=>?_);apply kI Z h<;>intro h
 .obtain⟨c48,h⟩:=D1 h;refine Dn Z (And.intro c48 Gq) h (λx4 L16=>⟨[(17,pN x4),(16,pN ((q0.g x2.toNat).Forms.n:Int)),(15,.p (vSl 2 F5 (q0.g x2.toNat).Forms)),(9,pN x2),(8,pN (q0.n:Int)),(7,.p (vSl 2 F6 q0)),(3,pN x2),(0,.yf 1)],[(1,.yld (L16.map (λ(x:CD×(Sl Iu))=>[(λx=>.agg (OE x)) x.1,vSl 2 A0 x.2])) true),(0,.cells [.p (vSl 2 F6 q0)])]⟩) (ids:=(Jt [0,1])) (λ_ _ _ _ _ j x4 L16 d h=>?_);apply kI Z h<;>intro h
  .obtain⟨c64,h⟩:=D1 h;refine GQ Z (And.intro c64 Gq) (b:=((q0.g x2.toNat).Forms.g x4.toNat).Has) (λc67=>?_) (λc67=>?_)
   .replace h:=itT c67 h;obtain⟨L22,rfl,c⟩:=LP h;replace h:=c;refine Dm Z Fb (ys:=(λ(x:CD×(Sl Iu))=>[(λx=>.agg (OE x)) x.1,vSl 2 A0 x.2]) ((⟨x2,x4⟩:CD),((q0.g x2.toNat).Forms.g x4.toNat).W)) (rest:=L22.map (λ(x:CD×(Sl Iu))=>[(λx=>.agg (OE x)) x.1,vSl 2 A0 x.2])) ?_ ?_
    .refine C9 Z Fb (b:=false) (λc68=>?_) (λc68=>?_)
     .exact Bool.noConfusion ((rfl:false=false).symm.trans c68)
     exact d _ (Jt [0,1]) _ (wrap .i64 (x4+1)) L22 Fb h
    refine C9 Z Fb (b:=true) (λc69=>?_) (λc69=>?_)
    .exact kO Z Fb (a:=.tup []) (objs:=[(.cells [.p (vSl 2 F6 q0)]),.yld [] false]) [0,1] ⟨false,rfl,rfl,_,rfl⟩
    exact Bool.noConfusion (Ik.symm.trans c69)
   replace h:=itF c67 h;exact d _ (Jt [0,1]) _ (wrap .i64 (x4+1)) L16 Fb h
  exact i _ (Jt [0,1]) _ (wrap .i64 (x2+1)) L16 Fb h
 obtain rfl:=A9 h;exact kO Z Fb (a:=.tup []) (objs:=[(.cells [.p (vSl 2 F6 q0)]),.yld [] true]) [0,1] ⟨true,rfl,rfl,_,rfl⟩
def Bb (N:Nat)(a:Sl Entry):Option (Sl Entry):= some a
theorem Ma {a:Sl Entry}{y:Sl Entry}(h:Bb N a=some y) :FunO S Gr [.p (vSl 2 F6 a)] [] (.clo Cf [] [.reg 0 0]) ([.cells [.p (vSl 2 F6 y)]]) []:=by unfold Bb at h;refine A2 Z func58 ?_;obtain rfl:=A9 h;exact kO Z Fb [2000]
end Go.AM
namespace Go.AM
open IntKind (wrap)
open Go.Proofs
set_option maxRecDepth 10000
set_option maxHeartbeats 2000000
variable {S:V2}(Z:G8 S Tryz.prog) (Y:Kd S)
abbrev No (es:List (Str×H4)):Obj:=.map (Dd PV.str (λx=>.agg (F5 x)) es)
abbrev AP3 (M:Sl (List (Str×H4))):List Obj:=[.cells [.vec 1],.fam D8 M.n 2 none,.rows M.n λi=>No (M.g i)]
theorem AZ9 {i n:Nat}{g:Nat->Obj}:∀q,q<n->(λq=>if q=i then g i else if q=i then Obj.dead else g q) q=(λq=>g q) q:=λq _=>by
 show (if q=i then g i else if q=i then Obj.dead else g q)=g q;by_cases h:q=i
 .subst h;rw[Dq rfl]
 rw[Ej h,Ej h]
theorem Ba0 {i n:Nat}{M:Sl (List (Str×H4))}{x:List (Str×H4)}:∀q,q<n->(λq=>if q=i then No x else if q=i then Obj.dead else No (M.g q)) q=(λq=>No ((M.upd i x).g q)) q:=λq _=>by
 show (if q=i then No x else if q=i then Obj.dead else No (M.g q))=No (if q=i then x else M.g q);by_cases h:q=i
 .rw[Dq h,Dq h]
 rw[Ej h,Ej h,Ej h]
abbrev knO (K i:Nat):Obj:=if i<K then No []else .ghost [.p (.v (.map none))]
theorem obKn {K x n:Nat}(hx:x=K):∀q,q<n->(λq=>if q=x then Obj.map []else if q=x then Obj.dead else knO K q) q=(λi=>knO (K+1) i) q:=λq _=>by
 show (if q=x then No []else if q=x then Obj.dead else if q<K then No []else .ghost [.p (.v (.map none))])=if q<K+1 then No []else .ghost [.p (.v (.map none))]
 by_cases e:q=x
 .rw[Dq e,Dq (by omega)]
 rw[Ej e,Ej e];by_cases e2:q<K
 .rw[Dq e2,Dq (by omega)]
 rw[Ej e2,Ej (by omega)]
include Z Y
def N2 (N:Nat)(p:H4)(leaf:Int)(M:Sl (List (Str×H4)))(X:Sl (Sl Law)):Option (Sl Iu×Bool×Sl (List (Str×H4))):= if (!p.Has) then some (Ip,false,M) else if leaf.toNat<M.n then if ((0:Int)<=leaf/\leaf<(M.n:Int))then (Cz N p.W).bind λk=>MX (P5 eqS k (M.g leaf.toNat)) (if ((0:Int)<=leaf/\leaf<(X.n:Int))then (S5 N (X.g leaf.toNat) p.W).bind λw=>some (w.1,w.2==0,M.upd leaf.toNat (Df eqS k (⟨w.2==0,w.1⟩:H4) (M.g leaf.toNat))) else none) λv=>some (v.W,v.Has,M) else none else none
theorem Lq {N:Nat}{p:H4}{leaf:Int}{X:Sl (Sl Law)}{M:Sl (List (Str×H4))}{y:Sl Iu×Bool×Sl (List (Str×H4))}(h:N2 N p leaf M X=some y) :FunO S T4 [.p (.agg (F5 p)),pN leaf,.reg 0 0,.p (.ptr [vSl 1 (cL 18 B4) X])] (AP3 M) (.tup [.p (vSl 2 A0 y.1),pB y.2.1]) (AP3 y.2.2) [true,true,false]:=by
 unfold N2 at h;refine A2 Z Tryz.func94 ?_;refine F9 Z Fb 12 5000 (F5 p) ?_;apply kI Z h<;>intro h
 .obtain rfl:=A9 h;exact J5 Z Fb ⟨[(7,pB false),(6,.p (vSl 2 A0 Ip))],[(9902,.rows M.n λi=>No (M.g i)),(1,.fam D8 M.n 9902 none),(0,.cells [.vec 1])]⟩ [0,1,9902] (ids:=[(0,0),(1,1),(9902,2)]) ⟨rfl,rfl,rfl⟩
 obtain⟨c1,h⟩:=D1 h;obtain⟨c2,h⟩:=D1 h;refine YX Z Fb (.take 1 leaf.toNat 9801) (⟨⟨by decide,rfl⟩,c1⟩:(1000<=9801/\M.n=M.n)/\leaf.toNat<M.n) ?_;obtain⟨k,e1,h⟩:=A7 h;refine G4 Z Fb [(0,.l [0]),(2,.l [1]),(3,.l [1]),(5,.n),(6,.n),(7,.l [9801]),(11,.a [9000]),(12,.a [9000])] ?_;refine G5 (And.intro c2 (And.intro c1 (rfl:leaf.toNat=leaf.toNat))) (MO Z Y e1) ?_;rcases o1:P5 eqS k (M.g leaf.toNat)with _|v1
 .replace h:=ZW o1 h;refine AO7 Fb F8 R0 PV.str (λx=>.agg (F5 x)) eqS o1 (.agg [.v (.bool false),C8]) Fb ?_;refine D6 Fb ?_;refine C9 Z Fb (b:=true) (λc=>?_) (λc=>Bool.noConfusion (Ik.symm.trans c));obtain⟨c3,h⟩:=D1 h;obtain⟨w,e2,h⟩:=A7 h;refine E4 Z Fb [0,2,3,5,6] ?_;refine G5 c3 (Fl Z Y e2) ?_;refine D6 Fb ?_;refine G4 Z Fb [(0,.l [0]),(2,.l [1]),(3,.l [1]),(5,.n),(6,.n),(7,.l [9000])] ?_;refine G5 (And.intro c2 (And.intro c1 (rfl:leaf.toNat=leaf.toNat))) (MO Z Y e1) ?_;refine SL Fb F8 PV.str (λx=>.agg (F5 x)) eqS k (⟨w.2==0,w.1⟩:H4) (M.g leaf.toNat) Fb ?_;refine D6 Fb ?_;obtain rfl:=A9 h;refine YX Z Fb (.put 1 9902) (⟨⟨by decide,rfl⟩,c1⟩:(1000<=9902/\M.n=M.n)/\leaf.toNat<M.n) ?_;refine EV Z Fb ?_;refine D6 Fb ?_;exact J5 Z Fb ⟨[(7,pB (w.2==0)),(6,.p (vSl 2 A0 w.1))],[(9902,.rows M.n λi=>No ((M.upd leaf.toNat (Df eqS k (⟨w.2==0,w.1⟩:H4) (M.g leaf.toNat))).g i)),(1,.fam D8 M.n 9902 none),(0,.cells [.vec 1])]⟩ [0,1,9902] (ids:=(Jt [0,1,9902])) ⟨rfl,rfl,rfl⟩ (hle:=klR [(3,.ob M.n (λq=>if q=leaf.toNat then No (Df eqS k (⟨w.2==0,w.1⟩:H4) (M.g leaf.toNat))else if q=leaf.toNat then .dead else No (M.g q)) λi=>No ((M.upd leaf.toNat (Df eqS k (⟨w.2==0,w.1⟩:H4) (M.g leaf.toNat))).g i))] (al1 Ba0 al0))
 replace h:=YI o1 h;refine Az7 Fb F8 R0 PV.str (λx=>.agg (F5 x)) eqS o1 Fb ?_;refine D6 Fb ?_;obtain rfl:=A9 h;refine C9 Z Fb (b:=false) (λc=>Bool.noConfusion ((rfl:false=false).symm.trans c)) (λc=>?_);refine YX Z Fb (.put 1 9902) (⟨⟨by decide,rfl⟩,c1⟩:(1000<=9902/\M.n=M.n)/\leaf.toNat<M.n) ?_;refine EV Z Fb ?_;refine D6 Fb ?_;exact J5 Z Fb ⟨[(7,pB v1.Has),(6,.p (vSl 2 A0 v1.W))],[(9902,.rows M.n λi=>No (M.g i)),(1,.fam D8 M.n 9902 none),(0,.cells [.vec 1])]⟩ [0,1,9902] (ids:=(Jt [0,1,9902])) ⟨rfl,rfl,rfl⟩ (hle:=klR [(3,.ob M.n (λq=>if q=leaf.toNat then No (M.g leaf.toNat)else if q=leaf.toNat then .dead else No (M.g q)) λi=>No (M.g i))] (al1 (AZ9 (g:=λi=>No (M.g i))) al0))
def Z2 (N:Nat)(a:History)(b:Int):Option (Sl (Sl Law)):= (T8 N a.Tree).bind λl=>if ((0:Int)<=(l.1.n:Int)/\(l.1.n:Int)<=(l.1.n:Int)/\(l.1.n:Int)*24<=140737488355328/\(l.1.n:Int)<=140737488355328)then if ((0:Int)<=(l.1.n:Int)/\(l.1.n:Int)<=(l.1.n:Int)/\(l.1.n:Int)*8<=140737488355328/\(l.1.n:Int)<=140737488355328)then Aj0 N (λf (K:Nat) (X:Sl (Sl Law)) (x:Int)=>if (decide (x<(l.1.n:Int))) then if (((0:Int)<=x/\x<(l.1.n:Int))/\x.toNat<l.1.n)then (Fp N a.Tree (l.1.g x.toNat)).bind λw=>Bj N (λd (X:Sl (Sl Law)) (y:Int)=>if (decide (y<(w.1.n:Int))) then if ((((0:Int)<=y/\y<(w.1.n:Int))/\y.toNat<w.1.n)/\((0:Int)<=(w.1.g y.toNat)/\(w.1.g y.toNat)<(a.On.n:Int)))then Bj N (λc (X:Sl (Sl Law)) (z:Int)=>if (decide (z<((a.On.g (w.1.g y.toNat).toNat).n:Int))) then if ((0:Int)<=z/\z<((a.On.g (w.1.g y.toNat).toNat).n:Int))then if (((a.On.g (w.1.g y.toNat).toNat).g z.toNat) != b) then if x.toNat<X.n then if (((0:Int)<=x/\x<(X.n:Int))/\((0:Int)<=((a.On.g (w.1.g y.toNat).toNat).g z.toNat)/\((a.On.g (w.1.g y.toNat).toNat).g z.toNat)<(a.Laws.n:Int)))then if (Kb 200 ((X.g x.toNat).n+1))then c (X.upd x.toNat ((X.g x.toNat).push (a.Laws.g ((a.On.g (w.1.g y.toNat).toNat).g z.toNat).toNat))) (wrap .i64 (z+1)) else none else none else none else c X (wrap .i64 (z+1)) else none else d X (wrap .i64 (y+1))) X 0 else none else if x.toNat=K/\K<l.1.n then f (K+1) X (wrap .i64 (x+1))else none) X 0 else none else if K=l.1.n/\X.n=l.1.n then some X else none) 0 ⟨l.1.n,λ_=>Sl.nil⟩ 0 else none else none
theorem Np {N:Nat}{d:History}{c:Int}{y:Sl (Sl Law)}(h:Z2 N d c=some y) :FunO S Hs [.p (.agg (A8 d)),pN c] [] (.clo T4 [] [.reg 0 0,.p (.ptr [vSl 1 (cL 18 B4) y])]) (AP3 ⟨y.n,λ_=>[]⟩) []:=by
 unfold Z2 at h;refine A2 Z Tryz.func57 ?_;refine F9 Z Fb 18 3000 (A8 d) ?_;obtain⟨l,e1,h⟩:=A7 h;refine B3 Z [] Fb (EC Z Y e1) ?_;obtain⟨c1,h⟩:=D1 h;refine EW Z c1 26 (.fam 26000 9901 λi=>Fm H6 18 B4 ((⟨l.1.n,λ_=>Sl.nil⟩:Sl (Sl Law)).g i)) (⟨by decide,λi _=>rfl⟩:1000<=9901/\∀i,i<l.1.n->QR [C8] (Fm H6 18 B4 ((⟨l.1.n,λ_=>Sl.nil⟩:Sl (Sl Law)).g i))) ?_;obtain⟨c2,h⟩:=D1 h;refine EW Z c2 29 (.fam 29000 9951 λi=>knO 0 i) (⟨by decide,λi _=>⟨rfl,rfl⟩⟩:1000<=9951/\∀i,i<l.1.n->QR [.v (.map none)] (knO 0 i)) ?_;refine KJ Z Fb h (λK X x=>⟨[(31,pN x),(30,pN (l.1.n:Int)),(29,.vec 21000),(8,.reg 9000 0),(7,.reg 8000 0),(2,.p (.ptr (A8 d))),(1,pN c)],
  [(29000,.fam D8 l.1.n 9951 none),(26000,.fam DQ X.n 9901 none),(21000,oV E5 1 (cI .i64) l.1 true),(9951,.rows l.1.n λi=>knO K i),(9901,.rows X.n λi=>Fm H6 18 B4 (X.g i)),(9000,.cells [.vec 29000]),(8000,.cells [.vec 26000])]⟩) (ids:=(Jt [29000,26000,21000,9951,9901,9000,8000])) (λ_ _ _ _ _ s K X x j h=>?_)
 apply kI Z h<;>intro h
 .obtain⟨c3,h⟩:=D1 h;obtain⟨w,e2,h⟩:=A7 h;refine B3 Z [] c3 (XL Z Y e2) ?_;refine H3 Z Fb h (λX u=>⟨[(45,pN u),(44,pN (w.1.n:Int)),(43,.vec 41000),(31,pN x),(30,pN (l.1.n:Int)),(29,.vec 21000),(9,pN x),(8,.reg 9000 0),(7,.reg 8000 0),(2,.p (.ptr (A8 d))),(1,pN c)],[(41000,oV E5 1 (cI .i64) w.1 true),(29000,.fam D8 l.1.n 9951 none),(26000,.fam DQ X.n 9901 none),(21000,oV E5 1 (cI .i64) l.1 true),(9951,.rows l.1.n λi=>knO K i),(9901,.rows X.n λi=>Fm H6 18 B4 (X.g i)),(9000,.cells [.vec 29000]),(8000,.cells [.vec 26000])]⟩) (ids:=(Jt [41000,29000,26000,21000,9951,9901,9000,8000])) (λ_ _ _ _ _ m X u o h=>?_);apply kI Z h<;>intro h
  .obtain⟨c4,h⟩:=D1 h;refine H3 Z c4 h (λX z=>⟨[(55,pN z),(54,pN ((d.On.g (w.1.g u.toNat).toNat).n:Int)),(53,.p (vSl 1 (cI .i64) (d.On.g (w.1.g u.toNat).toNat))),(45,pN u),(44,pN (w.1.n:Int)),(43,.vec 41000),(31,pN x),(30,pN (l.1.n:Int)),(29,.vec 21000),(9,pN x),(8,.reg 9000 0),(7,.reg 8000 0),(2,.p (.ptr (A8 d))),(1,pN c)],[(41000,oV E5 1 (cI .i64) w.1 true),(29000,.fam D8 l.1.n 9951 none),(26000,.fam DQ X.n 9901 none),(21000,oV E5 1 (cI .i64) l.1 true),(9951,.rows l.1.n λi=>knO K i),(9901,.rows X.n λi=>Fm H6 18 B4 (X.g i)),(9000,.cells [.vec 29000]),(8000,.cells [.vec 26000])]⟩) (ids:=(Jt [41000,29000,26000,21000,9951,9901,9000,8000])) (λ_ _ _ _ _ r X z f h=>?_);apply kI Z h<;>intro h
   .obtain⟨c5,h⟩:=D1 h;refine C9 Z c5 (b:=((d.On.g (w.1.g u.toNat).toNat).g z.toNat) != c) (λc6=>?_) (λc6=>?_)
    .replace h:=itT c6 h;obtain⟨c7,h⟩:=D1 h;obtain⟨c8,h⟩:=D1 h;obtain⟨c9,h⟩:=D1 h;refine YX Z Fb (.take 26000 x.toNat 9801) (⟨⟨by decide,rfl⟩,c7⟩:(1000<=9801/\X.n=X.n)/\x.toNat<X.n) ?_;refine G4 Z Fb [(0,.l [8000]),(2,.l [8000]),(4,.l [26000]),(5,.l [26000]),(6,.n),(7,.n),(9,.n),(10,.n),(12,.a [75000,9801]),(13,.l [26000]),(14,.a [26000])] ?_;refine N0 (And.intro (And.intro (And.intro c8.1 (And.intro c7 (rfl:x.toNat=x.toNat))) c8.2) Ii) (x:=.sl true 18 1 (H9 [.str [],pI .i64 0,pI .u32 0,pI .u32 0,.v (.bool false),pI .i64 0,pI .i64 0,C8,pI .i64 0,pI .u32 0,pI .u32 0,.v (.bool false),pI .i64 0,pI .i64 0,C8,C8,C8,pI .i64 0] [(0,B4 (d.Laws.g ((d.On.g (w.1.g u.toNat).toNat).g z.toNat).toNat))])) ?_;refine D6 (And.intro (And.intro c9 c8.1) (And.intro c7 (rfl:x.toNat=x.toNat))) ?_;refine O4 Z Fb 76 ⟨[(55,pN z),(54,pN ((d.On.g (w.1.g u.toNat).toNat).n:Int)),(53,.p (vSl 1 (cI .i64) (d.On.g (w.1.g u.toNat).toNat))),(45,pN u),(44,pN (w.1.n:Int)),(43,.vec 41000),(31,pN x),(30,pN (l.1.n:Int)),(29,.vec 21000),(9,pN x),(8,.reg 9000 0),(7,.reg 8000 0),(2,.p (.ptr (A8 d))),(1,pN c)],[(75000,Fm H6 18 B4 ((X.g x.toNat).push (d.Laws.g ((d.On.g (w.1.g u.toNat).toNat).g z.toNat).toNat))),(41000,oV E5 1 (cI .i64) w.1 true),(29000,.fam D8 l.1.n 9951 none),(26000,.fam DQ X.n 9901 (some (x.toNat,.vec 75000))),(21000,oV E5 1 (cI .i64) l.1 true),(9951,.rows l.1.n λi=>knO K i),(9901,(.rows X.n λq=>if q=x.toNat then .dead else Fm H6 18 B4 (X.g q))),(9000,.cells [.vec 29000]),(8000,.cells [.vec 26000])]⟩ (ids:=(Jt [75000,41000,29000,26000,21000,9951,9901,9000,8000])) ?_ (hle:=kl1 10 (W6 B4 (X.g x.toNat) (d.Laws.g ((d.On.g (w.1.g u.toNat).toNat).g z.toNat).toNat) [.str [],pI .i64 0,pI .u32 0,pI .u32 0,.v (.bool false),pI .i64 0,pI .i64 0,C8,pI .i64 0,pI .u32 0,pI .u32 0,.v (.bool false),pI .i64 0,pI .i64 0,C8,C8,C8,pI .i64 0]));refine EW Z Fb 76 (.put 26000 9902) (⟨⟨by decide,rfl⟩,c7⟩:(1000<=9902/\X.n=X.n)/\x.toNat<X.n) ?_;exact f _ [(41000,41000),(29000,29000),(26000,26000),(21000,21000),(9951,9951),(9901,9902),(9000,9000),(8000,8000)] _ (X.upd x.toNat ((X.g x.toNat).push (d.Laws.g ((d.On.g (w.1.g u.toNat).toNat).g z.toNat).toNat))) (wrap .i64 (z+1)) Fb h (hle:=klR [(17,.ob X.n (λq=>if q=x.toNat then Fm H6 18 B4 ((X.g x.toNat).push (d.Laws.g ((d.On.g (w.1.g u.toNat).toNat).g z.toNat).toNat))else if q=x.toNat then .dead else Fm H6 18 B4 (X.g q)) λi=>Fm H6 18 B4 ((X.upd x.toNat ((X.g x.toNat).push (d.Laws.g ((d.On.g (w.1.g u.toNat).toNat).g z.toNat).toNat))).g i))] (al1 AZ8 al0))
    replace h:=itF c6 h;exact f _ (Jt [41000,29000,26000,21000,9951,9901,9000,8000]) _ X (wrap .i64 (z+1)) Fb h
   exact o _ (Jt [41000,29000,26000,21000,9951,9901,9000,8000]) _ X (wrap .i64 (u+1)) Fb h
  obtain⟨c4,h⟩:=D1 h;refine EW Z Fb 78 (.over 29000 x.toNat) (⟨rfl,by omega⟩:l.1.n=l.1.n/\x.toNat<l.1.n) ?_;refine EW Z (And.intro c3.1 (And.intro c3.2 (rfl:x.toNat=x.toNat))) 82 (.put 29000 9952) (⟨⟨by decide,rfl⟩,c3.2⟩:(1000<=9952/\l.1.n=l.1.n)/\x.toNat<l.1.n) ?_;exact j _ [(29000,29000),(26000,26000),(21000,21000),(9951,9952),(9901,9901),(9000,9000),(8000,8000)] _ (K+1) X (wrap .i64 (x+1)) Fb h (hle:=klR [(8,.ob l.1.n (λq=>if q=x.toNat then .map []else if q=x.toNat then .dead else knO K q) λi=>knO (K+1) i)] (al1 (obKn c4.1) al0))
 obtain⟨c3,h⟩:=D1 h;obtain rfl:=A9 h;refine EW Z Fb 83 (.pub 26000) (⟨rfl,λi _=>rfl⟩:X.n=X.n/\∀i,i<X.n->(QO (Fm H6 18 B4 (X.g i))).isSome=true) ?_;refine O4 Z Fb 83 ⟨[(8,.reg 9000 0),(7,.reg 8000 0)],[(29000,.fam D8 X.n 9951 none),(9951,.rows X.n λi=>No []),(9000,.cells [.vec 29000]),(8000,.cells [.p (vSl 1 (cL 18 B4) X)])]⟩ (ids:=(Jt [29000,9951,9000,8000])) ?_ (hle:=klR [(0,.nt l.1.n X.n),(1,.nt l.1.n X.n),(2,.ob X.n (λi=>knO K i) (λi=>No [])),(3,.fn X.n X.n (λi=>[(QO (Fm H6 18 B4 (X.g i))).getD default]) (λi=>cL 18 B4 (X.g i)))] (al1 c3.2.symm (al1 c3.2.symm (al1 (λi t=>Dq (by omega)) (al1 ⟨rfl,λ_ _=>rfl⟩ al0)))));refine F9 Z Fb 83 8000 [vSl 1 (cL 18 B4) X] ?_;exact J5 Z Fb ⟨[(4,.clo T4 [] [.reg 9000 0,.p (.ptr [vSl 1 (cL 18 B4) X])])],[(29000,.fam D8 X.n 9951 none),(9951,.rows X.n λi=>No []),(9000,.cells [.vec 29000])]⟩ [9000,29000,9951] (ids:=(Jt [29000,9951,9000])) ⟨rfl,rfl,rfl⟩
end Go.AM
namespace Go.AM
open Go.Proofs
set_option maxRecDepth 10000
set_option maxHeartbeats 2000000
variable {S:V2}(Z:G8 S Tryz.prog) (Y:Kd S)
include Z Y
def DZ (N:Nat)(d:History)(b:Sl H4)(f:Sl Entry)(a:Int):Option ((Sl A5)×Int):= (U4 N d b f).bind λy1=>if (y1 != 0) then some ((Sl.nil:Sl A5),y1) else if ((decide (a<0))||(decide (1073741824<a))) then some ((Sl.nil:Sl A5),2) else (Z2 N d (-1)).bind λy2=>(Bb N f).bind λy3=>(X6 N y3).bind λL1=>S9 L1 (λc (x1:CD×(Sl Iu)) (z1:(Sl (List (Str×H4)))×(Sl A5))=>if ((0:Int)<=x1.1.entry/\x1.1.entry<(b.n:Int))then (N2 N (b.g x1.1.entry.toNat) x1.1.leaf z1.1 y2).bind λy8=>if (!y8.2.1) then if (Kb 32 (z1.2.n+(Sl.of [(⟨x1.1.entry,x1.1.leaf,2,a⟩:A5)]:Sl A5).n))then c (y8.2.2,z1.2.push (⟨x1.1.entry,x1.1.leaf,2,a⟩:A5)) else none else (W9 N y8.1 x1.2).bind λy9=>if (!y9) then if (Kb 32 (z1.2.n+(Sl.of [(⟨x1.1.entry,x1.1.leaf,1,a⟩:A5)]:Sl A5).n))then c (y8.2.2,z1.2.push (⟨x1.1.entry,x1.1.leaf,1,a⟩:A5)) else none else c (y8.2.2,z1.2) else none) (λ(z1:(Sl (List (Str×H4)))×(Sl A5))=>some (z1.2,0)) ((⟨y2.n,λ_=>[]⟩:Sl (List (Str×H4))),(Sl.nil:Sl A5))
theorem VL {N:Nat}{d:History}{c:Sl H4}{j:Sl Entry}{b:Int}{y:(Sl A5)×Int}(h:DZ N d c j b=some y) :FunO S Mw [.p (.agg (A8 d)),.p (vSl 2 F5 c),.p (vSl 2 F6 j),pN b] [] (.tup [.vec 0,pN y.2]) ([oV At 4 B9 y.1 false]) []:=by
 unfold DZ at h;refine A2 Z Tryz.func26 ?_;refine F9 Z Fb 5 5000 (A8 d) ?_;refine F9 Z Fb 7 6000 [vSl 2 F5 c] ?_;refine F9 Z Fb 8 8000 [pI .i64 b] ?_;obtain⟨y1,e1,h⟩:=A7 h;refine B3 Z [] Hk (JG Z Y e1) ?_;apply kI Z h<;>intro h
 .obtain rfl:=A9 h;exact kO Z Fb [9700]
 refine kB Z (A4 Z) Fb Fb 3 (.o (.a (decide (b<0))) (.a (decide (1073741824<b)))) ?_;apply kI Z h<;>intro h
 .obtain rfl:=A9 h;exact kO Z Fb [9700]
 obtain⟨y2,e2,h⟩:=A7 h;refine B3 Z [] Hk (Np Z Y e2) ?_;refine kC Z h (Ma Z Y) (λy3 h=>?_);obtain⟨L1,e4,h⟩:=A7 h;refine GR Z Fb [34000] [12,11,7,5] 901 (λz1=>⟨[(12,.reg 13000 0),(11,.reg 12000 0),(7,.p (.ptr [pI .i64 b])),(5,.p (.ptr [vSl 2 F5 c]))],[(32001,.fam D8 z1.1.n 12500 none),(32000,.cells [.vec 32001]),(13500,oV At 4 B9 z1.2 false),(13000,.cells [.vec 13500]),(12500,.rows z1.1.n λi=>No (z1.1.g i)),(12000,.cells [.clo T4 [] [.reg 32000 0,.p (.ptr [vSl 1 (cL 18 B4) y2])]])]⟩) (idl:=[(12000,12000),(12500,32002),(13000,13000),(32000,32000),(32001,32001)]) h (Ke Z Y e4) (λ_=>by kernel_rfl) (λ_=>by kernel_rfl) (λ_=>by kernel_rfl) (λ_=>by kernel_rfl) (λx1 _ l z1 f h=>?_) (λz1 h=>?_)
 .refine F9 Z Fb 14 14000 [pI .i64 x1.1.entry,pI .i64 x1.1.leaf] ?_;refine JV Z Fb ?_;refine E4 Z Fb [1,3,4,5,7] ?_;obtain⟨c9,h⟩:=D1 h;obtain⟨y8,e9,h⟩:=A7 h;refine Ov [32000,32001,12500] (And.intro c9 Gq) (Lq Z Y e9) ?_;refine D6 Fb ?_;apply kI Z h<;>intro h
  .obtain⟨c11,h⟩:=D1 h;exact f _ [(901,901),(12000,12000),(12500,46002),(13000,13000),(13500,60000),(32000,32000),(32001,32001)] _ (y8.2.2,z1.2.push (⟨x1.1.entry,x1.1.leaf,2,b⟩:A5)) (And.intro Ik c11) h (hle:=kl1 1 (W6 B9 z1.2 (⟨x1.1.entry,x1.1.leaf,2,b⟩:A5) [pI .i64 0,pI .i64 0,pI .i64 0,pI .i64 0]))
  refine kC Z h (MM Z Y) (λy9 h=>?_);apply kI Z h<;>intro h
  .obtain⟨c13,h⟩:=D1 h;exact f _ [(901,901),(12000,12000),(12500,46002),(13000,13000),(13500,74000),(32000,32000),(32001,32001)] _ (y8.2.2,z1.2.push (⟨x1.1.entry,x1.1.leaf,1,b⟩:A5)) (And.intro Ik c13) h (hle:=kl1 1 (W6 B9 z1.2 (⟨x1.1.entry,x1.1.leaf,1,b⟩:A5) [pI .i64 0,pI .i64 0,pI .i64 0,pI .i64 0]))
  exact f _ [(901,901),(12000,12000),(12500,46002),(13000,13000),(13500,13500),(32000,32000),(32001,32001)] _ (y8.2.2,z1.2) Fb h
 obtain rfl:=A9 h;exact kO Z Fb [13500]
end Go.AM
namespace Go.AM
open Go.Proofs.Tryz
variable {N:Nat}
open Go.Proofs
section
variable {S:V2}(Z:G8 S Tryz.prog) (Y:Kd S)
include Z Y
def U5 (N:Nat)(s:Sl Str)(t:Str):Option Str:= if s.n<=140737488355328/\(Lib.join ((List.range s.n).map s.g) t).length<=140737488355328 then some (Lib.join ((List.range s.n).map s.g) t)else none
theorem QH {s:Sl Str}{t:Str}{y:Str}(h:U5 N s t=some y):FunO S DE [.p (vSl 1 cS s),.p (.str t)] [] (.p (.str y)) [] []:=by simp only[U5,Br2,Be2]at h;obtain⟨⟨h1,a⟩,rfl⟩:=h;exact Y.join false s.n s.g t h1 a
def X7 (N:Nat)(s:Str)(t:Int):Option Int:= if 0<=t/\t<256 then some (Lib.indexByte s (UInt8.ofNat t.toNat))else none
theorem Fq {s:Str}{t:Int}{y:Int}(h:X7 N s t=some y):FunO S X5 [.p (.str s),.p (pI .u8 t)] [] (.p (pI .i64 y)) [] []:=by
 simp only[X7,Br2,Be2]at h;obtain⟨h1,rfl⟩:=h
 have:=Y.indexByte s (UInt8.ofNat t.toNat)
 have e:(((UInt8.ofNat t.toNat).toNat:Nat):Int)=t:=by
  have:(UInt8.ofNat t.toNat).toNat=t.toNat:=UInt8.toNat_ofNat_of_lt' (by show t.toNat<256;omega)
  omega
 rw[e]at this;exact this
def G2 (N:Nat)(s:Sl Str):Option (Sl Str):=if (0+s.n)*16<=140737488355328/\0+s.n<=140737488355328 then some s else none
theorem O1 {s y:Sl Str}(h:G2 N s=some y):FunO S W1 [.p (vSl 1 cS s)] [] (.vec 0) [.vec F8 1 y.n (λi=>cS (y.g i)) true] []:=by
 unfold G2 at h;obtain⟨c1,h⟩:=D1 h;obtain rfl:=A9 h;refine A2 Z func179 ?_;refine UR Z Fb 3 (k:=1) (n:=s.n) (f:=λi=>cS (s.g i)) (λa=>?_) ?_
 .obtain⟨n,g⟩:=s;obtain rfl:n=0:=a;exact kO Z Fb [3700]
 exact kO Z (And.intro Ik c1) [8000]
  (hle:=kl1 0 (AH0 cS s [.str []]))
def J2 (N:Nat)(s:Sl K3):Option (Sl K3):=if (0+s.n)*24<=140737488355328/\0+s.n<=140737488355328 then some s else none
theorem Bw {s y:Sl K3}(h:J2 N s=some y):FunO S P9 [.p (vSl 3 D7 s)] [] (.vec 0) [.vec D2 3 y.n (λi=>D7 (y.g i)) true] []:=by
 unfold J2 at h;obtain⟨c1,h⟩:=D1 h;obtain rfl:=A9 h;refine A2 Z func184 ?_;refine UR Z Fb 3 (k:=3) (n:=s.n) (f:=λi=>D7 (s.g i)) (λa=>?_) ?_
 .obtain⟨n,g⟩:=s;obtain rfl:n=0:=a;exact kO Z Fb [3700]
 exact kO Z (And.intro Ik c1) [8000]
  (hle:=kl1 0 (AH0 D7 s [.str [],pI .u32 0,pI .u32 0]))
def K7 (N:Nat)(s:Sl Jh):Option (Sl Jh):=if (0+s.n)*32<=140737488355328/\0+s.n<=140737488355328 then some s else none
theorem Cn {s y:Sl Jh}(h:K7 N s=some y):FunO S S2 [.p (vSl 4 V7 s)] [] (.vec 0) [.vec Ab6 4 y.n (λi=>V7 (y.g i)) true] []:=by
 unfold K7 at h;obtain⟨c1,h⟩:=D1 h;obtain rfl:=A9 h;refine A2 Z func147 ?_;refine UR Z Fb 3 (k:=4) (n:=s.n) (f:=λi=>V7 (s.g i)) (λa=>?_) ?_
 .obtain⟨n,g⟩:=s;obtain rfl:n=0:=a;exact kO Z Fb [3700]
 exact kO Z (And.intro Ik c1) [8000]
  (hle:=kl1 0 (AH0 V7 s [.str [],pI .u32 0,pI .u32 0,pI .u32 0]))
end
end Go.AM
namespace Go.AM
open Go.Proofs.Tryz
variable {N:Nat}
open IntKind (wrap)
open Go.Proofs
set_option maxRecDepth 10000
set_option maxHeartbeats 2000000
variable {S:V2}(Z:G8 S Tryz.prog) (Y:Kd S)
include Z Y
def Bc (N:Nat)(a:Int):Option Bool:= some (((decide (97<=a))&&(decide (a<=122)))||((decide (48<=a))&&(decide (a<=57))))
theorem Gx {b:Int}{y:Bool}(h:Bc N b=some y) :FunO S Gt [.p (pI .u8 b)] [] (pB y) ([]) []:=by unfold Bc at h;refine A2 Z func178 ?_;refine kB Z (A4 Z) Fb Fb 11 (.o (.n (.a (decide (97<=b))) (.a (decide (b<=122)))) (.n (.a (decide (48<=b))) (.a (decide (b<=57))))) ?_;cases h;exact kR Z
def Q2 (N:Nat)(a:B1):Option Bool:= some true
theorem Bx {a:B1}{y:Bool}(h:Q2 N a=some y) :FunO S Bo [.reg 0 0] [.cells [.p (vSl 1 cS a.feats),.mref 1,.vec 2,.mref 3,.mref 4],oM PV.str (pI .i64) a.number,oV D2 3 D7 a.sounds true,oM PV.str (pI .i64) a.symbols,oM (λx=>.agg (A0 x)) (pI .i64) a.values] (pB y) ([.cells [.p (vSl 1 cS a.feats),.mref 1,.vec 2,.mref 3,.mref 4],oM PV.str (pI .i64) a.number,oV D2 3 D7 a.sounds true,oM PV.str (pI .i64) a.symbols,oM (λx=>.agg (A0 x)) (pI .i64) a.values]) [true,true,true,true,true]:=by unfold Q2 at h;refine A2 Z func180 ?_;obtain rfl:=A9 h;exact kO Z Fb [0,1,2,3,4]
def P3 (N:Nat)  : Option Bool:= some false
theorem CA    {y:Bool}(h:P3 N  = some y) :FunO S Bo [.p Aw0] [] (pB y) ([]) []:=by unfold P3 at h;refine A2 Z func180 ?_;cases h;exact kR Z
def X8 (N:Nat)(b:B1)(a:Iu):Option Bool:= if (0:Int)<=(b.feats.n:Int)then some (((O9 .and .u32 a.Plus a.Minus)==0)&&((O9 .andNot .u32 (O9 .or .u32 a.Plus a.Minus) (wrap .u32 ((shI .shl .u32 1 (b.feats.n:Int))-1)))==0)) else none
theorem Hc {b:B1}{c:Iu}{y:Bool}(h:X8 N b c=some y) :FunO S CP [.reg 0 0,.p (.agg (A0 c))] [.cells [.p (vSl 1 cS b.feats),.mref 1,.vec 2,.mref 3,.mref 4],oM PV.str (pI .i64) b.number,oV D2 3 D7 b.sounds true,oM PV.str (pI .i64) b.symbols,oM (λx=>.agg (A0 x)) (pI .i64) b.values] (pB y) ([.cells [.p (vSl 1 cS b.feats),.mref 1,.vec 2,.mref 3,.mref 4],oM PV.str (pI .i64) b.number,oV D2 3 D7 b.sounds true,oM PV.str (pI .i64) b.symbols,oM (λx=>.agg (A0 x)) (pI .i64) b.values]) [true,true,true,true,true]:=by unfold X8 at h;refine A2 Z func183 ?_;obtain⟨c1,h⟩:=D1 h;refine kB Z (A4 Z) c1 Fb 9 (.n (.a ((O9 .and .u32 c.Plus c.Minus)==0)) (.a ((O9 .andNot .u32 (O9 .or .u32 c.Plus c.Minus) (wrap .u32 ((shI .shl .u32 1 (b.feats.n:Int))-1)))==0))) ?_;obtain rfl:=A9 h;exact kO Z Fb [0,1,2,3,4]
def Q3 (N:Nat)(a:Str)(b:Int)(d:Int->Option Bool):Option Bool:= if ((decide ((a.length:Int)<1))||(decide (b<(a.length:Int)))) then some false else Y3 N (λc (x1:Int)=>if (decide (x1<(a.length:Int))) then if ((0:Int)<=x1/\x1<(a.length:Int))then (d (HU a x1)).bind λy3=>if (!y3) then some false else c (wrap .i64 (x1+1)) else none else some true) 0
theorem By {d:Str}{c:Int}{f:Int->Option Bool}{kp_of:Nat}(g:∀{a0:Int}{b:Bool},f a0=some b->FunO S kp_of [.p (pI .u8 a0)] [] (pB b) [] []){y:Bool}(h:Q3 N d c f=some y) :FunO S Et [.p (.str d),pN c,.clo kp_of [] []] [] (pB y) ([]) []:=by
 unfold Q3 at h;refine A2 Z func177 ?_;refine kB Z (A4 Z) Fb Fb 5 (.o (.a (decide ((d.length:Int)<1))) (.a (decide (c<(d.length:Int))))) ?_;apply kI Z h<;>intro h
 .cases h;exact kR Z
 refine R8 Z Fb h (λx1=>⟨[(19,pN x1),(18,pN (d.length:Int)),(2,.clo kp_of [] []),(0,.p (.str d))],[]⟩) (ids:=[]) (λ_ _ _ _ _ i x1 j h=>?_);apply kI Z h<;>intro h
 .obtain⟨c9,h⟩:=D1 h;obtain⟨y3,e3,h⟩:=A7 h;refine B3 Z [] c9 (g e3) ?_;apply kI Z h<;>intro h
  .cases h;exact kR Z
  exact j _ [] _ (wrap .i64 (x1+1)) Fb h
 cases h;exact kR Z
def U0 (N:Nat)(a:Int):Option Bool:= (Bc N a).bind λy1=>lt (λ(z1:Bool)=>some z1) λk1=>if y1 then k1 true else if (decide (65<=a)) then if (decide (a<=90)) then k1 true else (X7 N [64,63,33,38,42,36,37] a).bind λy4=>k1 (decide (0<=y4)) else (X7 N [64,63,33,38,42,36,37] a).bind λy5=>k1 (decide (0<=y5))
theorem Ea {b:Int}{y:Bool}(h:U0 N b=some y) :FunO S DO [.p (pI .u8 b)] [] (pB y) ([]) []:=by
 unfold U0 at h;refine A2 Z func181 ?_;refine kC Z h (Gx Z Y) (λy1 h=>?_);refine LO Z Fb (A4 Z) h 0 (λz1=>⟨[(2,pB z1)],[]⟩) (λM1 k1 a h=>?_) (λz1 h=>?_)
 .refine kG Z h (λh=>?_) (λh=>?_)
  .exact a _ [] _ true Fb h
  refine kG Z h (λh=>?_) (λh=>?_)
  .refine kG Z h (λh=>?_) (λh=>?_)
   .exact a _ [] _ true Fb h
   refine kC Z h (Fq Z Y) (λy4 h=>?_);exact a _ [] _ (decide (0<=y4)) Fb h
  refine kC Z h (Fq Z Y) (λy5 h=>?_);exact a _ [] _ (decide (0<=y5)) Fb h
 cases h;exact kR Z
def Co (N:Nat)(b:B1)(a:Str)(c:Iu):Option (Int×B1):= (Q2 N b).bind λy1=>if (!y1) then some (1,b) else (Q3 N a 4 (λ(u1:Int)=>U0 N u1)).bind λy2=>if (!y2) then some (15,b) else (X8 N b c).bind λy3=>if (!y3) then some (14,b) else MX (P5 eqS a b.symbols) (MX (P5 H1 c b.values) (if (false||false) then some (6,b) else if ((b.sounds.n:Int)==256) then some (4,b) else if (Kb 24 (b.sounds.n+(Sl.of [(⟨a,c⟩:K3)]:Sl K3).n))then some (0,(⟨b.feats,b.number,b.sounds.push (⟨a,c⟩:K3),Df eqS a (b.sounds.n:Int) b.symbols,Df H1 c (b.sounds.n:Int) b.values⟩:B1)) else none) λv2=>if (false||true) then some (6,b) else if ((b.sounds.n:Int)==256) then some (4,b) else if (Kb 24 (b.sounds.n+(Sl.of [(⟨a,c⟩:K3)]:Sl K3).n))then some (0,(⟨b.feats,b.number,b.sounds.push (⟨a,c⟩:K3),Df eqS a (b.sounds.n:Int) b.symbols,Df H1 c (b.sounds.n:Int) b.values⟩:B1)) else none) λv1=>MX (P5 H1 c b.values) (if (true||false) then some (6,b) else if ((b.sounds.n:Int)==256) then some (4,b) else if (Kb 24 (b.sounds.n+(Sl.of [(⟨a,c⟩:K3)]:Sl K3).n))then some (0,(⟨b.feats,b.number,b.sounds.push (⟨a,c⟩:K3),Df eqS a (b.sounds.n:Int) b.symbols,Df H1 c (b.sounds.n:Int) b.values⟩:B1)) else none) λv3=>if (true||true) then some (6,b) else if ((b.sounds.n:Int)==256) then some (4,b) else if (Kb 24 (b.sounds.n+(Sl.of [(⟨a,c⟩:K3)]:Sl K3).n))then some (0,(⟨b.feats,b.number,b.sounds.push (⟨a,c⟩:K3),Df eqS a (b.sounds.n:Int) b.symbols,Df H1 c (b.sounds.n:Int) b.values⟩:B1)) else none
theorem Kf {c:B1}{b:Str}{d:Iu}{y:Int×B1}(h:Co N c b d=some y) :FunO S Ci [.reg 0 0,.p (.str b),.p (.agg (A0 d))] [.cells [.p (vSl 1 cS c.feats),.mref 1,.vec 2,.mref 3,.mref 4],oM PV.str (pI .i64) c.number,oV D2 3 D7 c.sounds true,oM PV.str (pI .i64) c.symbols,oM (λx=>.agg (A0 x)) (pI .i64) c.values] (pN y.1) ([.cells [.p (vSl 1 cS y.2.feats),.mref 1,.vec 2,.mref 3,.mref 4],oM PV.str (pI .i64) y.2.number,oV D2 3 D7 y.2.sounds true,oM PV.str (pI .i64) y.2.symbols,oM (λx=>.agg (A0 x)) (pI .i64) y.2.values]) [true,true,false,true,true]:=by
 unfold Co at h;refine A2 Z func142 ?_;refine F9 Z Fb 6 6000 [pI .u32 d.Plus,pI .u32 d.Minus] ?_;obtain⟨y1,e1,h⟩:=A7 h;refine B3 Z [0,1,2,3,4] Fb (Bx Z Y e1) ?_;apply kI Z h<;>intro h
 .obtain rfl:=A9 h;exact kOi Z Fb [(0,0),(1,1),(3,3),(4,4),(990002,2)] [0,1,990002,3,4]
 refine kC Z h (By Z Y (λe=>Ea Z Y e)) (λy2 h=>?_);apply kI Z h<;>intro h
 .obtain rfl:=A9 h;exact kOi Z Fb [(0,0),(1,1),(3,3),(4,4),(990002,2)] [0,1,990002,3,4]
 obtain⟨y3,e3,h⟩:=A7 h;refine B3 Z [0,1,2,3,4] Gq (Hc Z Y e3) ?_;apply kI Z h<;>intro h
 .obtain rfl:=A9 h;exact kOi Z Fb [(0,0),(1,1),(3,3),(4,4),(990002,2)] [0,1,990002,3,4]
 rcases o1:P5 eqS b c.symbols with _|v1
 .replace h:=ZW o1 h;refine Xd Z Fb F8 E5 PV.str (pI .i64) eqS o1 (pI .i64 0) Fb ?_;refine E4 Z Fb [4] ?_;rcases o2:P5 H1 d c.values with _|v2
  .replace h:=ZW o2 h;refine AO7 Gq B6 E5 (λx=>.agg (A0 x)) (pI .i64) H1 o2 (pI .i64 0) (by decide +kernel:PO Tryz.prog B6=true) ?_;refine D6 Fb ?_;refine kB Z (A4 Z) Fb Fb 2 (.o (.a false) (.a false)) ?_;apply kI Z h<;>intro h
   .obtain rfl:=A9 h;exact kOi Z Fb [(0,0),(1,1),(3,3),(4,4),(990002,2)] [0,1,990002,3,4]
   apply kI Z h<;>intro h
   .obtain rfl:=A9 h;exact kOi Z Fb [(0,0),(1,1),(3,3),(4,4),(990002,2)] [0,1,990002,3,4]
   refine EV Z Fb ?_;refine SL Fb F8 PV.str (pI .i64) eqS b (c.sounds.n:Int) c.symbols Fb ?_;refine D6 Fb ?_;refine E4 Z Fb [4] ?_;refine SL Gq B6 (λx=>.agg (A0 x)) (pI .i64) H1 d (c.sounds.n:Int) c.values (by decide +kernel:PO Tryz.prog B6=true) ?_;refine D6 Fb ?_;refine E4 Z Fb [6] ?_;refine N0 Gq (x:=.sl true 3 1 (H9 [.str [],pI .u32 0,pI .u32 0] [(0,D7 (⟨b,d⟩:K3))])) ?_;obtain⟨c6,h⟩:=D1 h;refine D6 c6 ?_;obtain rfl:=A9 h;exact kO Z Fb [0,1,79000,3,4] (hle:=kl1 1 (W6 D7 c.sounds (⟨b,d⟩:K3) [.str [],pI .u32 0,pI .u32 0]))
  replace h:=YI o2 h;refine Az7 Gq B6 E5 (λx=>.agg (A0 x)) (pI .i64) H1 o2 (by decide +kernel:PO Tryz.prog B6=true) ?_;refine D6 Fb ?_;refine kB Z (A4 Z) Fb Fb 2 (.o (.a false) (.a true)) ?_;apply kI Z h<;>intro h
  .obtain rfl:=A9 h;exact kOi Z Fb [(0,0),(1,1),(3,3),(4,4),(990002,2)] [0,1,990002,3,4]
  apply kI Z h<;>intro h
  .obtain rfl:=A9 h;exact kOi Z Fb [(0,0),(1,1),(3,3),(4,4),(990002,2)] [0,1,990002,3,4]
  refine EV Z Fb ?_;refine SL Fb F8 PV.str (pI .i64) eqS b (c.sounds.n:Int) c.symbols Fb ?_;refine D6 Fb ?_;refine E4 Z Fb [4] ?_;refine SL Gq B6 (λx=>.agg (A0 x)) (pI .i64) H1 d (c.sounds.n:Int) c.values (by decide +kernel:PO Tryz.prog B6=true) ?_;refine D6 Fb ?_;refine E4 Z Fb [6] ?_;refine N0 Gq (x:=.sl true 3 1 (H9 [.str [],pI .u32 0,pI .u32 0] [(0,D7 (⟨b,d⟩:K3))])) ?_;obtain⟨c9,h⟩:=D1 h;refine D6 c9 ?_;obtain rfl:=A9 h;exact kO Z Fb [0,1,79000,3,4] (hle:=kl1 1 (W6 D7 c.sounds (⟨b,d⟩:K3) [.str [],pI .u32 0,pI .u32 0]))
 replace h:=YI o1 h;refine Xc Z Fb F8 E5 PV.str (pI .i64) eqS o1 Fb ?_;refine E4 Z Fb [4] ?_;rcases o3:P5 H1 d c.values with _|v3
 .replace h:=ZW o3 h;refine AO7 Gq B6 E5 (λx=>.agg (A0 x)) (pI .i64) H1 o3 (pI .i64 0) (by decide +kernel:PO Tryz.prog B6=true) ?_;refine D6 Fb ?_;refine kB Z (A4 Z) Fb Fb 2 (.o (.a true) (.a false)) ?_;apply kI Z h<;>intro h
  .obtain rfl:=A9 h;exact kOi Z Fb [(0,0),(1,1),(3,3),(4,4),(990002,2)] [0,1,990002,3,4]
  apply kI Z h<;>intro h
  .obtain rfl:=A9 h;exact kOi Z Fb [(0,0),(1,1),(3,3),(4,4),(990002,2)] [0,1,990002,3,4]
  refine EV Z Fb ?_;refine SL Fb F8 PV.str (pI .i64) eqS b (c.sounds.n:Int) c.symbols Fb ?_;refine D6 Fb ?_;refine E4 Z Fb [4] ?_;refine SL Gq B6 (λx=>.agg (A0 x)) (pI .i64) H1 d (c.sounds.n:Int) c.values (by decide +kernel:PO Tryz.prog B6=true) ?_;refine D6 Fb ?_;refine E4 Z Fb [6] ?_;refine N0 Gq (x:=.sl true 3 1 (H9 [.str [],pI .u32 0,pI .u32 0] [(0,D7 (⟨b,d⟩:K3))])) ?_;obtain⟨c12,h⟩:=D1 h;refine D6 c12 ?_;obtain rfl:=A9 h;exact kO Z Fb [0,1,79000,3,4] (hle:=kl1 1 (W6 D7 c.sounds (⟨b,d⟩:K3) [.str [],pI .u32 0,pI .u32 0]))
 replace h:=YI o3 h;refine Az7 Gq B6 E5 (λx=>.agg (A0 x)) (pI .i64) H1 o3 (by decide +kernel:PO Tryz.prog B6=true) ?_;refine D6 Fb ?_;refine kB Z (A4 Z) Fb Fb 2 (.o (.a true) (.a true)) ?_;apply kI Z h<;>intro h
 .obtain rfl:=A9 h;exact kOi Z Fb [(0,0),(1,1),(3,3),(4,4),(990002,2)] [0,1,990002,3,4]
 apply kI Z h<;>intro h
 .obtain rfl:=A9 h;exact kOi Z Fb [(0,0),(1,1),(3,3),(4,4),(990002,2)] [0,1,990002,3,4]
 refine EV Z Fb ?_;refine SL Fb F8 PV.str (pI .i64) eqS b (c.sounds.n:Int) c.symbols Fb ?_;refine D6 Fb ?_;refine E4 Z Fb [4] ?_;refine SL Gq B6 (λx=>.agg (A0 x)) (pI .i64) H1 d (c.sounds.n:Int) c.values (by decide +kernel:PO Tryz.prog B6=true) ?_;refine D6 Fb ?_;refine E4 Z Fb [6] ?_;refine N0 Gq (x:=.sl true 3 1 (H9 [.str [],pI .u32 0,pI .u32 0] [(0,D7 (⟨b,d⟩:K3))])) ?_;obtain⟨c15,h⟩:=D1 h;refine D6 c15 ?_;obtain rfl:=A9 h;exact kO Z Fb [0,1,79000,3,4] (hle:=kl1 1 (W6 D7 c.sounds (⟨b,d⟩:K3) [.str [],pI .u32 0,pI .u32 0]))
def X9 (N:Nat)(a:Str)(b:Iu):Option Int:= (P3 N ).bind λy1=>if (!y1) then some 1 else (Q3 N a 4 (λ(u1:Int)=>U0 N u1)).bind λy2=>if (!y2) then some 15 else none
theorem Hd {a:Str}{b:Iu}{y:Int}(h:X9 N a b=some y) :FunO S Ci [.p Aw0,.p (.str a),.p (.agg (A0 b))] [] (pN y) ([]) []:=by
 unfold X9 at h;refine A2 Z func142 ?_;refine F9 Z Fb 6 6000 [pI .u32 b.Plus,pI .u32 b.Minus] ?_;refine kC Z h (CA Z Y) (λy1 h=>?_);apply kI Z h<;>intro h
 .cases h;exact kR Z
 refine kC Z h (By Z Y (λe=>Ea Z Y e)) (λy2 h=>?_);apply kI Z h<;>intro h
 .cases h;exact kR Z
 cases h
def Fr (N:Nat)(a:Sl Str):Option ((Option B1)×Int):= if (decide (24<(a.n:Int))) then some (none,12) else Y3 N (λb (x1:Int)=>if (decide (x1<(a.n:Int))) then if ((0:Int)<=x1/\x1<(a.n:Int))then (Q3 N (a.g x1.toNat) 16 (λ(u3:Int)=>Bc N u3)).bind λy3=>if ((!y3)=false->((0:Int)<=0/\0<((a.g x1.toNat).length:Int)))then if ((!y3)||(decide ((HU (a.g x1.toNat) 0)<=57))) then some (none,15) else b (wrap .i64 (x1+1)) else none else none else Bj N (λc (x2:List (Str×Int)) (x3:Int)=>if (decide (x3<(a.n:Int))) then if ((0:Int)<=x3/\x3<(a.n:Int))then MX (P5 eqS (a.g x3.toNat) x2) (c (Df eqS (a.g x3.toNat) x3 x2) (wrap .i64 (x3+1))) λv3=>some (none,6) else none else (G2 N a).bind λy4=>some (some (⟨y4,x2,(Sl.nil:Sl K3),[],[]⟩:B1),0)) [] 0) 0
theorem IC {c:Sl Str}{y:(Option B1)×Int}(h:Fr N c=some y) :FunO S Im [.p (vSl 1 cS c)] [] (.tup [MX y.1 (.p Aw0) λ_=>.reg 0 0,pN y.2]) (MX y.1 [] λo=>[(.cells [.p (vSl 1 cS o.feats),.mref 1,.vec 2,.mref 3,.mref 4]),oM PV.str (pI .i64) o.number,oV D2 3 D7 o.sounds true,oM PV.str (pI .i64) o.symbols,oM (λx=>.agg (A0 x)) (pI .i64) o.values]) []:=by
 unfold Fr at h;refine A2 Z func141 ?_;apply kI Z h<;>intro h
 .obtain rfl:=A9 h;exact kO Z Fb []
 refine R8 Z Fb h (λx1=>⟨[(21,pN x1),(20,pN (c.n:Int)),(19,.p (vSl 1 cS c)),(4,.reg 19000 0),(0,.p (vSl 1 cS c))],[(19000,.cells [.p C8,.mref 15000,.p C8,.mref 16000,.mref 17000]),(17000,oM (λx=>.agg (A0 x)) (pI .i64) []),(16000,oM PV.str (pI .i64) []),(15000,oM PV.str (pI .i64) [])]⟩) (ids:=(Jt [15000,16000,17000,19000])) (λ_ _ _ _ _ d x1 f h=>?_);apply kI Z h<;>intro h
 .obtain⟨c11,h⟩:=D1 h;obtain⟨y3,e3,h⟩:=A7 h;refine B3 Z [] c11 (By Z Y (λe=>Gx Z Y e) e3) ?_;obtain⟨c12,h⟩:=D1 h;refine kB Z (A4 Z) Fb c12 4 (.o (.a (!y3)) (.a (decide ((HU (c.g x1.toNat) 0)<=57)))) ?_;apply kI Z h<;>intro h
  .obtain rfl:=A9 h;exact kO Z Fb []
  exact f _ (Jt [15000,16000,17000,19000]) _ (wrap .i64 (x1+1)) Fb h
 refine H3 Z Fb h (λx2 x3=>⟨[(36,pN x3),(35,pN (c.n:Int)),(34,.p (vSl 1 cS c)),(4,.reg 19000 0),(0,.p (vSl 1 cS c))],[(19000,.cells [.p C8,.mref 15000,.p C8,.mref 16000,.mref 17000]),(17000,oM (λx=>.agg (A0 x)) (pI .i64) []),(16000,oM PV.str (pI .i64) []),(15000,oM PV.str (pI .i64) x2)]⟩) (ids:=(Jt [15000,16000,17000,19000])) (λ_ _ _ _ _ i x2 x3 j h=>?_);apply kI Z h<;>intro h
 .obtain⟨c23,h⟩:=D1 h;rcases o3:P5 eqS (c.g x3.toNat) x2 with _|v3
  .replace h:=ZW o3 h;refine Xd Z c23 F8 E5 PV.str (pI .i64) eqS o3 (pI .i64 0) Fb ?_;refine C9 Z Fb (b:=false) (λc24=>?_) (λc24=>?_)
   .exact Bool.noConfusion ((rfl:false=false).symm.trans c24)
   refine Aa6 Z Fb F8 PV.str (pI .i64) eqS (c.g x3.toNat) x3 x2 Fb ?_;exact j _ (Jt [15000,16000,17000,19000]) _ (Df eqS (c.g x3.toNat) x3 x2) (wrap .i64 (x3+1)) Fb h
  replace h:=YI o3 h;refine Xc Z c23 F8 E5 PV.str (pI .i64) eqS o3 Fb ?_;refine C9 Z Fb (b:=true) (λc25=>?_) (λc25=>?_)
  .obtain rfl:=A9 h;exact kO Z Fb []
  exact Bool.noConfusion (Ik.symm.trans c25)
 refine kC Z h (O1 Z Y) (λy4 h=>?_);obtain rfl:=A9 h;exact kO Z Fb [19000,15000,3802,16000,17000]
def AE (N:Nat)(a:B1):Option (Sl Str):= (Q2 N a).bind λy1=>if (!y1) then some (Sl.nil:Sl Str) else (G2 N a.feats).bind λy2=>some y2
theorem ID {a:B1}{y:Sl Str}(h:AE N a=some y) :FunO S DN [.reg 0 0] [.cells [.p (vSl 1 cS a.feats),.mref 1,.vec 2,.mref 3,.mref 4],oM PV.str (pI .i64) a.number,oV D2 3 D7 a.sounds true,oM PV.str (pI .i64) a.symbols,oM (λx=>.agg (A0 x)) (pI .i64) a.values] (.vec 5) ([.cells [.p (vSl 1 cS a.feats),.mref 1,.vec 2,.mref 3,.mref 4],oM PV.str (pI .i64) a.number,oV D2 3 D7 a.sounds true,oM PV.str (pI .i64) a.symbols,oM (λx=>.agg (A0 x)) (pI .i64) a.values,oV F8 1 cS y true]) [true,true,true,true,true]:=by
 unfold AE at h;refine A2 Z func144 ?_;obtain⟨y1,e1,h⟩:=A7 h;refine B3 Z [0,1,2,3,4] Fb (Bx Z Y e1) ?_;apply kI Z h<;>intro h
 .obtain rfl:=A9 h;exact kO Z Fb [0,1,2,3,4,3700]
 refine kC Z h (O1 Z Y) (λy2 h=>?_);obtain rfl:=A9 h;exact kO Z Fb [0,1,2,3,4,11000]
def W3 (N:Nat)  : Option Unit:= (P3 N ).bind λy1=>if (!y1) then some () else none
theorem Gy    {y:Unit}(h:W3 N  = some y) :FunO S Bn [.p Aw0] [] (.p Aw0) ([]) []:=by
 unfold W3 at h;refine A2 Z func143 ?_;refine kC Z h (CA Z Y) (λy1 h=>?_);apply kI Z h<;>intro h
 .obtain rfl:=A9 h;exact kO Z Fb []
 cases h
end Go.AM
namespace Go.AM
open IntKind (wrap)
open Go.Proofs
set_option maxRecDepth 10000
set_option maxHeartbeats 4000000
theorem Cp {κ ν : Type}(kP : κ -> PV)(vP : ν -> PV):∀l:List (κ × ν),(Dd kP vP l).length=l.length
 |[]=>rfl
 |_::l=>congrArg (· + 1) (Cp kP vP l)
variable {S:V2}(Z:G8 S Tryz.prog) (Y:Kd S)
include Z Y
def Bz (N:Nat)(a:B1):Option (Option B1):= (Q2 N a).bind λy1=>if (!y1) then some none else (G2 N a.feats).bind λy2=>(J2 N a.sounds).bind λy3=>Bj N (λb (x1:List (Str×Int)) (x2:Int)=>if (decide (x2<(y2.n:Int))) then if (((0:Int)<=x2/\x2<(y2.n:Int))/\x2.toNat<y2.n)then b (Df eqS (y2.g x2.toNat) x2 x1) (wrap .i64 (x2+1)) else none else Aj0 N (λc (x3:List (Str×Int)) (x4:List (Iu×Int)) (x5:Int)=>if (decide (x5<(y3.n:Int))) then if (((0:Int)<=x5/\x5<(y3.n:Int))/\x5.toNat<y3.n)then c (Df eqS (y3.g x5.toNat).Symbol x5 x3) (Df H1 (y3.g x5.toNat).S x5 x4) (wrap .i64 (x5+1)) else none else some (some (⟨y2,x1,y3,x3,x4⟩:B1))) [] [] 0) [] 0
theorem Ew {N:Nat}{b:B1}{y:Option B1}(h:Bz N b=some y) :FunO S Bn [.reg 0 0] [.cells [.p (vSl 1 cS b.feats),.mref 1,.vec 2,.mref 3,.mref 4],oM PV.str (pI .i64) b.number,oV D2 3 D7 b.sounds true,oM PV.str (pI .i64) b.symbols,oM (λx=>.agg (A0 x)) (pI .i64) b.values] (MX y (.p Aw0) λ_=>.reg 5 0) ([.cells [.p (vSl 1 cS b.feats),.mref 1,.vec 2,.mref 3,.mref 4],oM PV.str (pI .i64) b.number,oV D2 3 D7 b.sounds true,oM PV.str (pI .i64) b.symbols,oM (λx=>.agg (A0 x)) (pI .i64) b.values]++(MX y [] λo=>[(.cells [.p (vSl 1 cS o.feats),.mref 6,.vec 7,.mref 8,.mref 9]),oM PV.str (pI .i64) o.number,oV D2 3 D7 o.sounds true,oM PV.str (pI .i64) o.symbols,oM (λx=>.agg (A0 x)) (pI .i64) o.values])) [true,true,true,true,true]:=by
 unfold Bz at h;refine A2 Z Tryz.func143 ?_;obtain⟨y1,e1,h⟩:=A7 h;refine B3 Z [0,1,2,3,4] Fb (Bx Z Y e1) ?_;apply kI Z h<;>intro h
 .obtain rfl:=A9 h;exact kO Z Fb [0,1,2,3,4]
 refine G4 Z Fb [(3,.l [0]),(4,.a [16000]),(8,.l [0]),(9,.a [2,21000]),(10,.a [22000]),(11,.a [23000]),(12,.a [24000])] ?_;obtain⟨y2,e2,h⟩:=A7 h;refine Ov [] Fb (O1 Z Y e2) ?_;obtain⟨y3,e3,h⟩:=A7 h;refine Ov [] Fb (Bw Z Y e3) ?_;refine D6 Fb ?_;refine H3 Z Fb h (λx1 x2=>⟨[(31,pN x2),(30,pN (y2.n:Int)),(29,.vec 16000),(3,.reg 26000 0)],[(26000,.cells [.vec 16000,.mref 22000,.vec 21000,.mref 23000,.mref 24000]),(24000,oM (λx=>.agg (A0 x)) (pI .i64) []),(23000,oM PV.str (pI .i64) []),(22000,oM PV.str (pI .i64) x1),(21000,oV D2 3 D7 y3 true),(16000,oV F8 1 cS y2 true),(4,oM (λx=>.agg (A0 x)) (pI .i64) b.values),(3,oM PV.str (pI .i64) b.symbols),(2,oV D2 3 D7 b.sounds true),(1,oM PV.str (pI .i64) b.number),(0,.cells [.p (vSl 1 cS b.feats),.mref 1,.vec 2,.mref 3,.mref 4])]⟩) (ids:=(Jt [0,1,2,3,4,16000,21000,22000,23000,24000,26000])) (λ_ _ _ _ _ c x1 x2 d h=>?_);apply kI Z h<;>intro h
 .obtain⟨c7,h⟩:=D1 h;refine Aa6 Z c7 F8 PV.str (pI .i64) eqS (y2.g x2.toNat) x2 x1 Fb ?_;exact d _ (Jt [0,1,2,3,4,16000,21000,22000,23000,24000,26000]) _ (Df eqS (y2.g x2.toNat) x2 x1) (wrap .i64 (x2+1)) Fb h
 refine KJ Z Fb h (λx3 x4 x5=>⟨[(48,pN x5),(47,pN (y3.n:Int)),(46,.vec 21000),(3,.reg 26000 0)],[(26000,.cells [.vec 16000,.mref 22000,.vec 21000,.mref 23000,.mref 24000]),(24000,oM (λx=>.agg (A0 x)) (pI .i64) x4),(23000,oM PV.str (pI .i64) x3),(22000,oM PV.str (pI .i64) x1),(21000,oV D2 3 D7 y3 true),(16000,oV F8 1 cS y2 true),(4,oM (λx=>.agg (A0 x)) (pI .i64) b.values),(3,oM PV.str (pI .i64) b.symbols),(2,oV D2 3 D7 b.sounds true),(1,oM PV.str (pI .i64) b.number),(0,.cells [.p (vSl 1 cS b.feats),.mref 1,.vec 2,.mref 3,.mref 4])]⟩) (ids:=(Jt [0,1,2,3,4,16000,21000,22000,23000,24000,26000])) (λ_ _ _ _ _ f x3 x4 x5 j h=>?_);apply kI Z h<;>intro h
 .obtain⟨c13,h⟩:=D1 h;refine US Z (And.intro (And.intro c13.1 Hk) c13.2) 8000 (D7 (y3.g x5.toNat)) ?_;refine E4 Z Fb [5,11] ?_;refine Ak7 Gq (kt:=F8) (key:=PV.str (y3.g x5.toNat).Symbol) (z:=pI .i64 0) (y:=pI .i64 (HJ eqS (y3.g x5.toNat).Symbol (0:Int) x3).2.1) (es:=Dd PV.str (pI .i64) x3) (es':=Dd PV.str (pI .i64) (HJ eqS (y3.g x5.toNat).Symbol (0:Int) x3).2.2) (i:=(HJ eqS (y3.g x5.toNat).Symbol (0:Int) x3).1) (ND (kP:=PV.str) (vP:=pI .i64) (eq:=eqS) (λ_ _=>by kernel_rfl) (y3.g x5.toNat).Symbol 0 x3) Fb ?_;refine SJ Fb (i:=(HJ eqS (y3.g x5.toNat).Symbol (0:Int) x3).1) (y:=pI .i64 x5) (es:=Dd PV.str (pI .i64) (HJ eqS (y3.g x5.toNat).Symbol (0:Int) x3).2.2) (es':=Dd PV.str (pI .i64) (Df eqS (y3.g x5.toNat).Symbol x5 x3)) (by rw[Cp];exact JW eqS (y3.g x5.toNat).Symbol 0 x3) ((KK (HJ eqS (y3.g x5.toNat).Symbol (0:Int) x3).2.2 (HJ eqS (y3.g x5.toNat).Symbol (0:Int) x3).1 x5 (JW eqS (y3.g x5.toNat).Symbol 0 x3)).trans (congrArg (Dd PV.str (pI .i64)) (KL eqS (y3.g x5.toNat).Symbol 0 x5 x3))) ?_;refine Ak7 Fb (kt:=B6) (key:=(λx=>.agg (A0 x)) (y3.g x5.toNat).S) (z:=pI .i64 0) (y:=pI .i64 (HJ H1 (y3.g x5.toNat).S (0:Int) x4).2.1) (es:=Dd (λx=>.agg (A0 x)) (pI .i64) x4) (es':=Dd (λx=>.agg (A0 x)) (pI .i64) (HJ H1 (y3.g x5.toNat).S (0:Int) x4).2.2) (i:=(HJ H1 (y3.g x5.toNat).S (0:Int) x4).1) (ND (kP:=λx=>.agg (A0 x)) (vP:=pI .i64) (eq:=H1) (λ_ _=>by kernel_rfl) (y3.g x5.toNat).S 0 x4) (by decide +kernel:PO Tryz.prog B6=true) ?_;refine SJ Fb (i:=(HJ H1 (y3.g x5.toNat).S (0:Int) x4).1) (y:=pI .i64 x5) (es:=Dd (λx=>.agg (A0 x)) (pI .i64) (HJ H1 (y3.g x5.toNat).S (0:Int) x4).2.2) (es':=Dd (λx=>.agg (A0 x)) (pI .i64) (Df H1 (y3.g x5.toNat).S x5 x4)) (by rw[Cp];exact JW H1 (y3.g x5.toNat).S 0 x4) ((KK (HJ H1 (y3.g x5.toNat).S (0:Int) x4).2.2 (HJ H1 (y3.g x5.toNat).S (0:Int) x4).1 x5 (JW H1 (y3.g x5.toNat).S 0 x4)).trans (congrArg (Dd (λx=>.agg (A0 x)) (pI .i64)) (KL H1 (y3.g x5.toNat).S 0 x5 x4))) ?_;refine D6 Fb ?_;exact j _ (Jt [0,1,2,3,4,16000,21000,22000,23000,24000,26000]) _ (Df eqS (y3.g x5.toNat).Symbol x5 x3) (Df H1 (y3.g x5.toNat).S x5 x4) (wrap .i64 (x5+1)) Fb h
 obtain rfl:=A9 h;exact kO Z Fb [0,1,2,3,4,26000,22000,21000,23000,24000]
end Go.AM
namespace Go.AM
open Go.Proofs.Tryz
variable {N:Nat}
open IntKind (wrap)
open Go.Proofs
set_option maxRecDepth 10000
set_option maxHeartbeats 2000000
variable {S:V2}(Z:G8 S Tryz.prog) (Y:Kd S)
include Z Y
def Em (N:Nat)(a:B8):Option ((Option B1)×Int):= (Fr N a.Feats).bind λy1=>MX y1.1 (if (y1.2 != 0) then some (none,y1.2) else Y3 N (λb (x1:Int)=>if (decide (x1<(a.Sounds.n:Int))) then if ((0:Int)<=x1/\x1<(a.Sounds.n:Int))then (X9 N (a.Sounds.g x1.toNat).Symbol (a.Sounds.g x1.toNat).S).bind λy4=>if (y4 != 0) then some (none,y4) else b (wrap .i64 (x1+1)) else none else some (none,0)) 0) λz1=>if (y1.2 != 0) then some (none,y1.2) else fix6 N (λc (x2:Sl Str) (x3:List (Str×Int)) (x4:Sl K3) (x5:List (Str×Int)) (x6:List (Iu×Int)) (x7:Int)=>if (decide (x7<(a.Sounds.n:Int))) then if ((0:Int)<=x7/\x7<(a.Sounds.n:Int))then (Co N (⟨x2,x3,x4,x5,x6⟩:B1) (a.Sounds.g x7.toNat).Symbol (a.Sounds.g x7.toNat).S).bind λy7=>if (y7.1 != 0) then some (none,y7.1) else c y7.2.feats y7.2.number y7.2.sounds y7.2.symbols y7.2.values (wrap .i64 (x7+1)) else none else some (some (⟨x2,x3,x4,x5,x6⟩:B1),0)) z1.feats z1.number z1.sounds z1.symbols z1.values 0
theorem HE {a:B8}{y:(Option B1)×Int}(h:Em N a=some y) :FunO S Hw [.p (.agg (B2 a))] [] (.tup [MX y.1 (.p Aw0) λ_=>.reg 0 0,pN y.2]) (MX y.1 [] λo=>[(.cells [.p (vSl 1 cS o.feats),.mref 1,.vec 2,.mref 3,.mref 4]),oM PV.str (pI .i64) o.number,oV D2 3 D7 o.sounds true,oM PV.str (pI .i64) o.symbols,oM (λx=>.agg (A0 x)) (pI .i64) o.values]) []:=by
 unfold Em at h;refine A2 Z func101 ?_;obtain⟨y1,e1,h⟩:=A7 h;rcases o1:y1.1 with _|z1
 .replace h:=ZW o1 h;have w1:=(IC Z Y e1);simp only[o1,CL,ET,Bj7,Bg9,Bm7]at w1;refine B3 Z [] Fb w1 ?_;apply kI Z h<;>intro h
  .obtain rfl:=A9 h;exact kO Z Fb []
  refine R8 Z Fb h (λx1=>⟨[(21,pN x1),(20,pN (a.Sounds.n:Int)),(19,.p (vSl 3 D7 a.Sounds)),(4,.p Aw0)],[]⟩) (ids:=[]) (λ_ _ _ _ _ b x1 c h=>?_);apply kI Z h<;>intro h
  .obtain⟨c9,h⟩:=D1 h;obtain⟨y4,e4,h⟩:=A7 h;refine B3 Z [] (And.intro c9 Hk) (Hd Z Y e4) ?_;apply kI Z h<;>intro h
   .obtain rfl:=A9 h;exact kO Z Fb []
   exact c _ [] _ (wrap .i64 (x1+1)) Fb h
  obtain rfl:=A9 h;exact kO Z Fb []
 replace h:=YI o1 h;have w2:=(IC Z Y e1);simp only[o1,CL,ET,Bj7,Bg9,Bm7]at w2;refine B3 Z [] Fb w2 ?_;apply kI Z h<;>intro h
 .obtain rfl:=A9 h;exact kO Z Fb []
 refine AX1 Z Fb h (λx2 x3 x4 x5 x6 x7=>⟨[(21,pN x7),(20,pN (a.Sounds.n:Int)),(19,.p (vSl 3 D7 a.Sounds)),(4,.reg 13000 0)],[(13004,oM (λx=>.agg (A0 x)) (pI .i64) x6),(13003,oM PV.str (pI .i64) x5),(13001,oM PV.str (pI .i64) x3),(13000,.cells [.p (vSl 1 cS x2),.mref 13001,.vec 5500,.mref 13003,.mref 13004]),(5500,oV D2 3 D7 x4 true)]⟩) (ids:=[(5500,13002),(13000,13000),(13001,13001),(13003,13003),(13004,13004)]) (λ_ _ _ _ _ d x2 x3 x4 x5 x6 x7 f h=>?_);apply kI Z h<;>intro h
 .obtain⟨c19,h⟩:=D1 h;obtain⟨y7,e7,h⟩:=A7 h;refine B3 Z [13000,13001,5500,13003,13004] (And.intro c19 Hk) (Kf Z Y e7) ?_;apply kI Z h<;>intro h
  .obtain rfl:=A9 h;exact kO Z Fb []
  exact f _ [(5500,31002),(13000,13000),(13001,13001),(13003,13003),(13004,13004)] _ y7.2.feats y7.2.number y7.2.sounds y7.2.symbols y7.2.values (wrap .i64 (x7+1)) Fb h
 obtain rfl:=A9 h;exact kO Z Fb [13000,13001,5500,13003,13004]
def Eo (N:Nat)(a:Jh)(q0:Jh):Option Bool:= some ((a.Text==q0.Text) != false)
theorem Nq {a:Jh}{q0:Jh}{y:Bool}(h:Eo N a q0=some y) :FunO S Hz [.p (.agg (V7 a)),.p (.ptr (V7 q0))] [] (pB y) ([]) []:=by unfold Eo at h;refine A2 Z func146 ?_;cases h;exact kR Z
def I7 (N:Nat)(a:Sl Jh)(c:Jh->Option Bool):Option Int:= Y3 N (λb (x1:Int)=>if (decide (x1<(a.n:Int))) then if ((0:Int)<=x1/\x1<(a.n:Int))then (c (a.g x1.toNat)).bind λy3=>if y3 then some x1 else b (wrap .i64 (x1+1)) else none else some (-1)) 0
theorem AF {a:Sl Jh}{c:Jh->Option Bool}{kp_f:Nat}{cp_f_0:List PV}(d:∀{a0:Jh}{b:Bool},c a0=some b->FunO S kp_f [.p (.agg (V7 a0)),.p (.ptr cp_f_0)] [] (pB b) [] []){y:Int}(h:I7 N a c=some y) :FunO S O6 [.p (vSl 4 V7 a),.clo kp_f [] [.p (.ptr cp_f_0)]] [] (pN y) ([]) []:=by
 unfold I7 at h;refine A2 Z func185 ?_;refine R8 Z Fb h (λx1=>⟨[(8,pN x1),(7,pN (a.n:Int)),(1,.clo kp_f [] [.p (.ptr cp_f_0)]),(0,.p (vSl 4 V7 a))],[]⟩) (ids:=[]) (λ_ _ _ _ _ f x1 g h=>?_);apply kI Z h<;>intro h
 .obtain⟨c8,h⟩:=D1 h;obtain⟨y3,e3,h⟩:=A7 h;refine B3 Z [] (And.intro c8 Hx) (d e3) ?_;apply kI Z h<;>intro h
  .cases h;exact kR Z
  exact g _ [] _ (wrap .i64 (x1+1)) Fb h
 cases h;exact kR Z
def H0 (N:Nat)(a:Sl Jh)(b:Jh->Option Bool):Option Bool:= (I7 N a b).bind λy1=>some (decide (0<=y1))
theorem Z3 {a:Sl Jh}{c:Jh->Option Bool}{kp_f:Nat}{cp_f_0:List PV}(d:∀{a0:Jh}{b:Bool},c a0=some b->FunO S kp_f [.p (.agg (V7 a0)),.p (.ptr cp_f_0)] [] (pB b) [] []){y:Bool}(h:H0 N a c=some y) :FunO S N6 [.p (vSl 4 V7 a),.clo kp_f [] [.p (.ptr cp_f_0)]] [] (pB y) ([]) []:=by unfold H0 at h;refine A2 Z func145 ?_;refine kC Z h (AF Z Y (λe=>d e)) (λy1 h=>?_);cases h;exact kR Z
def FY (N:Nat)(c:B1)(a:Sl Jh):Option Int:= (Bz N c).bind λy1=>MX y1 (some 1) λz1=>if (decide (32<(a.n:Int))) then some 12 else (AE N z1).bind λy2=>if (0:Int)<=(y2.n:Int)then Y3 N (λb (x3:Int)=>if (decide (x3<(a.n:Int))) then if ((0:Int)<=x3/\x3<(a.n:Int))then lt (λ(z6:Bool)=>if z6 then some 15 else lt (λ(z7:Bool)=>if z7 then some 2 else if ((0:Int)<=x3/\x3<=(a.n:Int))then (H0 N (a.take x3.toNat) (λ(u3:Jh)=>Eo N u3 (a.g x3.toNat))).bind λd=>if d then some 6 else b (wrap .i64 (x3+1)) else none) λk6=>if ((O9 .and .u32 (O9 .or .u32 (a.g x3.toNat).Clear (O9 .or .u32 (a.g x3.toNat).Set.Plus (a.g x3.toNat).Set.Minus)) (O9 .xor .u32 4294967295 (wrap .u32 ((shI .shl .u32 1 (y2.n:Int))-1)))) != 0) then k6 true else if ((O9 .and .u32 (a.g x3.toNat).Clear (O9 .or .u32 (a.g x3.toNat).Set.Plus (a.g x3.toNat).Set.Minus)) != 0) then k6 true else (H8 N (a.g x3.toNat).Set).bind λf=>k6 (!f)) λk5=>if (((a.g x3.toNat).Text==[]) != false) then k5 true else if (decide (3<((a.g x3.toNat).Text.length:Int))) then k5 true else (DH N (a.g x3.toNat).Text [58,39,34,126,94,95,61,96]).bind λi=>k5 ((i==[]) != true) else none else (K7 N a).bind λj=>some 0) 0 else none
theorem QI {b:B1}{a:Sl Jh}{y:Int}(h:FY N b a=some y) :FunO S FR [.reg 0 0,.p (vSl 4 V7 a)] [.cells [.p (vSl 1 cS b.feats),.mref 1,.vec 2,.mref 3,.mref 4],oM PV.str (pI .i64) b.number,oV D2 3 D7 b.sounds true,oM PV.str (pI .i64) b.symbols,oM (λx=>.agg (A0 x)) (pI .i64) b.values] (.tup [.top,pN y]) ([.cells [.p (vSl 1 cS b.feats),.mref 1,.vec 2,.mref 3,.mref 4],oM PV.str (pI .i64) b.number,oV D2 3 D7 b.sounds true,oM PV.str (pI .i64) b.symbols,oM (λx=>.agg (A0 x)) (pI .i64) b.values]) [true,true,true,true,true]:=by
 unfold FY at h;refine A2 Z func102 ?_;obtain⟨y1,e1,h⟩:=A7 h;rcases o1:y1 with _|z1
 .replace h:=ZW o1 h;have w1:=(Ew Z Y e1);simp only[o1,CL,ET,Bj7,Bg9,Bm7]at w1;refine B3 Z [0,1,2,3,4] Fb w1 ?_;obtain rfl:=A9 h;exact kO Z Fb [0,1,2,3,4]
 replace h:=YI o1 h;have w2:=(Ew Z Y e1);simp only[o1,CL,ET,Bj7,Bg9,Bm7]at w2;refine B3 Z [0,1,2,3,4] Fb w2 ?_;apply kI Z h<;>intro h
 .obtain rfl:=A9 h;exact kO Z Fb [0,1,2,3,4]
 obtain⟨y2,e2,h⟩:=A7 h;refine B3 Z [13005,13006,13007,13008,13009] Fb (ID Z Y e2) ?_;obtain⟨c2,h⟩:=D1 h;refine R8 Z c2 h (λx3=>⟨[(26,pN x3),(25,pN (a.n:Int)),(24,.p (vSl 4 V7 a)),(7,pU (O9 .xor .u32 4294967295 (wrap .u32 ((shI .shl .u32 1 (y2.n:Int))-1)))),(6,.reg 13005 0),(1,.p (vSl 4 V7 a))],[(13009,oM (λx=>.agg (A0 x)) (pI .i64) z1.values),(13008,oM PV.str (pI .i64) z1.symbols),(13007,oV D2 3 D7 z1.sounds true),(13006,oM PV.str (pI .i64) z1.number),(13005,.cells [.p (vSl 1 cS z1.feats),.mref 13006,.vec 13007,.mref 13008,.mref 13009]),(4,oM (λx=>.agg (A0 x)) (pI .i64) b.values),(3,oM PV.str (pI .i64) b.symbols),(2,oV D2 3 D7 b.sounds true),(1,oM PV.str (pI .i64) b.number),(0,.cells [.p (vSl 1 cS b.feats),.mref 1,.vec 2,.mref 3,.mref 4])]⟩) (ids:=(Jt [0,1,2,3,4,13005,13006,13007,13008,13009])) (λ_ _ _ _ _ f x3 i h=>?_);apply kI Z h<;>intro h
 .obtain⟨c40,h⟩:=D1 h;refine LO Z (And.intro c40 Hx) (A4 Z) h 0 (λz6=>⟨[(38,pB z6),(26,pN x3),(25,pN (a.n:Int)),(24,.p (vSl 4 V7 a)),(10,pU (O9 .or .u32 (a.g x3.toNat).Set.Plus (a.g x3.toNat).Set.Minus)),(9,.reg 10000 0),(8,pN x3),(7,pU (O9 .xor .u32 4294967295 (wrap .u32 ((shI .shl .u32 1 (y2.n:Int))-1)))),(6,.reg 13005 0),(1,.p (vSl 4 V7 a))],[(13009,oM (λx=>.agg (A0 x)) (pI .i64) z1.values),(13008,oM PV.str (pI .i64) z1.symbols),(13007,oV D2 3 D7 z1.sounds true),(13006,oM PV.str (pI .i64) z1.number),(13005,.cells [.p (vSl 1 cS z1.feats),.mref 13006,.vec 13007,.mref 13008,.mref 13009]),(10000,.cells ((V7 (a.g x3.toNat)).map .p)),(4,oM (λx=>.agg (A0 x)) (pI .i64) b.values),(3,oM PV.str (pI .i64) b.symbols),(2,oV D2 3 D7 b.sounds true),(1,oM PV.str (pI .i64) b.number),(0,.cells [.p (vSl 1 cS b.feats),.mref 1,.vec 2,.mref 3,.mref 4])]⟩) (λM5 k5 c h=>?_) (λz6 h=>?_)
  .refine kG Z h (λh=>?_) (λh=>?_)
   .exact c _ (Jt [0,1,2,3,4,10000,13005,13006,13007,13008,13009]) _ true Fb h
   refine kG Z h (λh=>?_) (λh=>?_)
   .exact c _ (Jt [0,1,2,3,4,10000,13005,13006,13007,13008,13009]) _ true Fb h
   refine kC Z h (JB Z Y) (λj h=>?_);exact c _ (Jt [0,1,2,3,4,10000,13005,13006,13007,13008,13009]) _ ((j==[]) != true) Fb h
  apply kI Z h<;>intro h
  .obtain rfl:=A9 h;exact kO Z Fb [0,1,2,3,4]
  refine LO Z Fb (A4 Z) h 0 (λz7=>⟨[(54,pB z7),(26,pN x3),(25,pN (a.n:Int)),(24,.p (vSl 4 V7 a)),(9,.reg 10000 0),(8,pN x3),(7,pU (O9 .xor .u32 4294967295 (wrap .u32 ((shI .shl .u32 1 (y2.n:Int))-1)))),(6,.reg 13005 0),(1,.p (vSl 4 V7 a))],[(13009,oM (λx=>.agg (A0 x)) (pI .i64) z1.values),(13008,oM PV.str (pI .i64) z1.symbols),(13007,oV D2 3 D7 z1.sounds true),(13006,oM PV.str (pI .i64) z1.number),(13005,.cells [.p (vSl 1 cS z1.feats),.mref 13006,.vec 13007,.mref 13008,.mref 13009]),(10000,.cells ((V7 (a.g x3.toNat)).map .p)),(4,oM (λx=>.agg (A0 x)) (pI .i64) b.values),(3,oM PV.str (pI .i64) b.symbols),(2,oV D2 3 D7 b.sounds true),(1,oM PV.str (pI .i64) b.number),(0,.cells [.p (vSl 1 cS b.feats),.mref 1,.vec 2,.mref 3,.mref 4])]⟩) (λM6 k6 d h=>?_) (λz7 h=>?_)
  .refine kG Z h (λh=>?_) (λh=>?_)
   .exact d _ (Jt [0,1,2,3,4,10000,13005,13006,13007,13008,13009]) _ true Fb h
   refine kG Z h (λh=>?_) (λh=>?_)
   .exact d _ (Jt [0,1,2,3,4,10000,13005,13006,13007,13008,13009]) _ true Fb h
   refine kC Z h (Q4 Z Y) (λl h=>?_);exact d _ (Jt [0,1,2,3,4,10000,13005,13006,13007,13008,13009]) _ (!l) Fb h
  apply kI Z h<;>intro h
  .obtain rfl:=A9 h;exact kO Z Fb [0,1,2,3,4]
  obtain⟨c55,h⟩:=D1 h;refine F9 Z c55 79 10000 (V7 (a.g x3.toNat)) ?_;refine kC Z h (Z3 Z Y (λe=>Nq Z Y e)) (λm h=>?_);apply kI Z h<;>intro h
  .obtain rfl:=A9 h;exact kO Z Fb [0,1,2,3,4]
  exact i _ (Jt [0,1,2,3,4,13005,13006,13007,13008,13009]) _ (wrap .i64 (x3+1)) Fb h
 refine kC Z h (Cn Z Y) (λo h=>?_);obtain rfl:=A9 h;exact kO Z Fb [0,1,2,3,4]
def CY (N:Nat)(a:Sl Jh):Option Int:= (W3 N ).bind λy1=>some 1
theorem Lr {a:Sl Jh}{y:Int}(h:CY N a=some y) :FunO S FR [.p Aw0,.p (vSl 4 V7 a)] [] (.tup [.top,pN y]) ([]) []:=by unfold CY at h;refine A2 Z func102 ?_;refine kC Z h (Gy Z Y) (λy1 h=>?_);obtain rfl:=A9 h;exact kO Z Fb []
def Eb (N:Nat)(a:B8):Option Int:= (Em N a).bind λy1=>MX y1.1 (if (y1.2 != 0) then some y1.2 else (CY N a.Marks).bind λy2=>if (y2 != 0) then some y2 else some 0) λz1=>if (y1.2 != 0) then some y1.2 else (FY N z1 a.Marks).bind λy3=>if (y3 != 0) then some y3 else some 0
theorem VM {a:B8}{y:Int}(h:Eb N a=some y) :FunO S MB [.p (.agg (B2 a))] [] (.tup [.top,.top,pN y]) ([]) []:=by
 unfold Eb at h;refine A2 Z func63 ?_;obtain⟨y1,e1,h⟩:=A7 h;rcases o1:y1.1 with _|z1
 .replace h:=ZW o1 h;have w1:=(HE Z Y e1);simp only[o1,CL,ET,Bj7,Bg9,Bm7]at w1;refine B3 Z [] Fb w1 ?_;apply kI Z h<;>intro h
  .obtain rfl:=A9 h;exact kO Z Fb []
  refine kC Z h (Lr Z Y) (λy2 h=>?_);apply kI Z h<;>intro h
  .obtain rfl:=A9 h;exact kO Z Fb []
  obtain rfl:=A9 h;exact kO Z Fb []
 replace h:=YI o1 h;have w2:=(HE Z Y e1);simp only[o1,CL,ET,Bj7,Bg9,Bm7]at w2;refine B3 Z [] Fb w2 ?_;apply kI Z h<;>intro h
 .obtain rfl:=A9 h;exact kO Z Fb []
 obtain⟨y3,e3,h⟩:=A7 h;refine B3 Z [11000,11001,11002,11003,11004] Fb (QI Z Y e3) ?_;apply kI Z h<;>intro h
 .obtain rfl:=A9 h;exact kO Z Fb []
 obtain rfl:=A9 h;exact kO Z Fb []
def X1 (N:Nat)(a:B8):Option Int:= (Eb N a).bind λy1=>if (y1 != 0) then some y1 else (U4 N a.History a.Protos a.Entries).bind λy2=>some y2
theorem FL {a:B8}{y:Int}(h:X1 N a=some y) :FunO S Mx [.p (.agg (B2 a))] [] (pN y) ([]) []:=by
 unfold X1 at h;refine A2 Z func30 ?_;refine kC Z h (VM Z Y) (λy1 h=>?_);apply kI Z h<;>intro h
 .cases h;exact kR Z
 refine kC Z h (JG Z Y) (λy2 h=>?_);cases h;exact kR Z
end Go.AM
namespace Go.AM
open Go.Proofs.Tryz
variable {N:Nat}
open IntKind (wrap)
open Go.Proofs
set_option maxRecDepth 10000
set_option maxHeartbeats 2000000
variable {S:V2}(Z:G8 S Tryz.prog) (Y:Kd S)
theorem Ba1 {T:Type}{e:TypeId}{k:Nat}{c:T->List PV}{X:Sl (Sl T)}{z:Sl T}:∀q,q<X.n+1->(λq=>if q=X.n then Fm e k c z else Fm e k c (X.g q)) q=(λq=>Fm e k c ((X.push z).g q)) q:=λq a=>by
 show (if q=X.n then Fm e k c z else Fm e k c (X.g q))=Fm e k c (if q<X.n then X.g q else z);by_cases h:q=X.n
 .rw[Dq h,Ej (by omega)]
 rw[Ej h,Dq (by omega)]
theorem AP4 {T:Type}{e:TypeId}{k n i:Nat}{c:T->List PV}{X:Sl (Sl T)}{z:Sl T}:∀q,q<n->(QO (if q=i then Fm e k c z else if q=i then Obj.dead else Fm e k c (X.g q))).isSome=true:=λq _=>by
 by_cases h:q=i
 .rw[Dq h];rfl
 rw[Ej h,Ej h];rfl
theorem Ba2 {T:Type}{e:TypeId}{k n i:Nat}{c:T->List PV}{X:Sl (Sl T)}{z:Sl T}:∀q,q<n->[(QO (if q=i then Fm e k c z else if q=i then Obj.dead else Fm e k c (X.g q))).getD default]=cL k c ((X.upd i z).g q):=λq _=>by
 show _=cL k c (if q=i then z else X.g q);by_cases h:q=i
 .rw[Dq h,Dq h];rfl
 rw[Ej h,Ej h,Ej h];rfl
include Z Y
def K8 (N:Nat)(s:Sl Node):Option (Sl Node):=if (0+s.n)*24<=140737488355328/\0+s.n<=140737488355328 then some s else none
theorem Cq {s y:Sl Node}(h:K8 N s=some y):FunO S S1 [.p (vSl 2 C7 s)] [] (.vec 0) [.vec O0 2 y.n (λi=>C7 (y.g i)) true] []:=by
 unfold K8 at h;obtain⟨c1,h⟩:=D1 h;obtain rfl:=A9 h;refine A2 Z func103 ?_;refine UR Z Fb 3 (k:=2) (n:=s.n) (f:=λi=>C7 (s.g i)) (λa=>?_) ?_
 .obtain⟨n,g⟩:=s;obtain rfl:n=0:=a;exact kO Z Fb [3700]
 exact kO Z (And.intro Ik c1) [8000]
  (hle:=kl1 0 (AH0 C7 s [pI .i64 0,.str []]))
def U6 (N:Nat)(s:Sl Int):Option (Sl Int):=if (0+s.n)*8<=140737488355328/\0+s.n<=140737488355328 then some s else none
theorem FZ {s y:Sl Int}(h:U6 N s=some y):FunO S BJ [.p (vSl 1 (cI .i64) s)] [] (.vec 0) [.vec E5 1 y.n (λi=>cI .i64 (y.g i)) false] []:=by
 unfold U6 at h;obtain⟨c1,h⟩:=D1 h;obtain rfl:=A9 h;refine A2 Z func104 ?_;refine UR Z Fb 3 (k:=1) (n:=s.n) (f:=λi=>cI .i64 (s.g i)) (λa=>?_) ?_
 .obtain⟨n,g⟩:=s;obtain rfl:n=0:=a;exact kO Z Fb [3700]
 exact kO Z (And.intro Ik c1) [8000]
  (hle:=kl1 0 (AH0 (cI .i64) s [pI .i64 0]))
def K0 (N:Nat)(c:History)(b:Int)(a:Int):Option (History×Int):= (J9 N c).bind λy1=>if (y1 != 0) then some ((⟨(Sl.nil:Sl Node),(Sl.nil:Sl Law),(Sl.nil:Sl (Sl Int))⟩:History),y1) else (U3 N c b).bind λy2=>if ((!y2)=false->((decide (a<0))=false->((0:Int)<=b/\b<(c.On.n:Int))))then if (((!y2)||(decide (a<0)))||(decide ((wrap .i64 (((c.On.g b.toNat).n:Int)-1))<=a))) then some ((⟨(Sl.nil:Sl Node),(Sl.nil:Sl Law),(Sl.nil:Sl (Sl Int))⟩:History),3) else (K8 N c.Tree).bind λy3=>Bj N (λd (x1:Sl Law) (x2:Int)=>if (decide (x2<(c.Laws.n:Int))) then if ((0:Int)<=x2/\x2<(c.Laws.n:Int))then (T2 N (c.Laws.g x2.toNat)).bind λy6=>if (Kb 200 (x1.n+(Sl.of [y6]:Sl Law).n))then d (x1.push y6) (wrap .i64 (x2+1)) else none else none else Bj N (λf (x3:Sl (Sl Int)) (x4:Int)=>if (decide (x4<(c.On.n:Int))) then if ((0:Int)<=x4/\x4<(c.On.n:Int))then (U6 N (c.On.g x4.toNat)).bind λy9=>if (Kb 24 (x3.n+(Sl.of [y9]:Sl (Sl Int)).n))then f (x3.push y9) (wrap .i64 (x4+1)) else none else none else if b.toNat<x3.n then if (((0:Int)<=b/\b<(x3.n:Int))/\((0:Int)<=a/\a<((x3.g b.toNat).n:Int))/\((0:Int)<=(wrap .i64 (a+1))/\(wrap .i64 (a+1))<((x3.g b.toNat).n:Int)))then some ((⟨y3,x1,x3.upd b.toNat (((x3.g b.toNat).upd a.toNat ((x3.g b.toNat).g (wrap .i64 (a+1)).toNat)).upd (wrap .i64 (a+1)).toNat ((x3.g b.toNat).g a.toNat))⟩:History),0) else none else none) (Sl.nil:Sl (Sl Int)) 0) (Sl.nil:Sl Law) 0 else none
theorem JH {j:History}{f:Int}{d:Int}{y:History×Int}(h:K0 N j f d=some y) :FunO S Jo [.p (.agg (A8 j)),pN f,pN d] [] (.tup [.p (.agg (A8 y.1)),pN y.2]) ([]) []:=by
 unfold K0 at h;refine A2 Z func64 ?_;refine F9 Z Fb 6 4000 (A8 j) ?_;obtain⟨y1,e1,h⟩:=A7 h;refine B3 Z [] Hk (CV Z Y e1) ?_;apply kI Z h<;>intro h
 .obtain rfl:=A9 h;exact J5 Z Fb ⟨[(7,pN y1),(6,.reg 7000 0)],[(7000,.cells [.p (vSl 2 C7 (Sl.nil:Sl Node)),.p (vSl 18 B4 (Sl.nil:Sl Law)),.p (vSl 1 (cL 1 (cI .i64)) (Sl.nil:Sl (Sl Int)))])]⟩ [] (ids:=[(7000,7000)]) ⟨rfl,rfl,rfl⟩
 obtain⟨y2,e2,h⟩:=A7 h;refine B3 Z [] Hk (FX Z Y e2) ?_;obtain⟨c2,h⟩:=D1 h;refine kB Z (A4 Z) Fb c2 14 (.o (.o (.a (!y2)) (.a (decide (d<0)))) (.a (decide ((wrap .i64 (((j.On.g f.toNat).n:Int)-1))<=d)))) ?_;apply kI Z h<;>intro h
 .obtain rfl:=A9 h;exact J5 Z Fb ⟨[(7,pN 3),(6,.reg 7000 0)],[(7000,.cells [.p (vSl 2 C7 (Sl.nil:Sl Node)),.p (vSl 18 B4 (Sl.nil:Sl Law)),.p (vSl 1 (cL 1 (cI .i64)) (Sl.nil:Sl (Sl Int)))])]⟩ [] (ids:=[(7000,7000)]) ⟨rfl,rfl,rfl⟩
 refine kC Z h (Cq Z Y) (λy3 h=>?_);refine H3 Z Fb h (λx1 x2=>⟨[(48,pN x2),(47,pN (j.Laws.n:Int)),(46,.p (vSl 18 B4 j.Laws)),(9,.reg 10000 0),(6,.reg 7000 0),(3,.p (.ptr (A8 j))),(2,pN d),(1,pN f)],[(44000,oV O0 2 C7 y3 true),(10500,oV H6 18 B4 x1 false),(10000,.cells [.vec 44000,.vec 10500,.p C8]),(7000,.cells [.p C8,.p C8,.p C8])]⟩) (ids:=(Jt [7000,10000,44000])) (λ_ _ _ _ _ m x1 x2 r h=>?_);apply kI Z h<;>intro h
 .obtain⟨c11,h⟩:=D1 h;refine US Z (And.intro c11 Ii) 12000 (B4 (j.Laws.g x2.toNat)) ?_;refine E4 Z Fb [2,3] ?_;obtain⟨y6,e6,h⟩:=A7 h;refine G5 Ii (HD Z Y e6) ?_;refine N0 Fb (x:=.sl true 18 1 (H9 [.str [],pI .i64 0,pI .u32 0,pI .u32 0,.v (.bool false),pI .i64 0,pI .i64 0,C8,pI .i64 0,pI .u32 0,pI .u32 0,.v (.bool false),pI .i64 0,pI .i64 0,C8,C8,C8,pI .i64 0] [(0,B4 y6)])) ?_;obtain⟨c12,h⟩:=D1 h;refine D6 c12 ?_;exact r _ [(7000,7000),(10000,10000),(10500,58000),(44000,44000)] _ (x1.push y6) (wrap .i64 (x2+1)) Fb h (hle:=kl1 7 (W6 B4 x1 y6 [.str [],pI .i64 0,pI .u32 0,pI .u32 0,.v (.bool false),pI .i64 0,pI .i64 0,C8,pI .i64 0,pI .u32 0,pI .u32 0,.v (.bool false),pI .i64 0,pI .i64 0,C8,C8,C8,pI .i64 0]))
 refine O4 Z Fb 60 ⟨[(9,.reg 10000 0),(6,.reg 7000 0),(3,.p (.ptr (A8 j))),(2,pN d),(1,pN f)],[(44000,oV O0 2 C7 y3 true),(10501,.vec FH 1 0 (λ_=>[]) false),(10500,oV H6 18 B4 x1 false),(10000,.cells [.vec 44000,.vec 10500,.vec 10501]),(7000,.cells [.p C8,.p C8,.p C8])]⟩ (ids:=(Jt [7000,10000,10500,44000])) ?_;refine EW Z Fb 60 (.fam 10501 10901 λi=>Fm E5 1 (cI .i64) ((Sl.nil:Sl (Sl Int)).g i)) (⟨by decide,λi u=>Er u (Bf5 i)⟩:1000<=10901/\∀i,i<0->QR ((λ_=>[]) i) (Fm E5 1 (cI .i64) ((Sl.nil:Sl (Sl Int)).g i))) ?_;refine H3 Z Fb h (λx3 x4=>⟨[(63,pN x4),(62,pN (j.On.n:Int)),(61,.p (vSl 1 (cL 1 (cI .i64)) j.On)),(9,.reg 10000 0),(6,.reg 7000 0),(2,pN d),(1,pN f)],[(44000,oV O0 2 C7 y3 true),(10901,.rows x3.n λi=>Fm E5 1 (cI .i64) (x3.g i)),(10501,.fam FH x3.n 10901 none),(10500,oV H6 18 B4 x1 false),(10000,.cells [.vec 44000,.vec 10500,.vec 10501]),(7000,.cells [.p C8,.p C8,.p C8])]⟩) (ids:=(Jt [7000,10000,10500,10501,10901,44000])) (λ_ _ _ _ _ s x3 x4 t h=>?_);apply kI Z h<;>intro h
 .obtain⟨c20,h⟩:=D1 h;refine G4 Z c20 [(1,.l [10000]),(3,.b [71000]),(4,.b [72000,71000])] ?_;obtain⟨y9,e9,h⟩:=A7 h;refine Ov [] Fb (FZ Z Y e9) ?_;obtain⟨c21,h⟩:=D1 h;refine D6 c21 ?_;refine EW Z Fb 74 (.psh 73000 10902) (⟨by decide,rfl,rfl⟩:1000<=10902/\x3.n+1=x3.n+1/\x3.n=x3.n) ?_;exact t _ [(7000,7000),(10000,10000),(10500,10500),(10501,73000),(10901,10902),(44000,44000)] _ (x3.push y9) (wrap .i64 (x4+1)) Fb h (hle:=klR [(7,.ob (x3.n+1) (λq=>if q=x3.n then Fm E5 1 (cI .i64) y9 else Fm E5 1 (cI .i64) (x3.g q)) (λi=>Fm E5 1 (cI .i64) ((x3.push y9).g i)))] (al1 Ba1 al0))
 obtain⟨cT,h⟩:=D1 h;obtain⟨⟨c30,c31,c32⟩,h⟩:=D1 h;refine EW Z Fb 75 (.take 10501 f.toNat 10801) (⟨⟨by decide,rfl⟩,cT⟩:(1000<=10801/\x3.n=x3.n)/\f.toNat<x3.n) ?_;refine G4 Z (And.intro c30 (And.intro cT (rfl:f.toNat=f.toNat))) [(8,.l [10801]),(9,.l [10801]),(12,.l [10801]),(13,.l [10801]),(14,.l [10801]),(15,.a [10801]),(16,.l [10801]),(17,.a [10801])] ?_;have l1:(wrap .i64 (d+1)).toNat<(x3.g f.toNat).n:=by omega
 have l2:d.toNat<(x3.g f.toNat).n:=by omega
 refine D6 (And.intro (And.intro (And.intro (And.intro (And.intro (And.intro (And.intro c32 l1) c31) l2) c31) (And.intro (rfl:(1:Nat)=1) (And.intro l2 Fd))) c32) (And.intro (rfl:(1:Nat)=1) (And.intro l1 Fd))) ?_;refine O4 Z Fb 96 ⟨[(9,.reg 10000 0),(6,.reg 7000 0)],[(44000,oV O0 2 C7 y3 true),(10901,(.rows x3.n λl=>if l=f.toNat then .dead else Fm E5 1 (cI .i64) (x3.g l))),(10801,Fm E5 1 (cI .i64) (((x3.g f.toNat).upd d.toNat ((x3.g f.toNat).g (wrap .i64 (d+1)).toNat)).upd (wrap .i64 (d+1)).toNat ((x3.g f.toNat).g d.toNat))),(10501,.fam FH x3.n 10901 (some (f.toNat,.vec 10801))),(10500,oV H6 18 B4 x1 false),(10000,.cells [.vec 44000,.vec 10500,.vec 10501]),(7000,.cells [.p C8,.p C8,.p C8])]⟩ (ids:=(Jt [7000,10000,10500,10501,10801,10901,44000])) ?_ (hle:=klR [(3,.fn (x3.g f.toNat).n (((x3.g f.toNat).upd d.toNat ((x3.g f.toNat).g (wrap .i64 (d+1)).toNat)).upd (wrap .i64 (d+1)).toNat ((x3.g f.toNat).g d.toNat)).n (λl=>if l=(wrap .i64 (d+1)).toNat then splice ((λl=>if l=d.toNat then splice ((λi=>cI .i64 ((x3.g f.toNat).g i)) l) 0 [pI .i64 ((x3.g f.toNat).g (wrap .i64 (d+1)).toNat)]else (λi=>cI .i64 ((x3.g f.toNat).g i)) l) l) 0 [pI .i64 ((x3.g f.toNat).g d.toNat)]else (λl=>if l=d.toNat then splice ((λi=>cI .i64 ((x3.g f.toNat).g i)) l) 0 [pI .i64 ((x3.g f.toNat).g (wrap .i64 (d+1)).toNat)]else (λi=>cI .i64 ((x3.g f.toNat).g i)) l) l) (λi=>cI .i64 ((((x3.g f.toNat).upd d.toNat ((x3.g f.toNat).g (wrap .i64 (d+1)).toNat)).upd (wrap .i64 (d+1)).toNat ((x3.g f.toNat).g d.toNat)).g i)))] (al1 ⟨rfl,AS6 (c:=cI .i64) (v:=(x3.g f.toNat).upd d.toNat ((x3.g f.toNat).g (wrap .i64 (d+1)).toNat)) (x:=(x3.g f.toNat).g d.toNat) (AS6 (c:=cI .i64) (v:=x3.g f.toNat) (x:=(x3.g f.toNat).g (wrap .i64 (d+1)).toNat) same (λ_=>by first|rfl|(dsimp only;split<;>rfl))) (λ_=>by first|rfl|(dsimp only;split<;>rfl))⟩ al0));refine EW Z Fb 96 (.put 10501 10902) (⟨⟨by decide,rfl⟩,cT⟩:(1000<=10902/\x3.n=x3.n)/\f.toNat<x3.n) ?_;refine EW Z Fb 96 (.pub 10501) (⟨rfl,AP4⟩:x3.n=x3.n/\∀q,q<x3.n->(QO (if q=f.toNat then Fm E5 1 (cI .i64) (((x3.g f.toNat).upd d.toNat ((x3.g f.toNat).g (wrap .i64 (d+1)).toNat)).upd (wrap .i64 (d+1)).toNat ((x3.g f.toNat).g d.toNat))else if q=f.toNat then Obj.dead else Fm E5 1 (cI .i64) (x3.g q))).isSome=true) ?_;obtain rfl:=A9 h;exact J5 Z Fb ⟨[(7,pN 0),(6,.reg 7000 0)],[(7000,.cells [.p (vSl 2 C7 y3),.p (vSl 18 B4 x1),.p (vSl 1 (cL 1 (cI .i64)) (x3.upd f.toNat (((x3.g f.toNat).upd d.toNat ((x3.g f.toNat).g (wrap .i64 (d+1)).toNat)).upd (wrap .i64 (d+1)).toNat ((x3.g f.toNat).g d.toNat))))])]⟩ [] (ids:=[(7000,7000)]) ⟨rfl,rfl,rfl⟩ (hle:=klR [(3,.fn x3.n (x3.upd f.toNat (((x3.g f.toNat).upd d.toNat ((x3.g f.toNat).g (wrap .i64 (d+1)).toNat)).upd (wrap .i64 (d+1)).toNat ((x3.g f.toNat).g d.toNat))).n (λq=>[(QO (if q=f.toNat then Fm E5 1 (cI .i64) (((x3.g f.toNat).upd d.toNat ((x3.g f.toNat).g (wrap .i64 (d+1)).toNat)).upd (wrap .i64 (d+1)).toNat ((x3.g f.toNat).g d.toNat))else if q=f.toNat then Obj.dead else Fm E5 1 (cI .i64) (x3.g q))).getD default]) (λi=>cL 1 (cI .i64) ((x3.upd f.toNat (((x3.g f.toNat).upd d.toNat ((x3.g f.toNat).g (wrap .i64 (d+1)).toNat)).upd (wrap .i64 (d+1)).toNat ((x3.g f.toNat).g d.toNat))).g i)))] (al1 ⟨rfl,Ba2⟩ al0))
end Go.AM
namespace Go.AM
open Go.Proofs.Tryz
variable {N:Nat}
open IntKind (wrap)
open Go.Proofs
set_option maxRecDepth 10000
set_option maxHeartbeats 2000000
variable {S:V2}(Z:G8 S Tryz.prog) (Y:Kd S)
include Z Y
def CZ (N:Nat)(b:B8)(a:Int):Option Int:= (X1 N b).bind λy1=>if (y1 != 0) then some y1 else if ((decide (a<0))||(decide (1073741824<a))) then some 2 else some 0
theorem Ls {c:B8}{b:Int}{y:Int}(h:CZ N c b=some y) :FunO S KQ [.p (.agg (B2 c)),pN b] [] (pN y) ([]) []:=by
 unfold CZ at h;refine A2 Z func25 ?_;refine kC Z h (FL Z Y) (λy1 h=>?_);apply kI Z h<;>intro h
 .cases h;exact kR Z
 refine kB Z (A4 Z) Fb Fb 3 (.o (.a (decide (b<0))) (.a (decide (1073741824<b)))) ?_;apply kI Z h<;>intro h
 .cases h;exact kR Z
 cases h;exact kR Z
def G3 (N:Nat)(b:Sl Law)(a:H4)(c:H4):Option Bool:= if ((!a.Has)||(!c.Has)) then some false else (S5 N b a.W).bind λy1=>lt (λ(z1:Bool)=>some z1) λk1=>if (y1.2==0) then (W9 N y1.1 c.W).bind λy3=>k1 y3 else k1 false
theorem AG {c:Sl Law}{b:H4}{d:H4}{y:Bool}(h:G3 N c b d=some y) :FunO S Ic [.p (vSl 18 B4 c),.p (.agg (F5 b)),.p (.agg (F5 d))] [] (pB y) ([]) []:=by
 unfold G3 at h;refine A2 Z func32 ?_;refine kB Z (A4 Z) Fb Fb 4 (.o (.a (!b.Has)) (.a (!d.Has))) ?_;apply kI Z h<;>intro h
 .cases h;exact kR Z
 refine kC Z h (Fl Z Y) (λy1 h=>?_);refine LO Z Fb (A4 Z) h 0 (λz1=>⟨[(6,pB z1)],[]⟩) (λM1 k1 f h=>?_) (λz1 h=>?_)
 .refine kG Z h (λh=>?_) (λh=>?_)
  .refine kC Z h (MM Z Y) (λy3 h=>?_);exact f _ [] _ y3 Fb h
  exact f _ [] _ false Fb h
 cases h;exact kR Z
def N3 (N:Nat)(b:History):Option (Sl (Sl Law)):= (T8 N b.Tree).bind λy1=>Bj N (λa (x1:Sl (Sl Law)) (x2:Int)=>if (decide (x2<(y1.1.n:Int))) then if (((0:Int)<=x2/\x2<(y1.1.n:Int))/\x2.toNat<y1.1.n)then (Q8 N b (y1.1.g x2.toNat)).bind λy4=>if (Kb 24 (x1.n+(Sl.of [y4.1]:Sl (Sl Law)).n))then a (x1.push y4.1) (wrap .i64 (x2+1)) else none else none else some x1) (Sl.nil:Sl (Sl Law)) 0
theorem Da {a:History}{y:Sl (Sl Law)}(h:N3 N a=some y) :FunO S KS [.p (.agg (A8 a))] [] (.p (vSl 1 (cL 18 B4) y)) ([]) []:=by
 unfold N3 at h;refine A2 Z func33 ?_;refine kC Z h (EC Z Y) (λy1 h=>?_);refine H3 Z Fb h (λx1 x2=>⟨[(18,pN x2),(17,pN (y1.1.n:Int)),(16,.vec 14000),(5,.vec 6500),(1,.reg 2000 0)],[(14000,oV E5 1 (cI .i64) y1.1 true),(6500,oV DQ 1 (cL 18 B4) x1 false),(2000,.cells ((A8 a).map .p))]⟩) (ids:=(Jt [2000,14000])) (λ_ _ _ _ _ b x1 x2 c h=>?_);apply kI Z h<;>intro h
 .obtain⟨c6,h⟩:=D1 h;obtain⟨y4,e4,h⟩:=A7 h;refine B3 Z [] c6 (QE Z Y e4) ?_;obtain⟨c7,h⟩:=D1 h;exact c _ [(2000,2000),(6500,32000),(14000,14000)] _ (x1.push y4.1) (wrap .i64 (x2+1)) (And.intro Ik c7) h (hle:=kl1 3 (W6 (cL 18 B4) x1 y4.1 [C8]))
 obtain rfl:=A9 h;exact kO Z Fb []
def Fs (N:Nat)(c:B8)(a:Int)(b:Int):Option Bool:= if ((decide (0<=a))=true->((decide (a<(c.Entries.n:Int)))=true->((decide (0<=b))=true->((0:Int)<=a/\a<(c.Entries.n:Int)))))then some ((((decide (0<=a))&&(decide (a<(c.Entries.n:Int))))&&(decide (0<=b)))&&(decide (b<((c.Entries.g a.toNat).Forms.n:Int)))) else none
theorem Pw {d:B8}{b:Int}{c:Int}{y:Bool}(h:Fs N d b c=some y) :FunO S ON [.p (.agg (B2 d)),pN b,pN c] [] (pB y) ([]) []:=by unfold Fs at h;refine A2 Z func46 ?_;obtain⟨c1,h⟩:=D1 h;refine kB Z (A4 Z) Fb c1 21 (.n (.n (.n (.a (decide (0<=b))) (.a (decide (b<(d.Entries.n:Int))))) (.a (decide (0<=c)))) (.a (decide (c<((d.Entries.g b.toNat).Forms.n:Int))))) ?_;cases h;exact kR Z
def W4 (N:Nat)(a:B8)(p_x:GD):Option (History×Int):= (K0 N a.History p_x.Node p_x.Place).bind λy1=>lt (λ(z1:Bool)=>if z1 then some ((⟨(Sl.nil:Sl Node),(Sl.nil:Sl Law),(Sl.nil:Sl (Sl Int))⟩:History),3) else some (y1.1,0)) λk1=>if (y1.2 != 0) then k1 true else (Fs N a p_x.Entry p_x.Leaf).bind λy3=>k1 (!y3)
theorem IE {a:B8}{p_x:GD}{y:History×Int}(h:W4 N a p_x=some y) :FunO S Ib [.p (.agg (B2 a)),.p (.agg (S8 p_x))] [] (.tup [.p (.agg (A8 y.1)),pN y.2]) ([]) []:=by
 unfold W4 at h;refine A2 Z func31 ?_;refine kC Z h (JH Z Y) (λy1 h=>?_);refine LO Z Fb (A4 Z) h 0 (λz1=>⟨[(28,pB z1),(6,.reg 7000 0),(4,.reg 5000 0)],[(7000,.cells ((A8 y1.1).map .p)),(5000,.cells [.p C8,.p C8,.p C8])]⟩) (λM1 k1 b h=>?_) (λz1 h=>?_)
 .refine kG Z h (λh=>?_) (λh=>?_)
  .exact b _ (Jt [5000,7000]) _ true Fb h
  refine kC Z h (Pw Z Y) (λy3 h=>?_);exact b _ (Jt [5000,7000]) _ (!y3) Fb h
 apply kI Z h<;>intro h
 .obtain rfl:=A9 h;exact J5 Z Fb ⟨[(5,pN 3),(4,.reg 5000 0)],[(5000,.cells [.p (vSl 2 C7 (Sl.nil:Sl Node)),.p (vSl 18 B4 (Sl.nil:Sl Law)),.p (vSl 1 (cL 1 (cI .i64)) (Sl.nil:Sl (Sl Int)))])]⟩ [] (ids:=[(5000,5000)]) ⟨rfl,rfl,rfl⟩
 cases h;exact kR Z
def CB (N:Nat)(a:B8)(p_x:GD):Option (Bool×Int):= (X1 N a).bind λy1=>if (y1 != 0) then some (false,y1) else (W4 N a p_x).bind λy2=>if (y2.2 != 0) then some (false,y2.2) else if ((((0:Int)<=p_x.Entry/\p_x.Entry<(a.Protos.n:Int))/\((0:Int)<=p_x.Entry/\p_x.Entry<(a.Entries.n:Int)))/\((0:Int)<=p_x.Leaf/\p_x.Leaf<((a.Entries.g p_x.Entry.toNat).Forms.n:Int)))then (N3 N a.History).bind λy3=>if ((0:Int)<=p_x.Leaf/\p_x.Leaf<(y3.n:Int))then (G3 N (y3.g p_x.Leaf.toNat) (a.Protos.g p_x.Entry.toNat) ((a.Entries.g p_x.Entry.toNat).Forms.g p_x.Leaf.toNat)).bind λy4=>if y4 then (N3 N y2.1).bind λy5=>if ((0:Int)<=p_x.Leaf/\p_x.Leaf<(y5.n:Int))then (G3 N (y5.g p_x.Leaf.toNat) (a.Protos.g p_x.Entry.toNat) ((a.Entries.g p_x.Entry.toNat).Forms.g p_x.Leaf.toNat)).bind λy6=>some (!y6,0) else none else some (false,0) else none else none
theorem MP {c:B8}{p_x:GD}{y:Bool×Int}(h:CB N c p_x=some y) :FunO S Ms [.p (.agg (B2 c)),.p (.agg (S8 p_x))] [] (.tup [pB y.1,pN y.2]) ([]) []:=by
 unfold CB at h;refine A2 Z func12 ?_;refine F9 Z Fb 3 3000 (B2 c) ?_;refine F9 Z Fb 4 4000 (S8 p_x) ?_;obtain⟨y1,e1,h⟩:=A7 h;refine B3 Z [] (by decide:(8:Nat)<=8) (FL Z Y e1) ?_;apply kI Z h<;>intro h
 .cases h;exact kR Z
 obtain⟨y2,e2,h⟩:=A7 h;refine B3 Z [] (And.intro (by decide:(8:Nat)<=8) Hx) (IE Z Y e2) ?_;refine F9 Z Fb 8 8000 (A8 y2.1) ?_;apply kI Z h<;>intro h
 .cases h;exact kR Z
 refine G4 Z Fb [(1,.n),(3,.n),(4,.n),(5,.n),(7,.n),(9,.n),(10,.n),(12,.n),(14,.n),(15,.n),(16,.n),(17,.a [10000]),(18,.a [11000]),(19,.a [10000]),(20,.a [11000])] ?_;obtain⟨c3,h⟩:=D1 h;refine D6 (And.intro (And.intro (And.intro (And.intro c3.1.1 Gq) c3.1.2) c3.2) Gq) ?_;refine US Z Fb 10000 [.bb (c.Protos.g p_x.Entry.toNat).Has,vSl 2 A0 (c.Protos.g p_x.Entry.toNat).W] ?_;refine US Z Fb 11000 [.bb ((c.Entries.g p_x.Entry.toNat).Forms.g p_x.Leaf.toNat).Has,vSl 2 A0 ((c.Entries.g p_x.Entry.toNat).Forms.g p_x.Leaf.toNat).W] ?_;refine E4 Z Fb [1,2,4,5,6,7,8,9,11,12,14,15,16,17,18,19] ?_;obtain⟨y3,e3,h⟩:=A7 h;refine G5 (by decide:(3:Nat)<=5) (Da Z Y e3) ?_;obtain⟨c4,h⟩:=D1 h;obtain⟨y4,e4,h⟩:=A7 h;refine G5 (And.intro (And.intro c4 Gq) Gq) (AG Z Y e4) ?_;refine U1 Fb (b:=y4) (λc5=>?_) (λc5=>?_)
 .replace h:=itT c5 h;obtain⟨y5,e5,h⟩:=A7 h;refine G5 Hk (Da Z Y e5) ?_;obtain⟨c6,h⟩:=D1 h;obtain⟨y6,e6,h⟩:=A7 h;refine G5 (And.intro (And.intro c6 Gq) Gq) (AG Z Y e6) ?_;refine D6 Fb ?_;cases h;exact kR Z
 replace h:=itF c5 h;refine D6 Fb ?_;cases h;exact kR Z
def H2 (N:Nat)(a:List (B5)):Option (Sl B5):= S9 a (λb (x1:B5) (z1:Sl B5)=>if (Kb 16 (z1.n+(Sl.of [x1]:Sl B5).n))then b (z1.push x1) else none) (λ(z1:Sl B5)=>some z1) (Sl.nil:Sl B5)
theorem CF {c:List (B5)}{a:B8}{b:(Sl (Sl Law))}{kp_seq:Nat}(fp_seq:∃fn,Be0[kp_seq]? = some fn/\fn.body.isSome=true/\(fn.name == "runtime.NumGoroutine")=false)(d:ES S kp_seq [] [.reg 0 0,.reg 1 0] [(.cells ((B2 a).map .p)),(.cells [(.p (vSl 1 (cL 18 B4) b))])] (c.map (λ(x:B5)=>[(λx=>.agg (D5 x)) x]))){y:(Sl B5)}(h:H2 N c=some y) :FunO S T5 [(.p C8),(.clo kp_seq [] [(.reg 0 0),(.reg 1 0)])] [(.cells ((B2 a).map .p)),(.cells [(.p (vSl 1 (cL 18 B4) b))])] (.vec 0) ([(oV Bs 2 D5 y false)]) [false,false]:=by
 unfold H2 at h;refine A2 Z func98 ?_;refine Nz Z Fb fp_seq [0,1] [2] 901 (λz1=>⟨[(2,(.reg 3000 0))],[(3500,(oV Bs 2 D5 z1 false)),(3000,(.cells [(.vec 3500)]))]⟩) (idl:=[(3000,3000)]) h d (λ_=>by kernel_rfl) (λ_=>by kernel_rfl) (λ_=>by kernel_rfl) (λ_=>by kernel_rfl) (λx1 _ f z1 g h=>?_) (λz1 h=>?_)
 .refine JV Z Fb ?_;obtain⟨c1,h⟩:=D1 h;exact g _ [(901,901),(3000,3000),(3500,12000)] _ (z1.push x1) (And.intro Ik c1) h (hle:=kl1 0 (W6 D5 z1 x1 [(pI .i64 0),(pI .i64 0)]))
 obtain rfl:=A9 h;exact kO Z Fb [3500]
def N4 (N:Nat)(a:List (B5)):Option (Sl B5):= (H2 N a).bind λy1=>some y1
theorem He {c:List (B5)}{a:B8}{b:(Sl (Sl Law))}{kp_seq:Nat}(fp_seq:∃fn,Be0[kp_seq]? = some fn/\fn.body.isSome=true/\(fn.name == "runtime.NumGoroutine")=false)(d:ES S kp_seq [] [.reg 0 0,.reg 1 0] [(.cells ((B2 a).map .p)),(.cells [(.p (vSl 1 (cL 18 B4) b))])] (c.map (λ(x:B5)=>[(λx=>.agg (D5 x)) x]))){y:(Sl B5)}(h:N4 N c=some y) :FunO S Dg [(.clo kp_seq [] [(.reg 0 0),(.reg 1 0)])] [(.cells ((B2 a).map .p)),(.cells [(.p (vSl 1 (cL 18 B4) b))])] (.vec 0) ([(oV Bs 2 D5 y false)]) [false,false]:=by unfold N4 at h;refine A2 Z func60 ?_;obtain⟨y1,e1,h⟩:=A7 h;refine B3 Z [0,1] Fb (CF Z Y fp_seq d e1) ?_;obtain rfl:=A9 h;exact kO Z Fb [5000]
def Y0 (N:Nat)(q0:B8):Option (List (B5×History)):= Y3 N (λa (x2:Int)=>if (decide (x2<(q0.History.On.n:Int))) then if ((0:Int)<=x2/\x2<(q0.History.On.n:Int))then Y3 N (λb (x4:Int)=>if (decide (x4<(wrap .i64 (((q0.History.On.g x2.toNat).n:Int)-1)))) then (K0 N q0.History x2 x4).bind λy9=>Ag ((⟨x2,x4⟩:B5),y9.1) (b (wrap .i64 (x4+1))) else a (wrap .i64 (x2+1))) 0 else none else some []) 0
theorem Kg {q0:B8}{L:List (B5×History)}(h:Y0 N q0=some L) :ES S Cg [] [.reg 0 0] [.cells ((B2 q0).map .p)] (L.map (λ(x:B5×History)=>[(λx=>.agg (D5 x)) x.1,(λx=>.agg (A8 x)) x.2])):=by
 unfold Y0 at h;refine EA Z func100 ?_;refine Dn Z Fb h (λx2 L1=>⟨[(12,pN x2),(11,pN (q0.History.On.n:Int)),(10,.p (vSl 1 (cL 1 (cI .i64)) q0.History.On)),(1,.reg 0 0),(0,.yf 1)],[(1,.yld (L1.map (λ(x:B5×History)=>[(λx=>.agg (D5 x)) x.1,(λx=>.agg (A8 x)) x.2])) true),(0,.cells ((B2 q0).map .p))]⟩) (ids:=(Jt [0,1])) (λ_ _ _ _ _ d x2 L1 f h=>?_);apply kI Z h<;>intro h
 .obtain⟨c24,h⟩:=D1 h;refine Dn Z c24 h (λx4 L10=>⟨[(20,pN x4),(19,pN (wrap .i64 (((q0.History.On.g x2.toNat).n:Int)-1))),(12,pN x2),(11,pN (q0.History.On.n:Int)),(10,.p (vSl 1 (cL 1 (cI .i64)) q0.History.On)),(3,pN x2),(1,.reg 0 0),(0,.yf 1)],[(1,.yld (L10.map (λ(x:B5×History)=>[(λx=>.agg (D5 x)) x.1,(λx=>.agg (A8 x)) x.2])) true),(0,.cells ((B2 q0).map .p))]⟩) (ids:=(Jt [0,1])) (λ_ _ _ _ _ i x4 L10 j h=>?_);apply kI Z h<;>intro h
  .refine kC Z h (JH Z Y) (λy9 h=>?_);obtain⟨L13,rfl,c⟩:=LP h;replace h:=c;refine Dm Z Fb (ys:=(λ(x:B5×History)=>[(λx=>.agg (D5 x)) x.1,(λx=>.agg (A8 x)) x.2]) ((⟨x2,x4⟩:B5),y9.1)) (rest:=L13.map (λ(x:B5×History)=>[(λx=>.agg (D5 x)) x.1,(λx=>.agg (A8 x)) x.2])) ?_ ?_
   .refine C9 Z Fb (b:=false) (λc32=>?_) (λc32=>?_)
    .exact Bool.noConfusion ((rfl:false=false).symm.trans c32)
    exact j _ (Jt [0,1]) _ (wrap .i64 (x4+1)) L13 Fb h
   refine C9 Z Fb (b:=true) (λc33=>?_) (λc33=>?_)
   .exact kO Z Fb (a:=.tup []) (objs:=[(.cells ((B2 q0).map .p)),.yld [] false]) [0,1] ⟨false,rfl,rfl,_,rfl⟩
   exact Bool.noConfusion (Ik.symm.trans c33)
  exact f _ (Jt [0,1]) _ (wrap .i64 (x2+1)) L10 Fb h
 obtain rfl:=A9 h;exact kO Z Fb (a:=.tup []) (objs:=[(.cells ((B2 q0).map .p)),.yld [] true]) [0,1] ⟨true,rfl,rfl,_,rfl⟩
def Dw (N:Nat)(a:B8):Option (B8):= some a
theorem Mb {a:B8}{y:B8}(h:Dw N a=some y) :FunO S Gs [.p (.agg (B2 a))] [] (.clo Cg [] [.reg 0 0]) ([.cells ((B2 y).map .p)]) []:=by unfold Dw at h;refine A2 Z func62 ?_;obtain rfl:=A9 h;exact kO Z Fb [2000]
def C4 (N:Nat)(a:Sl A5)(b:Sl A5):Option Bool:= if ((a.n:Int) != (b.n:Int)) then some false else Y3 N (λc (x1:Int)=>if (decide (x1<(a.n:Int))) then if (((0:Int)<=x1/\x1<(a.n:Int))/\((0:Int)<=x1/\x1<(b.n:Int)))then if ((((a.g x1.toNat).Entry==(b.g x1.toNat).Entry)&&(((a.g x1.toNat).Leaf==(b.g x1.toNat).Leaf)&&(((a.g x1.toNat).Kind==(b.g x1.toNat).Kind)&&((a.g x1.toNat).Cost==(b.g x1.toNat).Cost)))) != true) then some false else c (wrap .i64 (x1+1)) else none else some true) 0
theorem W5 {a:Sl A5}{b:Sl A5}{y:Bool}(h:C4 N a b=some y) :FunO S L0 [.p (vSl 4 B9 a),.p (vSl 4 B9 b)] [] (pB y) ([]) []:=by
 unfold C4 at h;refine A2 Z func28 ?_;apply kI Z h<;>intro h
 .cases h;exact kR Z
 refine R8 Z Fb h (λx1=>⟨[(13,pN x1),(12,pN (a.n:Int)),(1,.p (vSl 4 B9 b)),(0,.p (vSl 4 B9 a))],[]⟩) (ids:=[]) (λ_ _ _ _ _ c x1 d h=>?_);apply kI Z h<;>intro h
 .refine E4 Z Fb [2,3,6,7] ?_;obtain⟨c9,h⟩:=D1 h;refine D6 (And.intro (And.intro (And.intro (And.intro c9.1 Hx) c9.2) Hx) (by decide +kernel:PO Tryz.prog At=true)) ?_;apply kI Z h<;>intro h
  .cases h;exact kR Z
  exact d _ [] _ (wrap .i64 (x1+1)) Fb h
 cases h;exact kR Z
def F2 (N:Nat)(a:Sl GD)(b:Sl GD):Option Bool:= if ((a.n:Int) != (b.n:Int)) then some false else Y3 N (λc (x1:Int)=>if (decide (x1<(a.n:Int))) then if (((0:Int)<=x1/\x1<(a.n:Int))/\((0:Int)<=x1/\x1<(b.n:Int)))then if ((((a.g x1.toNat).Node==(b.g x1.toNat).Node)&&(((a.g x1.toNat).Place==(b.g x1.toNat).Place)&&(((a.g x1.toNat).Entry==(b.g x1.toNat).Entry)&&((a.g x1.toNat).Leaf==(b.g x1.toNat).Leaf)))) != true) then some false else c (wrap .i64 (x1+1)) else none else some true) 0
theorem Cr {a:Sl GD}{b:Sl GD}{y:Bool}(h:F2 N a b=some y) :FunO S R9 [.p (vSl 4 S8 a),.p (vSl 4 S8 b)] [] (pB y) ([]) []:=by
 unfold F2 at h;refine A2 Z func29 ?_;apply kI Z h<;>intro h
 .cases h;exact kR Z
 refine R8 Z Fb h (λx1=>⟨[(13,pN x1),(12,pN (a.n:Int)),(1,.p (vSl 4 S8 b)),(0,.p (vSl 4 S8 a))],[]⟩) (ids:=[]) (λ_ _ _ _ _ c x1 d h=>?_);apply kI Z h<;>intro h
 .refine E4 Z Fb [2,3,6,7] ?_;obtain⟨c9,h⟩:=D1 h;refine D6 (And.intro (And.intro (And.intro (And.intro c9.1 Hx) c9.2) Hx) (by decide +kernel:PO Tryz.prog EG=true)) ?_;apply kI Z h<;>intro h
  .cases h;exact kR Z
  exact d _ [] _ (wrap .i64 (x1+1)) Fb h
 cases h;exact kR Z
def Hf (N:Nat)(d:B8)(a:Sl (Sl Iu))(b:Int)(f:Int):Option (Int×Int):= (CZ N d f).bind λy1=>if (y1 != 0) then some (0,y1) else if (decide (256<(a.n:Int))) then some (0,12) else Y3 N (λo (x1:Int)=>if (decide (x1<(a.n:Int))) then if ((0:Int)<=x1/\x1<(a.n:Int))then (W8 N (a.g x1.toNat)).bind λy4=>if (y4 != 0) then some (0,y4) else o (wrap .i64 (x1+1)) else none else if ((decide (b<0))||(decide ((d.Entries.n:Int)<=b))) then some (0,3) else if ((a.n:Int)==0) then some (0,5) else (N3 N d.History).bind λy5=>Aj0 N (λl (x8:Int) (x9:Int) (i:Int)=>if (decide (i<(a.n:Int))) then if (((0:Int)<=i/\i<(a.n:Int))/\((0:Int)<=b/\b<(d.Entries.n:Int)))then Bj N (λj (m:Int) (c:Int)=>if (decide (c<((d.Entries.g b.toNat).Forms.n:Int))) then if ((0:Int)<=c/\c<((d.Entries.g b.toNat).Forms.n:Int))then if ((d.Entries.g b.toNat).Forms.g c.toNat).Has then if ((0:Int)<=c/\c<(y5.n:Int))then (G3 N (y5.g c.toNat) (⟨true,a.g i.toNat⟩:H4) ((d.Entries.g b.toNat).Forms.g c.toNat)).bind λq=>if (!q) then j (wrap .i64 (m+f)) (wrap .i64 (c+1)) else j m (wrap .i64 (c+1)) else none else j m (wrap .i64 (c+1)) else none else if ((i==0)||(decide (m<x9))) then l i m (wrap .i64 (i+1)) else l x8 x9 (wrap .i64 (i+1))) 0 0 else none else some (x8,0)) 0 0 0) 0
theorem Tt {i:B8}{d:Sl (Sl Iu)}{c:Int}{f:Int}{y:Int×Int}(h:Hf N i d c f=some y) :FunO S KO [.p (.agg (B2 i)),.p (vSl 1 (cL 2 A0) d),pN c,pN f] [] (.tup [pN y.1,pN y.2]) ([]) []:=by
 unfold Hf at h;refine A2 Z func18 ?_;refine F9 Z Fb 8 5000 (B2 i) ?_;obtain⟨y1,e1,h⟩:=A7 h;refine B3 Z [] (by decide:(8:Nat)<=8) (Ls Z Y e1) ?_;apply kI Z h<;>intro h
 .cases h;exact kR Z
 apply kI Z h<;>intro h
 .cases h;exact kR Z
 refine R8 Z Fb h (λx1=>⟨[(33,pN x1),(32,pN (d.n:Int)),(31,.p (vSl 1 (cL 2 A0) d)),(4,.p (.ptr (B2 i))),(3,pN f),(2,pN c),(1,.p (vSl 1 (cL 2 A0) d))],[]⟩) (ids:=[]) (λ_ _ _ _ _ s x1 t h=>?_);apply kI Z h<;>intro h
 .obtain⟨c10,h⟩:=D1 h;obtain⟨y4,e4,h⟩:=A7 h;refine B3 Z [] c10 (DR Z Y e4) ?_;apply kI Z h<;>intro h
  .cases h;exact kR Z
  exact t _ [] _ (wrap .i64 (x1+1)) Fb h
 refine kB Z (A4 Z) Fb Fb 6 (.o (.a (decide (c<0))) (.a (decide ((i.Entries.n:Int)<=c)))) ?_;apply kI Z h<;>intro h
 .cases h;exact kR Z
 apply kI Z h<;>intro h
 .cases h;exact kR Z
 obtain⟨y5,e5,h⟩:=A7 h;refine B3 Z [] (by decide:(3:Nat)<=5) (Da Z Y e5) ?_;refine KJ Z Fb h (λx8 x9 j=>⟨[(62,pN j),(61,pN (d.n:Int)),(60,.p (vSl 1 (cL 2 A0) d)),(16,pN x9),(15,pN x8),(14,.p (vSl 1 (cL 18 B4) y5)),(4,.p (.ptr (B2 i))),(3,pN f),(2,pN c)],[]⟩) (ids:=[]) (λ_ _ _ _ _ u x8 x9 j r h=>?_);apply kI Z h<;>intro h
 .obtain⟨c69,h⟩:=D1 h;refine H3 Z c69 h (λm l=>⟨[(74,pN l),(73,pN ((i.Entries.g c.toNat).Forms.n:Int)),(72,.p (vSl 2 F5 (i.Entries.g c.toNat).Forms)),(62,pN j),(61,pN (d.n:Int)),(60,.p (vSl 1 (cL 2 A0) d)),(19,pN m),(18,.p (vSl 2 A0 (d.g j.toNat))),(17,pN j),(16,pN x9),(15,pN x8),(14,.p (vSl 1 (cL 18 B4) y5)),(4,.p (.ptr (B2 i))),(3,pN f),(2,pN c)],[]⟩) (ids:=[]) (λ_ _ _ _ _ v m l q h=>?_);apply kI Z h<;>intro h
  .obtain⟨c81,h⟩:=D1 h;refine US Z (And.intro c81 Gq) 22000 [.bb ((i.Entries.g c.toNat).Forms.g l.toNat).Has,vSl 2 A0 ((i.Entries.g c.toNat).Forms.g l.toNat).W] ?_;refine E4 Z Fb [1,5,6,9,10] ?_;refine U1 Fb (b:=((i.Entries.g c.toNat).Forms.g l.toNat).Has) (λc82=>?_) (λc82=>?_)
   .replace h:=itT c82 h;obtain⟨c83,h⟩:=D1 h;obtain⟨w,e17,h⟩:=A7 h;refine G5 (And.intro c83 Gq) (AG Z Y e17) ?_;refine D6 Fb ?_;apply kI Z h<;>intro h
    .exact q _ [] _ (wrap .i64 (m+f)) (wrap .i64 (l+1)) Fb h
    exact q _ [] _ m (wrap .i64 (l+1)) Fb h
   replace h:=itF c82 h;refine D6 Fb ?_;exact q _ [] _ m (wrap .i64 (l+1)) Fb h
  refine kB Z (A4 Z) Fb Fb 4 (.o (.a (j==0)) (.a (decide (m<x9)))) ?_;apply kI Z h<;>intro h
  .exact r _ [] _ j m (wrap .i64 (j+1)) Fb h
  exact r _ [] _ x8 x9 (wrap .i64 (j+1)) Fb h
 cases h;exact kR Z
def Db (N:Nat)(q0:B8)(q1:Sl (Sl Law)):Option (List (B5)):= Y3 N (λb (x2:Int)=>if (decide (x2<(q0.Entries.n:Int))) then if ((0:Int)<=x2/\x2<(q0.Entries.n:Int))then Y3 N (λa (x4:Int)=>if (decide (x4<((q0.Entries.g x2.toNat).Forms.n:Int))) then if ((0:Int)<=x4/\x4<((q0.Entries.g x2.toNat).Forms.n:Int))then if (((0:Int)<=x4/\x4<(q1.n:Int))/\((0:Int)<=x2/\x2<(q0.Protos.n:Int)))then (G3 N (q1.g x4.toNat) (q0.Protos.g x2.toNat) ((q0.Entries.g x2.toNat).Forms.g x4.toNat)).bind λy9=>if y9 then Ag (⟨x2,x4⟩:B5) (a (wrap .i64 (x4+1))) else a (wrap .i64 (x4+1)) else none else none else b (wrap .i64 (x2+1))) 0 else none else some []) 0
theorem Px {q0:B8}{q1:Sl (Sl Law)}{L:List (B5)}(h:Db N q0 q1=some L) :ES S Fa [] [.reg 0 0,.reg 1 0] [.cells ((B2 q0).map .p),.cells [.p (vSl 1 (cL 18 B4) q1)]] (L.map (λ(x:B5)=>[(λx=>.agg (D5 x)) x])):=by
 unfold Db at h;refine EA Z func99 ?_;refine Dn Z Fb h (λx2 L1=>⟨[(11,pN x2),(10,pN (q0.Entries.n:Int)),(9,.p (vSl 2 F6 q0.Entries)),(2,.reg 1 0),(1,.reg 0 0),(0,.yf 2)],[(2,.yld (L1.map (λ(x:B5)=>[(λx=>.agg (D5 x)) x])) true),(1,.cells [.p (vSl 1 (cL 18 B4) q1)]),(0,.cells ((B2 q0).map .p))]⟩) (ids:=(Jt [0,1,2])) (λ_ _ _ _ _ f x2 L1 i h=>?_);apply kI Z h<;>intro h
 .obtain⟨c78,h⟩:=D1 h;refine Dn Z (And.intro c78 Gq) h (λx4 L16=>⟨[(19,pN x4),(18,pN ((q0.Entries.g x2.toNat).Forms.n:Int)),(17,.p (vSl 2 F5 (q0.Entries.g x2.toNat).Forms)),(11,pN x2),(10,pN (q0.Entries.n:Int)),(9,.p (vSl 2 F6 q0.Entries)),(4,pN x2),(2,.reg 1 0),(1,.reg 0 0),(0,.yf 2)],[(2,.yld (L16.map (λ(x:B5)=>[(λx=>.agg (D5 x)) x])) true),(1,.cells [.p (vSl 1 (cL 18 B4) q1)]),(0,.cells ((B2 q0).map .p))]⟩) (ids:=(Jt [0,1,2])) (λ_ _ _ _ _ j x4 L16 d h=>?_);apply kI Z h<;>intro h
  .obtain⟨c104,h⟩:=D1 h;refine US Z (And.intro c104 Gq) 8000 [.bb ((q0.Entries.g x2.toNat).Forms.g x4.toNat).Has,vSl 2 A0 ((q0.Entries.g x2.toNat).Forms.g x4.toNat).W] ?_;refine Az1 Z Fb 16 [(0,.l [1]),(2,.n),(3,.n),(5,.l [0]),(7,.n),(8,.n),(9,.n),(10,.n)] ?_;obtain⟨c105,h⟩:=D1 h;obtain⟨y9,e9,h⟩:=A7 h;refine G5 (And.intro (And.intro (And.intro c105.1 c105.2) Gq) Gq) (AG Z Y e9) ?_;refine U1 Fb (b:=y9) (λc106=>?_) (λc106=>?_)
   .replace h:=itT c106 h;refine D6 Fb ?_;refine GQ Z Fb (b:=true) (λc109=>?_) (λc109=>?_)
    .obtain⟨L22,rfl,c⟩:=LP h;replace h:=c;refine Dm Z Fb (ys:=(λ(x:B5)=>[(λx=>.agg (D5 x)) x]) (⟨x2,x4⟩:B5)) (rest:=L22.map (λ(x:B5)=>[(λx=>.agg (D5 x)) x])) ?_ ?_
     .refine C9 Z Fb (b:=false) (λc110=>?_) (λc110=>?_)
      .exact Bool.noConfusion ((rfl:false=false).symm.trans c110)
      exact d _ (Jt [0,1,2]) _ (wrap .i64 (x4+1)) L22 Fb h
     refine C9 Z Fb (b:=true) (λc111=>?_) (λc111=>?_)
     .exact kO Z Fb (a:=.tup []) (objs:=[(.cells ((B2 q0).map .p)),.cells [.p (vSl 1 (cL 18 B4) q1)],.yld [] false]) [0,1,2] ⟨false,rfl,rfl,_,rfl⟩
     exact Bool.noConfusion (Ik.symm.trans c111)
    exact Bool.noConfusion (Ik.symm.trans c109)
   replace h:=itF c106 h;refine D6 Fb ?_;refine GQ Z Fb (b:=false) (λc114=>?_) (λc114=>?_)
   .exact Bool.noConfusion ((rfl:false=false).symm.trans c114)
   exact d _ (Jt [0,1,2]) _ (wrap .i64 (x4+1)) L16 Fb h
  exact i _ (Jt [0,1,2]) _ (wrap .i64 (x2+1)) L16 Fb h
 obtain rfl:=A9 h;exact kO Z Fb (a:=.tup []) (objs:=[(.cells ((B2 q0).map .p)),.cells [.p (vSl 1 (cL 18 B4) q1)],.yld [] true]) [0,1,2] ⟨true,rfl,rfl,_,rfl⟩
def Hg (N:Nat)(b:B8)(a:Sl (Sl Law)):Option (B8×(Sl (Sl Law))):= some (b,a)
theorem Tu {b:B8}{a:Sl (Sl Law)}{y:B8×(Sl (Sl Law))}(h:Hg N b a=some y) :FunO S KW [.p (.agg (B2 b)),.p (vSl 1 (cL 18 B4) a)] [] (.clo Fa [] [.reg 0 0,.reg 1 0]) ([.cells ((B2 y.1).map .p),.cells [.p (vSl 1 (cL 18 B4) y.2)]]) []:=by unfold Hg at h;refine A2 Z func61 ?_;obtain rfl:=A9 h;exact kO Z Fb [3000,4000]
def Bd (N:Nat)(a:B8):Option ((Sl GD)×Int):= (X1 N a).bind λy1=>if (y1 != 0) then some ((Sl.nil:Sl GD),y1) else (N3 N a.History).bind λy2=>(Hg N a y2).bind λy3=>(Db N y3.1 y3.2).bind λL1=>(N4 N L1).bind λy4=>(Dw N a).bind λy5=>(Y0 N y5).bind λL2=>S9 L2 (λb (x1:B5×History) (z1:Sl GD)=>(N3 N x1.2).bind λd=>Y3 N (λc (x5:Int)=>if (decide (x5<(y4.n:Int))) then if (((0:Int)<=x5/\x5<(y4.n:Int))/\x5.toNat<y4.n)then if (((((0:Int)<=(y4.g x5.toNat).a1/\(y4.g x5.toNat).a1<(d.n:Int))/\((0:Int)<=(y4.g x5.toNat).a0/\(y4.g x5.toNat).a0<(a.Protos.n:Int)))/\((0:Int)<=(y4.g x5.toNat).a0/\(y4.g x5.toNat).a0<(a.Entries.n:Int)))/\((0:Int)<=(y4.g x5.toNat).a1/\(y4.g x5.toNat).a1<((a.Entries.g (y4.g x5.toNat).a0.toNat).Forms.n:Int)))then (G3 N (d.g (y4.g x5.toNat).a1.toNat) (a.Protos.g (y4.g x5.toNat).a0.toNat) ((a.Entries.g (y4.g x5.toNat).a0.toNat).Forms.g (y4.g x5.toNat).a1.toNat)).bind λf=>if (!f) then if (Kb 32 (z1.n+(Sl.of [(⟨x1.1.a0,x1.1.a1,(y4.g x5.toNat).a0,(y4.g x5.toNat).a1⟩:GD)]:Sl GD).n))then b (z1.push (⟨x1.1.a0,x1.1.a1,(y4.g x5.toNat).a0,(y4.g x5.toNat).a1⟩:GD)) else none else c (wrap .i64 (x5+1)) else none else none else b z1) 0) (λ(z1:Sl GD)=>some (z1,0)) (Sl.nil:Sl GD)
theorem Tv {b:B8}{y:(Sl GD)×Int}(h:Bd N b=some y) :FunO S KR [.p (.agg (B2 b))] [] (.tup [.vec 0,pN y.2]) ([oV EG 4 S8 y.1 true]) []:=by
 unfold Bd at h;refine A2 Z func27 ?_;refine F9 Z Fb 2 2000 (B2 b) ?_;obtain⟨y1,e1,h⟩:=A7 h;refine B3 Z [] (by decide:(8:Nat)<=8) (FL Z Y e1) ?_;apply kI Z h<;>intro h
 .obtain rfl:=A9 h;exact kO Z Fb [3700]
 refine G4 Z Fb [(0,.n),(2,.n),(3,.n),(4,.a [22000,22001]),(5,.a [22000,22001,23000,23001,23002]),(6,.a [6000]),(7,.a [6000,23000])] ?_;obtain⟨y2,e2,h⟩:=A7 h;refine G5 (And.intro (by decide:(8:Nat)<=8) (by decide:(3:Nat)<=5)) (Da Z Y e2) ?_;obtain⟨y3,e3,h⟩:=A7 h;refine Ov [] Fb (Tu Z Y e3) ?_;obtain⟨L1,e4,h⟩:=A7 h;obtain⟨y4,e5,h⟩:=A7 h;refine OC [22000,22001] Fb (He Z Y ⟨_,func99,by decide +kernel,by decide +kernel⟩ (Px Z Y e4) e5) ?_;refine D6 Fb ?_;obtain⟨y5,e6,h⟩:=A7 h;refine B3 Z [] (by decide:(8:Nat)<=8) (Mb Z Y e6) ?_;obtain⟨L2,e7,h⟩:=A7 h;refine GR Z Fb [25000] [6,5,1] 901 (λz1=>⟨[(6,.reg 7000 0),(5,.reg 6000 0),(1,.p (.ptr (B2 b)))],[(23000,oV Bs 2 D5 y4 false),(7500,oV EG 4 S8 z1 false),(7000,.cells [.vec 7500]),(6000,.cells [.vec 23000])]⟩) (idl:=(Jt [6000,7000,23000])) h (Kg Z Y e7) (λ_=>by kernel_rfl) (λ_=>by kernel_rfl) (λ_=>by kernel_rfl) (λ_=>by kernel_rfl) (λx1 _ d z1 c h=>?_) (λz1 h=>?_)
 .refine F9 Z Fb 8 8000 [pI .i64 x1.1.a0,pI .i64 x1.1.a1] ?_;refine JV Z Fb ?_;refine F9 Z Fb 27 9000 (A8 x1.2) ?_;obtain⟨f,e16,h⟩:=A7 h;refine B3 Z [] Hk (Da Z Y e16) ?_;refine R8 Z Fb h (λx5=>⟨[(31,pN x5),(30,pN (y4.n:Int)),(29,.vec 23000),(9,.p (vSl 1 (cL 18 B4) f)),(7,.p (.ptr [pI .i64 x1.1.a0,pI .i64 x1.1.a1])),(6,.reg 7000 0),(1,.p (.ptr (B2 b)))],[(23000,oV Bs 2 D5 y4 false),(7500,oV EG 4 S8 z1 false),(7000,.cells [.vec 7500]),(6000,.cells [.vec 23000]),(901,.ghost [.reg 7000 0,.reg 6000 0,.p (.ptr (B2 b))])]⟩) (ids:=(Jt [901,6000,7000,7500,23000])) (λ_ _ _ _ _ i x5 j h=>?_);apply kI Z h<;>intro h
  .obtain⟨c35,h⟩:=D1 h;refine G4 Z (And.intro (And.intro c35.1 Gq) c35.2) [(1,.l [12000]),(2,.l [12000]),(3,.n),(4,.n),(6,.n),(7,.l [12000]),(8,.l [12000]),(9,.n),(10,.n),(12,.n),(13,.l [12000]),(14,.l [12000]),(15,.n),(17,.n),(18,.l [12000]),(19,.l [12000]),(20,.n),(21,.n),(22,.n)] ?_;obtain⟨c36,h⟩:=D1 h;obtain⟨m,e19,h⟩:=A7 h;refine G5 (And.intro (And.intro (And.intro (And.intro (And.intro (And.intro (And.intro (And.intro (And.intro (by decide:(0:Int)<=1/\(1:Int)<2) c36.1.1.1) (by decide:(0:Int)<=0/\(0:Int)<2)) c36.1.1.2) Gq) (by decide:(0:Int)<=0/\(0:Int)<2)) c36.1.2) (by decide:(0:Int)<=1/\(1:Int)<2)) c36.2) Gq) (AG Z Y e19) ?_;refine D6 Fb ?_;apply kI Z h<;>intro h
   .refine F9 Z Fb 59 12000 [pI .i64 (y4.g x5.toNat).a0,pI .i64 (y4.g x5.toNat).a1] ?_;obtain⟨c38,h⟩:=D1 h;exact c _ [(901,901),(6000,6000),(7000,7000),(7500,71000),(23000,23000)] _ (z1.push (⟨x1.1.a0,x1.1.a1,(y4.g x5.toNat).a0,(y4.g x5.toNat).a1⟩:GD)) (And.intro (And.intro (And.intro (And.intro (And.intro (by decide:(0:Int)<=0/\(0:Int)<2) (by decide:(0:Int)<=1/\(1:Int)<2)) (by decide:(0:Int)<=0/\(0:Int)<2)) (by decide:(0:Int)<=1/\(1:Int)<2)) Ik) c38) h (hle:=kl1 1 (W6 S8 z1 (⟨x1.1.a0,x1.1.a1,(y4.g x5.toNat).a0,(y4.g x5.toNat).a1⟩:GD) [pI .i64 0,pI .i64 0,pI .i64 0,pI .i64 0]))
   refine F9 Z Fb 71 12000 [pI .i64 (y4.g x5.toNat).a0,pI .i64 (y4.g x5.toNat).a1] ?_;exact j _ (Jt [901,6000,7000,7500,23000]) _ (wrap .i64 (x5+1)) Fb h
  exact c _ (Jt [901,6000,7000,7500,23000]) _ z1 Fb h
 obtain rfl:=A9 h;exact kO Z Fb [7500]
def Q9 (N:Nat)(b:B8)(a:Int):Option (IW×Int):= (CZ N b a).bind λy1=>if (y1 != 0) then some ((⟨(Sl.nil:Sl A5),(Sl.nil:Sl GD)⟩:IW),y1) else (DZ N b.History b.Protos b.Entries a).bind λy2=>(Bd N b).bind λy3=>some ((⟨y2.1,y3.1⟩:IW),0)
theorem FM {b:B8}{a:Int}{y:IW×Int}(h:Q9 N b a=some y) :FunO S Mr [.p (.agg (B2 b)),pN a] [] (.tup [.p (.agg (OD y.1)),pN y.2]) ([]) []:=by
 unfold Q9 at h;refine A2 Z func9 ?_;refine kC Z h (Ls Z Y) (λy1 h=>?_);apply kI Z h<;>intro h
 .obtain rfl:=A9 h;exact J5 Z Fb ⟨[(5,pN y1),(4,.reg 5000 0)],[(5000,.cells [.p (vSl 4 B9 (Sl.nil:Sl A5)),.p (vSl 4 S8 (Sl.nil:Sl GD))])]⟩ [] (ids:=[(5000,5000)]) ⟨rfl,rfl,rfl⟩
 refine kC Z h (VL Z Y) (λy2 h=>?_);refine kC Z h (Tv Z Y) (λy3 h=>?_);obtain rfl:=A9 h;exact J5 Z Fb ⟨[(5,pN 0),(4,.reg 5000 0)],[(5000,.cells [.p (vSl 4 B9 y2.1),.p (vSl 4 S8 y3.1)])]⟩ [] (ids:=[(5000,5000)]) ⟨rfl,rfl,rfl⟩
def U7 (N:Nat)(c:B8)(a:Int)(b:IW):Option (Bool×Int):= (Q9 N c a).bind λy1=>if (y1.2 != 0) then some (false,y1.2) else (C4 N y1.1.Bad b.Bad).bind λy2=>lt (λ(z1:Bool)=>some (z1,0)) λk1=>if y2 then (F2 N y1.1.Swaps b.Swaps).bind λy4=>k1 y4 else k1 false
theorem Ga {b:B8}{a:Int}{c:IW}{y:Bool×Int}(h:U7 N b a c=some y) :FunO S Jj [.p (.agg (B2 b)),pN a,.p (.agg (OD c))] [] (.tup [pB y.1,pN y.2]) ([]) []:=by
 unfold U7 at h;refine A2 Z func10 ?_;refine kC Z h (FM Z Y) (λy1 h=>?_);apply kI Z h<;>intro h
 .cases h;exact kR Z
 refine kC Z h (W5 Z Y) (λy2 h=>?_);refine LO Z Fb (A4 Z) h 0 (λz1=>⟨[(7,pN 0),(6,pB z1)],[]⟩) (λM1 k1 d h=>?_) (λz1 h=>?_)
 .refine kG Z h (λh=>?_) (λh=>?_)
  .refine kC Z h (Cr Z Y) (λy4 h=>?_);exact d _ [] _ y4 Fb h
  exact d _ [] _ false Fb h
 cases h;exact kR Z
end Go.AM
namespace Go.AM
open Go.Proofs.Tryz
open Go.Proofs
set_option maxRecDepth 10000
set_option maxHeartbeats 2000000
variable {S:V2}(Z:G8 S Tryz.prog) (Y:Kd S)
include Z Y
abbrev MQ (s:Str):Nat->List PV:=λi=>[.v (.int .u8 ((s.getD i 0).toNat:Nat))]
theorem Tw {s:Str}{u n:Nat}{f:Nat->List PV}(hc:(n+s.length)*1<=140737488355328/\n+s.length<=140737488355328) :FunO S Y4 [.reg 0 0,.p (.str s)] [.blk [0,122,u] 1,.vec I0 1 n f false] (.tup [pN (s.length:Int),.p (.v .nilIface)]) [.blk [0,122,1] 1,.vec I0 1 (n+s.length) (GB n f (MQ s)) false] [true,false]:=by refine A2 Z func44 ?_;refine B3 Z [0,1] Fb (Y.copyCheck 122 u n f rfl) ?_;exact kO Z hc [0,15000]
theorem w_Len {u n:Nat}{f:Nat->List PV}:FunO S DM [.reg 0 0] [.blk [0,122,u] 1,.vec I0 1 n f false] (pN (n:Int)) [.blk [0,122,u] 1,.vec I0 1 n f false] [true,true]:=by refine A2 Z func48 ?_;exact kO Z Fb [0,1]
theorem AA3 {N:Nat}{ws:Sl Str}{j:Str}{u n:Nat}{f:Nat->List PV}(b:U5 N ws [32]=some j)(hc:(n+(j++[10]).length)*1<=140737488355328/\n+(j++[10]).length<=140737488355328) :FunO S BI [.p (vSl 1 cS ws),.reg 0 0] [.blk [0,122,u] 1,.vec I0 1 n f false] (.tup []) [.blk [0,122,1] 1,.vec I0 1 (n+(j++[10]).length) (GB n f (MQ (j++[10]))) false] [true,false]:=by
 have a:((j.length+([10]:Str).length:Nat):Int)<=9223372036854775807:=by have h1:=hc.2;rw[Bh1]at h1;have c:([10]:Str).length=1:=rfl;omega
 refine A2 Z func43 ?_;refine B3 Z [] Fb (QH Z Y b) ?_;refine B3 Z [0,1] a (Tw Z Y (u:=u) (f:=f) hc) ?_;exact kO Z Fb [0,7001]
end Go.AM
