/- Part 7. -/
import Derived.Test.YtcoileenpgjmoaaGreatDoorEF
import Derived.Test.YtcoileenpgjmoaaGreatDoorEE
set_option linter.defProp false
set_option linter.unusedSimpArgs false
set_option linter.unusedVariables false
set_option linter.unusedSectionVars false
namespace Go.AM
open Go.Proofs.Tryz
abbrev Jf:Sl Kj:=Sl.nil
def Io:(4:Nat)<=4:=by decide
def Ha:(3:Nat)<=3:=by decide
def Fg:(1:Nat)<=1:=by decide
abbrev Ff(z:Int):Sl Int:=(Sl.of [IntKind.wrap .u8 z,IntKind.wrap .u8 (shI .shr .u32 z 8),IntKind.wrap .u8 (shI .shr .u32 z 16)]:Sl Int)
variable {N:Nat}
open IntKind (wrap)
def Bu8:=@Option.ite_none_right_eq_some
open Go.Proofs
set_option maxRecDepth 10000
set_option maxHeartbeats 2000000
variable {S:U5}(Z:G6 S Tryz.prog) (Y:JK S)
include Z Y
def IG (N:Nat)(a:Int):Option Bool:= some (((((decide (97<=a))&&(decide (a<=122)))||((decide (65<=a))&&(decide (a<=90))))||((decide (48<=a))&&(decide (a<=57))))||(a==45))
theorem Wa {b:Int}{y:Bool}(h:IG N b=some y) :Me S MT [.p (pI .u8 b)] [] (pB y) ([]) []:=by unfold IG at h;refine A2 Z func106 ?_;refine kB Z (A6 Z) Fe Fe 23 (.o (.o (.o (.n (.a (decide (97<=b))) (.a (decide (b<=122)))) (.n (.a (decide (65<=b))) (.a (decide (b<=90))))) (.n (.a (decide (48<=b))) (.a (decide (b<=57))))) (.a (b==45))) ?_;cases h;exact kR Z
def EM (N:Nat)(a:Str):Option Bool:= X5 N (λb (x1:Int)=>if (decide (x1<(a.length:Int))) then if ((0:Int)<=x1/\x1<(a.length:Int))then (IG N (Ib a x1)).bind λy3=>if (!y3) then some false else b (wrap .i64 (x1+1)) else none else some ((decide (1<=(a.length:Int)))&&(decide ((a.length:Int)<=24)))) 0
theorem RV {b:Str}{y:Bool}(h:EM N b=some y) :Me S RM [.p (.str b)] [] (pB y) ([]) []:=by
 unfold EM at h;refine A2 Z func66 ?_;refine P8 Z Fe h (λx1=>⟨[(3,pN x1),(0,.p (.str b))],[]⟩) (ids:=[]) (λ_ _ _ _ _ c x1 d h=>?_);apply kI Z h<;>intro h
 .obtain⟨c8,h⟩:=C8 h;obtain⟨y3,e3,h⟩:=A9 h;refine B4 Z [] c8 (Wa Z Y e3) ?_;apply kI Z h<;>intro h
  .cases h;exact kR Z
  exact d _ [] _ (wrap .i64 (x1+1)) Fe h
 refine kB Z (A6 Z) Fe Fe 4 (.n (.a (decide (1<=(b.length:Int)))) (.a (decide ((b.length:Int)<=24)))) ?_;cases h;exact kR Z
def Dt (N:Nat)(a:Sl Node):Option Int:= if ((decide ((a.n:Int)<1))=false->((decide (63<(a.n:Int)))=false->((0:Int)<=0/\0<(a.n:Int))))then if (((decide ((a.n:Int)<1))||(decide (63<(a.n:Int))))||((a.g 0).Nu != (-1))) then some 16 else X5 N (λb (x3:Int)=>if (decide (x3<(a.n:Int))) then lt (λ(z3:Bool)=>if z3 then some 16 else X5 N (λc (x7:Int)=>if (decide (x7<x3)) then if (((0:Int)<=x7/\x7<(a.n:Int))/\((0:Int)<=x3/\x3<(a.n:Int)))then if (((a.g x7.toNat).Name==(a.g x3.toNat).Name) != false) then some 16 else c (wrap .i64 (x7+1)) else none else b (wrap .i64 (x3+1))) 0) λk3=>if (decide (0<x3)) then if ((0:Int)<=x3/\x3<(a.n:Int))then if (decide ((a.g x3.toNat).Nu<0)) then k3 true else if ((0:Int)<=x3/\x3<(a.n:Int))then if (decide (x3<=(a.g x3.toNat).Nu)) then k3 true else if ((0:Int)<=x3/\x3<(a.n:Int))then (EM N (a.g x3.toNat).Name).bind λd=>k3 (!d) else none else none else none else if ((0:Int)<=x3/\x3<(a.n:Int))then (EM N (a.g x3.toNat).Name).bind λf=>k3 (!f) else none else some 0) 0 else none
theorem Yc {c:Sl Node}{y:Int}(h:Dt N c=some y) :Me S Pa [.p (vSl 2 C5 c)] [] (pN y) ([]) []:=by
 unfold Dt at h;refine A2 Z func34 ?_;obtain⟨c1,h⟩:=C8 h;refine kB Z (A6 Z) Fe c1 11 (.o (.o (.a (decide ((c.n:Int)<1))) (.a (decide (63<(c.n:Int))))) (.a ((c.g 0).Nu != (-1)))) ?_;apply kI Z h<;>intro h
 .cases h;exact kR Z
 refine P8 Z Fe h (λx3=>⟨[(3,pN x3),(0,.p (vSl 2 C5 c))],[]⟩) (ids:=[]) (λ_ _ _ _ _ f x3 i h=>?_);apply kI Z h<;>intro h
 .refine Kz Z Fe (A6 Z) h 0 (λz3=>⟨[(53,pB z3),(3,pN x3),(0,.p (vSl 2 C5 c))],[]⟩) (λM3 k3 d h=>?_) (λz3 h=>?_)
  .refine kG Z h (λh=>?_) (λh=>?_)
   .obtain⟨c71,h⟩:=C8 h;refine GU Z c71 (b:=decide ((c.g x3.toNat).Nu<0)) (λc72=>?_) (λc72=>?_)
    .replace h:=itT c72 h;exact d _ [] _ true Fe h
    replace h:=itF c72 h;obtain⟨c73,h⟩:=C8 h;refine GU Z c73 (b:=decide (x3<=(c.g x3.toNat).Nu)) (λc74=>?_) (λc74=>?_)
    .replace h:=itT c74 h;exact d _ [] _ true Fe h
    replace h:=itF c74 h;obtain⟨c75,h⟩:=C8 h;obtain⟨j,e11,h⟩:=A9 h;refine B4 Z [] c75 (RV Z Y e11) ?_;exact d _ [] _ (!j) Fe h
   obtain⟨c76,h⟩:=C8 h;obtain⟨l,e12,h⟩:=A9 h;refine B4 Z [] c76 (RV Z Y e12) ?_;exact d _ [] _ (!l) Fe h
  apply kI Z h<;>intro h
  .cases h;exact kR Z
  refine P8 Z Fe h (λx7=>⟨[(4,pN x7),(3,pN x3),(0,.p (vSl 2 C5 c))],[]⟩) (ids:=[]) (λ_ _ _ _ _ m x7 q h=>?_);apply kI Z h<;>intro h
  .refine E2 Z Fe [2,4,7,9] ?_;obtain⟨c85,h⟩:=C8 h;refine D0 c85 ?_;apply kI Z h<;>intro h
   .cases h;exact kR Z
   exact q _ [] _ (wrap .i64 (x7+1)) Fe h
  exact i _ [] _ (wrap .i64 (x3+1)) Fe h
 cases h;exact kR Z
def Hf (N:Nat)(a:Int):Option Bool:= some (((((decide (97<=a))&&(decide (a<=122)))||((decide (65<=a))&&(decide (a<=90))))||((decide (48<=a))&&(decide (a<=57))))||(a==45))
theorem TF {b:Int}{y:Bool}(h:Hf N b=some y) :Me S Lq [.p (pI .u8 b)] [] (pB y) ([]) []:=by unfold Hf at h;refine A2 Z func151 ?_;refine kB Z (A6 Z) Fe Fe 23 (.o (.o (.o (.n (.a (decide (97<=b))) (.a (decide (b<=122)))) (.n (.a (decide (65<=b))) (.a (decide (b<=90))))) (.n (.a (decide (48<=b))) (.a (decide (b<=57))))) (.a (b==45))) ?_;cases h;exact kR Z
def DW (N:Nat)(a:Str):Option Bool:= X5 N (λb (x1:Int)=>if (decide (x1<(a.length:Int))) then if ((0:Int)<=x1/\x1<(a.length:Int))then (Hf N (Ib a x1)).bind λy3=>if (!y3) then some false else b (wrap .i64 (x1+1)) else none else some ((decide (0<(a.length:Int)))&&(decide ((a.length:Int)<=24)))) 0
theorem Wb {b:Str}{y:Bool}(h:DW N b=some y) :Me S MU [.p (.str b)] [] (pB y) ([]) []:=by
 unfold DW at h;refine A2 Z func115 ?_;refine P8 Z Fe h (λx1=>⟨[(6,pN x1),(5,pN (b.length:Int)),(0,.p (.str b))],[]⟩) (ids:=[]) (λ_ _ _ _ _ c x1 d h=>?_);apply kI Z h<;>intro h
 .obtain⟨c8,h⟩:=C8 h;obtain⟨y3,e3,h⟩:=A9 h;refine B4 Z [] c8 (TF Z Y e3) ?_;apply kI Z h<;>intro h
  .cases h;exact kR Z
  exact d _ [] _ (wrap .i64 (x1+1)) Fe h
 refine kB Z (A6 Z) Fe Fe 4 (.n (.a (decide (0<(b.length:Int)))) (.a (decide ((b.length:Int)<=24)))) ?_;cases h;exact kR Z
def W9 (N:Nat)(a:Sl Node):Option Int:= if (((a.n:Int)==0)||(decide (63<(a.n:Int)))) then some 16 else Ca N (λb (x2:List (Str×Bool)) (x3:Int)=>if (decide (x3<(a.n:Int))) then if ((0:Int)<=x3/\x3<(a.n:Int))then lt (λ(z3:Bool)=>if z3 then some 16 else b (Dd eqS (a.g x3.toNat).Name true x2) (wrap .i64 (x3+1))) λk3=>if (decide (x3<=(a.g x3.toNat).Nu)) then k3 true else if (decide ((a.g x3.toNat).Nu<(if 0<(wrap .i64 (x3-1))then 0 else (wrap .i64 (x3-1))))) then k3 true else (DW N (a.g x3.toNat).Name).bind λy6=>if (!y6) then k3 true else Nm (P1 eqS (a.g x3.toNat).Name x2) (k3 false) λv6=>k3 v6 else none else some 0) [] 0
theorem FN {b:Sl Node}{y:Int}(h:W9 N b=some y) :Me S MQ [.p (vSl 2 C5 b)] [] (pN y) ([]) []:=by
 unfold W9 at h;refine A2 Z func73 ?_;refine kB Z (A6 Z) Fe Fe 4 (.o (.a ((b.n:Int)==0)) (.a (decide (63<(b.n:Int))))) ?_;apply kI Z h<;>intro h
 .cases h;exact kR Z
 refine I1 Z Fe h (λx2 x3=>⟨[(17,pN x3),(16,pN (b.n:Int)),(15,.p (vSl 2 C5 b)),(3,.No 15000)],[(15000,oM PV.str PV.bb x2)]⟩) (ids:=[(15000,15000)]) (λ_ _ _ _ _ d x2 x3 f h=>?_);apply kI Z h<;>intro h
 .obtain⟨c25,h⟩:=C8 h;refine Kz Z (Kn c25 Gt) (A6 Z) h 0 (λz3=>⟨[(45,pB z3),(17,pN x3),(16,pN (b.n:Int)),(15,.p (vSl 2 C5 b)),(5,.reg 6000 0),(3,.No 15000)],[(15000,oM PV.str PV.bb x2),(6000,.cells [pN (b.g x3.toNat).Nu,.p (.str (b.g x3.toNat).Name)])]⟩) (λM3 k3 c h=>?_) (λz3 h=>?_)
  .refine kG Z h (λh=>?_) (λh=>?_)
   .exact c _ (Kk [6000,15000]) _ true Fe h
   refine kG Z h (λh=>?_) (λh=>?_)
   .exact c _ (Kk [6000,15000]) _ true Fe h
   refine kC Z h (Wb Z Y) (λy6 h=>?_);refine kG Z h (λh=>?_) (λh=>?_)
   .exact c _ (Kk [6000,15000]) _ true Fe h
   rcases o6:P1 eqS (b.g x3.toNat).Name x2 with _|v6
   .replace h:=Ac3 o6 h;refine Xv Z Fe F5 AJ7 PV.str PV.bb eqS o6 (.v (.bool false)) Fe ?_;exact c _ (Kk [6000,15000]) _ false Fe h
   replace h:=Ze o6 h;refine Xu Z Fe F5 AJ7 PV.str PV.bb eqS o6 Fe ?_;exact c _ (Kk [6000,15000]) _ v6 Fe h
  apply kI Z h<;>intro h
  .cases h;exact kR Z
  refine Ad3 Z Fe F5 PV.str PV.bb eqS (b.g x3.toNat).Name true x2 Fe ?_;exact f _ [(15000,15000)] _ (Dd eqS (b.g x3.toNat).Name true x2) (wrap .i64 (x3+1)) Fe h
 cases h;exact kR Z
def AE (N:Nat)(a:Ns):Option Int:= if ((0:Int)<=(a.On.n:Int)/\(a.On.n:Int)<=(a.On.n:Int)/\(a.On.n:Int)*8<=140737488355328/\(a.On.n:Int)<=140737488355328)then Al7 N (λc (x4:Sl Int) (x5:Bool) (x6:Int)=>if (decide (x6<(a.On.n:Int))) then if ((((0:Int)<=x6/\x6<(a.On.n:Int))/\((0:Int)<=x6/\x6<(x4.n:Int)))/\x6.toNat<x4.n)then if ((0:Int)<=x6/\x6<(a.Tree.n:Int))then lt (λ(z3:Sl Int)=>if (((0:Int)<=x6/\x6<(z3.n:Int))/\x6.toNat<z3.n)then if (decide (64<(z3.g x6.toNat))) then some 2 else Ca N (λd (f:Bool) (b:Int)=>if (decide (b<((a.On.g x6.toNat).n:Int))) then if ((0:Int)<=b/\b<((a.On.g x6.toNat).n:Int))then d ((f||(decide (((a.On.g x6.toNat).g b.toNat)<0)))||(decide ((a.Laws.n:Int)<=((a.On.g x6.toNat).g b.toNat)))) (wrap .i64 (b+1)) else none else c z3 f (wrap .i64 (x6+1))) x5 0 else none) λk3=>if (decide (0<=(a.Tree.g x6.toNat).Nu)) then if (((((((0:Int)<=x6/\x6<((x4.upd x6.toNat ((a.On.g x6.toNat).n:Int)).n:Int))/\x6.toNat<(x4.upd x6.toNat ((a.On.g x6.toNat).n:Int)).n)/\((0:Int)<=(a.Tree.g x6.toNat).Nu/\(a.Tree.g x6.toNat).Nu<((x4.upd x6.toNat ((a.On.g x6.toNat).n:Int)).n:Int)))/\(a.Tree.g x6.toNat).Nu.toNat<(x4.upd x6.toNat ((a.On.g x6.toNat).n:Int)).n)/\((0:Int)<=x6/\x6<((x4.upd x6.toNat ((a.On.g x6.toNat).n:Int)).n:Int)))/\x6.toNat<(x4.upd x6.toNat ((a.On.g x6.toNat).n:Int)).n)then k3 ((x4.upd x6.toNat ((a.On.g x6.toNat).n:Int)).upd x6.toNat (wrap .i64 (((x4.upd x6.toNat ((a.On.g x6.toNat).n:Int)).g x6.toNat)+((x4.upd x6.toNat ((a.On.g x6.toNat).n:Int)).g (a.Tree.g x6.toNat).Nu.toNat)))) else none else k3 (x4.upd x6.toNat ((a.On.g x6.toNat).n:Int)) else none else none else if x5 then some 3 else some 0) (Sl.rep (a.On.n:Int).toNat 0:Sl Int) false 0 else none
theorem PI {d:Ns}{y:Int}(h:AE N d=some y) :Me S Ir [.p (.agg (B0 d))] [] (pN y) ([]) []:=by
 unfold AE at h;refine A2 Z func107 ?_;refine F6 Z Fe 2 2000 (B0 d) ?_;obtain⟨c1,h⟩:=C8 h;refine KW Z c1 h (λx4 x5 x6=>⟨[(17,pN x6),(16,pN (d.On.n:Int)),(15,.p (vSl 1 (cL 1 (cI .i64)) d.On)),(4,pB x5),(3,.vec 14000),(1,.p (.ptr (B0 d)))],[(14000,oV E1 1 (cI .i64) x4 false)]⟩) (ids:=[(14000,14000)]) (λ_ _ _ _ _ q x4 x5 x6 r h=>?_);apply kI Z h<;>intro h
 .obtain⟨c35,h⟩:=C8 h;refine N2 Z (Kn (Kn c35.1.1 c35.1.2) (Kn (rfl:(1:Nat)=1) (Kn c35.2 Fg))) 27 ⟨[(17,pN x6),(16,pN (d.On.n:Int)),(15,.p (vSl 1 (cL 1 (cI .i64)) d.On)),(6,.p (vSl 1 (cI .i64) (d.On.g x6.toNat))),(5,pN x6),(4,pB x5),(3,.vec 14000),(1,.p (.ptr (B0 d)))],[(14000,.vec E1 1 (x4.upd x6.toNat ((d.On.g x6.toNat).n:Int)).n (λi=>cI .i64 ((x4.upd x6.toNat ((d.On.g x6.toNat).n:Int)).g i)) false)]⟩ (ids:=[(14000,14000)]) ?_ (hle:=klR [(7,.fn x4.n (x4.upd x6.toNat ((d.On.g x6.toNat).n:Int)).n (λl=>if l=x6.toNat then splice ((λi=>cI .i64 (x4.g i)) l) 0 [pI .i64 ((d.On.g x6.toNat).n:Int)]else (λi=>cI .i64 (x4.g i)) l) (λi=>cI .i64 ((x4.upd x6.toNat ((d.On.g x6.toNat).n:Int)).g i)))] (al1 ⟨rfl,AV4 (c:=cI .i64) (v:=x4) (x:=((d.On.g x6.toNat).n:Int)) same (λ_=>by first|rfl|(dsimp only;split<;>rfl))⟩ al0));obtain⟨c36,h⟩:=C8 h;refine Kz Z c36 (A6 Z) h 0 (λz3=>⟨[(17,pN x6),(16,pN (d.On.n:Int)),(15,.p (vSl 1 (cL 1 (cI .i64)) d.On)),(6,.p (vSl 1 (cI .i64) (d.On.g x6.toNat))),(5,pN x6),(4,pB x5),(3,.vec 14000),(1,.p (.ptr (B0 d)))],[(14000,oV E1 1 (cI .i64) z3 false)]⟩) (λM3 k3 m h=>?_) (λz3 h=>?_)
  .apply kI Z h<;>intro h
   .refine EZ Z Fe ?_;obtain⟨c41,h⟩:=C8 h;refine D0 (Kn (Kn (Kn (Kn (Kn c41.1.1.1.1.1 c41.1.1.1.1.2) c41.1.1.1.2) c41.1.1.2) c41.1.2) (Kn (rfl:(1:Nat)=1) (Kn c41.2 Fg))) ?_;exact m _ [(14000,14000)] _ ((x4.upd x6.toNat ((d.On.g x6.toNat).n:Int)).upd x6.toNat (wrap .i64 (((x4.upd x6.toNat ((d.On.g x6.toNat).n:Int)).g x6.toNat)+((x4.upd x6.toNat ((d.On.g x6.toNat).n:Int)).g (d.Tree.g x6.toNat).Nu.toNat)))) Fe h (hle:=klR [(7,.fn (x4.upd x6.toNat ((d.On.g x6.toNat).n:Int)).n ((x4.upd x6.toNat ((d.On.g x6.toNat).n:Int)).upd x6.toNat (wrap .i64 (((x4.upd x6.toNat ((d.On.g x6.toNat).n:Int)).g x6.toNat)+((x4.upd x6.toNat ((d.On.g x6.toNat).n:Int)).g (d.Tree.g x6.toNat).Nu.toNat)))).n (λl=>if l=x6.toNat then splice ((λi=>cI .i64 ((x4.upd x6.toNat ((d.On.g x6.toNat).n:Int)).g i)) l) 0 [pI .i64 (wrap .i64 (((x4.upd x6.toNat ((d.On.g x6.toNat).n:Int)).g x6.toNat)+((x4.upd x6.toNat ((d.On.g x6.toNat).n:Int)).g (d.Tree.g x6.toNat).Nu.toNat)))]else (λi=>cI .i64 ((x4.upd x6.toNat ((d.On.g x6.toNat).n:Int)).g i)) l) (λi=>cI .i64 (((x4.upd x6.toNat ((d.On.g x6.toNat).n:Int)).upd x6.toNat (wrap .i64 (((x4.upd x6.toNat ((d.On.g x6.toNat).n:Int)).g x6.toNat)+((x4.upd x6.toNat ((d.On.g x6.toNat).n:Int)).g (d.Tree.g x6.toNat).Nu.toNat)))).g i)))] (al1 ⟨rfl,AV4 (c:=cI .i64) (v:=x4.upd x6.toNat ((d.On.g x6.toNat).n:Int)) (x:=wrap .i64 (((x4.upd x6.toNat ((d.On.g x6.toNat).n:Int)).g x6.toNat)+((x4.upd x6.toNat ((d.On.g x6.toNat).n:Int)).g (d.Tree.g x6.toNat).Nu.toNat))) same (λ_=>by first|rfl|(dsimp only;split<;>rfl))⟩ al0))
   exact m _ [(14000,14000)] _ (x4.upd x6.toNat ((d.On.g x6.toNat).n:Int)) Fe h
  obtain⟨c42,h⟩:=C8 h;refine C7 Z c42 (b:=decide (64<(z3.g x6.toNat))) (λc43=>?_) (λc43=>?_)
  .replace h:=itT c43 h;cases h;exact kR Z
  replace h:=itF c43 h;refine I1 Z Fe h (λj f=>⟨[(52,pN f),(51,pN ((d.On.g x6.toNat).n:Int)),(50,.p (vSl 1 (cI .i64) (d.On.g x6.toNat))),(17,pN x6),(16,pN (d.On.n:Int)),(15,.p (vSl 1 (cL 1 (cI .i64)) d.On)),(4,pB j),(3,.vec 14000),(1,.p (.ptr (B0 d)))],[(14000,oV E1 1 (cI .i64) z3 false)]⟩) (ids:=[(14000,14000)]) (λ_ _ _ _ _ s j f t h=>?_);apply kI Z h<;>intro h
  .obtain⟨c49,h⟩:=C8 h;refine kB Z (A6 Z) c49 Fe 10 (.o (.o (.a j) (.a (decide (((d.On.g x6.toNat).g f.toNat)<0)))) (.a (decide ((d.Laws.n:Int)<=((d.On.g x6.toNat).g f.toNat))))) ?_;exact t _ [(14000,14000)] _ ((j||(decide (((d.On.g x6.toNat).g f.toNat)<0)))||(decide ((d.Laws.n:Int)<=((d.On.g x6.toNat).g f.toNat)))) (wrap .i64 (f+1)) Fe h
  exact r _ [(14000,14000)] _ z3 j (wrap .i64 (x6+1)) Fe h
 apply kI Z h<;>intro h
 .cases h;exact kR Z
 cases h;exact kR Z
def K0 (N:Nat)(a:Ns):Option Int:= (W9 N a.Tree).bind λy1=>if (y1 != 0) then some 16 else if (decide (64<(a.Laws.n:Int))) then some 12 else Ca N (λb (x1:List (Str×Int)) (x2:Int)=>if (decide (x2<(a.Laws.n:Int))) then if ((0:Int)<=x2/\x2<(a.Laws.n:Int))then (AC N (a.Laws.g x2.toNat)).bind λy4=>if (y4 != 0) then some 17 else Nm (P1 eqS (a.Laws.g x2.toNat).Name x1) (b (Dd eqS (a.Laws.g x2.toNat).Name (wrap .i64 (0+1)) x1) (wrap .i64 (x2+1))) λv3=>b (Dd eqS (a.Laws.g x2.toNat).Name (wrap .i64 (v3+1)) x1) (wrap .i64 (x2+1)) else none else if (decide (((Dc PV.str (pI .i64) x1).length:Int)<(a.Laws.n:Int))) then some 6 else if ((a.On.n:Int) != (a.Tree.n:Int)) then some 2 else (AE N a).bind λy5=>some y5) [] 0
theorem CS {a:Ns}{y:Int}(h:K0 N a=some y) :Me S Ip [.p (.agg (B0 a))] [] (pN y) ([]) []:=by
 unfold K0 at h;refine A2 Z func67 ?_;refine kC Z h (FN Z Y) (λy1 h=>?_);apply kI Z h<;>intro h
 .cases h;exact kR Z
 apply kI Z h<;>intro h
 .cases h;exact kR Z
 refine I1 Z Fe h (λx1 x2=>⟨[(18,pN x2),(17,pN (a.Laws.n:Int)),(16,.p (vSl 18 B5 a.Laws)),(3,.No 15000),(1,.reg 2000 0)],[(15000,oM PV.str (pI .i64) x1),(2000,.cells ((B0 a).map .p))]⟩) (ids:=(Kk [2000,15000])) (λ_ _ _ _ _ c x1 x2 b h=>?_);apply kI Z h<;>intro h
 .obtain⟨c10,h⟩:=C8 h;obtain⟨y4,e4,h⟩:=A9 h;refine B4 Z [] (Kn c10 Iu) (He Z Y e4) ?_;apply kI Z h<;>intro h
  .cases h;exact kR Z
  rcases o3:P1 eqS (a.Laws.g x2.toNat).Name x1 with _|v3
  .replace h:=Ac3 o3 h;refine Xv Z Fe F5 E1 PV.str (pI .i64) eqS o3 (pI .i64 0) Fe ?_;refine Ad3 Z Fe F5 PV.str (pI .i64) eqS (a.Laws.g x2.toNat).Name (wrap .i64 (0+1)) x1 Fe ?_;exact b _ (Kk [2000,15000]) _ (Dd eqS (a.Laws.g x2.toNat).Name (wrap .i64 (0+1)) x1) (wrap .i64 (x2+1)) Fe h
  replace h:=Ze o3 h;refine Xu Z Fe F5 E1 PV.str (pI .i64) eqS o3 Fe ?_;refine Ad3 Z Fe F5 PV.str (pI .i64) eqS (a.Laws.g x2.toNat).Name (wrap .i64 (v3+1)) x1 Fe ?_;exact b _ (Kk [2000,15000]) _ (Dd eqS (a.Laws.g x2.toNat).Name (wrap .i64 (v3+1)) x1) (wrap .i64 (x2+1)) Fe h
 apply kI Z h<;>intro h
 .cases h;exact kR Z
 apply kI Z h<;>intro h
 .cases h;exact kR Z
 refine kC Z h (PI Z Y) (λy5 h=>?_);cases h;exact kR Z
def U8 (N:Nat)(b:Ns)(a:Int):Option Bool:= some ((decide (0<=a))&&(decide (a<(b.Tree.n:Int))))
theorem Ga {c:Ns}{b:Int}{y:Bool}(h:U8 N c b=some y) :Me S Ju [.p (.agg (B0 c)),pN b] [] (pB y) ([]) []:=by unfold U8 at h;refine A2 Z func37 ?_;refine kB Z (A6 Z) Fe Fe 6 (.n (.a (decide (0<=b))) (.a (decide (b<(c.Tree.n:Int))))) ?_;cases h;exact kR Z
def T0 (N:Nat)(q0:Int)(q1:Sl Node):Option (List (Int)):= Ca N (λa (x1:Int) (x2:Sl Int)=>if (decide (0<=x1)) then if ((Kl 8 (x2.n+(Sl.of [x1]:Sl Int).n))/\((0:Int)<=x1/\x1<(q1.n:Int)))then a (q1.g x1.toNat).Nu (x2.push x1) else none else X5 N (λb (x3:Int)=>if (decide (0<=x3)) then if (((0:Int)<=x3/\x3<(x2.n:Int))/\x3.toNat<x2.n)then Ak (x2.g x3.toNat) (b (wrap .i64 (x3-1))) else none else some []) (wrap .i64 ((x2.n:Int)-1))) q0 Iy
theorem IH {q0:Int}{q1:Sl Node}{L:List (Int)}(h:T0 N q0 q1=some L) :EW S Fb [] [.reg 0 0,.reg 1 0] [.cells [pN q0],.cells [.p (vSl 2 C5 q1)]] (L.map (λ(x:Int)=>[pI .i64 x])):=by
 unfold T0 at h;refine EC Z func68 ?_;refine ST Z Fe h (λx1 x2 L1=>⟨[(4,.vec 5500),(2,.reg 1 0),(1,.reg 0 0),(0,.yf 2)],[(5500,oV E1 1 (cI .i64) x2 false),(2,.yld (L1.map (λ(x:Int)=>[pI .i64 x])) true),(1,.cells [.p (vSl 2 C5 q1)]),(0,.cells [pN x1])]⟩) (ids:=(Kk [0,1,2])) (λ_ _ _ _ _ d x1 x2 L1 f h=>?_);apply kI Z h<;>intro h
 .obtain⟨c4,h⟩:=C8 h;exact f _ [(0,0),(1,1),(2,2),(5500,17000)] _ (q1.g x1.toNat).Nu (x2.push x1) L1 (Kn (Kn Ix c4.1) c4.2) h (hle:=kl1 0 (X6 (cI .i64) x2 x1 [pI .i64 0]))
 refine Dl Z Fe h (λx3 L2=>⟨[(5,pN x3),(4,.vec 5500),(0,.yf 2)],[(5500,oV E1 1 (cI .i64) x2 false),(2,.yld (L2.map (λ(x:Int)=>[pI .i64 x])) true),(1,.cells [.p (vSl 2 C5 q1)]),(0,.cells [pN x1])]⟩) (ids:=(Kk [0,1,2,5500])) (λ_ _ _ _ _ i x3 L2 j h=>?_);apply kI Z h<;>intro h
 .obtain⟨c14,h⟩:=C8 h;obtain⟨L5,rfl,c⟩:=Ma h;replace h:=c;refine Dk Z c14 (ys:=(λ(x:Int)=>[pI .i64 x]) (x2.g x3.toNat)) (rest:=L5.map (λ(x:Int)=>[pI .i64 x])) ?_ ?_
  .refine C7 Z Fe (b:=false) (λc15=>?_) (λc15=>?_)
   .exact Bool.noConfusion ((rfl:false=false).symm.trans c15)
   exact j _ (Kk [0,1,2,5500]) _ (wrap .i64 (x3-1)) L5 Fe h
  refine C7 Z Fe (b:=true) (λc16=>?_) (λc16=>?_)
  .exact kO Z Fe (a:=.tup []) (objs:=[(.cells [pN x1]),.cells [.p (vSl 2 C5 q1)],.yld [] false]) [0,1,2] ⟨false,rfl,rfl,_,rfl⟩
  exact Bool.noConfusion (Ix.symm.trans c16)
 obtain rfl:=B2 h;exact kO Z Fe (a:=.tup []) (objs:=[(.cells [pN x1]),.cells [.p (vSl 2 C5 q1)],.yld [] true]) [0,1,2] ⟨true,rfl,rfl,_,rfl⟩
def Be (N:Nat)(a:Sl Node)(b:Int):Option (Int×(Sl Node)):= some (b,a)
theorem LB {a:Sl Node}{b:Int}{y:Int×(Sl Node)}(h:Be N a b=some y) :Me S Lh [.p (vSl 2 C5 a),pN b] [] (.clo Fb [] [.reg 0 0,.reg 1 0]) ([.cells [pN y.1],.cells [.p (vSl 2 C5 y.2)]]) []:=by unfold Be at h;refine A2 Z func38 ?_;obtain rfl:=B2 h;exact kO Z Fe [4000,3000]
def Ab (N:Nat)(a:Ns)(c:Int):Option ((Sl Int)×Int):= (K0 N a).bind λy1=>if (y1 != 0) then some (Iy,y1) else (U8 N a c).bind λy2=>if (!y2) then some (Iy,3) else (Be N a.Tree c).bind λy3=>(T0 N y3.1 y3.2).bind λL1=>T2 L1 (λb (x1:Int) (z1:Sl Int)=>if (((0:Int)<=x1/\x1<(a.On.n:Int))/\(Kl 8 (z1.n+(a.On.g x1.toNat).n)))then b (z1.app (a.On.g x1.toNat)) else none) (λ(z1:Sl Int)=>some (z1,0)) Iy
theorem QT {a:Ns}{b:Int}{y:(Sl Int)×Int}(h:Ab N a b=some y) :Me S JD [.p (.agg (B0 a)),pN b] [] (.tup [.vec 0,pN y.2]) ([oV E1 1 (cI .i64) y.1 true]) []:=by
 unfold Ab at h;refine A2 Z func105 ?_;refine F6 Z Fe 4 3000 (B0 a) ?_;obtain⟨y1,e1,h⟩:=A9 h;refine B4 Z [] Ha (CS Z Y e1) ?_;apply kI Z h<;>intro h
 .obtain rfl:=B2 h;exact kO Z Fe [5700]
 obtain⟨y2,e2,h⟩:=A9 h;refine B4 Z [] Ha (Ga Z Y e2) ?_;apply kI Z h<;>intro h
 .obtain rfl:=B2 h;exact kO Z Fe [5700]
 refine kC Z h (LB Z Y) (λy3 h=>?_);obtain⟨L1,e4,h⟩:=A9 h;refine GV Z Fe [22000,22001] [7,2] 901 (λz1=>⟨[(7,.reg 8000 0),(2,.p (.ptr (B0 a)))],[(8500,oV E1 1 (cI .i64) z1 false),(8000,.cells [.vec 8500])]⟩) (idl:=[(8000,8000)]) h (IH Z Y e4) (λ_=>by kernel_rfl) (λ_=>by kernel_rfl) (λ_=>by kernel_rfl) (λ_=>by kernel_rfl) (λx1 _ c z1 d h=>?_) (λz1 h=>?_)
 .refine Kh Z Fe ?_;refine E2 Z Fe [2,4,5] ?_;obtain⟨c5,h⟩:=C8 h;refine D0 c5 ?_;exact d _ [(901,901),(8000,8000),(8500,30000)] _ (z1.app (a.On.g x1.toNat)) Fe h (hle:=kl1 0 (appS (cI .i64) z1 (a.On.g x1.toNat)))
 obtain rfl:=B2 h;exact kO Z Fe [8500]
def T1 (rec:Pat->Option Pat)(N:Nat)(a:Pat):Option Pat:= X5 N (λb (x2:Int)=>if (decide (x2<(a.L.n:Int))) then if ((0:Int)<=x2/\x2<(a.L.n:Int))then (rec (a.L.g x2.toNat)).bind λy3=>if (Kl 64 (x2.toNat+1))then b (wrap .i64 (x2+1)) else none else none else if x2.toNat=a.L.n then some a else none) 0
def S1:Nat->Pat->Option Pat
 |0=>λ_=>none
 |N+1=>T1 (S1 N) N
omit Z Y in
theorem wrapN {x:Int}(h:0<=x)(a:x.toNat+1<=140737488355328):(wrap .i64 (x+1)).toNat=x.toNat+1:=by have h1:(x+1) % (2 ^ 64:Int)=x+1:=Bn6 (by omega) (by omega);unfold wrap;simp only[IntKind.bits,IntKind.signed,h1];rw[Et (by simp;omega)];omega
theorem LC {rec:Pat->Option Pat}(b:∀{a:Pat}{y:Pat},rec a=some y->Me S AS [.p (.agg (D4 a))] [] (.p (.agg (D4 a))) ([]) []){a:Pat}{y:Pat}(h:T1 rec N a=some y) :Me S AS [.p (.agg (D4 a))] [] (.p (.agg (D4 a))) ([]) []:=by
 unfold T1 at h;refine A2 Z func112 ?_;refine N2 Z Fe 8 ⟨[(7,.p (vSl 7 D4 a.L)),(3,.p C6),(2,.reg 3000 0),(1,.reg 2000 0)],[(3000,.cells [pN 0,pU 0,pU 0,.p (.v (.bool false)),pN 0,pN 0,.p C6]),(2000,.cells ((D4 a).map .p))]⟩ (ids:=(Kk [2000,3000])) ?_ (hle:=klR [(0,.fn a.L.n a.L.n (ED a) (λi=>D4 (a.L.g i)))] (al1 ⟨rfl,Cb a⟩ al0));refine P8 Z Fe h (λx2=>⟨[(9,pN x2),(8,pN (a.L.n:Int)),(7,.p (vSl 7 D4 a.L)),(3,.vec 4500),(2,.reg 3000 0),(1,.reg 2000 0)],[(4500,.vec Gz 7 x2.toNat (λi=>D4 (a.L.g i)) false),(3000,.cells [pN 0,pU 0,pU 0,.p (.v (.bool false)),pN 0,pN 0,.p C6]),(2000,.cells ((D4 a).map .p))]⟩) (ids:=(Kk [2000,3000])) (λ_ _ _ _ _ c x2 d h=>?_);apply kI Z h<;>intro h
 .obtain⟨c6,h⟩:=C8 h;obtain⟨y3,e3,h⟩:=A9 h;refine B4 Z [] (Kn c6 Iq) (b e3) ?_;obtain⟨c7,h⟩:=C8 h;exact d _ [(2000,2000),(3000,3000),(4500,18000)] _ (wrap .i64 (x2+1)) (Kn Ix c7) h (hle:=kl1 3 (L:=.fn (x2.toNat+1) (wrap .i64 (x2+1)).toNat (Es x2.toNat (λi=>D4 (a.L.g i)) (G2 [pI .i64 0,pI .u32 0,pI .u32 0,.v (.bool false),pI .i64 0,pI .i64 0,C6] [(0,D4 (a.L.g x2.toNat))])) (λi=>D4 (a.L.g i))) ⟨(wrapN c6.1 c7.2).symm,λi f=>by
   unfold Es;split
   .rfl
   obtain rfl:i=x2.toNat:=by omega
   simp[G2]⟩)
 obtain⟨c8,h⟩:=C8 h;exact J6 Z Fe ⟨[(2,.reg 3000 0)],[(3000,.cells [pN a.Kind,pU a.Is.Plus,pU a.Is.Minus,pB a.Not,pN a.Min,pN a.Max,.p (.sl false 7 a.L.n (ED a))])]⟩ [] (ids:=[(3000,3000)]) ⟨rfl,rfl,rfl⟩ (hle:=kl1 6 (L:=.fn x2.toNat a.L.n (λi=>D4 (a.L.g i)) (ED a)) ⟨c8,λi f=>(Cb a i (by omega)).symm⟩)
theorem GA {a:Pat}{y:Pat}(h:S1 N a=some y) :Me S AS [.p (.agg (D4 a))] [] (.p (.agg (D4 a))) ([]) []:=by
 induction N generalizing a y with
 |zero=>cases (show (none:Option Pat)=some y from h)
 |succ N ih=>exact LC Z Y (λe=>ih e) h
def T5 (N:Nat)(a:Law):Option Law:= (S1 N a.Left).bind λ_=>(S1 N a.Right).bind λ_=>(A8 N a.If).bind λy3=>(H4 N a.Out).bind λy4=>some (⟨a.Name,a.Left,a.Right,y3,y4,a.Mode⟩:Law)
theorem HJ {a:Law}{y:Law}(h:T5 N a=some y) :Me S HA [.p (.agg (B5 a))] [] (.p (.agg (B5 y))) ([]) []:=by unfold T5 at h;refine A2 Z func71 ?_;refine E2 Z Fe [2,5] ?_;obtain⟨y1,e1,h⟩:=A9 h;refine G3 Fe (GA Z Y e1) ?_;obtain⟨y2,e2,h⟩:=A9 h;refine G3 Fe (GA Z Y e2) ?_;refine D0 Fe ?_;refine E2 Z Fe [2,5] ?_;obtain⟨y3,e3,h⟩:=A9 h;refine G3 Fe (AW Z Y e3) ?_;obtain⟨y4,e4,h⟩:=A9 h;refine G3 Fe (CB Z Y e4) ?_;refine D0 Fe ?_;cases h;exact kR Z
def R6 (N:Nat)(c:Ns)(a:Sl Int):Option (Sl Law):= Ca N (λb (x1:Sl Law) (x2:Int)=>if (decide (x2<(a.n:Int))) then if (((0:Int)<=x2/\x2<(a.n:Int))/\((0:Int)<=(a.g x2.toNat)/\(a.g x2.toNat)<(c.Laws.n:Int)))then (T5 N (c.Laws.g (a.g x2.toNat).toNat)).bind λy3=>if (Kl 200 (x1.n+(Sl.of [y3]:Sl Law).n))then b (x1.push y3) (wrap .i64 (x2+1)) else none else none else some x1) (Sl.nil:Sl Law) 0
theorem JN {b:Ns}{a:Sl Int}{y:Sl Law}(h:R6 N b a=some y) :Me S Jv [.p (.agg (B0 b)),.p (vSl 1 (cI .i64) a)] [] (.p (vSl 18 B5 y)) ([]) []:=by
 unfold R6 at h;refine A2 Z func40 ?_;refine I1 Z Fe h (λx1 x2=>⟨[(10,pN x2),(9,pN (a.n:Int)),(8,.p (vSl 1 (cI .i64) a)),(5,.vec 6500),(2,.reg 3000 0)],[(6500,oV H3 18 B5 x1 false),(3000,.cells ((B0 b).map .p))]⟩) (ids:=[(3000,3000)]) (λ_ _ _ _ _ c x1 x2 d h=>?_);apply kI Z h<;>intro h
 .obtain⟨c6,h⟩:=C8 h;obtain⟨y3,e3,h⟩:=A9 h;refine B4 Z [] (Kn (Kn c6.1 c6.2) Iu) (HJ Z Y e3) ?_;obtain⟨c7,h⟩:=C8 h;exact d _ [(3000,3000),(6500,23000)] _ (x1.push y3) (wrap .i64 (x2+1)) (Kn Ix c7) h (hle:=kl1 3 (X6 B5 x1 y3 [.str [],pI .i64 0,pI .u32 0,pI .u32 0,.v (.bool false),pI .i64 0,pI .i64 0,C6,pI .i64 0,pI .u32 0,pI .u32 0,.v (.bool false),pI .i64 0,pI .i64 0,C6,C6,C6,pI .i64 0]))
 obtain rfl:=B2 h;exact kO Z Fe []
def R7 (N:Nat)(a:Ns)(b:Int):Option ((Sl Law)×Int):= (Ab N a b).bind λy1=>(R6 N a y1.1).bind λy2=>some (y2,y1.2)
theorem QU {a:Ns}{b:Int}{y:(Sl Law)×Int}(h:R7 N a b=some y) :Me S Jy [.p (.agg (B0 a)),pN b] [] (.tup [.p (vSl 18 B5 y.1),pN y.2]) ([]) []:=by unfold R7 at h;refine A2 Z func65 ?_;refine kC Z h (QT Z Y) (λy1 h=>?_);refine kC Z h (JN Z Y) (λy2 h=>?_);cases h;exact kR Z
def CT (N:Nat)(a:Ns)(b:Sl Kj):Option Int:= (K0 N a).bind λy1=>if (y1 != 0) then some y1 else (W8 N b).bind λy2=>some y2
theorem PJ {a:Ns}{b:Sl Kj}{y:Int}(h:CT N a b=some y) :Me S Il [.p (.agg (B0 a)),.p (vSl 2 A0 b)] [] (pN y) ([]) []:=by
 unfold CT at h;refine A2 Z func36 ?_;refine kC Z h (CS Z Y) (λy1 h=>?_);apply kI Z h<;>intro h
 .cases h;exact kR Z
 refine kC Z h (DR Z Y) (λy2 h=>?_);cases h;exact kR Z
def X0 (N:Nat)(a:Ns)(c:Sl Kj)(d:Int):Option ((Sl Kj)×Int):= (CT N a c).bind λy1=>if (y1 != 0) then some (Jf,y1) else (U8 N a d).bind λy2=>if (!y2) then some (Jf,3) else (Be N a.Tree d).bind λy3=>(T0 N y3.1 y3.2).bind λL1=>T2 L1 (λb (x1:Int) (z1:Sl Kj)=>if ((0:Int)<=x1/\x1<(a.On.n:Int))then (R6 N a (a.On.g x1.toNat)).bind λy8=>(N4 N y8 z1).bind λy9=>if (y9.2 != 0) then some (Jf,y9.2) else b y9.1 else none) (λ(z1:Sl Kj)=>some (z1,0)) c
theorem Nb {a:Ns}{b:Sl Kj}{c:Int}{y:(Sl Kj)×Int}(h:X0 N a b c=some y) :Me S MH [.p (.agg (B0 a)),.p (vSl 2 A0 b),pN c] [] (.tup [.p (vSl 2 A0 y.1),pN y.2]) ([]) []:=by
 unfold X0 at h;refine A2 Z func14 ?_;refine F6 Z Fe 4 4000 (B0 a) ?_;obtain⟨y1,e1,h⟩:=A9 h;refine B4 Z [] Ha (PJ Z Y e1) ?_;apply kI Z h<;>intro h
 .obtain rfl:=B2 h;exact J6 Z Fe ⟨[(7,.reg 8000 0),(6,.reg 7000 0)],[(8000,.cells [pN y1]),(7000,.cells [.p (vSl 2 A0 Jf)])]⟩ [] (ids:=(Kk [7000,8000])) ⟨rfl,rfl,rfl⟩
 obtain⟨y2,e2,h⟩:=A9 h;refine B4 Z [] Ha (Ga Z Y e2) ?_;apply kI Z h<;>intro h
 .obtain rfl:=B2 h;exact J6 Z Fe ⟨[(7,.reg 8000 0),(6,.reg 7000 0)],[(8000,.cells [pN 3]),(7000,.cells [.p (vSl 2 A0 Jf)])]⟩ [] (ids:=(Kk [7000,8000])) ⟨rfl,rfl,rfl⟩
 refine kC Z h (LB Z Y) (λy3 h=>?_);obtain⟨L1,e4,h⟩:=A9 h;refine GV Z Fe [25000,25001] [7,6,4,3] 901 (λz1=>⟨[(7,.reg 8000 0),(6,.reg 7000 0),(4,.reg 5000 0),(3,.p (.ptr (B0 a)))],[(8000,.cells [pN 0]),(7000,.cells [.p C6]),(5000,.cells [.p (vSl 2 A0 z1)])]⟩) (idl:=(Kk [5000,7000,8000])) h (IH Z Y e4) (λ_=>by kernel_rfl) (λ_=>by kernel_rfl) (λ_=>by kernel_rfl) (λ_=>by kernel_rfl) (λx1 _ d z1 f h=>?_) (λz1 h=>?_)
 .refine Kh Z Fe ?_;refine E2 Z Fe [0,2,4,5,6,8] ?_;obtain⟨c7,h⟩:=C8 h;obtain⟨y8,e9,h⟩:=A9 h;refine G3 (Kn Ha c7) (JN Z Y e9) ?_;obtain⟨y9,e10,h⟩:=A9 h;refine G3 Fe (Fo Z Y e10) ?_;refine D0 Fe ?_;apply kI Z h<;>intro h
  .refine NN Z Fe ⟨[(7,.reg 8000 0),(6,.reg 7000 0),(4,.reg 5000 0),(3,.p (.ptr (B0 a)))],[(8000,.cells [pN y9.2]),(7000,.cells [.p C6]),(5000,.cells [.p (vSl 2 A0 y9.1)])]⟩ (ids:=(Kk [901,5000,7000,8000])) ?_;obtain rfl:=B2 h;exact J6 Z Fe ⟨[(7,.reg 8000 0),(6,.reg 7000 0)],[(8000,.cells [pN y9.2]),(7000,.cells [.p (vSl 2 A0 Jf)])]⟩ [] (ids:=(Kk [7000,8000])) ⟨rfl,rfl,rfl⟩
  exact f _ (Kk [901,5000,7000,8000]) _ y9.1 Fe h
 cases h;exact kR Z
end Go.AM
namespace Go.AM
open IntKind (wrap)
open Go.Proofs
set_option maxRecDepth 10000
set_option maxHeartbeats 2000000
variable {S:U5}(Z:G6 S Tryz.prog) (Y:JK S)
abbrev Fp {T:Type}(e:TypeId)(k:Nat)(c:T->List PV)(x:Sl T):Obj:=.vec e k x.n (λq=>c (x.g q)) false
def Bc4 {T:Type}{e:TypeId}{k n i:Nat}{c:T->List PV}{X:Sl (Sl T)}{z:Sl T}:∀q,q<n->(λq=>if q=i then Fp e k c z else if q=i then Obj.dead else Fp e k c (X.g q)) q=(λq=>Fp e k c ((X.upd i z).g q)) q:=λq _=>by by_cases h:q=i<;>simp[h]
include Z Y
def AF (N:Nat)(a:Sl Node):Option (Sl (Sl Int)):= if ((0:Int)<=(a.n:Int)/\(a.n:Int)<=(a.n:Int)/\(a.n:Int)*24<=140737488355328/\(a.n:Int)<=140737488355328)then Ca N (λb (x:Int) (X:Sl (Sl Int))=>if (decide (x<(a.n:Int))) then if ((0:Int)<=x/\x<(a.n:Int))then if (a.g x.toNat).Nu.toNat<X.n then lt (λ(z:Sl Int)=>b (wrap .i64 (x+1)) (X.upd (a.g x.toNat).Nu.toNat z)) λk=>if (decide (0<x)) then if (((0:Int)<=(a.g x.toNat).Nu/\(a.g x.toNat).Nu<(X.n:Int))/\(Kl 8 ((X.g (a.g x.toNat).Nu.toNat).n+1)))then k ((X.g (a.g x.toNat).Nu.toNat).push x) else none else k (X.g (a.g x.toNat).Nu.toNat) else none else none else some X) 0 ⟨a.n,λ_=>Sl.nil⟩ else none
theorem PK {N:Nat}{b:Sl Node}{y:Sl (Sl Int)}(h:AF N b=some y) :Me S Iv [.p (vSl 2 C5 b)] [] (.p (vSl 1 (cL 1 (cI .i64)) y)) [] []:=by
 unfold AF at h;refine A2 Z Tryz.func116 ?_;obtain⟨c1,h⟩:=C8 h;refine Fa Z c1 9 (.fam 9000 9901 λi=>Fp E1 1 (cI .i64) ((⟨b.n,λ_=>Sl.nil⟩:Sl (Sl Int)).g i)) (⟨by decide,λi _=>rfl⟩:1000<=9901/\∀i,i<b.n->Rf [C6] (Fp E1 1 (cI .i64) ((⟨b.n,λ_=>Sl.nil⟩:Sl (Sl Int)).g i))) ?_;refine I1 Z Fe h (λx X=>⟨[(11,pN x),(10,pN (b.n:Int)),(9,.p (vSl 2 C5 b)),(3,.vec 9000)],[(9901,.rows X.n λi=>Fp E1 1 (cI .i64) (X.g i)),(9000,.fam FK X.n 9901 none)]⟩) (ids:=(Kk [9901,9000])) (λ_ _ _ _ _ f x X d h=>?_);apply kI Z h<;>intro h
 .obtain⟨c2,h⟩:=C8 h;obtain⟨c3,h⟩:=C8 h;refine Fa Z (Kn c2 Gt) 17 (.take 9000 (b.g x.toNat).Nu.toNat 9801) (⟨⟨by decide,rfl⟩,c3⟩:(1000<=9801/\X.n=X.n)/\(b.g x.toNat).Nu.toNat<X.n) ?_;refine Kz Z Fe (A6 Z) h 0 (λz=>⟨[(11,pN x),(10,pN (b.n:Int)),(9,.p (vSl 2 C5 b)),(3,.vec 9000)],
   [(9901,(.rows X.n λl=>if l=(b.g x.toNat).Nu.toNat then .dead else Fp E1 1 (cI .i64) (X.g l))),(9801,Fp E1 1 (cI .i64) z),(9000,.fam FK X.n 9901 (some ((b.g x.toNat).Nu.toNat,.vec 9801)))]⟩) (λM k c h=>?_) (λz h=>?_)
  .apply kI Z h<;>intro h
   .obtain⟨c4,h⟩:=C8 h;refine F2 Z Fe [(0,.n),(1,.n),(2,.l [6000]),(3,.n),(4,.n),(5,.l [6000]),(6,.l [9000]),(7,.l [9000]),(8,.n),(10,.a [29000,9801]),(11,.l [9000]),(12,.a [9000])] ?_;refine M4 (Kn c4.1 (Kn c3 (rfl:(b.g x.toNat).Nu.toNat=(b.g x.toNat).Nu.toNat))) (x:=.sl true 1 1 (G2 [pI .i64 0] [(0,cI .i64 x)])) ?_;refine D0 (Kn (Kn c4.2 c4.1) (Kn c3 (rfl:(b.g x.toNat).Nu.toNat=(b.g x.toNat).Nu.toNat))) ?_;exact c _ [(9901,9901),(9801,29000),(9000,9000)] _ ((X.g (b.g x.toNat).Nu.toNat).push x) Fe h (hle:=kl1 5 (X6 (cI .i64) (X.g (b.g x.toNat).Nu.toNat) x [pI .i64 0]))
   exact c _ (Kk [9901,9801,9000]) _ (X.g (b.g x.toNat).Nu.toNat) Fe h
  refine Fa Z Fe 30 (.put 9000 9902) (⟨⟨by decide,rfl⟩,c3⟩:(1000<=9902/\X.n=X.n)/\(b.g x.toNat).Nu.toNat<X.n) ?_;exact d _ [(9901,9902),(9000,9000)] _ (wrap .i64 (x+1)) (X.upd (b.g x.toNat).Nu.toNat z) Fe h (hle:=klR [(4,.ob X.n (λq=>if q=(b.g x.toNat).Nu.toNat then Fp E1 1 (cI .i64) z else if q=(b.g x.toNat).Nu.toNat then .dead else Fp E1 1 (cI .i64) (X.g q)) λi=>Fp E1 1 (cI .i64) ((X.upd (b.g x.toNat).Nu.toNat z).g i))] (al1 Bc4 al0))
 refine Fa Z Fe 31 (.pub 9000) (⟨rfl,λi _=>rfl⟩:X.n=X.n/\∀i,i<X.n->(Rd (Fp E1 1 (cI .i64) (X.g i))).isSome=true) ?_;obtain rfl:=B2 h;exact kO Z Fe [] (hle:=klR [(0,.fn X.n X.n (λi=>[(Rd (Fp E1 1 (cI .i64) (X.g i))).getD default]) (λi=>cL 1 (cI .i64) (X.g i)))] (al1 ⟨rfl,λ_ _=>rfl⟩ al0))
end Go.AM
namespace Go.AM
open Go.Proofs.Tryz
variable {N:Nat}
open IntKind (wrap)
open Go.Proofs
set_option maxRecDepth 10000
set_option maxHeartbeats 2000000
variable {S:U5}(Z:G6 S Tryz.prog) (Y:JK S)
include Z Y
def CU (N:Nat)(b:Sl Node):Option (Sl Int):= (AF N b).bind λy1=>Ca N (λa (x1:Sl Int) (x2:Int)=>if (decide (x2<(y1.n:Int))) then if ((0:Int)<=x2/\x2<(y1.n:Int))then if (((y1.g x2.toNat).n:Int)==0) then if (Kl 8 (x1.n+(Sl.of [x2]:Sl Int).n))then a (x1.push x2) (wrap .i64 (x2+1)) else none else a x1 (wrap .i64 (x2+1)) else none else some x1) Iy 0
theorem TG {a:Sl Node}{y:Sl Int}(h:CU N a=some y) :Me S Ll [.p (vSl 2 C5 a)] [] (.vec 0) ([oV E1 1 (cI .i64) y true]) []:=by
 unfold CU at h;refine A2 Z func74 ?_;refine kC Z h (PK Z Y) (λy1 h=>?_);refine I1 Z Fe h (λx1 x2=>⟨[(9,pN x2),(8,pN (y1.n:Int)),(7,.p (vSl 1 (cL 1 (cI .i64)) y1)),(3,.vec 4500)],[(4500,oV E1 1 (cI .i64) x1 false)]⟩) (ids:=[]) (λ_ _ _ _ _ d x1 x2 c h=>?_);apply kI Z h<;>intro h
 .obtain⟨c8,h⟩:=C8 h;refine C7 Z c8 (b:=((y1.g x2.toNat).n:Int)==0) (λc9=>?_) (λc9=>?_)
  .replace h:=itT c9 h;obtain⟨c10,h⟩:=C8 h;exact c _ [(4500,21000)] _ (x1.push x2) (wrap .i64 (x2+1)) (Kn Ix c10) h (hle:=kl1 3 (X6 (cI .i64) x1 x2 [pI .i64 0]))
  replace h:=itF c9 h;exact c _ [(4500,4500)] _ x1 (wrap .i64 (x2+1)) Fe h
 obtain rfl:=B2 h;exact kO Z Fe [4500]
def U0 (N:Nat)(a:Sl Node):Option ((Sl Int)×Int):= (W9 N a).bind λy1=>if (y1 != 0) then some (Iy,y1) else (CU N a).bind λy2=>some (y2,0)
theorem EF {a:Sl Node}{y:(Sl Int)×Int}(h:U0 N a=some y) :Me S Li [.p (vSl 2 C5 a)] [] (.tup [.vec 0,pN y.2]) ([oV E1 1 (cI .i64) y.1 true]) []:=by
 unfold U0 at h;refine A2 Z func42 ?_;refine kC Z h (FN Z Y) (λy1 h=>?_);apply kI Z h<;>intro h
 .obtain rfl:=B2 h;exact kO Z Fe [3700]
 refine kC Z h (TG Z Y) (λy2 h=>?_);obtain rfl:=B2 h;exact kO Z Fe [12000]
def BY (N:Nat)(b:Sl Node)(c:Int):Option (Sl Int):= Ca N (λa (x1:Sl Int) (x2:Int)=>if (decide (x2<(b.n:Int))) then if ((0:Int)<=x2/\x2<(b.n:Int))then if ((b.g x2.toNat).Nu==c) then if (Kl 8 (x1.n+(Sl.of [x2]:Sl Int).n))then a (x1.push x2) (wrap .i64 (x2+1)) else none else a x1 (wrap .i64 (x2+1)) else none else some x1) Iy 0
theorem QV {a:Sl Node}{c:Int}{y:Sl Int}(h:BY N a c=some y) :Me S Jt [.p (vSl 2 C5 a),pN c] [] (.vec 0) ([oV E1 1 (cI .i64) y true]) []:=by
 unfold BY at h;refine A2 Z func35 ?_;refine I1 Z Fe h (λx1 x2=>⟨[(6,pN x2),(5,.vec 6500),(1,pN c),(0,.p (vSl 2 C5 a))],[(6500,oV E1 1 (cI .i64) x1 false)]⟩) (ids:=[]) (λ_ _ _ _ _ f x1 x2 d h=>?_);apply kI Z h<;>intro h
 .obtain⟨c8,h⟩:=C8 h;refine C7 Z c8 (b:=(a.g x2.toNat).Nu==c) (λc9=>?_) (λc9=>?_)
  .replace h:=itT c9 h;obtain⟨c10,h⟩:=C8 h;exact d _ [(6500,24000)] _ (x1.push x2) (wrap .i64 (x2+1)) (Kn Ix c10) h (hle:=kl1 3 (X6 (cI .i64) x1 x2 [pI .i64 0]))
  replace h:=itF c9 h;exact d _ [(6500,6500)] _ x1 (wrap .i64 (x2+1)) Fe h
 obtain rfl:=B2 h;exact kO Z Fe [6500]
def X1 (N:Nat)(b:Sl Node):Option ((Sl Int)×Int):= (Dt N b).bind λy1=>if (y1 != 0) then some (Iy,y1) else Ca N (λa (x1:Sl Int) (x2:Int)=>if (decide (x2<(b.n:Int))) then (BY N b x2).bind λy4=>if ((y4.n:Int)==0) then if (Kl 8 (x1.n+(Sl.of [x2]:Sl Int).n))then a (x1.push x2) (wrap .i64 (x2+1)) else none else a x1 (wrap .i64 (x2+1)) else some (x1,0)) Iy 0
theorem Nc {a:Sl Node}{y:(Sl Int)×Int}(h:X1 N a=some y) :Me S MG [.p (vSl 2 C5 a)] [] (.tup [.vec 0,pN y.2]) ([oV E1 1 (cI .i64) y.1 true]) []:=by
 unfold X1 at h;refine A2 Z func13 ?_;refine kC Z h (Yc Z Y) (λy1 h=>?_);apply kI Z h<;>intro h
 .obtain rfl:=B2 h;exact kO Z Fe [3700]
 refine I1 Z Fe h (λx1 x2=>⟨[(6,pN x2),(5,.vec 6500),(0,.p (vSl 2 C5 a))],[(6500,oV E1 1 (cI .i64) x1 false)]⟩) (ids:=[]) (λ_ _ _ _ _ c x1 x2 b h=>?_);apply kI Z h<;>intro h
 .refine kC Z h (QV Z Y) (λy4 h=>?_);apply kI Z h<;>intro h
  .obtain⟨c8,h⟩:=C8 h;exact b _ [(6500,27000)] _ (x1.push x2) (wrap .i64 (x2+1)) (Kn Ix c8) h (hle:=kl1 2 (X6 (cI .i64) x1 x2 [pI .i64 0]))
  exact b _ [(6500,6500)] _ x1 (wrap .i64 (x2+1)) Fe h
 obtain rfl:=B2 h;exact kO Z Fe [6500]
def DX (N:Nat)(c:Sl Node)(a:Sl Int):Option Int:= (W9 N c).bind λy1=>if (y1 != 0) then some y1 else X5 N (λb (x1:Int)=>if (decide (x1<(a.n:Int))) then if ((0:Int)<=x1/\x1<(a.n:Int))then if ((decide ((a.g x1.toNat)<0))||(decide ((c.n:Int)<=(a.g x1.toNat)))) then some 3 else b (wrap .i64 (x1+1)) else none else some 0) 0
theorem Wc {c:Sl Node}{b:Sl Int}{y:Int}(h:DX N c b=some y) :Me S MV [.p (vSl 2 C5 c),.p (vSl 1 (cI .i64) b)] [] (pN y) ([]) []:=by
 unfold DX at h;refine A2 Z func137 ?_;refine kC Z h (FN Z Y) (λy1 h=>?_);apply kI Z h<;>intro h
 .cases h;exact kR Z
 refine P8 Z Fe h (λx1=>⟨[(15,pN x1),(14,pN (b.n:Int)),(13,.p (vSl 1 (cI .i64) b)),(0,.p (vSl 2 C5 c))],[]⟩) (ids:=[]) (λ_ _ _ _ _ d x1 f h=>?_);apply kI Z h<;>intro h
 .obtain⟨c9,h⟩:=C8 h;refine kB Z (A6 Z) c9 Fe 5 (.o (.a (decide ((b.g x1.toNat)<0))) (.a (decide ((c.n:Int)<=(b.g x1.toNat))))) ?_;apply kI Z h<;>intro h
  .cases h;exact kR Z
  exact f _ [] _ (wrap .i64 (x1+1)) Fe h
 cases h;exact kR Z
def Fq (N:Nat)(q0:Int)(q1:Sl Node):Option (List (Int)):= X5 N (λa (x1:Int)=>if (decide (0<=x1)) then Ak x1 (if ((0:Int)<=x1/\x1<(q1.n:Int))then a (q1.g x1.toNat).Nu else none) else some []) q0
theorem Yd {q0:Int}{q1:Sl Node}{L:List (Int)}(h:Fq N q0 q1=some L) :EW S Km [] [.reg 0 0,.reg 1 0] [.cells [pN q0],.cells [.p (vSl 2 C5 q1)]] (L.map (λ(x:Int)=>[pI .i64 x])):=by
 unfold Fq at h;refine EC Z func176 ?_;refine Dl Z Fe h (λx1 L1=>⟨[(2,.reg 1 0),(1,.reg 0 0),(0,.yf 2)],[(2,.yld (L1.map (λ(x:Int)=>[pI .i64 x])) true),(1,.cells [.p (vSl 2 C5 q1)]),(0,.cells [pN x1])]⟩) (ids:=(Kk [0,1,2])) (λ_ _ _ _ _ d x1 L1 f h=>?_);apply kI Z h<;>intro h
 .obtain⟨L4,rfl,c⟩:=Ma h;replace h:=c;refine Dk Z Fe (ys:=(λ(x:Int)=>[pI .i64 x]) x1) (rest:=L4.map (λ(x:Int)=>[pI .i64 x])) ?_ ?_
  .refine C7 Z Fe (b:=false) (λc8=>?_) (λc8=>?_)
   .exact Bool.noConfusion ((rfl:false=false).symm.trans c8)
   obtain⟨c9,h⟩:=C8 h;exact f _ (Kk [0,1,2]) _ (q1.g x1.toNat).Nu L4 c9 h
  refine C7 Z Fe (b:=true) (λc10=>?_) (λc10=>?_)
  .exact kO Z Fe (a:=.tup []) (objs:=[(.cells [pN x1]),.cells [.p (vSl 2 C5 q1)],.yld [] false]) [0,1,2] ⟨false,rfl,rfl,_,rfl⟩
  exact Bool.noConfusion (Ix.symm.trans c10)
 obtain rfl:=B2 h;exact kO Z Fe (a:=.tup []) (objs:=[(.cells [pN x1]),.cells [.p (vSl 2 C5 q1)],.yld [] true]) [0,1,2] ⟨true,rfl,rfl,_,rfl⟩
def LD (N:Nat)(a:Sl Node)(b:Int):Option (Int×(Sl Node)):= some (b,a)
theorem Ap1 {a:Sl Node}{b:Int}{y:Int×(Sl Node)}(h:LD N a b=some y) :Me S VL [.p (vSl 2 C5 a),pN b] [] (.clo Km [] [.reg 0 0,.reg 1 0]) ([.cells [pN y.1],.cells [.p (vSl 2 C5 y.2)]]) []:=by unfold LD at h;refine A2 Z func139 ?_;obtain rfl:=B2 h;exact kO Z Fe [4000,3000]
def G5 (N:Nat)(a:List (Int)):Option (Sl Int):= T2 a (λb (x1:Int) (z1:Sl Int)=>if (Kl 8 (z1.n+(Sl.of [x1]:Sl Int).n))then b (z1.push x1) else none) (λ(z1:Sl Int)=>some z1) Iy
theorem DY {c:List (Int)}{a:Int}{b:(Sl Node)}{kp_seq:Nat}(fp_seq:∃fn,Bg6[kp_seq]? = some fn/\fn.body.isSome=true/\(fn.name == "runtime.NumGoroutine")=false)(d:EW S kp_seq [] [.reg 0 0,.reg 1 0] [(.cells [(pN a)]),(.cells [(.p (vSl 2 C5 b))])] (c.map (λ(x:Int)=>[(pI .i64) x]))){y:(Sl Int)}(h:G5 N c=some y) :Me S P7 [(.p C6),(.clo kp_seq [] [(.reg 0 0),(.reg 1 0)])] [(.cells [(pN a)]),(.cells [(.p (vSl 2 C5 b))])] (.vec 0) ([(oV E1 1 (cI .i64) y false)]) [false,false]:=by
 unfold G5 at h;refine A2 Z func175 ?_;refine NM Z Fe fp_seq [0,1] [2] 901 (λz1=>⟨[(2,(.reg 3000 0))],[(3500,(oV E1 1 (cI .i64) z1 false)),(3000,(.cells [(.vec 3500)]))]⟩) (idl:=[(3000,3000)]) h d (λ_=>by kernel_rfl) (λ_=>by kernel_rfl) (λ_=>by kernel_rfl) (λ_=>by kernel_rfl) (λx1 _ f z1 g h=>?_) (λz1 h=>?_)
 .refine Kh Z Fe ?_;obtain⟨c1,h⟩:=C8 h;exact g _ [(901,901),(3000,3000),(3500,12000)] _ (z1.push x1) (Kn Ix c1) h (hle:=kl1 0 (X6 (cI .i64) z1 x1 [(pI .i64 0)]))
 obtain rfl:=B2 h;exact kO Z Fe [3500]
def U1 (N:Nat)(a:List (Int)):Option (Sl Int):= (G5 N a).bind λy1=>some y1
theorem II {c:List (Int)}{a:Int}{b:(Sl Node)}{kp_seq:Nat}(fp_seq:∃fn,Bg6[kp_seq]? = some fn/\fn.body.isSome=true/\(fn.name == "runtime.NumGoroutine")=false)(d:EW S kp_seq [] [.reg 0 0,.reg 1 0] [(.cells [(pN a)]),(.cells [(.p (vSl 2 C5 b))])] (c.map (λ(x:Int)=>[(pI .i64) x]))){y:(Sl Int)}(h:U1 N c=some y) :Me S Bn [(.clo kp_seq [] [(.reg 0 0),(.reg 1 0)])] [(.cells [(pN a)]),(.cells [(.p (vSl 2 C5 b))])] (.vec 0) ([(oV E1 1 (cI .i64) y false)]) [false,false]:=by unfold U1 at h;refine A2 Z func138 ?_;obtain⟨y1,e1,h⟩:=A9 h;refine B4 Z [0,1] Fe (DY Z Y fp_seq d e1) ?_;obtain rfl:=B2 h;exact kO Z Fe [5000]
def I4 (N:Nat)(b:Sl Int):Option (Sl Int):= Al7 N (λa (x1:Sl Int) (x2:Int) (x3:Int)=>if (decide (x2<x3)) then if (((((((((0:Int)<=x3/\x3<(x1.n:Int))/\x3.toNat<x1.n)/\((0:Int)<=x2/\x2<(x1.n:Int)))/\x2.toNat<x1.n)/\((0:Int)<=x2/\x2<(x1.n:Int)))/\x2.toNat<x1.n)/\((0:Int)<=x3/\x3<((x1.upd x2.toNat (x1.g x3.toNat)).n:Int)))/\x3.toNat<(x1.upd x2.toNat (x1.g x3.toNat)).n)then a ((x1.upd x2.toNat (x1.g x3.toNat)).upd x3.toNat (x1.g x2.toNat)) (wrap .i64 (x2+1)) (wrap .i64 (x3-1)) else none else some x1) b 0 (wrap .i64 ((b.n:Int)-1))
theorem Fr {a:Sl Int}{y:Sl Int}(h:I4 N a=some y) :Me S Av [.vec 0] [oV E1 1 (cI .i64) a false] (.tup []) ([oV E1 1 (cI .i64) y false]) [true]:=by
 unfold I4 at h;refine A2 Z func140 ?_;refine KW Z Fe h (λx1 x2 x3=>⟨[(3,pN x3),(2,pN x2),(0,.vec 0)],[(0,oV E1 1 (cI .i64) x1 false)]⟩) (ids:=[(0,0)]) (λ_ _ _ _ _ b x1 x2 x3 d h=>?_);apply kI Z h<;>intro h
 .refine EZ Z Fe ?_;obtain⟨c6,h⟩:=C8 h;refine D0 (Kn (Kn (Kn (Kn (Kn (Kn (Kn c6.1.1.1.1.1.1.1 c6.1.1.1.1.1.1.2) c6.1.1.1.1.1.2) c6.1.1.1.1.2) c6.1.1.1.2) (Kn (rfl:(1:Nat)=1) (Kn c6.1.1.2 Fg))) c6.1.2) (Kn (rfl:(1:Nat)=1) (Kn c6.2 Fg))) ?_;exact d _ [(0,0)] _ ((x1.upd x2.toNat (x1.g x3.toNat)).upd x3.toNat (x1.g x2.toNat)) (wrap .i64 (x2+1)) (wrap .i64 (x3-1)) Fe h (hle:=klR [(2,.fn x1.n ((x1.upd x2.toNat (x1.g x3.toNat)).upd x3.toNat (x1.g x2.toNat)).n (λl=>if l=x3.toNat then splice ((λl=>if l=x2.toNat then splice ((λi=>cI .i64 (x1.g i)) l) 0 [pI .i64 (x1.g x3.toNat)]else (λi=>cI .i64 (x1.g i)) l) l) 0 [pI .i64 (x1.g x2.toNat)]else (λl=>if l=x2.toNat then splice ((λi=>cI .i64 (x1.g i)) l) 0 [pI .i64 (x1.g x3.toNat)]else (λi=>cI .i64 (x1.g i)) l) l) (λi=>cI .i64 (((x1.upd x2.toNat (x1.g x3.toNat)).upd x3.toNat (x1.g x2.toNat)).g i)))] (al1 ⟨rfl,AV4 (c:=cI .i64) (v:=x1.upd x2.toNat (x1.g x3.toNat)) (x:=x1.g x2.toNat) (AV4 (c:=cI .i64) (v:=x1) (x:=x1.g x3.toNat) same (λ_=>by first|rfl|(dsimp only;split<;>rfl))) (λ_=>by first|rfl|(dsimp only;split<;>rfl))⟩ al0))
 obtain rfl:=B2 h;exact kO Z Fe [0]
def Fs (N:Nat)(a:Sl Node)(b:Int):Option ((Sl Int)×Int):= (DX N a (Sl.of [b]:Sl Int)).bind λy1=>if (y1 != 0) then some (Iy,y1) else (LD N a b).bind λy2=>(Fq N y2.1 y2.2).bind λL1=>(U1 N L1).bind λy3=>(I4 N y3).bind λy4=>some (y4,0)
theorem Ye {b:Sl Node}{a:Int}{y:(Sl Int)×Int}(h:Fs N b a=some y) :Me S Pm [.p (vSl 2 C5 b),pN a] [] (.tup [.vec 0,pN y.2]) ([oV E1 1 (cI .i64) y.1 true]) []:=by
 unfold Fs at h;refine A2 Z func93 ?_;refine KV Z Ix ⟨[(10,.vec 11000),(8,.p (vSl 2 C5 b)),(1,pN a),(0,.p (vSl 2 C5 b))],[(11000,oV E1 1 (cI .i64) (Sl.of [a]:Sl Int) false)]⟩ (ids:=[(11000,11000)]) ?_ (hle:=kl1 3 (Ad2 (cI .i64) ([a]:List Int) [pI .i64 0]));refine kC Z h (Wc Z Y) (λy1 h=>?_);apply kI Z h<;>intro h
 .obtain rfl:=B2 h;exact kO Z Fe [5700]
 refine kC Z h (Ap1 Z Y) (λy2 h=>?_);obtain⟨L1,e3,h⟩:=A9 h;obtain⟨y3,e4,h⟩:=A9 h;refine B4 Z [18000,18001] Fe (II Z Y ⟨_,func176,by decide +kernel,by decide +kernel⟩ (Yd Z Y e3) e4) ?_;obtain⟨y4,e5,h⟩:=A9 h;refine AQ6 Z [19000] Fe (Fr Z Y e5) ?_;obtain rfl:=B2 h;exact kO Z Fe [19000]
def DZ (N:Nat)(a:Sl Kj):Option Str:= Ca N (λb (x1:Sl Int) (x2:Int)=>if (decide (x2<(a.n:Int))) then if ((0:Int)<=x2/\x2<(a.n:Int))then if (Kl 1 (x1.n+(Ff (a.g x2.toNat).Plus).n))then if (Kl 1 ((x1.app (Ff (a.g x2.toNat).Plus)).n+(Ff (a.g x2.toNat).Minus).n))then b ((x1.app (Ff (a.g x2.toNat).Plus)).app (Ff (a.g x2.toNat).Minus)) (wrap .i64 (x2+1)) else none else none else none else some (Ac2 x1)) Iy 0
theorem Nd {a:Sl Kj}{y:Str}(h:DZ N a=some y) :Me S MS [.p (vSl 2 A0 a)] [] (.p (.str y)) ([]) []:=by
 unfold DZ at h;refine A2 Z func95 ?_;refine I1 Z Fe h (λx1 x2=>⟨[(10,pN x2),(9,pN (a.n:Int)),(8,.p (vSl 2 A0 a)),(3,.vec 4500)],[(4500,oV H6 1 (cI .u8) x1 false)]⟩) (ids:=[]) (λ_ _ _ _ _ d x1 x2 l h=>?_);apply kI Z h<;>intro h
 .obtain⟨c22,h⟩:=C8 h;refine AA9 Z (Kn c22 Gt) 2 (unrT [λt=>t=⟨[(19,pN 0),(18,.p (.agg [pI .u32 (a.g x2.toNat).Plus,pI .u32 (a.g x2.toNat).Minus])),(10,pN x2),(9,pN (a.n:Int)),(8,.p (vSl 2 A0 a)),(3,.vec 4501)],[(4501,oV H6 1 (cI .u8) x1 false)]⟩/\(
   if (Kl 1 (x1.n+(Ff (a.g x2.toNat).Plus).n))then
    if (Kl 1 ((x1.app (Ff (a.g x2.toNat).Plus)).n+(Ff (a.g x2.toNat).Minus).n))then
     d ((x1.app (Ff (a.g x2.toNat).Plus)).app (Ff (a.g x2.toNat).Minus)) (wrap .i64 (x2+1))
    else none
   else none
   )=some y,λt=>t=⟨[(19,pN 1),(18,.p (.agg [pI .u32 (a.g x2.toNat).Plus,pI .u32 (a.g x2.toNat).Minus])),(10,pN x2),(9,pN (a.n:Int)),(8,.p (vSl 2 A0 a)),(3,.vec 4500)],[(4500,.vec H6 1 (x1.app (Ff (a.g x2.toNat).Plus)).n (λi=>cI .u8 ((x1.app (Ff (a.g x2.toNat).Plus)).g i)) false)]⟩/\(
    if (Kl 1 ((x1.app (Ff (a.g x2.toNat).Plus)).n+(Ff (a.g x2.toNat).Minus).n))then
     d ((x1.app (Ff (a.g x2.toNat).Plus)).app (Ff (a.g x2.toNat).Minus)) (wrap .i64 (x2+1))
    else none
   )=some y,λt=>t=⟨[(19,pN 2),(18,.p (.agg [pI .u32 (a.g x2.toNat).Plus,pI .u32 (a.g x2.toNat).Minus])),(10,pN x2),(9,pN (a.n:Int)),(8,.p (vSl 2 A0 a)),(3,.vec 4501)],[(4501,.vec H6 1 ((x1.app (Ff (a.g x2.toNat).Plus)).app (Ff (a.g x2.toNat).Minus)).n (λi=>cI .u8 (((x1.app (Ff (a.g x2.toNat).Plus)).app (Ff (a.g x2.toNat).Minus)).g i)) false)]⟩/\(
    d ((x1.app (Ff (a.g x2.toNat).Plus)).app (Ff (a.g x2.toNat).Minus)) (wrap .i64 (x2+1))
   )=some y]) ⟨[(19,pN 0),(18,.p (.agg [pI .u32 (a.g x2.toNat).Plus,pI .u32 (a.g x2.toNat).Minus])),(10,pN x2),(9,pN (a.n:Int)),(8,.p (vSl 2 A0 a)),(3,.vec 4501)],[(4501,oV H6 1 (cI .u8) x1 false)]⟩ (ids:=[(4501,4500)]) ⟨rfl,h⟩ (λ_ _ _ _ i _ t f ht j=>?_)
  rcases i with _|_|_|i
  .obtain⟨rfl,h⟩:=ht;refine C7 Z Fe (b:=decide ((0:Int)<2)) (λc29=>?_) (λc29=>?_)
   .obtain⟨c30,h⟩:=C8 h;exact j _ [(4500,33000)] _ _ (Kn (Kn (Kn (Kn (by decide:(0:Int)<=0/\(0:Int)<2) (by decide:(0:Int)<=8)) (by decide:(0:Int)<=16)) Ix) c30) rfl ⟨rfl,h⟩ (hle:=klR [(5,.fn (x1.n+3) (x1.app (Ff (a.g x2.toNat).Plus)).n (Es x1.n (λi=>cI .u8 (x1.g i)) (G2 [pI .u8 0] [(0,cI .u8 (wrap .u8 (a.g x2.toNat).Plus)),(1,cI .u8 (wrap .u8 (shI .shr .u32 (a.g x2.toNat).Plus 8))),(2,cI .u8 (wrap .u8 (shI .shr .u32 (a.g x2.toNat).Plus 16)))])) (λi=>cI .u8 ((x1.app (Ff (a.g x2.toNat).Plus)).g i)))] (al1 ⟨rfl,AI6 (c:=cI .u8) (v:=x1) (w:=(Ff (a.g x2.toNat).Plus)) same rfl (λi f=>match i,f with|0,_=>rfl|1,_=>rfl|2,_=>rfl|_+3,f=>Eu f (by omega)) rfl⟩ al0))
   exact Bool.noConfusion ((by decide:decide ((0:Int)<2)=true).symm.trans c29)
  .obtain⟨rfl,h⟩:=ht;refine C7 Z Fe (b:=decide ((1:Int)<2)) (λc27=>?_) (λc27=>?_)
   .obtain⟨c28,h⟩:=C8 h;exact j _ [(4501,33000)] _ _ (Kn (Kn (Kn (Kn (by decide:(0:Int)<=1/\(1:Int)<2) (by decide:(0:Int)<=8)) (by decide:(0:Int)<=16)) Ix) c28) rfl ⟨rfl,h⟩ (hle:=klR [(5,.fn ((x1.app (Ff (a.g x2.toNat).Plus)).n+3) ((x1.app (Ff (a.g x2.toNat).Plus)).app (Ff (a.g x2.toNat).Minus)).n (Es (x1.app (Ff (a.g x2.toNat).Plus)).n (λi=>cI .u8 ((x1.app (Ff (a.g x2.toNat).Plus)).g i)) (G2 [pI .u8 0] [(0,cI .u8 (wrap .u8 (a.g x2.toNat).Minus)),(1,cI .u8 (wrap .u8 (shI .shr .u32 (a.g x2.toNat).Minus 8))),(2,cI .u8 (wrap .u8 (shI .shr .u32 (a.g x2.toNat).Minus 16)))])) (λi=>cI .u8 (((x1.app (Ff (a.g x2.toNat).Plus)).app (Ff (a.g x2.toNat).Minus)).g i)))] (al1 ⟨rfl,AI6 (c:=cI .u8) (v:=x1.app (Ff (a.g x2.toNat).Plus)) (w:=(Ff (a.g x2.toNat).Minus)) same rfl (λi f=>match i,f with|0,_=>rfl|1,_=>rfl|2,_=>rfl|_+3,f=>Eu f (by omega)) rfl⟩ al0))
   exact Bool.noConfusion ((by decide:decide ((1:Int)<2)=true).symm.trans c27)
  .obtain⟨rfl,h⟩:=ht;refine C7 Z Fe (b:=decide ((2:Int)<2)) (λc26=>?_) (λc26=>?_)
   .exact Bool.noConfusion ((by decide:decide ((2:Int)<2)=false).symm.trans c26)
   exact l _ [(4500,4501)] _ ((x1.app (Ff (a.g x2.toNat).Plus)).app (Ff (a.g x2.toNat).Minus)) (wrap .i64 (x2+1)) Fe h
  exact Eu f (by omega)
 obtain rfl:=B2 h;exact Am4 Z ((λ_ _=>rfl):∀i:Nat,i<x1.n->true=true) [] ⟨rfl,rfl,rfl⟩
def D8 (N:Nat)(a:Sl G8)(c:G8->Option Bool):Option Int:= X5 N (λb (x1:Int)=>if (decide (x1<(a.n:Int))) then if ((0:Int)<=x1/\x1<(a.n:Int))then (c (a.g x1.toNat)).bind λy3=>if y3 then some x1 else b (wrap .i64 (x1+1)) else none else some (-1)) 0
theorem AG {a:Sl G8}{c:G8->Option Bool}{kp_f:Nat}(d:∀{a0:G8}{b:Bool},c a0=some b->Me S kp_f [.p (.agg (F3 a0))] [] (pB b) [] []){y:Int}(h:D8 N a c=some y) :Me S O5 [.p (vSl 2 F3 a),.clo kp_f [] []] [] (pN y) ([]) []:=by
 unfold D8 at h;refine A2 Z func174 ?_;refine P8 Z Fe h (λx1=>⟨[(8,pN x1),(7,pN (a.n:Int)),(1,.clo kp_f [] []),(0,.p (vSl 2 F3 a))],[]⟩) (ids:=[]) (λ_ _ _ _ _ f x1 g h=>?_);apply kI Z h<;>intro h
 .obtain⟨c8,h⟩:=C8 h;obtain⟨y3,e3,h⟩:=A9 h;refine B4 Z [] (Kn c8 Gt) (d e3) ?_;apply kI Z h<;>intro h
  .cases h;exact kR Z
  exact g _ [] _ (wrap .i64 (x1+1)) Fe h
 cases h;exact kR Z
def E8 (N:Nat)(a:Sl G8)(b:G8->Option Bool):Option Bool:= (D8 N a b).bind λy1=>some (decide (0<=y1))
theorem Z3 {a:Sl G8}{c:G8->Option Bool}{kp_f:Nat}(d:∀{a0:G8}{b:Bool},c a0=some b->Me S kp_f [.p (.agg (F3 a0))] [] (pB b) [] []){y:Bool}(h:E8 N a c=some y) :Me S N6 [.p (vSl 2 F3 a),.clo kp_f [] []] [] (pB y) ([]) []:=by unfold E8 at h;refine A2 Z func134 ?_;refine kC Z h (AG Z Y (λe=>d e)) (λy1 h=>?_);cases h;exact kR Z
def Ce (N:Nat)(a:G8):Option Bool:= some ((!a.Has)&&(decide (0<(a.W.n:Int))))
theorem NA {b:G8}{y:Bool}(h:Ce N b=some y) :Me S HE [.p (.agg (F3 b))] [] (pB y) ([]) []:=by unfold Ce at h;refine A2 Z func135 ?_;refine kB Z (A6 Z) Fe Fe 5 (.n (.a (!b.Has)) (.a (decide (0<(b.W.n:Int))))) ?_;cases h;exact kR Z
def Ac (N:Nat)(a:Sl G8):Option Bool:= (E8 N a (λ(u1:G8)=>Ce N u1)).bind λy1=>some (!y1)
theorem JO {a:Sl G8}{y:Bool}(h:Ac N a=some y) :Me S JA [.p (vSl 2 F3 a)] [] (pB y) ([]) []:=by unfold Ac at h;refine A2 Z func90 ?_;refine kC Z h (Z3 Z Y (λe=>NA Z Y e)) (λy1 h=>?_);cases h;exact kR Z
def Ad (N:Nat)(a:Sl G8):Option Int:= X5 N (λb (x1:Int)=>if (decide (x1<(a.n:Int))) then if ((0:Int)<=x1/\x1<(a.n:Int))then (W8 N (a.g x1.toNat).W).bind λy3=>if (y3 != 0) then some y3 else b (wrap .i64 (x1+1)) else none else some 0) 0
theorem JP {a:Sl G8}{y:Int}(h:Ad N a=some y) :Me S JB [.p (vSl 2 F3 a)] [] (pN y) ([]) []:=by
 unfold Ad at h;refine A2 Z func92 ?_;refine P8 Z Fe h (λx1=>⟨[(8,pN x1),(7,pN (a.n:Int)),(6,.p (vSl 2 F3 a))],[]⟩) (ids:=[]) (λ_ _ _ _ _ b x1 c h=>?_);apply kI Z h<;>intro h
 .obtain⟨c8,h⟩:=C8 h;obtain⟨y3,e3,h⟩:=A9 h;refine B4 Z [] (Kn c8 Gt) (DR Z Y e3) ?_;apply kI Z h<;>intro h
  .cases h;exact kR Z
  exact c _ [] _ (wrap .i64 (x1+1)) Fe h
 cases h;exact kR Z
def BZ (N:Nat)(a:Str):Option Bool:= (W9 N (Sl.of [(⟨-1,a⟩:Node)]:Sl Node)).bind λy1=>some (y1==0)
theorem QW {a:Str}{y:Bool}(h:BZ N a=some y) :Me S JG [.p (.str a)] [] (pB y) ([]) []:=by unfold BZ at h;refine A2 Z func136 ?_;refine KV Z Ix ⟨[(5,.vec 6000)],[(6000,oV O1 2 C5 (Sl.of [(⟨-1,a⟩:Node)]:Sl Node) false)]⟩ (ids:=[(6000,6000)]) ?_ (hle:=kl1 0 (Ad2 C5 ([(⟨-1,a⟩:Node)]:List Node) [pI .i64 0,.str []]));refine kC Z h (FN Z Y) (λy1 h=>?_);cases h;exact kR Z
def Z4 (N:Nat)(a:Sl Pb)(b:Int):Option Int:= X5 N (λc (x2:Int)=>if (decide (x2<(a.n:Int))) then if ((0:Int)<=x2/\x2<(a.n:Int))then lt (λ(z3:Bool)=>if z3 then some 2 else c (wrap .i64 (x2+1))) λk3=>if (((a.g x2.toNat).Nw.n:Int) != b) then k3 true else (Ac N (a.g x2.toNat).Nw).bind λy6=>k3 (!y6) else none else X5 N (λd (x5:Int)=>if (decide (x5<(a.n:Int))) then if ((0:Int)<=x5/\x5<(a.n:Int))then (BZ N (a.g x5.toNat).Gloss).bind λy9=>if (!y9) then some 15 else d (wrap .i64 (x5+1)) else none else some 0) 0) 0
theorem NB {b:Sl Pb}{a:Int}{y:Int}(h:Z4 N b a=some y) :Me S HB [.p (vSl 2 F4 b),pN a] [] (pN y) ([]) []:=by
 unfold Z4 at h;refine A2 Z func91 ?_;refine P8 Z Fe h (λx2=>⟨[(11,pN x2),(10,pN (b.n:Int)),(9,.p (vSl 2 F4 b)),(1,pN a),(0,.p (vSl 2 F4 b))],[]⟩) (ids:=[]) (λ_ _ _ _ _ d x2 f h=>?_);apply kI Z h<;>intro h
 .obtain⟨c14,h⟩:=C8 h;refine Kz Z (Kn c14 Gt) (A6 Z) h 0 (λz3=>⟨[(25,pB z3),(11,pN x2),(10,pN (b.n:Int)),(9,.p (vSl 2 F4 b)),(1,pN a),(0,.p (vSl 2 F4 b))],[]⟩) (λM3 k3 c h=>?_) (λz3 h=>?_)
  .refine kG Z h (λh=>?_) (λh=>?_)
   .exact c _ [] _ true Fe h
   refine kC Z h (JO Z Y) (λy6 h=>?_);exact c _ [] _ (!y6) Fe h
  apply kI Z h<;>intro h
  .cases h;exact kR Z
  exact f _ [] _ (wrap .i64 (x2+1)) Fe h
 refine P8 Z Fe h (λx5=>⟨[(29,pN x5),(28,pN (b.n:Int)),(27,.p (vSl 2 F4 b))],[]⟩) (ids:=[]) (λ_ _ _ _ _ g x5 i h=>?_);apply kI Z h<;>intro h
 .obtain⟨c26,h⟩:=C8 h;obtain⟨y9,e9,h⟩:=A9 h;refine B4 Z [] (Kn c26 Gt) (QW Z Y e9) ?_;apply kI Z h<;>intro h
  .cases h;exact kR Z
  exact i _ [] _ (wrap .i64 (x5+1)) Fe h
 cases h;exact kR Z
def U9 (N:Nat)(d:Ns)(a:Sl G8)(b:Sl Pb):Option Int:= (K0 N d).bind λy1=>if (y1 != 0) then some y1 else (U0 N d.Tree).bind λy2=>if (decide (256<(b.n:Int))) then some 12 else lt (λ(z1:Bool)=>if z1 then some 2 else (Z4 N b (y2.1.n:Int)).bind λy5=>if (y5 != 0) then some y5 else (Ad N a).bind λy6=>if (y6 != 0) then some y6 else X5 N (λc (x2:Int)=>if (decide (x2<(b.n:Int))) then if ((0:Int)<=x2/\x2<(b.n:Int))then (Ad N (b.g x2.toNat).Nw).bind λy9=>if (y9 != 0) then some y9 else c (wrap .i64 (x2+1)) else none else some 0) 0) λk1=>if ((a.n:Int) != (b.n:Int)) then k1 true else (Ac N a).bind λy4=>k1 (!y4)
theorem JQ {c:Ns}{a:Sl G8}{b:Sl Pb}{y:Int}(h:U9 N c a b=some y) :Me S Jw [.p (.agg (B0 c)),.p (vSl 2 F3 a),.p (vSl 2 F4 b)] [] (pN y) ([]) []:=by
 unfold U9 at h;refine A2 Z func56 ?_;refine kC Z h (CS Z Y) (λy1 h=>?_);apply kI Z h<;>intro h
 .cases h;exact kR Z
 refine kC Z h (EF Z Y) (λy2 h=>?_);apply kI Z h<;>intro h
 .cases h;exact kR Z
 refine Kz Z Fe (A6 Z) h 0 (λz1=>⟨[(30,pB z1),(8,.vec 24000),(2,.p (vSl 2 F4 b)),(1,.p (vSl 2 F3 a))],[(24000,oV E1 1 (cI .i64) y2.1 true)]⟩) (λM1 k1 d h=>?_) (λz1 h=>?_)
 .refine kG Z h (λh=>?_) (λh=>?_)
  .exact d _ [(24000,24000)] _ true Fe h
  refine kC Z h (JO Z Y) (λy4 h=>?_);exact d _ [(24000,24000)] _ (!y4) Fe h
 apply kI Z h<;>intro h
 .cases h;exact kR Z
 refine kC Z h (NB Z Y) (λy5 h=>?_);apply kI Z h<;>intro h
 .cases h;exact kR Z
 refine kC Z h (JP Z Y) (λy6 h=>?_);apply kI Z h<;>intro h
 .cases h;exact kR Z
 refine P8 Z Fe h (λx2=>⟨[(55,pN x2),(54,pN (b.n:Int)),(53,.p (vSl 2 F4 b))],[]⟩) (ids:=[]) (λ_ _ _ _ _ f x2 g h=>?_);apply kI Z h<;>intro h
 .obtain⟨c16,h⟩:=C8 h;obtain⟨y9,e9,h⟩:=A9 h;refine B4 Z [] (Kn c16 Gt) (JP Z Y e9) ?_;apply kI Z h<;>intro h
  .cases h;exact kR Z
  exact g _ [] _ (wrap .i64 (x2+1)) Fe h
 cases h;exact kR Z
def Y0 (N:Nat)(q0:Sl Pb):Option (List (CD×(Sl Kj))):= X5 N (λb (x2:Int)=>if (decide (x2<(q0.n:Int))) then if ((0:Int)<=x2/\x2<(q0.n:Int))then X5 N (λa (x4:Int)=>if (decide (x4<((q0.g x2.toNat).Nw.n:Int))) then if ((0:Int)<=x4/\x4<((q0.g x2.toNat).Nw.n:Int))then if ((q0.g x2.toNat).Nw.g x4.toNat).Has then Ak ((⟨x2,x4⟩:CD),((q0.g x2.toNat).Nw.g x4.toNat).W) (a (wrap .i64 (x4+1))) else a (wrap .i64 (x4+1)) else none else b (wrap .i64 (x2+1))) 0 else none else some []) 0
theorem Kq {q0:Sl Pb}{L:List (CD×(Sl Kj))}(h:Y0 N q0=some L) :EW S Ch [] [.reg 0 0] [.cells [.p (vSl 2 F4 q0)]] (L.map (λ(x:CD×(Sl Kj))=>[(λx=>.agg (OT x)) x.1,vSl 2 A0 x.2])):=by
 unfold Y0 at h;refine EC Z func96 ?_;refine Dl Z Fe h (λx2 L1=>⟨[(9,pN x2),(8,pN (q0.n:Int)),(7,.p (vSl 2 F4 q0)),(0,.yf 1)],[(1,.yld (L1.map (λ(x:CD×(Sl Kj))=>[(λx=>.agg (OT x)) x.1,vSl 2 A0 x.2])) true),(0,.cells [.p (vSl 2 F4 q0)])]⟩) (ids:=(Kk [0,1])) (λ_ _ _ _ _ f x2 L1 i h=>?_);apply kI Z h<;>intro h
 .obtain⟨c48,h⟩:=C8 h;refine Dl Z (Kn c48 Gt) h (λx4 L16=>⟨[(17,pN x4),(16,pN ((q0.g x2.toNat).Nw.n:Int)),(15,.p (vSl 2 F3 (q0.g x2.toNat).Nw)),(9,pN x2),(8,pN (q0.n:Int)),(7,.p (vSl 2 F4 q0)),(3,pN x2),(0,.yf 1)],[(1,.yld (L16.map (λ(x:CD×(Sl Kj))=>[(λx=>.agg (OT x)) x.1,vSl 2 A0 x.2])) true),(0,.cells [.p (vSl 2 F4 q0)])]⟩) (ids:=(Kk [0,1])) (λ_ _ _ _ _ j x4 L16 d h=>?_);apply kI Z h<;>intro h
  .obtain⟨c64,h⟩:=C8 h;refine GU Z (Kn c64 Gt) (b:=((q0.g x2.toNat).Nw.g x4.toNat).Has) (λc67=>?_) (λc67=>?_)
   .replace h:=itT c67 h;obtain⟨L22,rfl,c⟩:=Ma h;replace h:=c;refine Dk Z Fe (ys:=(λ(x:CD×(Sl Kj))=>[(λx=>.agg (OT x)) x.1,vSl 2 A0 x.2]) ((⟨x2,x4⟩:CD),((q0.g x2.toNat).Nw.g x4.toNat).W)) (rest:=L22.map (λ(x:CD×(Sl Kj))=>[(λx=>.agg (OT x)) x.1,vSl 2 A0 x.2])) ?_ ?_
    .refine C7 Z Fe (b:=false) (λc68=>?_) (λc68=>?_)
     .exact Bool.noConfusion ((rfl:false=false).symm.trans c68)
     exact d _ (Kk [0,1]) _ (wrap .i64 (x4+1)) L22 Fe h
    refine C7 Z Fe (b:=true) (λc69=>?_) (λc69=>?_)
    .exact kO Z Fe (a:=.tup []) (objs:=[(.cells [.p (vSl 2 F4 q0)]),.yld [] false]) [0,1] ⟨false,rfl,rfl,_,rfl⟩
    exact Bool.noConfusion (Ix.symm.trans c69)
   replace h:=itF c67 h;exact d _ (Kk [0,1]) _ (wrap .i64 (x4+1)) L16 Fe h
  exact i _ (Kk [0,1]) _ (wrap .i64 (x2+1)) L16 Fe h
 obtain rfl:=B2 h;exact kO Z Fe (a:=.tup []) (objs:=[(.cells [.p (vSl 2 F4 q0)]),.yld [] true]) [0,1] ⟨true,rfl,rfl,_,rfl⟩
def Bf (N:Nat)(a:Sl Pb):Option (Sl Pb):= some a
theorem Mk {a:Sl Pb}{y:Sl Pb}(h:Bf N a=some y) :Me S Gu [.p (vSl 2 F4 a)] [] (.clo Ch [] [.reg 0 0]) ([.cells [.p (vSl 2 F4 y)]]) []:=by unfold Bf at h;refine A2 Z func58 ?_;obtain rfl:=B2 h;exact kO Z Fe [2000]
end Go.AM
namespace Go.AM
open IntKind (wrap)
open Go.Proofs
set_option maxRecDepth 10000
set_option maxHeartbeats 2000000
variable {S:U5}(Z:G6 S Tryz.prog) (Y:JK S)
abbrev NC (es:List (Str×G8)):Obj:=.map (Dc PV.str (λx=>.agg (F3 x)) es)
abbrev AS3 (M:Sl (List (Str×G8))):List Obj:=[.cells [.vec 1],.fam D7 M.n 2 none,.rows M.n λi=>NC (M.g i)]
def Bc5 {i n:Nat}{g:Nat->Obj}:∀q,q<n->(λq=>if q=i then g i else if q=i then Obj.dead else g q) q=(λq=>g q) q:=λq _=>by
 show (if q=i then g i else if q=i then Obj.dead else g q)=g q;by_cases h:q=i
 .subst h;rw[Ek rfl]
 rw[Et h,Et h]
def Bc6 {i n:Nat}{M:Sl (List (Str×G8))}{x:List (Str×G8)}:∀q,q<n->(λq=>if q=i then NC x else if q=i then Obj.dead else NC (M.g q)) q=(λq=>NC ((M.upd i x).g q)) q:=λq _=>by
 show (if q=i then NC x else if q=i then Obj.dead else NC (M.g q))=NC (if q=i then x else M.g q);by_cases h:q=i
 .rw[Ek h,Ek h]
 rw[Et h,Et h,Et h]
abbrev knO (K i:Nat):Obj:=if i<K then NC []else .ghost [.p (.v (.map none))]
def obKn {K x n:Nat}(hx:x=K):∀q,q<n->(λq=>if q=x then Obj.map []else if q=x then Obj.dead else knO K q) q=(λi=>knO (K+1) i) q:=λq _=>by
 show (if q=x then NC []else if q=x then Obj.dead else if q<K then NC []else .ghost [.p (.v (.map none))])=if q<K+1 then NC []else .ghost [.p (.v (.map none))]
 by_cases e:q=x
 .rw[Ek e,Ek (by omega)]
 rw[Et e,Et e];by_cases e2:q<K
 .rw[Ek e2,Ek (by omega)]
 rw[Et e2,Et (by omega)]
include Z Y
def J5 (N:Nat)(p:G8)(leaf:Int)(M:Sl (List (Str×G8)))(X:Sl (Sl Law)):Option (Sl Kj×Bool×Sl (List (Str×G8))):= if (!p.Has) then some (Jf,false,M) else if leaf.toNat<M.n then if ((0:Int)<=leaf/\leaf<(M.n:Int))then (DZ N p.W).bind λk=>Nm (P1 eqS k (M.g leaf.toNat)) (if ((0:Int)<=leaf/\leaf<(X.n:Int))then (N4 N (X.g leaf.toNat) p.W).bind λw=>some (w.1,w.2==0,M.upd leaf.toNat (Dd eqS k (⟨w.2==0,w.1⟩:G8) (M.g leaf.toNat))) else none) λv=>some (v.W,v.Has,M) else none else none
theorem LE {N:Nat}{p:G8}{leaf:Int}{X:Sl (Sl Law)}{M:Sl (List (Str×G8))}{y:Sl Kj×Bool×Sl (List (Str×G8))}(h:J5 N p leaf M X=some y) :Me S T6 [.p (.agg (F3 p)),pN leaf,.reg 0 0,.p (.ptr [vSl 1 (cL 18 B5) X])] (AS3 M) (.tup [.p (vSl 2 A0 y.1),pB y.2.1]) (AS3 y.2.2) [true,true,false]:=by
 unfold J5 at h;refine A2 Z Tryz.func94 ?_;refine F6 Z Fe 12 5000 (F3 p) ?_;apply kI Z h<;>intro h
 .obtain rfl:=B2 h;exact J6 Z Fe ⟨[(7,pB false),(6,.p (vSl 2 A0 Jf))],[(9902,.rows M.n λi=>NC (M.g i)),(1,.fam D7 M.n 9902 none),(0,.cells [.vec 1])]⟩ [0,1,9902] (ids:=[(0,0),(1,1),(9902,2)]) ⟨rfl,rfl,rfl⟩
 obtain⟨c1,h⟩:=C8 h;obtain⟨c2,h⟩:=C8 h;refine Zt Z Fe (.take 1 leaf.toNat 9801) (⟨⟨by decide,rfl⟩,c1⟩:(1000<=9801/\M.n=M.n)/\leaf.toNat<M.n) ?_;obtain⟨k,e1,h⟩:=A9 h;refine F2 Z Fe [(0,.l [0]),(2,.l [1]),(3,.l [1]),(5,.n),(6,.n),(7,.l [9801]),(11,.a [9000]),(12,.a [9000])] ?_;refine G3 (Kn c2 (Kn c1 (rfl:leaf.toNat=leaf.toNat))) (Nd Z Y e1) ?_;rcases o1:P1 eqS k (M.g leaf.toNat)with _|v1
 .replace h:=Ac3 o1 h;refine AR7 Fe F5 R9 PV.str (λx=>.agg (F3 x)) eqS o1 (.agg [.v (.bool false),C6]) Fe ?_;refine D0 Fe ?_;refine C7 Z Fe (b:=true) (λc=>?_) (λc=>Bool.noConfusion (Ix.symm.trans c));obtain⟨c3,h⟩:=C8 h;obtain⟨w,e2,h⟩:=A9 h;refine E2 Z Fe [0,2,3,5,6] ?_;refine G3 c3 (Fo Z Y e2) ?_;refine D0 Fe ?_;refine F2 Z Fe [(0,.l [0]),(2,.l [1]),(3,.l [1]),(5,.n),(6,.n),(7,.l [9000])] ?_;refine G3 (Kn c2 (Kn c1 (rfl:leaf.toNat=leaf.toNat))) (Nd Z Y e1) ?_;refine SZ Fe F5 PV.str (λx=>.agg (F3 x)) eqS k (⟨w.2==0,w.1⟩:G8) (M.g leaf.toNat) Fe ?_;refine D0 Fe ?_;obtain rfl:=B2 h;refine Zt Z Fe (.put 1 9902) (⟨⟨by decide,rfl⟩,c1⟩:(1000<=9902/\M.n=M.n)/\leaf.toNat<M.n) ?_;refine EZ Z Fe ?_;refine D0 Fe ?_;exact J6 Z Fe ⟨[(7,pB (w.2==0)),(6,.p (vSl 2 A0 w.1))],[(9902,.rows M.n λi=>NC ((M.upd leaf.toNat (Dd eqS k (⟨w.2==0,w.1⟩:G8) (M.g leaf.toNat))).g i)),(1,.fam D7 M.n 9902 none),(0,.cells [.vec 1])]⟩ [0,1,9902] (ids:=(Kk [0,1,9902])) ⟨rfl,rfl,rfl⟩ (hle:=klR [(3,.ob M.n (λq=>if q=leaf.toNat then NC (Dd eqS k (⟨w.2==0,w.1⟩:G8) (M.g leaf.toNat))else if q=leaf.toNat then .dead else NC (M.g q)) λi=>NC ((M.upd leaf.toNat (Dd eqS k (⟨w.2==0,w.1⟩:G8) (M.g leaf.toNat))).g i))] (al1 Bc6 al0))
 replace h:=Ze o1 h;refine AC5 Fe F5 R9 PV.str (λx=>.agg (F3 x)) eqS o1 Fe ?_;refine D0 Fe ?_;obtain rfl:=B2 h;refine C7 Z Fe (b:=false) (λc=>Bool.noConfusion ((rfl:false=false).symm.trans c)) (λc=>?_);refine Zt Z Fe (.put 1 9902) (⟨⟨by decide,rfl⟩,c1⟩:(1000<=9902/\M.n=M.n)/\leaf.toNat<M.n) ?_;refine EZ Z Fe ?_;refine D0 Fe ?_;exact J6 Z Fe ⟨[(7,pB v1.Has),(6,.p (vSl 2 A0 v1.W))],[(9902,.rows M.n λi=>NC (M.g i)),(1,.fam D7 M.n 9902 none),(0,.cells [.vec 1])]⟩ [0,1,9902] (ids:=(Kk [0,1,9902])) ⟨rfl,rfl,rfl⟩ (hle:=klR [(3,.ob M.n (λq=>if q=leaf.toNat then NC (M.g leaf.toNat)else if q=leaf.toNat then .dead else NC (M.g q)) λi=>NC (M.g i))] (al1 (Bc5 (g:=λi=>NC (M.g i))) al0))
def Z5 (N:Nat)(a:Ns)(b:Int):Option (Sl (Sl Law)):= (U0 N a.Tree).bind λl=>if ((0:Int)<=(l.1.n:Int)/\(l.1.n:Int)<=(l.1.n:Int)/\(l.1.n:Int)*24<=140737488355328/\(l.1.n:Int)<=140737488355328)then if ((0:Int)<=(l.1.n:Int)/\(l.1.n:Int)<=(l.1.n:Int)/\(l.1.n:Int)*8<=140737488355328/\(l.1.n:Int)<=140737488355328)then Al7 N (λf (K:Nat) (X:Sl (Sl Law)) (x:Int)=>if (decide (x<(l.1.n:Int))) then if (((0:Int)<=x/\x<(l.1.n:Int))/\x.toNat<l.1.n)then (Fs N a.Tree (l.1.g x.toNat)).bind λw=>Ca N (λd (X:Sl (Sl Law)) (y:Int)=>if (decide (y<(w.1.n:Int))) then if ((((0:Int)<=y/\y<(w.1.n:Int))/\y.toNat<w.1.n)/\((0:Int)<=(w.1.g y.toNat)/\(w.1.g y.toNat)<(a.On.n:Int)))then Ca N (λc (X:Sl (Sl Law)) (z:Int)=>if (decide (z<((a.On.g (w.1.g y.toNat).toNat).n:Int))) then if ((0:Int)<=z/\z<((a.On.g (w.1.g y.toNat).toNat).n:Int))then if (((a.On.g (w.1.g y.toNat).toNat).g z.toNat) != b) then if x.toNat<X.n then if (((0:Int)<=x/\x<(X.n:Int))/\((0:Int)<=((a.On.g (w.1.g y.toNat).toNat).g z.toNat)/\((a.On.g (w.1.g y.toNat).toNat).g z.toNat)<(a.Laws.n:Int)))then if (Kl 200 ((X.g x.toNat).n+1))then c (X.upd x.toNat ((X.g x.toNat).push (a.Laws.g ((a.On.g (w.1.g y.toNat).toNat).g z.toNat).toNat))) (wrap .i64 (z+1)) else none else none else none else c X (wrap .i64 (z+1)) else none else d X (wrap .i64 (y+1))) X 0 else none else if x.toNat=K/\K<l.1.n then f (K+1) X (wrap .i64 (x+1))else none) X 0 else none else if K=l.1.n/\X.n=l.1.n then some X else none) 0 ⟨l.1.n,λ_=>Sl.nil⟩ 0 else none else none
theorem ND {N:Nat}{d:Ns}{c:Int}{y:Sl (Sl Law)}(h:Z5 N d c=some y) :Me S Hy [.p (.agg (B0 d)),pN c] [] (.clo T6 [] [.reg 0 0,.p (.ptr [vSl 1 (cL 18 B5) y])]) (AS3 ⟨y.n,λ_=>[]⟩) []:=by
 unfold Z5 at h;refine A2 Z Tryz.func57 ?_;refine F6 Z Fe 18 3000 (B0 d) ?_;obtain⟨l,e1,h⟩:=A9 h;refine B4 Z [] Fe (EF Z Y e1) ?_;obtain⟨c1,h⟩:=C8 h;refine Fa Z c1 26 (.fam 26000 9901 λi=>Fp H3 18 B5 ((⟨l.1.n,λ_=>Sl.nil⟩:Sl (Sl Law)).g i)) (⟨by decide,λi _=>rfl⟩:1000<=9901/\∀i,i<l.1.n->Rf [C6] (Fp H3 18 B5 ((⟨l.1.n,λ_=>Sl.nil⟩:Sl (Sl Law)).g i))) ?_;obtain⟨c2,h⟩:=C8 h;refine Fa Z c2 29 (.fam 29000 9951 λi=>knO 0 i) (⟨by decide,λi _=>⟨rfl,rfl⟩⟩:1000<=9951/\∀i,i<l.1.n->Rf [.v (.map none)] (knO 0 i)) ?_;refine KW Z Fe h (λK X x=>⟨[(31,pN x),(30,pN (l.1.n:Int)),(29,.vec 21000),(8,.reg 9000 0),(7,.reg 8000 0),(2,.p (.ptr (B0 d))),(1,pN c)],
  [(29000,.fam D7 l.1.n 9951 none),(26000,.fam DQ X.n 9901 none),(21000,oV E1 1 (cI .i64) l.1 true),(9951,.rows l.1.n λi=>knO K i),(9901,.rows X.n λi=>Fp H3 18 B5 (X.g i)),(9000,.cells [.vec 29000]),(8000,.cells [.vec 26000])]⟩) (ids:=(Kk [29000,26000,21000,9951,9901,9000,8000])) (λ_ _ _ _ _ s K X x j h=>?_)
 apply kI Z h<;>intro h
 .obtain⟨c3,h⟩:=C8 h;obtain⟨w,e2,h⟩:=A9 h;refine B4 Z [] c3 (Ye Z Y e2) ?_;refine I1 Z Fe h (λX u=>⟨[(45,pN u),(44,pN (w.1.n:Int)),(43,.vec 41000),(31,pN x),(30,pN (l.1.n:Int)),(29,.vec 21000),(9,pN x),(8,.reg 9000 0),(7,.reg 8000 0),(2,.p (.ptr (B0 d))),(1,pN c)],[(41000,oV E1 1 (cI .i64) w.1 true),(29000,.fam D7 l.1.n 9951 none),(26000,.fam DQ X.n 9901 none),(21000,oV E1 1 (cI .i64) l.1 true),(9951,.rows l.1.n λi=>knO K i),(9901,.rows X.n λi=>Fp H3 18 B5 (X.g i)),(9000,.cells [.vec 29000]),(8000,.cells [.vec 26000])]⟩) (ids:=(Kk [41000,29000,26000,21000,9951,9901,9000,8000])) (λ_ _ _ _ _ m X u o h=>?_);apply kI Z h<;>intro h
  .obtain⟨c4,h⟩:=C8 h;refine I1 Z c4 h (λX z=>⟨[(55,pN z),(54,pN ((d.On.g (w.1.g u.toNat).toNat).n:Int)),(53,.p (vSl 1 (cI .i64) (d.On.g (w.1.g u.toNat).toNat))),(45,pN u),(44,pN (w.1.n:Int)),(43,.vec 41000),(31,pN x),(30,pN (l.1.n:Int)),(29,.vec 21000),(9,pN x),(8,.reg 9000 0),(7,.reg 8000 0),(2,.p (.ptr (B0 d))),(1,pN c)],[(41000,oV E1 1 (cI .i64) w.1 true),(29000,.fam D7 l.1.n 9951 none),(26000,.fam DQ X.n 9901 none),(21000,oV E1 1 (cI .i64) l.1 true),(9951,.rows l.1.n λi=>knO K i),(9901,.rows X.n λi=>Fp H3 18 B5 (X.g i)),(9000,.cells [.vec 29000]),(8000,.cells [.vec 26000])]⟩) (ids:=(Kk [41000,29000,26000,21000,9951,9901,9000,8000])) (λ_ _ _ _ _ r X z f h=>?_);apply kI Z h<;>intro h
   .obtain⟨c5,h⟩:=C8 h;refine C7 Z c5 (b:=((d.On.g (w.1.g u.toNat).toNat).g z.toNat) != c) (λc6=>?_) (λc6=>?_)
    .replace h:=itT c6 h;obtain⟨c7,h⟩:=C8 h;obtain⟨c8,h⟩:=C8 h;obtain⟨c9,h⟩:=C8 h;refine Zt Z Fe (.take 26000 x.toNat 9801) (⟨⟨by decide,rfl⟩,c7⟩:(1000<=9801/\X.n=X.n)/\x.toNat<X.n) ?_;refine F2 Z Fe [(0,.l [8000]),(2,.l [8000]),(4,.l [26000]),(5,.l [26000]),(6,.n),(7,.n),(9,.n),(10,.n),(12,.a [75000,9801]),(13,.l [26000]),(14,.a [26000])] ?_;refine M4 (Kn (Kn (Kn c8.1 (Kn c7 (rfl:x.toNat=x.toNat))) c8.2) Iu) (x:=.sl true 18 1 (G2 [.str [],pI .i64 0,pI .u32 0,pI .u32 0,.v (.bool false),pI .i64 0,pI .i64 0,C6,pI .i64 0,pI .u32 0,pI .u32 0,.v (.bool false),pI .i64 0,pI .i64 0,C6,C6,C6,pI .i64 0] [(0,B5 (d.Laws.g ((d.On.g (w.1.g u.toNat).toNat).g z.toNat).toNat))])) ?_;refine D0 (Kn (Kn c9 c8.1) (Kn c7 (rfl:x.toNat=x.toNat))) ?_;refine N2 Z Fe 76 ⟨[(55,pN z),(54,pN ((d.On.g (w.1.g u.toNat).toNat).n:Int)),(53,.p (vSl 1 (cI .i64) (d.On.g (w.1.g u.toNat).toNat))),(45,pN u),(44,pN (w.1.n:Int)),(43,.vec 41000),(31,pN x),(30,pN (l.1.n:Int)),(29,.vec 21000),(9,pN x),(8,.reg 9000 0),(7,.reg 8000 0),(2,.p (.ptr (B0 d))),(1,pN c)],[(75000,Fp H3 18 B5 ((X.g x.toNat).push (d.Laws.g ((d.On.g (w.1.g u.toNat).toNat).g z.toNat).toNat))),(41000,oV E1 1 (cI .i64) w.1 true),(29000,.fam D7 l.1.n 9951 none),(26000,.fam DQ X.n 9901 (some (x.toNat,.vec 75000))),(21000,oV E1 1 (cI .i64) l.1 true),(9951,.rows l.1.n λi=>knO K i),(9901,(.rows X.n λq=>if q=x.toNat then .dead else Fp H3 18 B5 (X.g q))),(9000,.cells [.vec 29000]),(8000,.cells [.vec 26000])]⟩ (ids:=(Kk [75000,41000,29000,26000,21000,9951,9901,9000,8000])) ?_ (hle:=kl1 10 (X6 B5 (X.g x.toNat) (d.Laws.g ((d.On.g (w.1.g u.toNat).toNat).g z.toNat).toNat) [.str [],pI .i64 0,pI .u32 0,pI .u32 0,.v (.bool false),pI .i64 0,pI .i64 0,C6,pI .i64 0,pI .u32 0,pI .u32 0,.v (.bool false),pI .i64 0,pI .i64 0,C6,C6,C6,pI .i64 0]));refine Fa Z Fe 76 (.put 26000 9902) (⟨⟨by decide,rfl⟩,c7⟩:(1000<=9902/\X.n=X.n)/\x.toNat<X.n) ?_;exact f _ [(41000,41000),(29000,29000),(26000,26000),(21000,21000),(9951,9951),(9901,9902),(9000,9000),(8000,8000)] _ (X.upd x.toNat ((X.g x.toNat).push (d.Laws.g ((d.On.g (w.1.g u.toNat).toNat).g z.toNat).toNat))) (wrap .i64 (z+1)) Fe h (hle:=klR [(17,.ob X.n (λq=>if q=x.toNat then Fp H3 18 B5 ((X.g x.toNat).push (d.Laws.g ((d.On.g (w.1.g u.toNat).toNat).g z.toNat).toNat))else if q=x.toNat then .dead else Fp H3 18 B5 (X.g q)) λi=>Fp H3 18 B5 ((X.upd x.toNat ((X.g x.toNat).push (d.Laws.g ((d.On.g (w.1.g u.toNat).toNat).g z.toNat).toNat))).g i))] (al1 Bc4 al0))
    replace h:=itF c6 h;exact f _ (Kk [41000,29000,26000,21000,9951,9901,9000,8000]) _ X (wrap .i64 (z+1)) Fe h
   exact o _ (Kk [41000,29000,26000,21000,9951,9901,9000,8000]) _ X (wrap .i64 (u+1)) Fe h
  obtain⟨c4,h⟩:=C8 h;refine Fa Z Fe 78 (.over 29000 x.toNat) (⟨rfl,by omega⟩:l.1.n=l.1.n/\x.toNat<l.1.n) ?_;refine Fa Z (Kn c3.1 (Kn c3.2 (rfl:x.toNat=x.toNat))) 82 (.put 29000 9952) (⟨⟨by decide,rfl⟩,c3.2⟩:(1000<=9952/\l.1.n=l.1.n)/\x.toNat<l.1.n) ?_;exact j _ [(29000,29000),(26000,26000),(21000,21000),(9951,9952),(9901,9901),(9000,9000),(8000,8000)] _ (K+1) X (wrap .i64 (x+1)) Fe h (hle:=klR [(8,.ob l.1.n (λq=>if q=x.toNat then .map []else if q=x.toNat then .dead else knO K q) λi=>knO (K+1) i)] (al1 (obKn c4.1) al0))
 obtain⟨c3,h⟩:=C8 h;obtain rfl:=B2 h;refine Fa Z Fe 83 (.pub 26000) (⟨rfl,λi _=>rfl⟩:X.n=X.n/\∀i,i<X.n->(Rd (Fp H3 18 B5 (X.g i))).isSome=true) ?_;refine N2 Z Fe 83 ⟨[(8,.reg 9000 0),(7,.reg 8000 0)],[(29000,.fam D7 X.n 9951 none),(9951,.rows X.n λi=>NC []),(9000,.cells [.vec 29000]),(8000,.cells [.p (vSl 1 (cL 18 B5) X)])]⟩ (ids:=(Kk [29000,9951,9000,8000])) ?_ (hle:=klR [(0,.nt l.1.n X.n),(1,.nt l.1.n X.n),(2,.ob X.n (λi=>knO K i) (λi=>NC [])),(3,.fn X.n X.n (λi=>[(Rd (Fp H3 18 B5 (X.g i))).getD default]) (λi=>cL 18 B5 (X.g i)))] (al1 c3.2.symm (al1 c3.2.symm (al1 (λi t=>Ek (by omega)) (al1 ⟨rfl,λ_ _=>rfl⟩ al0)))));refine F6 Z Fe 83 8000 [vSl 1 (cL 18 B5) X] ?_;exact J6 Z Fe ⟨[(4,.clo T6 [] [.reg 9000 0,.p (.ptr [vSl 1 (cL 18 B5) X])])],[(29000,.fam D7 X.n 9951 none),(9951,.rows X.n λi=>NC []),(9000,.cells [.vec 29000])]⟩ [9000,29000,9951] (ids:=(Kk [29000,9951,9000])) ⟨rfl,rfl,rfl⟩
end Go.AM
namespace Go.AM
open Go.Proofs
set_option maxRecDepth 10000
set_option maxHeartbeats 2000000
variable {S:U5}(Z:G6 S Tryz.prog) (Y:JK S)
include Z Y
def Ea (N:Nat)(d:Ns)(b:Sl G8)(f:Sl Pb)(a:Int):Option ((Sl A4)×Int):= (U9 N d b f).bind λy1=>if (y1 != 0) then some ((Sl.nil:Sl A4),y1) else if ((decide (a<0))||(decide (1073741824<a))) then some ((Sl.nil:Sl A4),2) else (Z5 N d (-1)).bind λy2=>(Bf N f).bind λy3=>(Y0 N y3).bind λL1=>T2 L1 (λc (x1:CD×(Sl Kj)) (z1:(Sl (List (Str×G8)))×(Sl A4))=>if ((0:Int)<=x1.1.entry/\x1.1.entry<(b.n:Int))then (J5 N (b.g x1.1.entry.toNat) x1.1.leaf z1.1 y2).bind λy8=>if (!y8.2.1) then if (Kl 32 (z1.2.n+(Sl.of [(⟨x1.1.entry,x1.1.leaf,2,a⟩:A4)]:Sl A4).n))then c (y8.2.2,z1.2.push (⟨x1.1.entry,x1.1.leaf,2,a⟩:A4)) else none else (O7 N y8.1 x1.2).bind λy9=>if (!y9) then if (Kl 32 (z1.2.n+(Sl.of [(⟨x1.1.entry,x1.1.leaf,1,a⟩:A4)]:Sl A4).n))then c (y8.2.2,z1.2.push (⟨x1.1.entry,x1.1.leaf,1,a⟩:A4)) else none else c (y8.2.2,z1.2) else none) (λ(z1:(Sl (List (Str×G8)))×(Sl A4))=>some (z1.2,0)) ((⟨y2.n,λ_=>[]⟩:Sl (List (Str×G8))),(Sl.nil:Sl A4))
theorem Wd {N:Nat}{d:Ns}{c:Sl G8}{j:Sl Pb}{b:Int}{y:(Sl A4)×Int}(h:Ea N d c j b=some y) :Me S MJ [.p (.agg (B0 d)),.p (vSl 2 F3 c),.p (vSl 2 F4 j),pN b] [] (.tup [.vec 0,pN y.2]) ([oV I2 4 A5 y.1 false]) []:=by
 unfold Ea at h;refine A2 Z Tryz.func26 ?_;refine F6 Z Fe 5 5000 (B0 d) ?_;refine F6 Z Fe 7 6000 [vSl 2 F3 c] ?_;refine F6 Z Fe 8 8000 [pI .i64 b] ?_;obtain⟨y1,e1,h⟩:=A9 h;refine B4 Z [] Ha (JQ Z Y e1) ?_;apply kI Z h<;>intro h
 .obtain rfl:=B2 h;exact kO Z Fe [9700]
 refine kB Z (A6 Z) Fe Fe 3 (.o (.a (decide (b<0))) (.a (decide (1073741824<b)))) ?_;apply kI Z h<;>intro h
 .obtain rfl:=B2 h;exact kO Z Fe [9700]
 obtain⟨y2,e2,h⟩:=A9 h;refine B4 Z [] Ha (ND Z Y e2) ?_;refine kC Z h (Mk Z Y) (λy3 h=>?_);obtain⟨L1,e4,h⟩:=A9 h;refine GV Z Fe [34000] [12,11,7,5] 901 (λz1=>⟨[(12,.reg 13000 0),(11,.reg 12000 0),(7,.p (.ptr [pI .i64 b])),(5,.p (.ptr [vSl 2 F3 c]))],[(32001,.fam D7 z1.1.n 12500 none),(32000,.cells [.vec 32001]),(13500,oV I2 4 A5 z1.2 false),(13000,.cells [.vec 13500]),(12500,.rows z1.1.n λi=>NC (z1.1.g i)),(12000,.cells [.clo T6 [] [.reg 32000 0,.p (.ptr [vSl 1 (cL 18 B5) y2])]])]⟩) (idl:=[(12000,12000),(12500,32002),(13000,13000),(32000,32000),(32001,32001)]) h (Kq Z Y e4) (λ_=>by kernel_rfl) (λ_=>by kernel_rfl) (λ_=>by kernel_rfl) (λ_=>by kernel_rfl) (λx1 _ l z1 f h=>?_) (λz1 h=>?_)
 .refine F6 Z Fe 14 14000 [pI .i64 x1.1.entry,pI .i64 x1.1.leaf] ?_;refine Kh Z Fe ?_;refine E2 Z Fe [1,3,4,5,7] ?_;obtain⟨c9,h⟩:=C8 h;obtain⟨y8,e9,h⟩:=A9 h;refine OJ [32000,32001,12500] (Kn c9 Gt) (LE Z Y e9) ?_;refine D0 Fe ?_;apply kI Z h<;>intro h
  .obtain⟨c11,h⟩:=C8 h;exact f _ [(901,901),(12000,12000),(12500,46002),(13000,13000),(13500,60000),(32000,32000),(32001,32001)] _ (y8.2.2,z1.2.push (⟨x1.1.entry,x1.1.leaf,2,b⟩:A4)) (Kn Ix c11) h (hle:=kl1 1 (X6 A5 z1.2 (⟨x1.1.entry,x1.1.leaf,2,b⟩:A4) [pI .i64 0,pI .i64 0,pI .i64 0,pI .i64 0]))
  refine kC Z h (MZ Z Y) (λy9 h=>?_);apply kI Z h<;>intro h
  .obtain⟨c13,h⟩:=C8 h;exact f _ [(901,901),(12000,12000),(12500,46002),(13000,13000),(13500,74000),(32000,32000),(32001,32001)] _ (y8.2.2,z1.2.push (⟨x1.1.entry,x1.1.leaf,1,b⟩:A4)) (Kn Ix c13) h (hle:=kl1 1 (X6 A5 z1.2 (⟨x1.1.entry,x1.1.leaf,1,b⟩:A4) [pI .i64 0,pI .i64 0,pI .i64 0,pI .i64 0]))
  exact f _ [(901,901),(12000,12000),(12500,46002),(13000,13000),(13500,13500),(32000,32000),(32001,32001)] _ (y8.2.2,z1.2) Fe h
 obtain rfl:=B2 h;exact kO Z Fe [13500]
end Go.AM
namespace Go.AM
open Go.Proofs.Tryz
variable {N:Nat}
open Go.Proofs
section
variable {S:U5}(Z:G6 S Tryz.prog) (Y:JK S)
include Z Y
def V2 (N:Nat)(s:Sl Str)(t:Str):Option Str:= if s.n<=140737488355328/\(Lib.join ((List.range s.n).map s.g) t).length<=140737488355328 then some (Lib.join ((List.range s.n).map s.g) t)else none
theorem QX {s:Sl Str}{t:Str}{y:Str}(h:V2 N s t=some y):Me S DB [.p (vSl 1 cS s),.p (.str t)] [] (.p (.str y)) [] []:=by simp only[V2,Bu8,Bg8]at h;obtain⟨⟨h1,a⟩,rfl⟩:=h;exact Y.join false s.n s.g t h1 a
def Y1 (N:Nat)(s:Str)(t:Int):Option Int:= if 0<=t/\t<256 then some (Lib.indexByte s (UInt8.ofNat t.toNat))else none
theorem Ft {s:Str}{t:Int}{y:Int}(h:Y1 N s t=some y):Me S X8 [.p (.str s),.p (pI .u8 t)] [] (.p (pI .i64 y)) [] []:=by
 simp only[Y1,Bu8,Bg8]at h;obtain⟨h1,rfl⟩:=h
 have:=Y.indexByte s (UInt8.ofNat t.toNat)
 have e:(((UInt8.ofNat t.toNat).toNat:Nat):Int)=t:=by
  have:(UInt8.ofNat t.toNat).toNat=t.toNat:=UInt8.toNat_ofNat_of_lt' (by show t.toNat<256;omega)
  omega
 rw[e]at this;exact this
def F9 (N:Nat)(s:Sl Str):Option (Sl Str):=if (0+s.n)*16<=140737488355328/\0+s.n<=140737488355328 then some s else none
theorem O2 {s y:Sl Str}(h:F9 N s=some y):Me S W2 [.p (vSl 1 cS s)] [] (.vec 0) [.vec F5 1 y.n (λi=>cS (y.g i)) true] []:=by
 unfold F9 at h;obtain⟨c1,h⟩:=C8 h;obtain rfl:=B2 h;refine A2 Z func179 ?_;refine Vk Z Fe 3 (k:=1) (n:=s.n) (f:=λi=>cS (s.g i)) (λa=>?_) ?_
 .obtain⟨n,g⟩:=s;obtain rfl:n=0:=a;exact kO Z Fe [3700]
 exact kO Z (Kn Ix c1) [8000]
  (hle:=kl1 0 (AJ6 cS s [.str []]))
def J2 (N:Nat)(s:Sl K3):Option (Sl K3):=if (0+s.n)*24<=140737488355328/\0+s.n<=140737488355328 then some s else none
theorem Bx {s y:Sl K3}(h:J2 N s=some y):Me S Q2 [.p (vSl 3 D6 s)] [] (.vec 0) [.vec D1 3 y.n (λi=>D6 (y.g i)) true] []:=by
 unfold J2 at h;obtain⟨c1,h⟩:=C8 h;obtain rfl:=B2 h;refine A2 Z func184 ?_;refine Vk Z Fe 3 (k:=3) (n:=s.n) (f:=λi=>D6 (s.g i)) (λa=>?_) ?_
 .obtain⟨n,g⟩:=s;obtain rfl:n=0:=a;exact kO Z Fe [3700]
 exact kO Z (Kn Ix c1) [8000]
  (hle:=kl1 0 (AJ6 D6 s [.str [],pI .u32 0,pI .u32 0]))
def K7 (N:Nat)(s:Sl Jq):Option (Sl Jq):=if (0+s.n)*32<=140737488355328/\0+s.n<=140737488355328 then some s else none
theorem Co {s y:Sl Jq}(h:K7 N s=some y):Me S S7 [.p (vSl 4 V8 s)] [] (.vec 0) [.vec Ae3 4 y.n (λi=>V8 (y.g i)) true] []:=by
 unfold K7 at h;obtain⟨c1,h⟩:=C8 h;obtain rfl:=B2 h;refine A2 Z func147 ?_;refine Vk Z Fe 3 (k:=4) (n:=s.n) (f:=λi=>V8 (s.g i)) (λa=>?_) ?_
 .obtain⟨n,g⟩:=s;obtain rfl:n=0:=a;exact kO Z Fe [3700]
 exact kO Z (Kn Ix c1) [8000]
  (hle:=kl1 0 (AJ6 V8 s [.str [],pI .u32 0,pI .u32 0,pI .u32 0]))
end
end Go.AM
namespace Go.AM
open Go.Proofs.Tryz
variable {N:Nat}
open IntKind (wrap)
open Go.Proofs
set_option maxRecDepth 10000
set_option maxHeartbeats 2000000
variable {S:U5}(Z:G6 S Tryz.prog) (Y:JK S)
include Z Y
def Bg (N:Nat)(a:Int):Option Bool:= some (((decide (97<=a))&&(decide (a<=122)))||((decide (48<=a))&&(decide (a<=57))))
theorem GB {b:Int}{y:Bool}(h:Bg N b=some y) :Me S Gw [.p (pI .u8 b)] [] (pB y) ([]) []:=by unfold Bg at h;refine A2 Z func178 ?_;refine kB Z (A6 Z) Fe Fe 11 (.o (.n (.a (decide (97<=b))) (.a (decide (b<=122)))) (.n (.a (decide (48<=b))) (.a (decide (b<=57))))) ?_;cases h;exact kR Z
def Q5 (N:Nat)(a:B3):Option Bool:= some true
theorem By {a:B3}{y:Bool}(h:Q5 N a=some y) :Me S Bp [.reg 0 0] [.cells [.p (vSl 1 cS a.feats),.No 1,.vec 2,.No 3,.No 4],oM PV.str (pI .i64) a.number,oV D1 3 D6 a.sounds true,oM PV.str (pI .i64) a.symbols,oM (λx=>.agg (A0 x)) (pI .i64) a.values] (pB y) ([.cells [.p (vSl 1 cS a.feats),.No 1,.vec 2,.No 3,.No 4],oM PV.str (pI .i64) a.number,oV D1 3 D6 a.sounds true,oM PV.str (pI .i64) a.symbols,oM (λx=>.agg (A0 x)) (pI .i64) a.values]) [true,true,true,true,true]:=by unfold Q5 at h;refine A2 Z func180 ?_;obtain rfl:=B2 h;exact kO Z Fe [0,1,2,3,4]
def P6 (N:Nat)  : Option Bool:= some false
theorem Cz    {y:Bool}(h:P6 N  = some y) :Me S Bp [.p Ay8] [] (pB y) ([]) []:=by unfold P6 at h;refine A2 Z func180 ?_;cases h;exact kR Z
def Y2 (N:Nat)(b:B3)(a:Kj):Option Bool:= if (0:Int)<=(b.feats.n:Int)then some (((P0 .and .u32 a.Plus a.Minus)==0)&&((P0 .andNot .u32 (P0 .or .u32 a.Plus a.Minus) (wrap .u32 ((shI .shl .u32 1 (b.feats.n:Int))-1)))==0)) else none
theorem Hg {b:B3}{c:Kj}{y:Bool}(h:Y2 N b c=some y) :Me S CM [.reg 0 0,.p (.agg (A0 c))] [.cells [.p (vSl 1 cS b.feats),.No 1,.vec 2,.No 3,.No 4],oM PV.str (pI .i64) b.number,oV D1 3 D6 b.sounds true,oM PV.str (pI .i64) b.symbols,oM (λx=>.agg (A0 x)) (pI .i64) b.values] (pB y) ([.cells [.p (vSl 1 cS b.feats),.No 1,.vec 2,.No 3,.No 4],oM PV.str (pI .i64) b.number,oV D1 3 D6 b.sounds true,oM PV.str (pI .i64) b.symbols,oM (λx=>.agg (A0 x)) (pI .i64) b.values]) [true,true,true,true,true]:=by unfold Y2 at h;refine A2 Z func183 ?_;obtain⟨c1,h⟩:=C8 h;refine kB Z (A6 Z) c1 Fe 9 (.n (.a ((P0 .and .u32 c.Plus c.Minus)==0)) (.a ((P0 .andNot .u32 (P0 .or .u32 c.Plus c.Minus) (wrap .u32 ((shI .shl .u32 1 (b.feats.n:Int))-1)))==0))) ?_;obtain rfl:=B2 h;exact kO Z Fe [0,1,2,3,4]
def Q6 (N:Nat)(a:Str)(b:Int)(d:Int->Option Bool):Option Bool:= if ((decide ((a.length:Int)<1))||(decide (b<(a.length:Int)))) then some false else X5 N (λc (x1:Int)=>if (decide (x1<(a.length:Int))) then if ((0:Int)<=x1/\x1<(a.length:Int))then (d (Ib a x1)).bind λy3=>if (!y3) then some false else c (wrap .i64 (x1+1)) else none else some true) 0
theorem Bz {d:Str}{c:Int}{f:Int->Option Bool}{kp_of:Nat}(g:∀{a0:Int}{b:Bool},f a0=some b->Me S kp_of [.p (pI .u8 a0)] [] (pB b) [] []){y:Bool}(h:Q6 N d c f=some y) :Me S Ev [.p (.str d),pN c,.clo kp_of [] []] [] (pB y) ([]) []:=by
 unfold Q6 at h;refine A2 Z func177 ?_;refine kB Z (A6 Z) Fe Fe 5 (.o (.a (decide ((d.length:Int)<1))) (.a (decide (c<(d.length:Int))))) ?_;apply kI Z h<;>intro h
 .cases h;exact kR Z
 refine P8 Z Fe h (λx1=>⟨[(19,pN x1),(18,pN (d.length:Int)),(2,.clo kp_of [] []),(0,.p (.str d))],[]⟩) (ids:=[]) (λ_ _ _ _ _ i x1 j h=>?_);apply kI Z h<;>intro h
 .obtain⟨c9,h⟩:=C8 h;obtain⟨y3,e3,h⟩:=A9 h;refine B4 Z [] c9 (g e3) ?_;apply kI Z h<;>intro h
  .cases h;exact kR Z
  exact j _ [] _ (wrap .i64 (x1+1)) Fe h
 cases h;exact kR Z
def U2 (N:Nat)(a:Int):Option Bool:= (Bg N a).bind λy1=>lt (λ(z1:Bool)=>some z1) λk1=>if y1 then k1 true else if (decide (65<=a)) then if (decide (a<=90)) then k1 true else (Y1 N [64,63,33,38,42,36,37] a).bind λy4=>k1 (decide (0<=y4)) else (Y1 N [64,63,33,38,42,36,37] a).bind λy5=>k1 (decide (0<=y5))
theorem Eb {b:Int}{y:Bool}(h:U2 N b=some y) :Me S DO [.p (pI .u8 b)] [] (pB y) ([]) []:=by
 unfold U2 at h;refine A2 Z func181 ?_;refine kC Z h (GB Z Y) (λy1 h=>?_);refine Kz Z Fe (A6 Z) h 0 (λz1=>⟨[(2,pB z1)],[]⟩) (λM1 k1 a h=>?_) (λz1 h=>?_)
 .refine kG Z h (λh=>?_) (λh=>?_)
  .exact a _ [] _ true Fe h
  refine kG Z h (λh=>?_) (λh=>?_)
  .refine kG Z h (λh=>?_) (λh=>?_)
   .exact a _ [] _ true Fe h
   refine kC Z h (Ft Z Y) (λy4 h=>?_);exact a _ [] _ (decide (0<=y4)) Fe h
  refine kC Z h (Ft Z Y) (λy5 h=>?_);exact a _ [] _ (decide (0<=y5)) Fe h
 cases h;exact kR Z
def Cp (N:Nat)(b:B3)(a:Str)(c:Kj):Option (Int×B3):= (Q5 N b).bind λy1=>if (!y1) then some (1,b) else (Q6 N a 4 (λ(u1:Int)=>U2 N u1)).bind λy2=>if (!y2) then some (15,b) else (Y2 N b c).bind λy3=>if (!y3) then some (14,b) else Nm (P1 eqS a b.symbols) (Nm (P1 H0 c b.values) (if (false||false) then some (6,b) else if ((b.sounds.n:Int)==256) then some (4,b) else if (Kl 24 (b.sounds.n+(Sl.of [(⟨a,c⟩:K3)]:Sl K3).n))then some (0,(⟨b.feats,b.number,b.sounds.push (⟨a,c⟩:K3),Dd eqS a (b.sounds.n:Int) b.symbols,Dd H0 c (b.sounds.n:Int) b.values⟩:B3)) else none) λv2=>if (false||true) then some (6,b) else if ((b.sounds.n:Int)==256) then some (4,b) else if (Kl 24 (b.sounds.n+(Sl.of [(⟨a,c⟩:K3)]:Sl K3).n))then some (0,(⟨b.feats,b.number,b.sounds.push (⟨a,c⟩:K3),Dd eqS a (b.sounds.n:Int) b.symbols,Dd H0 c (b.sounds.n:Int) b.values⟩:B3)) else none) λv1=>Nm (P1 H0 c b.values) (if (true||false) then some (6,b) else if ((b.sounds.n:Int)==256) then some (4,b) else if (Kl 24 (b.sounds.n+(Sl.of [(⟨a,c⟩:K3)]:Sl K3).n))then some (0,(⟨b.feats,b.number,b.sounds.push (⟨a,c⟩:K3),Dd eqS a (b.sounds.n:Int) b.symbols,Dd H0 c (b.sounds.n:Int) b.values⟩:B3)) else none) λv3=>if (true||true) then some (6,b) else if ((b.sounds.n:Int)==256) then some (4,b) else if (Kl 24 (b.sounds.n+(Sl.of [(⟨a,c⟩:K3)]:Sl K3).n))then some (0,(⟨b.feats,b.number,b.sounds.push (⟨a,c⟩:K3),Dd eqS a (b.sounds.n:Int) b.symbols,Dd H0 c (b.sounds.n:Int) b.values⟩:B3)) else none
theorem Kr {c:B3}{b:Str}{d:Kj}{y:Int×B3}(h:Cp N c b d=some y) :Me S Ck [.reg 0 0,.p (.str b),.p (.agg (A0 d))] [.cells [.p (vSl 1 cS c.feats),.No 1,.vec 2,.No 3,.No 4],oM PV.str (pI .i64) c.number,oV D1 3 D6 c.sounds true,oM PV.str (pI .i64) c.symbols,oM (λx=>.agg (A0 x)) (pI .i64) c.values] (pN y.1) ([.cells [.p (vSl 1 cS y.2.feats),.No 1,.vec 2,.No 3,.No 4],oM PV.str (pI .i64) y.2.number,oV D1 3 D6 y.2.sounds true,oM PV.str (pI .i64) y.2.symbols,oM (λx=>.agg (A0 x)) (pI .i64) y.2.values]) [true,true,false,true,true]:=by
 unfold Cp at h;refine A2 Z func142 ?_;refine F6 Z Fe 6 6000 [pI .u32 d.Plus,pI .u32 d.Minus] ?_;obtain⟨y1,e1,h⟩:=A9 h;refine B4 Z [0,1,2,3,4] Fe (By Z Y e1) ?_;apply kI Z h<;>intro h
 .obtain rfl:=B2 h;exact kOi Z Fe [(0,0),(1,1),(3,3),(4,4),(990002,2)] [0,1,990002,3,4]
 refine kC Z h (Bz Z Y (λe=>Eb Z Y e)) (λy2 h=>?_);apply kI Z h<;>intro h
 .obtain rfl:=B2 h;exact kOi Z Fe [(0,0),(1,1),(3,3),(4,4),(990002,2)] [0,1,990002,3,4]
 obtain⟨y3,e3,h⟩:=A9 h;refine B4 Z [0,1,2,3,4] Gt (Hg Z Y e3) ?_;apply kI Z h<;>intro h
 .obtain rfl:=B2 h;exact kOi Z Fe [(0,0),(1,1),(3,3),(4,4),(990002,2)] [0,1,990002,3,4]
 rcases o1:P1 eqS b c.symbols with _|v1
 .replace h:=Ac3 o1 h;refine Xv Z Fe F5 E1 PV.str (pI .i64) eqS o1 (pI .i64 0) Fe ?_;refine E2 Z Fe [4] ?_;rcases o2:P1 H0 d c.values with _|v2
  .replace h:=Ac3 o2 h;refine AR7 Gt B6 E1 (λx=>.agg (A0 x)) (pI .i64) H0 o2 (pI .i64 0) (by decide +kernel:Qd Tryz.prog B6=true) ?_;refine D0 Fe ?_;refine kB Z (A6 Z) Fe Fe 2 (.o (.a false) (.a false)) ?_;apply kI Z h<;>intro h
   .obtain rfl:=B2 h;exact kOi Z Fe [(0,0),(1,1),(3,3),(4,4),(990002,2)] [0,1,990002,3,4]
   apply kI Z h<;>intro h
   .obtain rfl:=B2 h;exact kOi Z Fe [(0,0),(1,1),(3,3),(4,4),(990002,2)] [0,1,990002,3,4]
   refine EZ Z Fe ?_;refine SZ Fe F5 PV.str (pI .i64) eqS b (c.sounds.n:Int) c.symbols Fe ?_;refine D0 Fe ?_;refine E2 Z Fe [4] ?_;refine SZ Gt B6 (λx=>.agg (A0 x)) (pI .i64) H0 d (c.sounds.n:Int) c.values (by decide +kernel:Qd Tryz.prog B6=true) ?_;refine D0 Fe ?_;refine E2 Z Fe [6] ?_;refine M4 Gt (x:=.sl true 3 1 (G2 [.str [],pI .u32 0,pI .u32 0] [(0,D6 (⟨b,d⟩:K3))])) ?_;obtain⟨c6,h⟩:=C8 h;refine D0 c6 ?_;obtain rfl:=B2 h;exact kO Z Fe [0,1,79000,3,4] (hle:=kl1 1 (X6 D6 c.sounds (⟨b,d⟩:K3) [.str [],pI .u32 0,pI .u32 0]))
  replace h:=Ze o2 h;refine AC5 Gt B6 E1 (λx=>.agg (A0 x)) (pI .i64) H0 o2 (by decide +kernel:Qd Tryz.prog B6=true) ?_;refine D0 Fe ?_;refine kB Z (A6 Z) Fe Fe 2 (.o (.a false) (.a true)) ?_;apply kI Z h<;>intro h
  .obtain rfl:=B2 h;exact kOi Z Fe [(0,0),(1,1),(3,3),(4,4),(990002,2)] [0,1,990002,3,4]
  apply kI Z h<;>intro h
  .obtain rfl:=B2 h;exact kOi Z Fe [(0,0),(1,1),(3,3),(4,4),(990002,2)] [0,1,990002,3,4]
  refine EZ Z Fe ?_;refine SZ Fe F5 PV.str (pI .i64) eqS b (c.sounds.n:Int) c.symbols Fe ?_;refine D0 Fe ?_;refine E2 Z Fe [4] ?_;refine SZ Gt B6 (λx=>.agg (A0 x)) (pI .i64) H0 d (c.sounds.n:Int) c.values (by decide +kernel:Qd Tryz.prog B6=true) ?_;refine D0 Fe ?_;refine E2 Z Fe [6] ?_;refine M4 Gt (x:=.sl true 3 1 (G2 [.str [],pI .u32 0,pI .u32 0] [(0,D6 (⟨b,d⟩:K3))])) ?_;obtain⟨c9,h⟩:=C8 h;refine D0 c9 ?_;obtain rfl:=B2 h;exact kO Z Fe [0,1,79000,3,4] (hle:=kl1 1 (X6 D6 c.sounds (⟨b,d⟩:K3) [.str [],pI .u32 0,pI .u32 0]))
 replace h:=Ze o1 h;refine Xu Z Fe F5 E1 PV.str (pI .i64) eqS o1 Fe ?_;refine E2 Z Fe [4] ?_;rcases o3:P1 H0 d c.values with _|v3
 .replace h:=Ac3 o3 h;refine AR7 Gt B6 E1 (λx=>.agg (A0 x)) (pI .i64) H0 o3 (pI .i64 0) (by decide +kernel:Qd Tryz.prog B6=true) ?_;refine D0 Fe ?_;refine kB Z (A6 Z) Fe Fe 2 (.o (.a true) (.a false)) ?_;apply kI Z h<;>intro h
  .obtain rfl:=B2 h;exact kOi Z Fe [(0,0),(1,1),(3,3),(4,4),(990002,2)] [0,1,990002,3,4]
  apply kI Z h<;>intro h
  .obtain rfl:=B2 h;exact kOi Z Fe [(0,0),(1,1),(3,3),(4,4),(990002,2)] [0,1,990002,3,4]
  refine EZ Z Fe ?_;refine SZ Fe F5 PV.str (pI .i64) eqS b (c.sounds.n:Int) c.symbols Fe ?_;refine D0 Fe ?_;refine E2 Z Fe [4] ?_;refine SZ Gt B6 (λx=>.agg (A0 x)) (pI .i64) H0 d (c.sounds.n:Int) c.values (by decide +kernel:Qd Tryz.prog B6=true) ?_;refine D0 Fe ?_;refine E2 Z Fe [6] ?_;refine M4 Gt (x:=.sl true 3 1 (G2 [.str [],pI .u32 0,pI .u32 0] [(0,D6 (⟨b,d⟩:K3))])) ?_;obtain⟨c12,h⟩:=C8 h;refine D0 c12 ?_;obtain rfl:=B2 h;exact kO Z Fe [0,1,79000,3,4] (hle:=kl1 1 (X6 D6 c.sounds (⟨b,d⟩:K3) [.str [],pI .u32 0,pI .u32 0]))
 replace h:=Ze o3 h;refine AC5 Gt B6 E1 (λx=>.agg (A0 x)) (pI .i64) H0 o3 (by decide +kernel:Qd Tryz.prog B6=true) ?_;refine D0 Fe ?_;refine kB Z (A6 Z) Fe Fe 2 (.o (.a true) (.a true)) ?_;apply kI Z h<;>intro h
 .obtain rfl:=B2 h;exact kOi Z Fe [(0,0),(1,1),(3,3),(4,4),(990002,2)] [0,1,990002,3,4]
 apply kI Z h<;>intro h
 .obtain rfl:=B2 h;exact kOi Z Fe [(0,0),(1,1),(3,3),(4,4),(990002,2)] [0,1,990002,3,4]
 refine EZ Z Fe ?_;refine SZ Fe F5 PV.str (pI .i64) eqS b (c.sounds.n:Int) c.symbols Fe ?_;refine D0 Fe ?_;refine E2 Z Fe [4] ?_;refine SZ Gt B6 (λx=>.agg (A0 x)) (pI .i64) H0 d (c.sounds.n:Int) c.values (by decide +kernel:Qd Tryz.prog B6=true) ?_;refine D0 Fe ?_;refine E2 Z Fe [6] ?_;refine M4 Gt (x:=.sl true 3 1 (G2 [.str [],pI .u32 0,pI .u32 0] [(0,D6 (⟨b,d⟩:K3))])) ?_;obtain⟨c15,h⟩:=C8 h;refine D0 c15 ?_;obtain rfl:=B2 h;exact kO Z Fe [0,1,79000,3,4] (hle:=kl1 1 (X6 D6 c.sounds (⟨b,d⟩:K3) [.str [],pI .u32 0,pI .u32 0]))
def Y3 (N:Nat)(a:Str)(b:Kj):Option Int:= (P6 N ).bind λy1=>if (!y1) then some 1 else (Q6 N a 4 (λ(u1:Int)=>U2 N u1)).bind λy2=>if (!y2) then some 15 else none
theorem Hh {a:Str}{b:Kj}{y:Int}(h:Y3 N a b=some y) :Me S Ck [.p Ay8,.p (.str a),.p (.agg (A0 b))] [] (pN y) ([]) []:=by
 unfold Y3 at h;refine A2 Z func142 ?_;refine F6 Z Fe 6 6000 [pI .u32 b.Plus,pI .u32 b.Minus] ?_;refine kC Z h (Cz Z Y) (λy1 h=>?_);apply kI Z h<;>intro h
 .cases h;exact kR Z
 refine kC Z h (Bz Z Y (λe=>Eb Z Y e)) (λy2 h=>?_);apply kI Z h<;>intro h
 .cases h;exact kR Z
 cases h
def Fu (N:Nat)(a:Sl Str):Option ((Option B3)×Int):= if (decide (24<(a.n:Int))) then some (none,12) else X5 N (λb (x1:Int)=>if (decide (x1<(a.n:Int))) then if ((0:Int)<=x1/\x1<(a.n:Int))then (Q6 N (a.g x1.toNat) 16 (λ(u3:Int)=>Bg N u3)).bind λy3=>if ((!y3)=false->((0:Int)<=0/\0<((a.g x1.toNat).length:Int)))then if ((!y3)||(decide ((Ib (a.g x1.toNat) 0)<=57))) then some (none,15) else b (wrap .i64 (x1+1)) else none else none else Ca N (λc (x2:List (Str×Int)) (x3:Int)=>if (decide (x3<(a.n:Int))) then if ((0:Int)<=x3/\x3<(a.n:Int))then Nm (P1 eqS (a.g x3.toNat) x2) (c (Dd eqS (a.g x3.toNat) x3 x2) (wrap .i64 (x3+1))) λv3=>some (none,6) else none else (F9 N a).bind λy4=>some (some (⟨y4,x2,(Sl.nil:Sl K3),[],[]⟩:B3),0)) [] 0) 0
theorem IJ {c:Sl Str}{y:(Option B3)×Int}(h:Fu N c=some y) :Me S Iw [.p (vSl 1 cS c)] [] (.tup [Nm y.1 (.p Ay8) λ_=>.reg 0 0,pN y.2]) (Nm y.1 [] λo=>[(.cells [.p (vSl 1 cS o.feats),.No 1,.vec 2,.No 3,.No 4]),oM PV.str (pI .i64) o.number,oV D1 3 D6 o.sounds true,oM PV.str (pI .i64) o.symbols,oM (λx=>.agg (A0 x)) (pI .i64) o.values]) []:=by
 unfold Fu at h;refine A2 Z func141 ?_;apply kI Z h<;>intro h
 .obtain rfl:=B2 h;exact kO Z Fe []
 refine P8 Z Fe h (λx1=>⟨[(21,pN x1),(20,pN (c.n:Int)),(19,.p (vSl 1 cS c)),(4,.reg 19000 0),(0,.p (vSl 1 cS c))],[(19000,.cells [.p C6,.No 15000,.p C6,.No 16000,.No 17000]),(17000,oM (λx=>.agg (A0 x)) (pI .i64) []),(16000,oM PV.str (pI .i64) []),(15000,oM PV.str (pI .i64) [])]⟩) (ids:=(Kk [15000,16000,17000,19000])) (λ_ _ _ _ _ d x1 f h=>?_);apply kI Z h<;>intro h
 .obtain⟨c11,h⟩:=C8 h;obtain⟨y3,e3,h⟩:=A9 h;refine B4 Z [] c11 (Bz Z Y (λe=>GB Z Y e) e3) ?_;obtain⟨c12,h⟩:=C8 h;refine kB Z (A6 Z) Fe c12 4 (.o (.a (!y3)) (.a (decide ((Ib (c.g x1.toNat) 0)<=57)))) ?_;apply kI Z h<;>intro h
  .obtain rfl:=B2 h;exact kO Z Fe []
  exact f _ (Kk [15000,16000,17000,19000]) _ (wrap .i64 (x1+1)) Fe h
 refine I1 Z Fe h (λx2 x3=>⟨[(36,pN x3),(35,pN (c.n:Int)),(34,.p (vSl 1 cS c)),(4,.reg 19000 0),(0,.p (vSl 1 cS c))],[(19000,.cells [.p C6,.No 15000,.p C6,.No 16000,.No 17000]),(17000,oM (λx=>.agg (A0 x)) (pI .i64) []),(16000,oM PV.str (pI .i64) []),(15000,oM PV.str (pI .i64) x2)]⟩) (ids:=(Kk [15000,16000,17000,19000])) (λ_ _ _ _ _ i x2 x3 j h=>?_);apply kI Z h<;>intro h
 .obtain⟨c23,h⟩:=C8 h;rcases o3:P1 eqS (c.g x3.toNat) x2 with _|v3
  .replace h:=Ac3 o3 h;refine Xv Z c23 F5 E1 PV.str (pI .i64) eqS o3 (pI .i64 0) Fe ?_;refine C7 Z Fe (b:=false) (λc24=>?_) (λc24=>?_)
   .exact Bool.noConfusion ((rfl:false=false).symm.trans c24)
   refine Ad3 Z Fe F5 PV.str (pI .i64) eqS (c.g x3.toNat) x3 x2 Fe ?_;exact j _ (Kk [15000,16000,17000,19000]) _ (Dd eqS (c.g x3.toNat) x3 x2) (wrap .i64 (x3+1)) Fe h
  replace h:=Ze o3 h;refine Xu Z c23 F5 E1 PV.str (pI .i64) eqS o3 Fe ?_;refine C7 Z Fe (b:=true) (λc25=>?_) (λc25=>?_)
  .obtain rfl:=B2 h;exact kO Z Fe []
  exact Bool.noConfusion (Ix.symm.trans c25)
 refine kC Z h (O2 Z Y) (λy4 h=>?_);obtain rfl:=B2 h;exact kO Z Fe [19000,15000,3802,16000,17000]
def AH (N:Nat)(a:B3):Option (Sl Str):= (Q5 N a).bind λy1=>if (!y1) then some (Sl.nil:Sl Str) else (F9 N a.feats).bind λy2=>some y2
theorem IK {a:B3}{y:Sl Str}(h:AH N a=some y) :Me S DN [.reg 0 0] [.cells [.p (vSl 1 cS a.feats),.No 1,.vec 2,.No 3,.No 4],oM PV.str (pI .i64) a.number,oV D1 3 D6 a.sounds true,oM PV.str (pI .i64) a.symbols,oM (λx=>.agg (A0 x)) (pI .i64) a.values] (.vec 5) ([.cells [.p (vSl 1 cS a.feats),.No 1,.vec 2,.No 3,.No 4],oM PV.str (pI .i64) a.number,oV D1 3 D6 a.sounds true,oM PV.str (pI .i64) a.symbols,oM (λx=>.agg (A0 x)) (pI .i64) a.values,oV F5 1 cS y true]) [true,true,true,true,true]:=by
 unfold AH at h;refine A2 Z func144 ?_;obtain⟨y1,e1,h⟩:=A9 h;refine B4 Z [0,1,2,3,4] Fe (By Z Y e1) ?_;apply kI Z h<;>intro h
 .obtain rfl:=B2 h;exact kO Z Fe [0,1,2,3,4,3700]
 refine kC Z h (O2 Z Y) (λy2 h=>?_);obtain rfl:=B2 h;exact kO Z Fe [0,1,2,3,4,11000]
def W4 (N:Nat)  : Option Unit:= (P6 N ).bind λy1=>if (!y1) then some () else none
theorem GC    {y:Unit}(h:W4 N  = some y) :Me S Bo [.p Ay8] [] (.p Ay8) ([]) []:=by
 unfold W4 at h;refine A2 Z func143 ?_;refine kC Z h (Cz Z Y) (λy1 h=>?_);apply kI Z h<;>intro h
 .obtain rfl:=B2 h;exact kO Z Fe []
 cases h
end Go.AM
namespace Go.AM
open IntKind (wrap)
open Go.Proofs
set_option maxRecDepth 10000
set_option maxHeartbeats 4000000
def Cq {κ ν : Type}(kP : κ -> PV)(vP : ν -> PV):∀l:List (κ × ν),(Dc kP vP l).length=l.length
 |[]=>rfl
 |_::l=>congrArg (· + 1) (Cq kP vP l)
variable {S:U5}(Z:G6 S Tryz.prog) (Y:JK S)
include Z Y
def BA (N:Nat)(a:B3):Option (Option B3):= (Q5 N a).bind λy1=>if (!y1) then some none else (F9 N a.feats).bind λy2=>(J2 N a.sounds).bind λy3=>Ca N (λb (x1:List (Str×Int)) (x2:Int)=>if (decide (x2<(y2.n:Int))) then if (((0:Int)<=x2/\x2<(y2.n:Int))/\x2.toNat<y2.n)then b (Dd eqS (y2.g x2.toNat) x2 x1) (wrap .i64 (x2+1)) else none else Al7 N (λc (x3:List (Str×Int)) (x4:List (Kj×Int)) (x5:Int)=>if (decide (x5<(y3.n:Int))) then if (((0:Int)<=x5/\x5<(y3.n:Int))/\x5.toNat<y3.n)then c (Dd eqS (y3.g x5.toNat).Symbol x5 x3) (Dd H0 (y3.g x5.toNat).S x5 x4) (wrap .i64 (x5+1)) else none else some (some (⟨y2,x1,y3,x3,x4⟩:B3))) [] [] 0) [] 0
theorem Ey {N:Nat}{b:B3}{y:Option B3}(h:BA N b=some y) :Me S Bo [.reg 0 0] [.cells [.p (vSl 1 cS b.feats),.No 1,.vec 2,.No 3,.No 4],oM PV.str (pI .i64) b.number,oV D1 3 D6 b.sounds true,oM PV.str (pI .i64) b.symbols,oM (λx=>.agg (A0 x)) (pI .i64) b.values] (Nm y (.p Ay8) λ_=>.reg 5 0) ([.cells [.p (vSl 1 cS b.feats),.No 1,.vec 2,.No 3,.No 4],oM PV.str (pI .i64) b.number,oV D1 3 D6 b.sounds true,oM PV.str (pI .i64) b.symbols,oM (λx=>.agg (A0 x)) (pI .i64) b.values]++(Nm y [] λo=>[(.cells [.p (vSl 1 cS o.feats),.No 6,.vec 7,.No 8,.No 9]),oM PV.str (pI .i64) o.number,oV D1 3 D6 o.sounds true,oM PV.str (pI .i64) o.symbols,oM (λx=>.agg (A0 x)) (pI .i64) o.values])) [true,true,true,true,true]:=by
 unfold BA at h;refine A2 Z Tryz.func143 ?_;obtain⟨y1,e1,h⟩:=A9 h;refine B4 Z [0,1,2,3,4] Fe (By Z Y e1) ?_;apply kI Z h<;>intro h
 .obtain rfl:=B2 h;exact kO Z Fe [0,1,2,3,4]
 refine F2 Z Fe [(3,.l [0]),(4,.a [16000]),(8,.l [0]),(9,.a [2,21000]),(10,.a [22000]),(11,.a [23000]),(12,.a [24000])] ?_;obtain⟨y2,e2,h⟩:=A9 h;refine OJ [] Fe (O2 Z Y e2) ?_;obtain⟨y3,e3,h⟩:=A9 h;refine OJ [] Fe (Bx Z Y e3) ?_;refine D0 Fe ?_;refine I1 Z Fe h (λx1 x2=>⟨[(31,pN x2),(30,pN (y2.n:Int)),(29,.vec 16000),(3,.reg 26000 0)],[(26000,.cells [.vec 16000,.No 22000,.vec 21000,.No 23000,.No 24000]),(24000,oM (λx=>.agg (A0 x)) (pI .i64) []),(23000,oM PV.str (pI .i64) []),(22000,oM PV.str (pI .i64) x1),(21000,oV D1 3 D6 y3 true),(16000,oV F5 1 cS y2 true),(4,oM (λx=>.agg (A0 x)) (pI .i64) b.values),(3,oM PV.str (pI .i64) b.symbols),(2,oV D1 3 D6 b.sounds true),(1,oM PV.str (pI .i64) b.number),(0,.cells [.p (vSl 1 cS b.feats),.No 1,.vec 2,.No 3,.No 4])]⟩) (ids:=(Kk [0,1,2,3,4,16000,21000,22000,23000,24000,26000])) (λ_ _ _ _ _ c x1 x2 d h=>?_);apply kI Z h<;>intro h
 .obtain⟨c7,h⟩:=C8 h;refine Ad3 Z c7 F5 PV.str (pI .i64) eqS (y2.g x2.toNat) x2 x1 Fe ?_;exact d _ (Kk [0,1,2,3,4,16000,21000,22000,23000,24000,26000]) _ (Dd eqS (y2.g x2.toNat) x2 x1) (wrap .i64 (x2+1)) Fe h
 refine KW Z Fe h (λx3 x4 x5=>⟨[(48,pN x5),(47,pN (y3.n:Int)),(46,.vec 21000),(3,.reg 26000 0)],[(26000,.cells [.vec 16000,.No 22000,.vec 21000,.No 23000,.No 24000]),(24000,oM (λx=>.agg (A0 x)) (pI .i64) x4),(23000,oM PV.str (pI .i64) x3),(22000,oM PV.str (pI .i64) x1),(21000,oV D1 3 D6 y3 true),(16000,oV F5 1 cS y2 true),(4,oM (λx=>.agg (A0 x)) (pI .i64) b.values),(3,oM PV.str (pI .i64) b.symbols),(2,oV D1 3 D6 b.sounds true),(1,oM PV.str (pI .i64) b.number),(0,.cells [.p (vSl 1 cS b.feats),.No 1,.vec 2,.No 3,.No 4])]⟩) (ids:=(Kk [0,1,2,3,4,16000,21000,22000,23000,24000,26000])) (λ_ _ _ _ _ f x3 x4 x5 j h=>?_);apply kI Z h<;>intro h
 .obtain⟨c13,h⟩:=C8 h;refine Vl Z (Kn (Kn c13.1 Ha) c13.2) 8000 (D6 (y3.g x5.toNat)) ?_;refine E2 Z Fe [5,11] ?_;refine An4 Gt (kt:=F5) (key:=PV.str (y3.g x5.toNat).Symbol) (z:=pI .i64 0) (y:=pI .i64 (HP eqS (y3.g x5.toNat).Symbol (0:Int) x3).2.1) (es:=Dc PV.str (pI .i64) x3) (es':=Dc PV.str (pI .i64) (HP eqS (y3.g x5.toNat).Symbol (0:Int) x3).2.2) (i:=(HP eqS (y3.g x5.toNat).Symbol (0:Int) x3).1) (NQ (kP:=PV.str) (vP:=pI .i64) (eq:=eqS) (λ_ _=>by kernel_rfl) (y3.g x5.toNat).Symbol 0 x3) Fe ?_;refine SX Fe (i:=(HP eqS (y3.g x5.toNat).Symbol (0:Int) x3).1) (y:=pI .i64 x5) (es:=Dc PV.str (pI .i64) (HP eqS (y3.g x5.toNat).Symbol (0:Int) x3).2.2) (es':=Dc PV.str (pI .i64) (Dd eqS (y3.g x5.toNat).Symbol x5 x3)) (by rw[Cq];exact Ki eqS (y3.g x5.toNat).Symbol 0 x3) ((KX (HP eqS (y3.g x5.toNat).Symbol (0:Int) x3).2.2 (HP eqS (y3.g x5.toNat).Symbol (0:Int) x3).1 x5 (Ki eqS (y3.g x5.toNat).Symbol 0 x3)).trans (congrArg (Dc PV.str (pI .i64)) (KY eqS (y3.g x5.toNat).Symbol 0 x5 x3))) ?_;refine An4 Fe (kt:=B6) (key:=(λx=>.agg (A0 x)) (y3.g x5.toNat).S) (z:=pI .i64 0) (y:=pI .i64 (HP H0 (y3.g x5.toNat).S (0:Int) x4).2.1) (es:=Dc (λx=>.agg (A0 x)) (pI .i64) x4) (es':=Dc (λx=>.agg (A0 x)) (pI .i64) (HP H0 (y3.g x5.toNat).S (0:Int) x4).2.2) (i:=(HP H0 (y3.g x5.toNat).S (0:Int) x4).1) (NQ (kP:=λx=>.agg (A0 x)) (vP:=pI .i64) (eq:=H0) (λ_ _=>by kernel_rfl) (y3.g x5.toNat).S 0 x4) (by decide +kernel:Qd Tryz.prog B6=true) ?_;refine SX Fe (i:=(HP H0 (y3.g x5.toNat).S (0:Int) x4).1) (y:=pI .i64 x5) (es:=Dc (λx=>.agg (A0 x)) (pI .i64) (HP H0 (y3.g x5.toNat).S (0:Int) x4).2.2) (es':=Dc (λx=>.agg (A0 x)) (pI .i64) (Dd H0 (y3.g x5.toNat).S x5 x4)) (by rw[Cq];exact Ki H0 (y3.g x5.toNat).S 0 x4) ((KX (HP H0 (y3.g x5.toNat).S (0:Int) x4).2.2 (HP H0 (y3.g x5.toNat).S (0:Int) x4).1 x5 (Ki H0 (y3.g x5.toNat).S 0 x4)).trans (congrArg (Dc (λx=>.agg (A0 x)) (pI .i64)) (KY H0 (y3.g x5.toNat).S 0 x5 x4))) ?_;refine D0 Fe ?_;exact j _ (Kk [0,1,2,3,4,16000,21000,22000,23000,24000,26000]) _ (Dd eqS (y3.g x5.toNat).Symbol x5 x3) (Dd H0 (y3.g x5.toNat).S x5 x4) (wrap .i64 (x5+1)) Fe h
 obtain rfl:=B2 h;exact kO Z Fe [0,1,2,3,4,26000,22000,21000,23000,24000]
end Go.AM
namespace Go.AM
open Go.Proofs.Tryz
variable {N:Nat}
open IntKind (wrap)
open Go.Proofs
set_option maxRecDepth 10000
set_option maxHeartbeats 2000000
variable {S:U5}(Z:G6 S Tryz.prog) (Y:JK S)
include Z Y
def Eo (N:Nat)(a:C0):Option ((Option B3)×Int):= (Fu N a.Feats).bind λy1=>Nm y1.1 (if (y1.2 != 0) then some (none,y1.2) else X5 N (λb (x1:Int)=>if (decide (x1<(a.Sounds.n:Int))) then if ((0:Int)<=x1/\x1<(a.Sounds.n:Int))then (Y3 N (a.Sounds.g x1.toNat).Symbol (a.Sounds.g x1.toNat).S).bind λy4=>if (y4 != 0) then some (none,y4) else b (wrap .i64 (x1+1)) else none else some (none,0)) 0) λz1=>if (y1.2 != 0) then some (none,y1.2) else fix6 N (λc (x2:Sl Str) (x3:List (Str×Int)) (x4:Sl K3) (x5:List (Str×Int)) (x6:List (Kj×Int)) (x7:Int)=>if (decide (x7<(a.Sounds.n:Int))) then if ((0:Int)<=x7/\x7<(a.Sounds.n:Int))then (Cp N (⟨x2,x3,x4,x5,x6⟩:B3) (a.Sounds.g x7.toNat).Symbol (a.Sounds.g x7.toNat).S).bind λy7=>if (y7.1 != 0) then some (none,y7.1) else c y7.2.feats y7.2.number y7.2.sounds y7.2.symbols y7.2.values (wrap .i64 (x7+1)) else none else some (some (⟨x2,x3,x4,x5,x6⟩:B3),0)) z1.feats z1.number z1.sounds z1.symbols z1.values 0
theorem HK {a:C0}{y:(Option B3)×Int}(h:Eo N a=some y) :Me S HC [.p (.agg (A7 a))] [] (.tup [Nm y.1 (.p Ay8) λ_=>.reg 0 0,pN y.2]) (Nm y.1 [] λo=>[(.cells [.p (vSl 1 cS o.feats),.No 1,.vec 2,.No 3,.No 4]),oM PV.str (pI .i64) o.number,oV D1 3 D6 o.sounds true,oM PV.str (pI .i64) o.symbols,oM (λx=>.agg (A0 x)) (pI .i64) o.values]) []:=by
 unfold Eo at h;refine A2 Z func101 ?_;obtain⟨y1,e1,h⟩:=A9 h;rcases o1:y1.1 with _|z1
 .replace h:=Ac3 o1 h;have w1:=(IJ Z Y e1);simp only[o1,CJ,EX,Bl8,Bj7,Bq0]at w1;refine B4 Z [] Fe w1 ?_;apply kI Z h<;>intro h
  .obtain rfl:=B2 h;exact kO Z Fe []
  refine P8 Z Fe h (λx1=>⟨[(21,pN x1),(20,pN (a.Sounds.n:Int)),(19,.p (vSl 3 D6 a.Sounds)),(4,.p Ay8)],[]⟩) (ids:=[]) (λ_ _ _ _ _ b x1 c h=>?_);apply kI Z h<;>intro h
  .obtain⟨c9,h⟩:=C8 h;obtain⟨y4,e4,h⟩:=A9 h;refine B4 Z [] (Kn c9 Ha) (Hh Z Y e4) ?_;apply kI Z h<;>intro h
   .obtain rfl:=B2 h;exact kO Z Fe []
   exact c _ [] _ (wrap .i64 (x1+1)) Fe h
  obtain rfl:=B2 h;exact kO Z Fe []
 replace h:=Ze o1 h;have w2:=(IJ Z Y e1);simp only[o1,CJ,EX,Bl8,Bj7,Bq0]at w2;refine B4 Z [] Fe w2 ?_;apply kI Z h<;>intro h
 .obtain rfl:=B2 h;exact kO Z Fe []
 refine AZ7 Z Fe h (λx2 x3 x4 x5 x6 x7=>⟨[(21,pN x7),(20,pN (a.Sounds.n:Int)),(19,.p (vSl 3 D6 a.Sounds)),(4,.reg 13000 0)],[(13004,oM (λx=>.agg (A0 x)) (pI .i64) x6),(13003,oM PV.str (pI .i64) x5),(13001,oM PV.str (pI .i64) x3),(13000,.cells [.p (vSl 1 cS x2),.No 13001,.vec 5500,.No 13003,.No 13004]),(5500,oV D1 3 D6 x4 true)]⟩) (ids:=[(5500,13002),(13000,13000),(13001,13001),(13003,13003),(13004,13004)]) (λ_ _ _ _ _ d x2 x3 x4 x5 x6 x7 f h=>?_);apply kI Z h<;>intro h
 .obtain⟨c19,h⟩:=C8 h;obtain⟨y7,e7,h⟩:=A9 h;refine B4 Z [13000,13001,5500,13003,13004] (Kn c19 Ha) (Kr Z Y e7) ?_;apply kI Z h<;>intro h
  .obtain rfl:=B2 h;exact kO Z Fe []
  exact f _ [(5500,31002),(13000,13000),(13001,13001),(13003,13003),(13004,13004)] _ y7.2.feats y7.2.number y7.2.sounds y7.2.symbols y7.2.values (wrap .i64 (x7+1)) Fe h
 obtain rfl:=B2 h;exact kO Z Fe [13000,13001,5500,13003,13004]
def Ep (N:Nat)(a:Jq)(q0:Jq):Option Bool:= some ((a.Text==q0.Text) != false)
theorem NE {a:Jq}{q0:Jq}{y:Bool}(h:Ep N a q0=some y) :Me S HF [.p (.agg (V8 a)),.p (.ptr (V8 q0))] [] (pB y) ([]) []:=by unfold Ep at h;refine A2 Z func146 ?_;cases h;exact kR Z
def I5 (N:Nat)(a:Sl Jq)(c:Jq->Option Bool):Option Int:= X5 N (λb (x1:Int)=>if (decide (x1<(a.n:Int))) then if ((0:Int)<=x1/\x1<(a.n:Int))then (c (a.g x1.toNat)).bind λy3=>if y3 then some x1 else b (wrap .i64 (x1+1)) else none else some (-1)) 0
theorem AI {a:Sl Jq}{c:Jq->Option Bool}{kp_f:Nat}{cp_f_0:List PV}(d:∀{a0:Jq}{b:Bool},c a0=some b->Me S kp_f [.p (.agg (V8 a0)),.p (.ptr cp_f_0)] [] (pB b) [] []){y:Int}(h:I5 N a c=some y) :Me S O6 [.p (vSl 4 V8 a),.clo kp_f [] [.p (.ptr cp_f_0)]] [] (pN y) ([]) []:=by
 unfold I5 at h;refine A2 Z func185 ?_;refine P8 Z Fe h (λx1=>⟨[(8,pN x1),(7,pN (a.n:Int)),(1,.clo kp_f [] [.p (.ptr cp_f_0)]),(0,.p (vSl 4 V8 a))],[]⟩) (ids:=[]) (λ_ _ _ _ _ f x1 g h=>?_);apply kI Z h<;>intro h
 .obtain⟨c8,h⟩:=C8 h;obtain⟨y3,e3,h⟩:=A9 h;refine B4 Z [] (Kn c8 Io) (d e3) ?_;apply kI Z h<;>intro h
  .cases h;exact kR Z
  exact g _ [] _ (wrap .i64 (x1+1)) Fe h
 cases h;exact kR Z
def G9 (N:Nat)(a:Sl Jq)(b:Jq->Option Bool):Option Bool:= (I5 N a b).bind λy1=>some (decide (0<=y1))
theorem Z6 {a:Sl Jq}{c:Jq->Option Bool}{kp_f:Nat}{cp_f_0:List PV}(d:∀{a0:Jq}{b:Bool},c a0=some b->Me S kp_f [.p (.agg (V8 a0)),.p (.ptr cp_f_0)] [] (pB b) [] []){y:Bool}(h:G9 N a c=some y) :Me S N7 [.p (vSl 4 V8 a),.clo kp_f [] [.p (.ptr cp_f_0)]] [] (pB y) ([]) []:=by unfold G9 at h;refine A2 Z func145 ?_;refine kC Z h (AI Z Y (λe=>d e)) (λy1 h=>?_);cases h;exact kR Z
def Gb (N:Nat)(c:B3)(a:Sl Jq):Option Int:= (BA N c).bind λy1=>Nm y1 (some 1) λz1=>if (decide (32<(a.n:Int))) then some 12 else (AH N z1).bind λy2=>if (0:Int)<=(y2.n:Int)then X5 N (λb (x3:Int)=>if (decide (x3<(a.n:Int))) then if ((0:Int)<=x3/\x3<(a.n:Int))then lt (λ(z6:Bool)=>if z6 then some 15 else lt (λ(z7:Bool)=>if z7 then some 2 else if ((0:Int)<=x3/\x3<=(a.n:Int))then (G9 N (a.take x3.toNat) (λ(u3:Jq)=>Ep N u3 (a.g x3.toNat))).bind λd=>if d then some 6 else b (wrap .i64 (x3+1)) else none) λk6=>if ((P0 .and .u32 (P0 .or .u32 (a.g x3.toNat).Clear (P0 .or .u32 (a.g x3.toNat).Set.Plus (a.g x3.toNat).Set.Minus)) (P0 .xor .u32 4294967295 (wrap .u32 ((shI .shl .u32 1 (y2.n:Int))-1)))) != 0) then k6 true else if ((P0 .and .u32 (a.g x3.toNat).Clear (P0 .or .u32 (a.g x3.toNat).Set.Plus (a.g x3.toNat).Set.Minus)) != 0) then k6 true else (H5 N (a.g x3.toNat).Set).bind λf=>k6 (!f)) λk5=>if (((a.g x3.toNat).Text==[]) != false) then k5 true else if (decide (3<((a.g x3.toNat).Text.length:Int))) then k5 true else (DE N (a.g x3.toNat).Text [58,39,34,126,94,95,61,96]).bind λi=>k5 ((i==[]) != true) else none else (K7 N a).bind λj=>some 0) 0 else none
theorem QY {b:B3}{a:Sl Jq}{y:Int}(h:Gb N b a=some y) :Me S FU [.reg 0 0,.p (vSl 4 V8 a)] [.cells [.p (vSl 1 cS b.feats),.No 1,.vec 2,.No 3,.No 4],oM PV.str (pI .i64) b.number,oV D1 3 D6 b.sounds true,oM PV.str (pI .i64) b.symbols,oM (λx=>.agg (A0 x)) (pI .i64) b.values] (.tup [.top,pN y]) ([.cells [.p (vSl 1 cS b.feats),.No 1,.vec 2,.No 3,.No 4],oM PV.str (pI .i64) b.number,oV D1 3 D6 b.sounds true,oM PV.str (pI .i64) b.symbols,oM (λx=>.agg (A0 x)) (pI .i64) b.values]) [true,true,true,true,true]:=by
 unfold Gb at h;refine A2 Z func102 ?_;obtain⟨y1,e1,h⟩:=A9 h;rcases o1:y1 with _|z1
 .replace h:=Ac3 o1 h;have w1:=(Ey Z Y e1);simp only[o1,CJ,EX,Bl8,Bj7,Bq0]at w1;refine B4 Z [0,1,2,3,4] Fe w1 ?_;obtain rfl:=B2 h;exact kO Z Fe [0,1,2,3,4]
 replace h:=Ze o1 h;have w2:=(Ey Z Y e1);simp only[o1,CJ,EX,Bl8,Bj7,Bq0]at w2;refine B4 Z [0,1,2,3,4] Fe w2 ?_;apply kI Z h<;>intro h
 .obtain rfl:=B2 h;exact kO Z Fe [0,1,2,3,4]
 obtain⟨y2,e2,h⟩:=A9 h;refine B4 Z [13005,13006,13007,13008,13009] Fe (IK Z Y e2) ?_;obtain⟨c2,h⟩:=C8 h;refine P8 Z c2 h (λx3=>⟨[(26,pN x3),(25,pN (a.n:Int)),(24,.p (vSl 4 V8 a)),(7,pU (P0 .xor .u32 4294967295 (wrap .u32 ((shI .shl .u32 1 (y2.n:Int))-1)))),(6,.reg 13005 0),(1,.p (vSl 4 V8 a))],[(13009,oM (λx=>.agg (A0 x)) (pI .i64) z1.values),(13008,oM PV.str (pI .i64) z1.symbols),(13007,oV D1 3 D6 z1.sounds true),(13006,oM PV.str (pI .i64) z1.number),(13005,.cells [.p (vSl 1 cS z1.feats),.No 13006,.vec 13007,.No 13008,.No 13009]),(4,oM (λx=>.agg (A0 x)) (pI .i64) b.values),(3,oM PV.str (pI .i64) b.symbols),(2,oV D1 3 D6 b.sounds true),(1,oM PV.str (pI .i64) b.number),(0,.cells [.p (vSl 1 cS b.feats),.No 1,.vec 2,.No 3,.No 4])]⟩) (ids:=(Kk [0,1,2,3,4,13005,13006,13007,13008,13009])) (λ_ _ _ _ _ f x3 i h=>?_);apply kI Z h<;>intro h
 .obtain⟨c40,h⟩:=C8 h;refine Kz Z (Kn c40 Io) (A6 Z) h 0 (λz6=>⟨[(38,pB z6),(26,pN x3),(25,pN (a.n:Int)),(24,.p (vSl 4 V8 a)),(10,pU (P0 .or .u32 (a.g x3.toNat).Set.Plus (a.g x3.toNat).Set.Minus)),(9,.reg 10000 0),(8,pN x3),(7,pU (P0 .xor .u32 4294967295 (wrap .u32 ((shI .shl .u32 1 (y2.n:Int))-1)))),(6,.reg 13005 0),(1,.p (vSl 4 V8 a))],[(13009,oM (λx=>.agg (A0 x)) (pI .i64) z1.values),(13008,oM PV.str (pI .i64) z1.symbols),(13007,oV D1 3 D6 z1.sounds true),(13006,oM PV.str (pI .i64) z1.number),(13005,.cells [.p (vSl 1 cS z1.feats),.No 13006,.vec 13007,.No 13008,.No 13009]),(10000,.cells ((V8 (a.g x3.toNat)).map .p)),(4,oM (λx=>.agg (A0 x)) (pI .i64) b.values),(3,oM PV.str (pI .i64) b.symbols),(2,oV D1 3 D6 b.sounds true),(1,oM PV.str (pI .i64) b.number),(0,.cells [.p (vSl 1 cS b.feats),.No 1,.vec 2,.No 3,.No 4])]⟩) (λM5 k5 c h=>?_) (λz6 h=>?_)
  .refine kG Z h (λh=>?_) (λh=>?_)
   .exact c _ (Kk [0,1,2,3,4,10000,13005,13006,13007,13008,13009]) _ true Fe h
   refine kG Z h (λh=>?_) (λh=>?_)
   .exact c _ (Kk [0,1,2,3,4,10000,13005,13006,13007,13008,13009]) _ true Fe h
   refine kC Z h (JL Z Y) (λj h=>?_);exact c _ (Kk [0,1,2,3,4,10000,13005,13006,13007,13008,13009]) _ ((j==[]) != true) Fe h
  apply kI Z h<;>intro h
  .obtain rfl:=B2 h;exact kO Z Fe [0,1,2,3,4]
  refine Kz Z Fe (A6 Z) h 0 (λz7=>⟨[(54,pB z7),(26,pN x3),(25,pN (a.n:Int)),(24,.p (vSl 4 V8 a)),(9,.reg 10000 0),(8,pN x3),(7,pU (P0 .xor .u32 4294967295 (wrap .u32 ((shI .shl .u32 1 (y2.n:Int))-1)))),(6,.reg 13005 0),(1,.p (vSl 4 V8 a))],[(13009,oM (λx=>.agg (A0 x)) (pI .i64) z1.values),(13008,oM PV.str (pI .i64) z1.symbols),(13007,oV D1 3 D6 z1.sounds true),(13006,oM PV.str (pI .i64) z1.number),(13005,.cells [.p (vSl 1 cS z1.feats),.No 13006,.vec 13007,.No 13008,.No 13009]),(10000,.cells ((V8 (a.g x3.toNat)).map .p)),(4,oM (λx=>.agg (A0 x)) (pI .i64) b.values),(3,oM PV.str (pI .i64) b.symbols),(2,oV D1 3 D6 b.sounds true),(1,oM PV.str (pI .i64) b.number),(0,.cells [.p (vSl 1 cS b.feats),.No 1,.vec 2,.No 3,.No 4])]⟩) (λM6 k6 d h=>?_) (λz7 h=>?_)
  .refine kG Z h (λh=>?_) (λh=>?_)
   .exact d _ (Kk [0,1,2,3,4,10000,13005,13006,13007,13008,13009]) _ true Fe h
   refine kG Z h (λh=>?_) (λh=>?_)
   .exact d _ (Kk [0,1,2,3,4,10000,13005,13006,13007,13008,13009]) _ true Fe h
   refine kC Z h (Q7 Z Y) (λl h=>?_);exact d _ (Kk [0,1,2,3,4,10000,13005,13006,13007,13008,13009]) _ (!l) Fe h
  apply kI Z h<;>intro h
  .obtain rfl:=B2 h;exact kO Z Fe [0,1,2,3,4]
  obtain⟨c55,h⟩:=C8 h;refine F6 Z c55 79 10000 (V8 (a.g x3.toNat)) ?_;refine kC Z h (Z6 Z Y (λe=>NE Z Y e)) (λm h=>?_);apply kI Z h<;>intro h
  .obtain rfl:=B2 h;exact kO Z Fe [0,1,2,3,4]
  exact i _ (Kk [0,1,2,3,4,13005,13006,13007,13008,13009]) _ (wrap .i64 (x3+1)) Fe h
 refine kC Z h (Co Z Y) (λo h=>?_);obtain rfl:=B2 h;exact kO Z Fe [0,1,2,3,4]
def CV (N:Nat)(a:Sl Jq):Option Int:= (W4 N ).bind λy1=>some 1
theorem LF {a:Sl Jq}{y:Int}(h:CV N a=some y) :Me S FU [.p Ay8,.p (vSl 4 V8 a)] [] (.tup [.top,pN y]) ([]) []:=by unfold CV at h;refine A2 Z func102 ?_;refine kC Z h (GC Z Y) (λy1 h=>?_);obtain rfl:=B2 h;exact kO Z Fe []
def Ec (N:Nat)(a:C0):Option Int:= (Eo N a).bind λy1=>Nm y1.1 (if (y1.2 != 0) then some y1.2 else (CV N a.Marks).bind λy2=>if (y2 != 0) then some y2 else some 0) λz1=>if (y1.2 != 0) then some y1.2 else (Gb N z1 a.Marks).bind λy3=>if (y3 != 0) then some y3 else some 0
theorem We {a:C0}{y:Int}(h:Ec N a=some y) :Me S MO [.p (.agg (A7 a))] [] (.tup [.top,.top,pN y]) ([]) []:=by
 unfold Ec at h;refine A2 Z func63 ?_;obtain⟨y1,e1,h⟩:=A9 h;rcases o1:y1.1 with _|z1
 .replace h:=Ac3 o1 h;have w1:=(HK Z Y e1);simp only[o1,CJ,EX,Bl8,Bj7,Bq0]at w1;refine B4 Z [] Fe w1 ?_;apply kI Z h<;>intro h
  .obtain rfl:=B2 h;exact kO Z Fe []
  refine kC Z h (LF Z Y) (λy2 h=>?_);apply kI Z h<;>intro h
  .obtain rfl:=B2 h;exact kO Z Fe []
  obtain rfl:=B2 h;exact kO Z Fe []
 replace h:=Ze o1 h;have w2:=(HK Z Y e1);simp only[o1,CJ,EX,Bl8,Bj7,Bq0]at w2;refine B4 Z [] Fe w2 ?_;apply kI Z h<;>intro h
 .obtain rfl:=B2 h;exact kO Z Fe []
 obtain⟨y3,e3,h⟩:=A9 h;refine B4 Z [11000,11001,11002,11003,11004] Fe (QY Z Y e3) ?_;apply kI Z h<;>intro h
 .obtain rfl:=B2 h;exact kO Z Fe []
 obtain rfl:=B2 h;exact kO Z Fe []
def X2 (N:Nat)(a:C0):Option Int:= (Ec N a).bind λy1=>if (y1 != 0) then some y1 else (U9 N a.Ns a.Nr a.Nv).bind λy2=>some y2
theorem FO {a:C0}{y:Int}(h:X2 N a=some y) :Me S MK [.p (.agg (A7 a))] [] (pN y) ([]) []:=by
 unfold X2 at h;refine A2 Z func30 ?_;refine kC Z h (We Z Y) (λy1 h=>?_);apply kI Z h<;>intro h
 .cases h;exact kR Z
 refine kC Z h (JQ Z Y) (λy2 h=>?_);cases h;exact kR Z
end Go.AM
namespace Go.AM
open Go.Proofs.Tryz
variable {N:Nat}
open IntKind (wrap)
open Go.Proofs
set_option maxRecDepth 10000
set_option maxHeartbeats 2000000
variable {S:U5}(Z:G6 S Tryz.prog) (Y:JK S)
def Bc7 {T:Type}{e:TypeId}{k:Nat}{c:T->List PV}{X:Sl (Sl T)}{z:Sl T}:∀q,q<X.n+1->(λq=>if q=X.n then Fp e k c z else Fp e k c (X.g q)) q=(λq=>Fp e k c ((X.push z).g q)) q:=λq a=>by
 show (if q=X.n then Fp e k c z else Fp e k c (X.g q))=Fp e k c (if q<X.n then X.g q else z);by_cases h:q=X.n
 .rw[Ek h,Et (by omega)]
 rw[Et h,Ek (by omega)]
def AS4 {T:Type}{e:TypeId}{k n i:Nat}{c:T->List PV}{X:Sl (Sl T)}{z:Sl T}:∀q,q<n->(Rd (if q=i then Fp e k c z else if q=i then Obj.dead else Fp e k c (X.g q))).isSome=true:=λq _=>by
 by_cases h:q=i
 .rw[Ek h];rfl
 rw[Et h,Et h];rfl
def Bc8 {T:Type}{e:TypeId}{k n i:Nat}{c:T->List PV}{X:Sl (Sl T)}{z:Sl T}:∀q,q<n->[(Rd (if q=i then Fp e k c z else if q=i then Obj.dead else Fp e k c (X.g q))).getD default]=cL k c ((X.upd i z).g q):=λq _=>by
 show _=cL k c (if q=i then z else X.g q);by_cases h:q=i
 .rw[Ek h,Ek h];rfl
 rw[Et h,Et h,Et h];rfl
include Z Y
def K8 (N:Nat)(s:Sl Node):Option (Sl Node):=if (0+s.n)*24<=140737488355328/\0+s.n<=140737488355328 then some s else none
theorem Cr {s y:Sl Node}(h:K8 N s=some y):Me S S6 [.p (vSl 2 C5 s)] [] (.vec 0) [.vec O1 2 y.n (λi=>C5 (y.g i)) true] []:=by
 unfold K8 at h;obtain⟨c1,h⟩:=C8 h;obtain rfl:=B2 h;refine A2 Z func103 ?_;refine Vk Z Fe 3 (k:=2) (n:=s.n) (f:=λi=>C5 (s.g i)) (λa=>?_) ?_
 .obtain⟨n,g⟩:=s;obtain rfl:n=0:=a;exact kO Z Fe [3700]
 exact kO Z (Kn Ix c1) [8000]
  (hle:=kl1 0 (AJ6 C5 s [pI .i64 0,.str []]))
def V4 (N:Nat)(s:Sl Int):Option (Sl Int):=if (0+s.n)*8<=140737488355328/\0+s.n<=140737488355328 then some s else none
theorem Gc {s y:Sl Int}(h:V4 N s=some y):Me S BK [.p (vSl 1 (cI .i64) s)] [] (.vec 0) [.vec E1 1 y.n (λi=>cI .i64 (y.g i)) false] []:=by
 unfold V4 at h;obtain⟨c1,h⟩:=C8 h;obtain rfl:=B2 h;refine A2 Z func104 ?_;refine Vk Z Fe 3 (k:=1) (n:=s.n) (f:=λi=>cI .i64 (s.g i)) (λa=>?_) ?_
 .obtain⟨n,g⟩:=s;obtain rfl:n=0:=a;exact kO Z Fe [3700]
 exact kO Z (Kn Ix c1) [8000]
  (hle:=kl1 0 (AJ6 (cI .i64) s [pI .i64 0]))
def R8 (N:Nat)(c:Ns)(b:Int)(a:Int):Option (Ns×Int):= (K0 N c).bind λy1=>if (y1 != 0) then some ((⟨(Sl.nil:Sl Node),(Sl.nil:Sl Law),(Sl.nil:Sl (Sl Int))⟩:Ns),y1) else (U8 N c b).bind λy2=>if ((!y2)=false->((decide (a<0))=false->((0:Int)<=b/\b<(c.On.n:Int))))then if (((!y2)||(decide (a<0)))||(decide ((wrap .i64 (((c.On.g b.toNat).n:Int)-1))<=a))) then some ((⟨(Sl.nil:Sl Node),(Sl.nil:Sl Law),(Sl.nil:Sl (Sl Int))⟩:Ns),3) else (K8 N c.Tree).bind λy3=>Ca N (λd (x1:Sl Law) (x2:Int)=>if (decide (x2<(c.Laws.n:Int))) then if ((0:Int)<=x2/\x2<(c.Laws.n:Int))then (T5 N (c.Laws.g x2.toNat)).bind λy6=>if (Kl 200 (x1.n+(Sl.of [y6]:Sl Law).n))then d (x1.push y6) (wrap .i64 (x2+1)) else none else none else Ca N (λf (x3:Sl (Sl Int)) (x4:Int)=>if (decide (x4<(c.On.n:Int))) then if ((0:Int)<=x4/\x4<(c.On.n:Int))then (V4 N (c.On.g x4.toNat)).bind λy9=>if (Kl 24 (x3.n+(Sl.of [y9]:Sl (Sl Int)).n))then f (x3.push y9) (wrap .i64 (x4+1)) else none else none else if b.toNat<x3.n then if (((0:Int)<=b/\b<(x3.n:Int))/\((0:Int)<=a/\a<((x3.g b.toNat).n:Int))/\((0:Int)<=(wrap .i64 (a+1))/\(wrap .i64 (a+1))<((x3.g b.toNat).n:Int)))then some ((⟨y3,x1,x3.upd b.toNat (((x3.g b.toNat).upd a.toNat ((x3.g b.toNat).g (wrap .i64 (a+1)).toNat)).upd (wrap .i64 (a+1)).toNat ((x3.g b.toNat).g a.toNat))⟩:Ns),0) else none else none) (Sl.nil:Sl (Sl Int)) 0) (Sl.nil:Sl Law) 0 else none
theorem JR {j:Ns}{f:Int}{d:Int}{y:Ns×Int}(h:R8 N j f d=some y) :Me S Jx [.p (.agg (B0 j)),pN f,pN d] [] (.tup [.p (.agg (B0 y.1)),pN y.2]) ([]) []:=by
 unfold R8 at h;refine A2 Z func64 ?_;refine F6 Z Fe 6 4000 (B0 j) ?_;obtain⟨y1,e1,h⟩:=A9 h;refine B4 Z [] Ha (CS Z Y e1) ?_;apply kI Z h<;>intro h
 .obtain rfl:=B2 h;exact J6 Z Fe ⟨[(7,pN y1),(6,.reg 7000 0)],[(7000,.cells [.p (vSl 2 C5 (Sl.nil:Sl Node)),.p (vSl 18 B5 (Sl.nil:Sl Law)),.p (vSl 1 (cL 1 (cI .i64)) (Sl.nil:Sl (Sl Int)))])]⟩ [] (ids:=[(7000,7000)]) ⟨rfl,rfl,rfl⟩
 obtain⟨y2,e2,h⟩:=A9 h;refine B4 Z [] Ha (Ga Z Y e2) ?_;obtain⟨c2,h⟩:=C8 h;refine kB Z (A6 Z) Fe c2 14 (.o (.o (.a (!y2)) (.a (decide (d<0)))) (.a (decide ((wrap .i64 (((j.On.g f.toNat).n:Int)-1))<=d)))) ?_;apply kI Z h<;>intro h
 .obtain rfl:=B2 h;exact J6 Z Fe ⟨[(7,pN 3),(6,.reg 7000 0)],[(7000,.cells [.p (vSl 2 C5 (Sl.nil:Sl Node)),.p (vSl 18 B5 (Sl.nil:Sl Law)),.p (vSl 1 (cL 1 (cI .i64)) (Sl.nil:Sl (Sl Int)))])]⟩ [] (ids:=[(7000,7000)]) ⟨rfl,rfl,rfl⟩
 refine kC Z h (Cr Z Y) (λy3 h=>?_);refine I1 Z Fe h (λx1 x2=>⟨[(48,pN x2),(47,pN (j.Laws.n:Int)),(46,.p (vSl 18 B5 j.Laws)),(9,.reg 10000 0),(6,.reg 7000 0),(3,.p (.ptr (B0 j))),(2,pN d),(1,pN f)],[(44000,oV O1 2 C5 y3 true),(10500,oV H3 18 B5 x1 false),(10000,.cells [.vec 44000,.vec 10500,.p C6]),(7000,.cells [.p C6,.p C6,.p C6])]⟩) (ids:=(Kk [7000,10000,44000])) (λ_ _ _ _ _ m x1 x2 r h=>?_);apply kI Z h<;>intro h
 .obtain⟨c11,h⟩:=C8 h;refine Vl Z (Kn c11 Iu) 12000 (B5 (j.Laws.g x2.toNat)) ?_;refine E2 Z Fe [2,3] ?_;obtain⟨y6,e6,h⟩:=A9 h;refine G3 Iu (HJ Z Y e6) ?_;refine M4 Fe (x:=.sl true 18 1 (G2 [.str [],pI .i64 0,pI .u32 0,pI .u32 0,.v (.bool false),pI .i64 0,pI .i64 0,C6,pI .i64 0,pI .u32 0,pI .u32 0,.v (.bool false),pI .i64 0,pI .i64 0,C6,C6,C6,pI .i64 0] [(0,B5 y6)])) ?_;obtain⟨c12,h⟩:=C8 h;refine D0 c12 ?_;exact r _ [(7000,7000),(10000,10000),(10500,58000),(44000,44000)] _ (x1.push y6) (wrap .i64 (x2+1)) Fe h (hle:=kl1 7 (X6 B5 x1 y6 [.str [],pI .i64 0,pI .u32 0,pI .u32 0,.v (.bool false),pI .i64 0,pI .i64 0,C6,pI .i64 0,pI .u32 0,pI .u32 0,.v (.bool false),pI .i64 0,pI .i64 0,C6,C6,C6,pI .i64 0]))
 refine N2 Z Fe 60 ⟨[(9,.reg 10000 0),(6,.reg 7000 0),(3,.p (.ptr (B0 j))),(2,pN d),(1,pN f)],[(44000,oV O1 2 C5 y3 true),(10501,.vec FK 1 0 (λ_=>[]) false),(10500,oV H3 18 B5 x1 false),(10000,.cells [.vec 44000,.vec 10500,.vec 10501]),(7000,.cells [.p C6,.p C6,.p C6])]⟩ (ids:=(Kk [7000,10000,10500,44000])) ?_;refine Fa Z Fe 60 (.fam 10501 10901 λi=>Fp E1 1 (cI .i64) ((Sl.nil:Sl (Sl Int)).g i)) (⟨by decide,λi u=>Eu u (Bi3 i)⟩:1000<=10901/\∀i,i<0->Rf ((λ_=>[]) i) (Fp E1 1 (cI .i64) ((Sl.nil:Sl (Sl Int)).g i))) ?_;refine I1 Z Fe h (λx3 x4=>⟨[(63,pN x4),(62,pN (j.On.n:Int)),(61,.p (vSl 1 (cL 1 (cI .i64)) j.On)),(9,.reg 10000 0),(6,.reg 7000 0),(2,pN d),(1,pN f)],[(44000,oV O1 2 C5 y3 true),(10901,.rows x3.n λi=>Fp E1 1 (cI .i64) (x3.g i)),(10501,.fam FK x3.n 10901 none),(10500,oV H3 18 B5 x1 false),(10000,.cells [.vec 44000,.vec 10500,.vec 10501]),(7000,.cells [.p C6,.p C6,.p C6])]⟩) (ids:=(Kk [7000,10000,10500,10501,10901,44000])) (λ_ _ _ _ _ s x3 x4 t h=>?_);apply kI Z h<;>intro h
 .obtain⟨c20,h⟩:=C8 h;refine F2 Z c20 [(1,.l [10000]),(3,.b [71000]),(4,.b [72000,71000])] ?_;obtain⟨y9,e9,h⟩:=A9 h;refine OJ [] Fe (Gc Z Y e9) ?_;obtain⟨c21,h⟩:=C8 h;refine D0 c21 ?_;refine Fa Z Fe 74 (.psh 73000 10902) (⟨by decide,rfl,rfl⟩:1000<=10902/\x3.n+1=x3.n+1/\x3.n=x3.n) ?_;exact t _ [(7000,7000),(10000,10000),(10500,10500),(10501,73000),(10901,10902),(44000,44000)] _ (x3.push y9) (wrap .i64 (x4+1)) Fe h (hle:=klR [(7,.ob (x3.n+1) (λq=>if q=x3.n then Fp E1 1 (cI .i64) y9 else Fp E1 1 (cI .i64) (x3.g q)) (λi=>Fp E1 1 (cI .i64) ((x3.push y9).g i)))] (al1 Bc7 al0))
 obtain⟨cT,h⟩:=C8 h;obtain⟨⟨c30,c31,c32⟩,h⟩:=C8 h;refine Fa Z Fe 75 (.take 10501 f.toNat 10801) (⟨⟨by decide,rfl⟩,cT⟩:(1000<=10801/\x3.n=x3.n)/\f.toNat<x3.n) ?_;refine F2 Z (Kn c30 (Kn cT (rfl:f.toNat=f.toNat))) [(8,.l [10801]),(9,.l [10801]),(12,.l [10801]),(13,.l [10801]),(14,.l [10801]),(15,.a [10801]),(16,.l [10801]),(17,.a [10801])] ?_;have l1:(wrap .i64 (d+1)).toNat<(x3.g f.toNat).n:=by omega
 have l2:d.toNat<(x3.g f.toNat).n:=by omega
 refine D0 (Kn (Kn (Kn (Kn (Kn (Kn (Kn c32 l1) c31) l2) c31) (Kn (rfl:(1:Nat)=1) (Kn l2 Fg))) c32) (Kn (rfl:(1:Nat)=1) (Kn l1 Fg))) ?_;refine N2 Z Fe 96 ⟨[(9,.reg 10000 0),(6,.reg 7000 0)],[(44000,oV O1 2 C5 y3 true),(10901,(.rows x3.n λl=>if l=f.toNat then .dead else Fp E1 1 (cI .i64) (x3.g l))),(10801,Fp E1 1 (cI .i64) (((x3.g f.toNat).upd d.toNat ((x3.g f.toNat).g (wrap .i64 (d+1)).toNat)).upd (wrap .i64 (d+1)).toNat ((x3.g f.toNat).g d.toNat))),(10501,.fam FK x3.n 10901 (some (f.toNat,.vec 10801))),(10500,oV H3 18 B5 x1 false),(10000,.cells [.vec 44000,.vec 10500,.vec 10501]),(7000,.cells [.p C6,.p C6,.p C6])]⟩ (ids:=(Kk [7000,10000,10500,10501,10801,10901,44000])) ?_ (hle:=klR [(3,.fn (x3.g f.toNat).n (((x3.g f.toNat).upd d.toNat ((x3.g f.toNat).g (wrap .i64 (d+1)).toNat)).upd (wrap .i64 (d+1)).toNat ((x3.g f.toNat).g d.toNat)).n (λl=>if l=(wrap .i64 (d+1)).toNat then splice ((λl=>if l=d.toNat then splice ((λi=>cI .i64 ((x3.g f.toNat).g i)) l) 0 [pI .i64 ((x3.g f.toNat).g (wrap .i64 (d+1)).toNat)]else (λi=>cI .i64 ((x3.g f.toNat).g i)) l) l) 0 [pI .i64 ((x3.g f.toNat).g d.toNat)]else (λl=>if l=d.toNat then splice ((λi=>cI .i64 ((x3.g f.toNat).g i)) l) 0 [pI .i64 ((x3.g f.toNat).g (wrap .i64 (d+1)).toNat)]else (λi=>cI .i64 ((x3.g f.toNat).g i)) l) l) (λi=>cI .i64 ((((x3.g f.toNat).upd d.toNat ((x3.g f.toNat).g (wrap .i64 (d+1)).toNat)).upd (wrap .i64 (d+1)).toNat ((x3.g f.toNat).g d.toNat)).g i)))] (al1 ⟨rfl,AV4 (c:=cI .i64) (v:=(x3.g f.toNat).upd d.toNat ((x3.g f.toNat).g (wrap .i64 (d+1)).toNat)) (x:=(x3.g f.toNat).g d.toNat) (AV4 (c:=cI .i64) (v:=x3.g f.toNat) (x:=(x3.g f.toNat).g (wrap .i64 (d+1)).toNat) same (λ_=>by first|rfl|(dsimp only;split<;>rfl))) (λ_=>by first|rfl|(dsimp only;split<;>rfl))⟩ al0));refine Fa Z Fe 96 (.put 10501 10902) (⟨⟨by decide,rfl⟩,cT⟩:(1000<=10902/\x3.n=x3.n)/\f.toNat<x3.n) ?_;refine Fa Z Fe 96 (.pub 10501) (⟨rfl,AS4⟩:x3.n=x3.n/\∀q,q<x3.n->(Rd (if q=f.toNat then Fp E1 1 (cI .i64) (((x3.g f.toNat).upd d.toNat ((x3.g f.toNat).g (wrap .i64 (d+1)).toNat)).upd (wrap .i64 (d+1)).toNat ((x3.g f.toNat).g d.toNat))else if q=f.toNat then Obj.dead else Fp E1 1 (cI .i64) (x3.g q))).isSome=true) ?_;obtain rfl:=B2 h;exact J6 Z Fe ⟨[(7,pN 0),(6,.reg 7000 0)],[(7000,.cells [.p (vSl 2 C5 y3),.p (vSl 18 B5 x1),.p (vSl 1 (cL 1 (cI .i64)) (x3.upd f.toNat (((x3.g f.toNat).upd d.toNat ((x3.g f.toNat).g (wrap .i64 (d+1)).toNat)).upd (wrap .i64 (d+1)).toNat ((x3.g f.toNat).g d.toNat))))])]⟩ [] (ids:=[(7000,7000)]) ⟨rfl,rfl,rfl⟩ (hle:=klR [(3,.fn x3.n (x3.upd f.toNat (((x3.g f.toNat).upd d.toNat ((x3.g f.toNat).g (wrap .i64 (d+1)).toNat)).upd (wrap .i64 (d+1)).toNat ((x3.g f.toNat).g d.toNat))).n (λq=>[(Rd (if q=f.toNat then Fp E1 1 (cI .i64) (((x3.g f.toNat).upd d.toNat ((x3.g f.toNat).g (wrap .i64 (d+1)).toNat)).upd (wrap .i64 (d+1)).toNat ((x3.g f.toNat).g d.toNat))else if q=f.toNat then Obj.dead else Fp E1 1 (cI .i64) (x3.g q))).getD default]) (λi=>cL 1 (cI .i64) ((x3.upd f.toNat (((x3.g f.toNat).upd d.toNat ((x3.g f.toNat).g (wrap .i64 (d+1)).toNat)).upd (wrap .i64 (d+1)).toNat ((x3.g f.toNat).g d.toNat))).g i)))] (al1 ⟨rfl,Bc8⟩ al0))
end Go.AM
namespace Go.AM
open Go.Proofs.Tryz
variable {N:Nat}
open IntKind (wrap)
open Go.Proofs
set_option maxRecDepth 10000
set_option maxHeartbeats 2000000
variable {S:U5}(Z:G6 S Tryz.prog) (Y:JK S)
include Z Y
def CW (N:Nat)(b:C0)(a:Int):Option Int:= (X2 N b).bind λy1=>if (y1 != 0) then some y1 else if ((decide (a<0))||(decide (1073741824<a))) then some 2 else some 0
theorem LG {c:C0}{b:Int}{y:Int}(h:CW N c b=some y) :Me S Ld [.p (.agg (A7 c)),pN b] [] (pN y) ([]) []:=by
 unfold CW at h;refine A2 Z func25 ?_;refine kC Z h (FO Z Y) (λy1 h=>?_);apply kI Z h<;>intro h
 .cases h;exact kR Z
 refine kB Z (A6 Z) Fe Fe 3 (.o (.a (decide (b<0))) (.a (decide (1073741824<b)))) ?_;apply kI Z h<;>intro h
 .cases h;exact kR Z
 cases h;exact kR Z
def I6 (N:Nat)(b:Sl Law)(a:G8)(c:G8):Option Bool:= if ((!a.Has)||(!c.Has)) then some false else (N4 N b a.W).bind λy1=>lt (λ(z1:Bool)=>some z1) λk1=>if (y1.2==0) then (O7 N y1.1 c.W).bind λy3=>k1 y3 else k1 false
theorem AJ {c:Sl Law}{b:G8}{d:G8}{y:Bool}(h:I6 N c b d=some y) :Me S Ik [.p (vSl 18 B5 c),.p (.agg (F3 b)),.p (.agg (F3 d))] [] (pB y) ([]) []:=by
 unfold I6 at h;refine A2 Z func32 ?_;refine kB Z (A6 Z) Fe Fe 4 (.o (.a (!b.Has)) (.a (!d.Has))) ?_;apply kI Z h<;>intro h
 .cases h;exact kR Z
 refine kC Z h (Fo Z Y) (λy1 h=>?_);refine Kz Z Fe (A6 Z) h 0 (λz1=>⟨[(6,pB z1)],[]⟩) (λM1 k1 f h=>?_) (λz1 h=>?_)
 .refine kG Z h (λh=>?_) (λh=>?_)
  .refine kC Z h (MZ Z Y) (λy3 h=>?_);exact f _ [] _ y3 Fe h
  exact f _ [] _ false Fe h
 cases h;exact kR Z
def Q8 (N:Nat)(b:Ns):Option (Sl (Sl Law)):= (U0 N b.Tree).bind λy1=>Ca N (λa (x1:Sl (Sl Law)) (x2:Int)=>if (decide (x2<(y1.1.n:Int))) then if (((0:Int)<=x2/\x2<(y1.1.n:Int))/\x2.toNat<y1.1.n)then (R7 N b (y1.1.g x2.toNat)).bind λy4=>if (Kl 24 (x1.n+(Sl.of [y4.1]:Sl (Sl Law)).n))then a (x1.push y4.1) (wrap .i64 (x2+1)) else none else none else some x1) (Sl.nil:Sl (Sl Law)) 0
theorem CX {a:Ns}{y:Sl (Sl Law)}(h:Q8 N a=some y) :Me S Lg [.p (.agg (B0 a))] [] (.p (vSl 1 (cL 18 B5) y)) ([]) []:=by
 unfold Q8 at h;refine A2 Z func33 ?_;refine kC Z h (EF Z Y) (λy1 h=>?_);refine I1 Z Fe h (λx1 x2=>⟨[(18,pN x2),(17,pN (y1.1.n:Int)),(16,.vec 14000),(5,.vec 6500),(1,.reg 2000 0)],[(14000,oV E1 1 (cI .i64) y1.1 true),(6500,oV DQ 1 (cL 18 B5) x1 false),(2000,.cells ((B0 a).map .p))]⟩) (ids:=(Kk [2000,14000])) (λ_ _ _ _ _ b x1 x2 c h=>?_);apply kI Z h<;>intro h
 .obtain⟨c6,h⟩:=C8 h;obtain⟨y4,e4,h⟩:=A9 h;refine B4 Z [] c6 (QU Z Y e4) ?_;obtain⟨c7,h⟩:=C8 h;exact c _ [(2000,2000),(6500,32000),(14000,14000)] _ (x1.push y4.1) (wrap .i64 (x2+1)) (Kn Ix c7) h (hle:=kl1 3 (X6 (cL 18 B5) x1 y4.1 [C6]))
 obtain rfl:=B2 h;exact kO Z Fe []
def Hi (N:Nat)(c:C0)(a:Int)(b:Int):Option Bool:= if ((decide (0<=a))=true->((decide (a<(c.Nv.n:Int)))=true->((decide (0<=b))=true->((0:Int)<=a/\a<(c.Nv.n:Int)))))then some ((((decide (0<=a))&&(decide (a<(c.Nv.n:Int))))&&(decide (0<=b)))&&(decide (b<((c.Nv.g a.toNat).Nw.n:Int)))) else none
theorem PL {d:C0}{b:Int}{c:Int}{y:Bool}(h:Hi N d b c=some y) :Me S Pd [.p (.agg (A7 d)),pN b,pN c] [] (pB y) ([]) []:=by unfold Hi at h;refine A2 Z func46 ?_;obtain⟨c1,h⟩:=C8 h;refine kB Z (A6 Z) Fe c1 21 (.n (.n (.n (.a (decide (0<=b))) (.a (decide (b<(d.Nv.n:Int))))) (.a (decide (0<=c)))) (.a (decide (c<((d.Nv.g b.toNat).Nw.n:Int))))) ?_;cases h;exact kR Z
def CY (N:Nat)(a:C0)(p_x:GH):Option (Ns×Int):= (R8 N a.Ns p_x.Node p_x.Place).bind λy1=>lt (λ(z1:Bool)=>if z1 then some ((⟨(Sl.nil:Sl Node),(Sl.nil:Sl Law),(Sl.nil:Sl (Sl Int))⟩:Ns),3) else some (y1.1,0)) λk1=>if (y1.2 != 0) then k1 true else (Hi N a p_x.Pb p_x.Np).bind λy3=>k1 (!y3)
theorem IL {a:C0}{p_x:GH}{y:Ns×Int}(h:CY N a p_x=some y) :Me S Ij [.p (.agg (A7 a)),.p (.agg (P2 p_x))] [] (.tup [.p (.agg (B0 y.1)),pN y.2]) ([]) []:=by
 unfold CY at h;refine A2 Z func31 ?_;refine kC Z h (JR Z Y) (λy1 h=>?_);refine Kz Z Fe (A6 Z) h 0 (λz1=>⟨[(28,pB z1),(6,.reg 7000 0),(4,.reg 5000 0)],[(7000,.cells ((B0 y1.1).map .p)),(5000,.cells [.p C6,.p C6,.p C6])]⟩) (λM1 k1 b h=>?_) (λz1 h=>?_)
 .refine kG Z h (λh=>?_) (λh=>?_)
  .exact b _ (Kk [5000,7000]) _ true Fe h
  refine kC Z h (PL Z Y) (λy3 h=>?_);exact b _ (Kk [5000,7000]) _ (!y3) Fe h
 apply kI Z h<;>intro h
 .obtain rfl:=B2 h;exact J6 Z Fe ⟨[(5,pN 3),(4,.reg 5000 0)],[(5000,.cells [.p (vSl 2 C5 (Sl.nil:Sl Node)),.p (vSl 18 B5 (Sl.nil:Sl Law)),.p (vSl 1 (cL 1 (cI .i64)) (Sl.nil:Sl (Sl Int)))])]⟩ [] (ids:=[(5000,5000)]) ⟨rfl,rfl,rfl⟩
 cases h;exact kR Z
def IM (N:Nat)(a:C0)(p_x:GH):Option (Bool×Int):= (X2 N a).bind λy1=>if (y1 != 0) then some (false,y1) else (CY N a p_x).bind λy2=>if (y2.2 != 0) then some (false,y2.2) else if ((((0:Int)<=p_x.Pb/\p_x.Pb<(a.Nr.n:Int))/\((0:Int)<=p_x.Pb/\p_x.Pb<(a.Nv.n:Int)))/\((0:Int)<=p_x.Np/\p_x.Np<((a.Nv.g p_x.Pb.toNat).Nw.n:Int)))then (Q8 N a.Ns).bind λy3=>if ((0:Int)<=p_x.Np/\p_x.Np<(y3.n:Int))then (I6 N (y3.g p_x.Np.toNat) (a.Nr.g p_x.Pb.toNat) ((a.Nv.g p_x.Pb.toNat).Nw.g p_x.Np.toNat)).bind λy4=>if y4 then (Q8 N y2.1).bind λy5=>if ((0:Int)<=p_x.Np/\p_x.Np<(y5.n:Int))then (I6 N (y5.g p_x.Np.toNat) (a.Nr.g p_x.Pb.toNat) ((a.Nv.g p_x.Pb.toNat).Nw.g p_x.Np.toNat)).bind λy6=>some (!y6,0) else none else some (false,0) else none else none
theorem Wf {c:C0}{p_x:GH}{y:Bool×Int}(h:IM N c p_x=some y) :Me S MF [.p (.agg (A7 c)),.p (.agg (P2 p_x))] [] (.tup [pB y.1,pN y.2]) ([]) []:=by
 unfold IM at h;refine A2 Z func12 ?_;refine F6 Z Fe 3 3000 (A7 c) ?_;refine F6 Z Fe 4 4000 (P2 p_x) ?_;obtain⟨y1,e1,h⟩:=A9 h;refine B4 Z [] (by decide:(8:Nat)<=8) (FO Z Y e1) ?_;apply kI Z h<;>intro h
 .cases h;exact kR Z
 obtain⟨y2,e2,h⟩:=A9 h;refine B4 Z [] (Kn (by decide:(8:Nat)<=8) Io) (IL Z Y e2) ?_;refine F6 Z Fe 8 8000 (B0 y2.1) ?_;apply kI Z h<;>intro h
 .cases h;exact kR Z
 refine F2 Z Fe [(1,.n),(3,.n),(4,.n),(5,.n),(7,.n),(9,.n),(10,.n),(12,.n),(14,.n),(15,.n),(16,.n),(17,.a [10000]),(18,.a [11000]),(19,.a [10000]),(20,.a [11000])] ?_;obtain⟨c3,h⟩:=C8 h;refine D0 (Kn (Kn (Kn (Kn c3.1.1 Gt) c3.1.2) c3.2) Gt) ?_;refine Vl Z Fe 10000 [.bb (c.Nr.g p_x.Pb.toNat).Has,vSl 2 A0 (c.Nr.g p_x.Pb.toNat).W] ?_;refine Vl Z Fe 11000 [.bb ((c.Nv.g p_x.Pb.toNat).Nw.g p_x.Np.toNat).Has,vSl 2 A0 ((c.Nv.g p_x.Pb.toNat).Nw.g p_x.Np.toNat).W] ?_;refine E2 Z Fe [1,2,4,5,6,7,8,9,11,12,14,15,16,17,18,19] ?_;obtain⟨y3,e3,h⟩:=A9 h;refine G3 (by decide:(3:Nat)<=5) (CX Z Y e3) ?_;obtain⟨c4,h⟩:=C8 h;obtain⟨y4,e4,h⟩:=A9 h;refine G3 (Kn (Kn c4 Gt) Gt) (AJ Z Y e4) ?_;refine U6 Fe (b:=y4) (λc5=>?_) (λc5=>?_)
 .replace h:=itT c5 h;obtain⟨y5,e5,h⟩:=A9 h;refine G3 Ha (CX Z Y e5) ?_;obtain⟨c6,h⟩:=C8 h;obtain⟨y6,e6,h⟩:=A9 h;refine G3 (Kn (Kn c6 Gt) Gt) (AJ Z Y e6) ?_;refine D0 Fe ?_;cases h;exact kR Z
 replace h:=itF c5 h;refine D0 Fe ?_;cases h;exact kR Z
def H1 (N:Nat)(a:List (A2_int)):Option (Sl A2_int):= T2 a (λb (x1:A2_int) (z1:Sl A2_int)=>if (Kl 16 (z1.n+(Sl.of [x1]:Sl A2_int).n))then b (z1.push x1) else none) (λ(z1:Sl A2_int)=>some z1) (Sl.nil:Sl A2_int)
theorem CC {c:List (A2_int)}{a:C0}{b:(Sl (Sl Law))}{kp_seq:Nat}(fp_seq:∃fn,Bg6[kp_seq]? = some fn/\fn.body.isSome=true/\(fn.name == "runtime.NumGoroutine")=false)(d:EW S kp_seq [] [.reg 0 0,.reg 1 0] [(.cells ((A7 a).map .p)),(.cells [(.p (vSl 1 (cL 18 B5) b))])] (c.map (λ(x:A2_int)=>[(λx=>.agg (D5 x)) x]))){y:(Sl A2_int)}(h:H1 N c=some y) :Me S T7 [(.p C6),(.clo kp_seq [] [(.reg 0 0),(.reg 1 0)])] [(.cells ((A7 a).map .p)),(.cells [(.p (vSl 1 (cL 18 B5) b))])] (.vec 0) ([(oV Bt 2 D5 y false)]) [false,false]:=by
 unfold H1 at h;refine A2 Z func98 ?_;refine NM Z Fe fp_seq [0,1] [2] 901 (λz1=>⟨[(2,(.reg 3000 0))],[(3500,(oV Bt 2 D5 z1 false)),(3000,(.cells [(.vec 3500)]))]⟩) (idl:=[(3000,3000)]) h d (λ_=>by kernel_rfl) (λ_=>by kernel_rfl) (λ_=>by kernel_rfl) (λ_=>by kernel_rfl) (λx1 _ f z1 g h=>?_) (λz1 h=>?_)
 .refine Kh Z Fe ?_;obtain⟨c1,h⟩:=C8 h;exact g _ [(901,901),(3000,3000),(3500,12000)] _ (z1.push x1) (Kn Ix c1) h (hle:=kl1 0 (X6 D5 z1 x1 [(pI .i64 0),(pI .i64 0)]))
 obtain rfl:=B2 h;exact kO Z Fe [3500]
def N5 (N:Nat)(a:List (A2_int)):Option (Sl A2_int):= (H1 N a).bind λy1=>some y1
theorem Hj {c:List (A2_int)}{a:C0}{b:(Sl (Sl Law))}{kp_seq:Nat}(fp_seq:∃fn,Bg6[kp_seq]? = some fn/\fn.body.isSome=true/\(fn.name == "runtime.NumGoroutine")=false)(d:EW S kp_seq [] [.reg 0 0,.reg 1 0] [(.cells ((A7 a).map .p)),(.cells [(.p (vSl 1 (cL 18 B5) b))])] (c.map (λ(x:A2_int)=>[(λx=>.agg (D5 x)) x]))){y:(Sl A2_int)}(h:N5 N c=some y) :Me S De [(.clo kp_seq [] [(.reg 0 0),(.reg 1 0)])] [(.cells ((A7 a).map .p)),(.cells [(.p (vSl 1 (cL 18 B5) b))])] (.vec 0) ([(oV Bt 2 D5 y false)]) [false,false]:=by unfold N5 at h;refine A2 Z func60 ?_;obtain⟨y1,e1,h⟩:=A9 h;refine B4 Z [0,1] Fe (CC Z Y fp_seq d e1) ?_;obtain rfl:=B2 h;exact kO Z Fe [5000]
def Y4 (N:Nat)(q0:C0):Option (List (A2_int×Ns)):= X5 N (λa (x2:Int)=>if (decide (x2<(q0.Ns.On.n:Int))) then if ((0:Int)<=x2/\x2<(q0.Ns.On.n:Int))then X5 N (λb (x4:Int)=>if (decide (x4<(wrap .i64 (((q0.Ns.On.g x2.toNat).n:Int)-1)))) then (R8 N q0.Ns x2 x4).bind λy9=>Ak ((⟨x2,x4⟩:A2_int),y9.1) (b (wrap .i64 (x4+1))) else a (wrap .i64 (x2+1))) 0 else none else some []) 0
theorem Ks {q0:C0}{L:List (A2_int×Ns)}(h:Y4 N q0=some L) :EW S Ci [] [.reg 0 0] [.cells ((A7 q0).map .p)] (L.map (λ(x:A2_int×Ns)=>[(λx=>.agg (D5 x)) x.1,(λx=>.agg (B0 x)) x.2])):=by
 unfold Y4 at h;refine EC Z func100 ?_;refine Dl Z Fe h (λx2 L1=>⟨[(12,pN x2),(11,pN (q0.Ns.On.n:Int)),(10,.p (vSl 1 (cL 1 (cI .i64)) q0.Ns.On)),(1,.reg 0 0),(0,.yf 1)],[(1,.yld (L1.map (λ(x:A2_int×Ns)=>[(λx=>.agg (D5 x)) x.1,(λx=>.agg (B0 x)) x.2])) true),(0,.cells ((A7 q0).map .p))]⟩) (ids:=(Kk [0,1])) (λ_ _ _ _ _ d x2 L1 f h=>?_);apply kI Z h<;>intro h
 .obtain⟨c24,h⟩:=C8 h;refine Dl Z c24 h (λx4 L10=>⟨[(20,pN x4),(19,pN (wrap .i64 (((q0.Ns.On.g x2.toNat).n:Int)-1))),(12,pN x2),(11,pN (q0.Ns.On.n:Int)),(10,.p (vSl 1 (cL 1 (cI .i64)) q0.Ns.On)),(3,pN x2),(1,.reg 0 0),(0,.yf 1)],[(1,.yld (L10.map (λ(x:A2_int×Ns)=>[(λx=>.agg (D5 x)) x.1,(λx=>.agg (B0 x)) x.2])) true),(0,.cells ((A7 q0).map .p))]⟩) (ids:=(Kk [0,1])) (λ_ _ _ _ _ i x4 L10 j h=>?_);apply kI Z h<;>intro h
  .refine kC Z h (JR Z Y) (λy9 h=>?_);obtain⟨L13,rfl,c⟩:=Ma h;replace h:=c;refine Dk Z Fe (ys:=(λ(x:A2_int×Ns)=>[(λx=>.agg (D5 x)) x.1,(λx=>.agg (B0 x)) x.2]) ((⟨x2,x4⟩:A2_int),y9.1)) (rest:=L13.map (λ(x:A2_int×Ns)=>[(λx=>.agg (D5 x)) x.1,(λx=>.agg (B0 x)) x.2])) ?_ ?_
   .refine C7 Z Fe (b:=false) (λc32=>?_) (λc32=>?_)
    .exact Bool.noConfusion ((rfl:false=false).symm.trans c32)
    exact j _ (Kk [0,1]) _ (wrap .i64 (x4+1)) L13 Fe h
   refine C7 Z Fe (b:=true) (λc33=>?_) (λc33=>?_)
   .exact kO Z Fe (a:=.tup []) (objs:=[(.cells ((A7 q0).map .p)),.yld [] false]) [0,1] ⟨false,rfl,rfl,_,rfl⟩
   exact Bool.noConfusion (Ix.symm.trans c33)
  exact f _ (Kk [0,1]) _ (wrap .i64 (x2+1)) L10 Fe h
 obtain rfl:=B2 h;exact kO Z Fe (a:=.tup []) (objs:=[(.cells ((A7 q0).map .p)),.yld [] true]) [0,1] ⟨true,rfl,rfl,_,rfl⟩
def Du (N:Nat)(a:C0):Option (C0):= some a
theorem Ml {a:C0}{y:C0}(h:Du N a=some y) :Me S Gv [.p (.agg (A7 a))] [] (.clo Ci [] [.reg 0 0]) ([.cells ((A7 y).map .p)]) []:=by unfold Du at h;refine A2 Z func62 ?_;obtain rfl:=B2 h;exact kO Z Fe [2000]
def G0 (N:Nat)(a:Sl A4)(b:Sl A4):Option Bool:= if ((a.n:Int) != (b.n:Int)) then some false else X5 N (λc (x1:Int)=>if (decide (x1<(a.n:Int))) then if (((0:Int)<=x1/\x1<(a.n:Int))/\((0:Int)<=x1/\x1<(b.n:Int)))then if ((((a.g x1.toNat).Pb==(b.g x1.toNat).Pb)&&(((a.g x1.toNat).Np==(b.g x1.toNat).Np)&&(((a.g x1.toNat).Kind==(b.g x1.toNat).Kind)&&((a.g x1.toNat).Cost==(b.g x1.toNat).Cost)))) != true) then some false else c (wrap .i64 (x1+1)) else none else some true) 0
theorem W5 {a:Sl A4}{b:Sl A4}{y:Bool}(h:G0 N a b=some y) :Me S L7 [.p (vSl 4 A5 a),.p (vSl 4 A5 b)] [] (pB y) ([]) []:=by
 unfold G0 at h;refine A2 Z func28 ?_;apply kI Z h<;>intro h
 .cases h;exact kR Z
 refine P8 Z Fe h (λx1=>⟨[(13,pN x1),(12,pN (a.n:Int)),(1,.p (vSl 4 A5 b)),(0,.p (vSl 4 A5 a))],[]⟩) (ids:=[]) (λ_ _ _ _ _ c x1 d h=>?_);apply kI Z h<;>intro h
 .refine E2 Z Fe [2,3,6,7] ?_;obtain⟨c9,h⟩:=C8 h;refine D0 (Kn (Kn (Kn (Kn c9.1 Io) c9.2) Io) (by decide +kernel:Qd Tryz.prog I2=true)) ?_;apply kI Z h<;>intro h
  .cases h;exact kR Z
  exact d _ [] _ (wrap .i64 (x1+1)) Fe h
 cases h;exact kR Z
def K9 (N:Nat)(a:Sl GH)(b:Sl GH):Option Bool:= if ((a.n:Int) != (b.n:Int)) then some false else X5 N (λc (x1:Int)=>if (decide (x1<(a.n:Int))) then if (((0:Int)<=x1/\x1<(a.n:Int))/\((0:Int)<=x1/\x1<(b.n:Int)))then if ((((a.g x1.toNat).Node==(b.g x1.toNat).Node)&&(((a.g x1.toNat).Place==(b.g x1.toNat).Place)&&(((a.g x1.toNat).Pb==(b.g x1.toNat).Pb)&&((a.g x1.toNat).Np==(b.g x1.toNat).Np)))) != true) then some false else c (wrap .i64 (x1+1)) else none else some true) 0
theorem Cs {a:Sl GH}{b:Sl GH}{y:Bool}(h:K9 N a b=some y) :Me S S4 [.p (vSl 4 P2 a),.p (vSl 4 P2 b)] [] (pB y) ([]) []:=by
 unfold K9 at h;refine A2 Z func29 ?_;apply kI Z h<;>intro h
 .cases h;exact kR Z
 refine P8 Z Fe h (λx1=>⟨[(13,pN x1),(12,pN (a.n:Int)),(1,.p (vSl 4 P2 b)),(0,.p (vSl 4 P2 a))],[]⟩) (ids:=[]) (λ_ _ _ _ _ c x1 d h=>?_);apply kI Z h<;>intro h
 .refine E2 Z Fe [2,3,6,7] ?_;obtain⟨c9,h⟩:=C8 h;refine D0 (Kn (Kn (Kn (Kn c9.1 Io) c9.2) Io) (by decide +kernel:Qd Tryz.prog Gy=true)) ?_;apply kI Z h<;>intro h
  .cases h;exact kR Z
  exact d _ [] _ (wrap .i64 (x1+1)) Fe h
 cases h;exact kR Z
def Hk (N:Nat)(d:C0)(a:Sl (Sl Kj))(b:Int)(f:Int):Option (Int×Int):= (CW N d f).bind λy1=>if (y1 != 0) then some (0,y1) else if (decide (256<(a.n:Int))) then some (0,12) else X5 N (λo (x1:Int)=>if (decide (x1<(a.n:Int))) then if ((0:Int)<=x1/\x1<(a.n:Int))then (W8 N (a.g x1.toNat)).bind λy4=>if (y4 != 0) then some (0,y4) else o (wrap .i64 (x1+1)) else none else if ((decide (b<0))||(decide ((d.Nv.n:Int)<=b))) then some (0,3) else if ((a.n:Int)==0) then some (0,5) else (Q8 N d.Ns).bind λy5=>Al7 N (λl (x8:Int) (x9:Int) (i:Int)=>if (decide (i<(a.n:Int))) then if (((0:Int)<=i/\i<(a.n:Int))/\((0:Int)<=b/\b<(d.Nv.n:Int)))then Ca N (λj (m:Int) (c:Int)=>if (decide (c<((d.Nv.g b.toNat).Nw.n:Int))) then if ((0:Int)<=c/\c<((d.Nv.g b.toNat).Nw.n:Int))then if ((d.Nv.g b.toNat).Nw.g c.toNat).Has then if ((0:Int)<=c/\c<(y5.n:Int))then (I6 N (y5.g c.toNat) (⟨true,a.g i.toNat⟩:G8) ((d.Nv.g b.toNat).Nw.g c.toNat)).bind λq=>if (!q) then j (wrap .i64 (m+f)) (wrap .i64 (c+1)) else j m (wrap .i64 (c+1)) else none else j m (wrap .i64 (c+1)) else none else if ((i==0)||(decide (m<x9))) then l i m (wrap .i64 (i+1)) else l x8 x9 (wrap .i64 (i+1))) 0 0 else none else some (x8,0)) 0 0 0) 0
theorem TH {i:C0}{d:Sl (Sl Kj)}{c:Int}{f:Int}{y:Int×Int}(h:Hk N i d c f=some y) :Me S Lb [.p (.agg (A7 i)),.p (vSl 1 (cL 2 A0) d),pN c,pN f] [] (.tup [pN y.1,pN y.2]) ([]) []:=by
 unfold Hk at h;refine A2 Z func18 ?_;refine F6 Z Fe 8 5000 (A7 i) ?_;obtain⟨y1,e1,h⟩:=A9 h;refine B4 Z [] (by decide:(8:Nat)<=8) (LG Z Y e1) ?_;apply kI Z h<;>intro h
 .cases h;exact kR Z
 apply kI Z h<;>intro h
 .cases h;exact kR Z
 refine P8 Z Fe h (λx1=>⟨[(33,pN x1),(32,pN (d.n:Int)),(31,.p (vSl 1 (cL 2 A0) d)),(4,.p (.ptr (A7 i))),(3,pN f),(2,pN c),(1,.p (vSl 1 (cL 2 A0) d))],[]⟩) (ids:=[]) (λ_ _ _ _ _ s x1 t h=>?_);apply kI Z h<;>intro h
 .obtain⟨c10,h⟩:=C8 h;obtain⟨y4,e4,h⟩:=A9 h;refine B4 Z [] c10 (DR Z Y e4) ?_;apply kI Z h<;>intro h
  .cases h;exact kR Z
  exact t _ [] _ (wrap .i64 (x1+1)) Fe h
 refine kB Z (A6 Z) Fe Fe 6 (.o (.a (decide (c<0))) (.a (decide ((i.Nv.n:Int)<=c)))) ?_;apply kI Z h<;>intro h
 .cases h;exact kR Z
 apply kI Z h<;>intro h
 .cases h;exact kR Z
 obtain⟨y5,e5,h⟩:=A9 h;refine B4 Z [] (by decide:(3:Nat)<=5) (CX Z Y e5) ?_;refine KW Z Fe h (λx8 x9 j=>⟨[(62,pN j),(61,pN (d.n:Int)),(60,.p (vSl 1 (cL 2 A0) d)),(16,pN x9),(15,pN x8),(14,.p (vSl 1 (cL 18 B5) y5)),(4,.p (.ptr (A7 i))),(3,pN f),(2,pN c)],[]⟩) (ids:=[]) (λ_ _ _ _ _ u x8 x9 j r h=>?_);apply kI Z h<;>intro h
 .obtain⟨c69,h⟩:=C8 h;refine I1 Z c69 h (λm l=>⟨[(74,pN l),(73,pN ((i.Nv.g c.toNat).Nw.n:Int)),(72,.p (vSl 2 F3 (i.Nv.g c.toNat).Nw)),(62,pN j),(61,pN (d.n:Int)),(60,.p (vSl 1 (cL 2 A0) d)),(19,pN m),(18,.p (vSl 2 A0 (d.g j.toNat))),(17,pN j),(16,pN x9),(15,pN x8),(14,.p (vSl 1 (cL 18 B5) y5)),(4,.p (.ptr (A7 i))),(3,pN f),(2,pN c)],[]⟩) (ids:=[]) (λ_ _ _ _ _ v m l q h=>?_);apply kI Z h<;>intro h
  .obtain⟨c81,h⟩:=C8 h;refine Vl Z (Kn c81 Gt) 22000 [.bb ((i.Nv.g c.toNat).Nw.g l.toNat).Has,vSl 2 A0 ((i.Nv.g c.toNat).Nw.g l.toNat).W] ?_;refine E2 Z Fe [1,5,6,9,10] ?_;refine U6 Fe (b:=((i.Nv.g c.toNat).Nw.g l.toNat).Has) (λc82=>?_) (λc82=>?_)
   .replace h:=itT c82 h;obtain⟨c83,h⟩:=C8 h;obtain⟨w,e17,h⟩:=A9 h;refine G3 (Kn c83 Gt) (AJ Z Y e17) ?_;refine D0 Fe ?_;apply kI Z h<;>intro h
    .exact q _ [] _ (wrap .i64 (m+f)) (wrap .i64 (l+1)) Fe h
    exact q _ [] _ m (wrap .i64 (l+1)) Fe h
   replace h:=itF c82 h;refine D0 Fe ?_;exact q _ [] _ m (wrap .i64 (l+1)) Fe h
  refine kB Z (A6 Z) Fe Fe 4 (.o (.a (j==0)) (.a (decide (m<x9)))) ?_;apply kI Z h<;>intro h
  .exact r _ [] _ j m (wrap .i64 (j+1)) Fe h
  exact r _ [] _ x8 x9 (wrap .i64 (j+1)) Fe h
 cases h;exact kR Z
def CZ (N:Nat)(q0:C0)(q1:Sl (Sl Law)):Option (List (A2_int)):= X5 N (λb (x2:Int)=>if (decide (x2<(q0.Nv.n:Int))) then if ((0:Int)<=x2/\x2<(q0.Nv.n:Int))then X5 N (λa (x4:Int)=>if (decide (x4<((q0.Nv.g x2.toNat).Nw.n:Int))) then if ((0:Int)<=x4/\x4<((q0.Nv.g x2.toNat).Nw.n:Int))then if (((0:Int)<=x4/\x4<(q1.n:Int))/\((0:Int)<=x2/\x2<(q0.Nr.n:Int)))then (I6 N (q1.g x4.toNat) (q0.Nr.g x2.toNat) ((q0.Nv.g x2.toNat).Nw.g x4.toNat)).bind λy9=>if y9 then Ak (⟨x2,x4⟩:A2_int) (a (wrap .i64 (x4+1))) else a (wrap .i64 (x4+1)) else none else none else b (wrap .i64 (x2+1))) 0 else none else some []) 0
theorem PM {q0:C0}{q1:Sl (Sl Law)}{L:List (A2_int)}(h:CZ N q0 q1=some L) :EW S Fd [] [.reg 0 0,.reg 1 0] [.cells ((A7 q0).map .p),.cells [.p (vSl 1 (cL 18 B5) q1)]] (L.map (λ(x:A2_int)=>[(λx=>.agg (D5 x)) x])):=by
 unfold CZ at h;refine EC Z func99 ?_;refine Dl Z Fe h (λx2 L1=>⟨[(11,pN x2),(10,pN (q0.Nv.n:Int)),(9,.p (vSl 2 F4 q0.Nv)),(2,.reg 1 0),(1,.reg 0 0),(0,.yf 2)],[(2,.yld (L1.map (λ(x:A2_int)=>[(λx=>.agg (D5 x)) x])) true),(1,.cells [.p (vSl 1 (cL 18 B5) q1)]),(0,.cells ((A7 q0).map .p))]⟩) (ids:=(Kk [0,1,2])) (λ_ _ _ _ _ f x2 L1 i h=>?_);apply kI Z h<;>intro h
 .obtain⟨c78,h⟩:=C8 h;refine Dl Z (Kn c78 Gt) h (λx4 L16=>⟨[(19,pN x4),(18,pN ((q0.Nv.g x2.toNat).Nw.n:Int)),(17,.p (vSl 2 F3 (q0.Nv.g x2.toNat).Nw)),(11,pN x2),(10,pN (q0.Nv.n:Int)),(9,.p (vSl 2 F4 q0.Nv)),(4,pN x2),(2,.reg 1 0),(1,.reg 0 0),(0,.yf 2)],[(2,.yld (L16.map (λ(x:A2_int)=>[(λx=>.agg (D5 x)) x])) true),(1,.cells [.p (vSl 1 (cL 18 B5) q1)]),(0,.cells ((A7 q0).map .p))]⟩) (ids:=(Kk [0,1,2])) (λ_ _ _ _ _ j x4 L16 d h=>?_);apply kI Z h<;>intro h
  .obtain⟨c104,h⟩:=C8 h;refine Vl Z (Kn c104 Gt) 8000 [.bb ((q0.Nv.g x2.toNat).Nw.g x4.toNat).Has,vSl 2 A0 ((q0.Nv.g x2.toNat).Nw.g x4.toNat).W] ?_;refine AB9 Z Fe 16 [(0,.l [1]),(2,.n),(3,.n),(5,.l [0]),(7,.n),(8,.n),(9,.n),(10,.n)] ?_;obtain⟨c105,h⟩:=C8 h;obtain⟨y9,e9,h⟩:=A9 h;refine G3 (Kn (Kn (Kn c105.1 c105.2) Gt) Gt) (AJ Z Y e9) ?_;refine U6 Fe (b:=y9) (λc106=>?_) (λc106=>?_)
   .replace h:=itT c106 h;refine D0 Fe ?_;refine GU Z Fe (b:=true) (λc109=>?_) (λc109=>?_)
    .obtain⟨L22,rfl,c⟩:=Ma h;replace h:=c;refine Dk Z Fe (ys:=(λ(x:A2_int)=>[(λx=>.agg (D5 x)) x]) (⟨x2,x4⟩:A2_int)) (rest:=L22.map (λ(x:A2_int)=>[(λx=>.agg (D5 x)) x])) ?_ ?_
     .refine C7 Z Fe (b:=false) (λc110=>?_) (λc110=>?_)
      .exact Bool.noConfusion ((rfl:false=false).symm.trans c110)
      exact d _ (Kk [0,1,2]) _ (wrap .i64 (x4+1)) L22 Fe h
     refine C7 Z Fe (b:=true) (λc111=>?_) (λc111=>?_)
     .exact kO Z Fe (a:=.tup []) (objs:=[(.cells ((A7 q0).map .p)),.cells [.p (vSl 1 (cL 18 B5) q1)],.yld [] false]) [0,1,2] ⟨false,rfl,rfl,_,rfl⟩
     exact Bool.noConfusion (Ix.symm.trans c111)
    exact Bool.noConfusion (Ix.symm.trans c109)
   replace h:=itF c106 h;refine D0 Fe ?_;refine GU Z Fe (b:=false) (λc114=>?_) (λc114=>?_)
   .exact Bool.noConfusion ((rfl:false=false).symm.trans c114)
   exact d _ (Kk [0,1,2]) _ (wrap .i64 (x4+1)) L16 Fe h
  exact i _ (Kk [0,1,2]) _ (wrap .i64 (x2+1)) L16 Fe h
 obtain rfl:=B2 h;exact kO Z Fe (a:=.tup []) (objs:=[(.cells ((A7 q0).map .p)),.cells [.p (vSl 1 (cL 18 B5) q1)],.yld [] true]) [0,1,2] ⟨true,rfl,rfl,_,rfl⟩
def Hl (N:Nat)(b:C0)(a:Sl (Sl Law)):Option (C0×(Sl (Sl Law))):= some (b,a)
theorem TI {b:C0}{a:Sl (Sl Law)}{y:C0×(Sl (Sl Law))}(h:Hl N b a=some y) :Me S Lk [.p (.agg (A7 b)),.p (vSl 1 (cL 18 B5) a)] [] (.clo Fd [] [.reg 0 0,.reg 1 0]) ([.cells ((A7 y.1).map .p),.cells [.p (vSl 1 (cL 18 B5) y.2)]]) []:=by unfold Hl at h;refine A2 Z func61 ?_;obtain rfl:=B2 h;exact kO Z Fe [3000,4000]
def Bh (N:Nat)(a:C0):Option ((Sl GH)×Int):= (X2 N a).bind λy1=>if (y1 != 0) then some ((Sl.nil:Sl GH),y1) else (Q8 N a.Ns).bind λy2=>(Hl N a y2).bind λy3=>(CZ N y3.1 y3.2).bind λL1=>(N5 N L1).bind λy4=>(Du N a).bind λy5=>(Y4 N y5).bind λL2=>T2 L2 (λb (x1:A2_int×Ns) (z1:Sl GH)=>(Q8 N x1.2).bind λd=>X5 N (λc (x5:Int)=>if (decide (x5<(y4.n:Int))) then if (((0:Int)<=x5/\x5<(y4.n:Int))/\x5.toNat<y4.n)then if (((((0:Int)<=(y4.g x5.toNat).a1/\(y4.g x5.toNat).a1<(d.n:Int))/\((0:Int)<=(y4.g x5.toNat).a0/\(y4.g x5.toNat).a0<(a.Nr.n:Int)))/\((0:Int)<=(y4.g x5.toNat).a0/\(y4.g x5.toNat).a0<(a.Nv.n:Int)))/\((0:Int)<=(y4.g x5.toNat).a1/\(y4.g x5.toNat).a1<((a.Nv.g (y4.g x5.toNat).a0.toNat).Nw.n:Int)))then (I6 N (d.g (y4.g x5.toNat).a1.toNat) (a.Nr.g (y4.g x5.toNat).a0.toNat) ((a.Nv.g (y4.g x5.toNat).a0.toNat).Nw.g (y4.g x5.toNat).a1.toNat)).bind λf=>if (!f) then if (Kl 32 (z1.n+(Sl.of [(⟨x1.1.a0,x1.1.a1,(y4.g x5.toNat).a0,(y4.g x5.toNat).a1⟩:GH)]:Sl GH).n))then b (z1.push (⟨x1.1.a0,x1.1.a1,(y4.g x5.toNat).a0,(y4.g x5.toNat).a1⟩:GH)) else none else c (wrap .i64 (x5+1)) else none else none else b z1) 0) (λ(z1:Sl GH)=>some (z1,0)) (Sl.nil:Sl GH)
theorem TJ {b:C0}{y:(Sl GH)×Int}(h:Bh N b=some y) :Me S Lf [.p (.agg (A7 b))] [] (.tup [.vec 0,pN y.2]) ([oV Gy 4 P2 y.1 true]) []:=by
 unfold Bh at h;refine A2 Z func27 ?_;refine F6 Z Fe 2 2000 (A7 b) ?_;obtain⟨y1,e1,h⟩:=A9 h;refine B4 Z [] (by decide:(8:Nat)<=8) (FO Z Y e1) ?_;apply kI Z h<;>intro h
 .obtain rfl:=B2 h;exact kO Z Fe [3700]
 refine F2 Z Fe [(0,.n),(2,.n),(3,.n),(4,.a [22000,22001]),(5,.a [22000,22001,23000,23001,23002]),(6,.a [6000]),(7,.a [6000,23000])] ?_;obtain⟨y2,e2,h⟩:=A9 h;refine G3 (Kn (by decide:(8:Nat)<=8) (by decide:(3:Nat)<=5)) (CX Z Y e2) ?_;obtain⟨y3,e3,h⟩:=A9 h;refine OJ [] Fe (TI Z Y e3) ?_;obtain⟨L1,e4,h⟩:=A9 h;obtain⟨y4,e5,h⟩:=A9 h;refine OQ [22000,22001] Fe (Hj Z Y ⟨_,func99,by decide +kernel,by decide +kernel⟩ (PM Z Y e4) e5) ?_;refine D0 Fe ?_;obtain⟨y5,e6,h⟩:=A9 h;refine B4 Z [] (by decide:(8:Nat)<=8) (Ml Z Y e6) ?_;obtain⟨L2,e7,h⟩:=A9 h;refine GV Z Fe [25000] [6,5,1] 901 (λz1=>⟨[(6,.reg 7000 0),(5,.reg 6000 0),(1,.p (.ptr (A7 b)))],[(23000,oV Bt 2 D5 y4 false),(7500,oV Gy 4 P2 z1 false),(7000,.cells [.vec 7500]),(6000,.cells [.vec 23000])]⟩) (idl:=(Kk [6000,7000,23000])) h (Ks Z Y e7) (λ_=>by kernel_rfl) (λ_=>by kernel_rfl) (λ_=>by kernel_rfl) (λ_=>by kernel_rfl) (λx1 _ d z1 c h=>?_) (λz1 h=>?_)
 .refine F6 Z Fe 8 8000 [pI .i64 x1.1.a0,pI .i64 x1.1.a1] ?_;refine Kh Z Fe ?_;refine F6 Z Fe 27 9000 (B0 x1.2) ?_;obtain⟨f,e16,h⟩:=A9 h;refine B4 Z [] Ha (CX Z Y e16) ?_;refine P8 Z Fe h (λx5=>⟨[(31,pN x5),(30,pN (y4.n:Int)),(29,.vec 23000),(9,.p (vSl 1 (cL 18 B5) f)),(7,.p (.ptr [pI .i64 x1.1.a0,pI .i64 x1.1.a1])),(6,.reg 7000 0),(1,.p (.ptr (A7 b)))],[(23000,oV Bt 2 D5 y4 false),(7500,oV Gy 4 P2 z1 false),(7000,.cells [.vec 7500]),(6000,.cells [.vec 23000]),(901,.ghost [.reg 7000 0,.reg 6000 0,.p (.ptr (A7 b))])]⟩) (ids:=(Kk [901,6000,7000,7500,23000])) (λ_ _ _ _ _ i x5 j h=>?_);apply kI Z h<;>intro h
  .obtain⟨c35,h⟩:=C8 h;refine F2 Z (Kn (Kn c35.1 Gt) c35.2) [(1,.l [12000]),(2,.l [12000]),(3,.n),(4,.n),(6,.n),(7,.l [12000]),(8,.l [12000]),(9,.n),(10,.n),(12,.n),(13,.l [12000]),(14,.l [12000]),(15,.n),(17,.n),(18,.l [12000]),(19,.l [12000]),(20,.n),(21,.n),(22,.n)] ?_;obtain⟨c36,h⟩:=C8 h;obtain⟨m,e19,h⟩:=A9 h;refine G3 (Kn (Kn (Kn (Kn (Kn (Kn (Kn (Kn (Kn (by decide:(0:Int)<=1/\(1:Int)<2) c36.1.1.1) (by decide:(0:Int)<=0/\(0:Int)<2)) c36.1.1.2) Gt) (by decide:(0:Int)<=0/\(0:Int)<2)) c36.1.2) (by decide:(0:Int)<=1/\(1:Int)<2)) c36.2) Gt) (AJ Z Y e19) ?_;refine D0 Fe ?_;apply kI Z h<;>intro h
   .refine F6 Z Fe 59 12000 [pI .i64 (y4.g x5.toNat).a0,pI .i64 (y4.g x5.toNat).a1] ?_;obtain⟨c38,h⟩:=C8 h;exact c _ [(901,901),(6000,6000),(7000,7000),(7500,71000),(23000,23000)] _ (z1.push (⟨x1.1.a0,x1.1.a1,(y4.g x5.toNat).a0,(y4.g x5.toNat).a1⟩:GH)) (Kn (Kn (Kn (Kn (Kn (by decide:(0:Int)<=0/\(0:Int)<2) (by decide:(0:Int)<=1/\(1:Int)<2)) (by decide:(0:Int)<=0/\(0:Int)<2)) (by decide:(0:Int)<=1/\(1:Int)<2)) Ix) c38) h (hle:=kl1 1 (X6 P2 z1 (⟨x1.1.a0,x1.1.a1,(y4.g x5.toNat).a0,(y4.g x5.toNat).a1⟩:GH) [pI .i64 0,pI .i64 0,pI .i64 0,pI .i64 0]))
   refine F6 Z Fe 71 12000 [pI .i64 (y4.g x5.toNat).a0,pI .i64 (y4.g x5.toNat).a1] ?_;exact j _ (Kk [901,6000,7000,7500,23000]) _ (wrap .i64 (x5+1)) Fe h
  exact c _ (Kk [901,6000,7000,7500,23000]) _ z1 Fe h
 obtain rfl:=B2 h;exact kO Z Fe [7500]
def U3 (N:Nat)(b:C0)(a:Int):Option (Gs×Int):= (CW N b a).bind λy1=>if (y1 != 0) then some ((⟨(Sl.nil:Sl A4),(Sl.nil:Sl GH)⟩:Gs),y1) else (Ea N b.Ns b.Nr b.Nv a).bind λy2=>(Bh N b).bind λy3=>some ((⟨y2.1,y3.1⟩:Gs),0)
theorem FP {b:C0}{a:Int}{y:Gs×Int}(h:U3 N b a=some y) :Me S ME [.p (.agg (A7 b)),pN a] [] (.tup [.p (.agg (OR y.1)),pN y.2]) ([]) []:=by
 unfold U3 at h;refine A2 Z func9 ?_;refine kC Z h (LG Z Y) (λy1 h=>?_);apply kI Z h<;>intro h
 .obtain rfl:=B2 h;exact J6 Z Fe ⟨[(5,pN y1),(4,.reg 5000 0)],[(5000,.cells [.p (vSl 4 A5 (Sl.nil:Sl A4)),.p (vSl 4 P2 (Sl.nil:Sl GH))])]⟩ [] (ids:=[(5000,5000)]) ⟨rfl,rfl,rfl⟩
 refine kC Z h (Wd Z Y) (λy2 h=>?_);refine kC Z h (TJ Z Y) (λy3 h=>?_);obtain rfl:=B2 h;exact J6 Z Fe ⟨[(5,pN 0),(4,.reg 5000 0)],[(5000,.cells [.p (vSl 4 A5 y2.1),.p (vSl 4 P2 y3.1)])]⟩ [] (ids:=[(5000,5000)]) ⟨rfl,rfl,rfl⟩
def DH (N:Nat)(c:C0)(a:Int)(b:Gs):Option (Bool×Int):= (U3 N c a).bind λy1=>if (y1.2 != 0) then some (false,y1.2) else (G0 N y1.1.Bad b.Bad).bind λy2=>lt (λ(z1:Bool)=>some (z1,0)) λk1=>if y2 then (K9 N y1.1.Nt b.Nt).bind λy4=>k1 y4 else k1 false
theorem JS {b:C0}{a:Int}{c:Gs}{y:Bool×Int}(h:DH N b a c=some y) :Me S Js [.p (.agg (A7 b)),pN a,.p (.agg (OR c))] [] (.tup [pB y.1,pN y.2]) ([]) []:=by
 unfold DH at h;refine A2 Z func10 ?_;refine kC Z h (FP Z Y) (λy1 h=>?_);apply kI Z h<;>intro h
 .cases h;exact kR Z
 refine kC Z h (W5 Z Y) (λy2 h=>?_);refine Kz Z Fe (A6 Z) h 0 (λz1=>⟨[(7,pN 0),(6,pB z1)],[]⟩) (λM1 k1 d h=>?_) (λz1 h=>?_)
 .refine kG Z h (λh=>?_) (λh=>?_)
  .refine kC Z h (Cs Z Y) (λy4 h=>?_);exact d _ [] _ y4 Fe h
  exact d _ [] _ false Fe h
 cases h;exact kR Z
end Go.AM
namespace Go.AM
open Go.Proofs.Tryz
open Go.Proofs
set_option maxRecDepth 10000
set_option maxHeartbeats 2000000
variable {S:U5}(Z:G6 S Tryz.prog) (Y:JK S)
include Z Y
abbrev Nf (s:Str):Nat->List PV:=λi=>[.v (.int .u8 ((s.getD i 0).toNat:Nat))]
theorem TL {s:Str}{u n:Nat}{f:Nat->List PV}(hc:(n+s.length)*1<=140737488355328/\n+s.length<=140737488355328) :Me S Y7 [.reg 0 0,.p (.str s)] [.blk [0,122,u] 1,.vec H6 1 n f false] (.tup [pN (s.length:Int),.p (.v .nilIface)]) [.blk [0,122,1] 1,.vec H6 1 (n+s.length) (Es n f (Nf s)) false] [true,false]:=by refine A2 Z func44 ?_;refine B4 Z [0,1] Fe (Y.copyCheck 122 u n f rfl) ?_;exact kO Z hc [0,15000]
theorem w_Len {u n:Nat}{f:Nat->List PV}:Me S DM [.reg 0 0] [.blk [0,122,u] 1,.vec H6 1 n f false] (pN (n:Int)) [.blk [0,122,u] 1,.vec H6 1 n f false] [true,true]:=by refine A2 Z func48 ?_;exact kO Z Fe [0,1]
theorem AD1 {N:Nat}{ws:Sl Str}{j:Str}{u n:Nat}{f:Nat->List PV}(b:V2 N ws [32]=some j)(hc:(n+(j++[10]).length)*1<=140737488355328/\n+(j++[10]).length<=140737488355328) :Me S BJ [.p (vSl 1 cS ws),.reg 0 0] [.blk [0,122,u] 1,.vec H6 1 n f false] (.tup []) [.blk [0,122,1] 1,.vec H6 1 (n+(j++[10]).length) (Es n f (Nf (j++[10]))) false] [true,false]:=by
 have a:((j.length+([10]:Str).length:Nat):Int)<=9223372036854775807:=by have h1:=hc.2;rw[Bj2]at h1;have c:([10]:Str).length=1:=rfl;omega
 refine A2 Z func43 ?_;refine B4 Z [] Fe (QX Z Y b) ?_;refine B4 Z [0,1] a (TL Z Y (u:=u) (f:=f) hc) ?_;exact kO Z Fe [0,7001]
end Go.AM
