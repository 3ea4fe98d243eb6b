/- Part 7. -/
import Derived.Test.YtcoileenpgjmoaaGreatDoorLF
import Derived.Test.YtcoileenpgjmoaaGreatDoorLE
set_option linter.defProp false
set_option linter.unusedSimpArgs false
set_option linter.unusedVariables false
set_option linter.unusedSectionVars false
namespace Go.AM
open Go.Proofs.Tryz
abbrev Iy:Sl Jf:=Sl.nil
def Ik:(4:Nat)<=4:=by decide
def Hz:(3:Nat)<=3:=by decide
def Gt:(1:Nat)<=1:=by decide
abbrev Fd(z:Int):Sl Int:=(Sl.of [IntKind.wrap .u8 z,IntKind.wrap .u8 (shI .shr .u32 z 8),IntKind.wrap .u8 (shI .shr .u32 z 16)]:Sl Int)
variable {N:Nat}
open IntKind (wrap)
def Bv4:=@Option.ite_none_right_eq_some
open Go.Proofs
set_option maxRecDepth 10000
set_option maxHeartbeats 2000000
variable {S:U6}(Z:G6 S Tryz.prog) (Y:Km S)
include Z Y
def ID (N:Nat)(a:Int):Option Bool:= some (((((decide (97<=a))&&(decide (a<=122)))||((decide (65<=a))&&(decide (a<=90))))||((decide (48<=a))&&(decide (a<=57))))||(a==45))
theorem VU {b:Int}{y:Bool}(h:ID N b=some y) :Mb S MQ [.p (pI .u8 b)] [] (pB y) ([]) []:=by unfold ID at h;refine A2 Z func106 ?_;refine kB Z (A4 Z) Fc Fc 23 (.o (.o (.o (.n (.a (decide (97<=b))) (.a (decide (b<=122)))) (.n (.a (decide (65<=b))) (.a (decide (b<=90))))) (.n (.a (decide (48<=b))) (.a (decide (b<=57))))) (.a (b==45))) ?_;cases h;exact kR Z
def EJ (N:Nat)(a:Str):Option Bool:= W8 N (λb (x1:Int)=>if (decide (x1<(a.length:Int))) then if ((0:Int)<=x1/\x1<(a.length:Int))then (ID N (HX a x1)).bind λy3=>if (!y3) then some false else b (wrap .i64 (x1+1)) else none else some ((decide (1<=(a.length:Int)))&&(decide ((a.length:Int)<=24)))) 0
theorem RQ {b:Str}{y:Bool}(h:EJ N b=some y) :Mb S RJ [.p (.str b)] [] (pB y) ([]) []:=by
 unfold EJ at h;refine A2 Z func66 ?_;refine P9 Z Fc h (λx1=>⟨[(3,pN x1),(0,.p (.str b))],[]⟩) (ids:=[]) (λ_ _ _ _ _ c x1 d h=>?_);apply kI Z h<;>intro h
 .obtain⟨c8,h⟩:=C9 h;obtain⟨y3,e3,h⟩:=A8 h;refine B3 Z [] c8 (VU Z Y e3) ?_;apply kI Z h<;>intro h
  .cases h;exact kR Z
  exact d _ [] _ (wrap .i64 (x1+1)) Fc h
 refine kB Z (A4 Z) Fc Fc 4 (.n (.a (decide (1<=(b.length:Int)))) (.a (decide ((b.length:Int)<=24)))) ?_;cases h;exact kR Z
def Dt (N:Nat)(a:Sl Node):Option Int:= if ((decide ((a.n:Int)<1))=false->((decide (63<(a.n:Int)))=false->((0:Int)<=0/\0<(a.n:Int))))then if (((decide ((a.n:Int)<1))||(decide (63<(a.n:Int))))||((a.g 0).No != (-1))) then some 16 else W8 N (λb (x3:Int)=>if (decide (x3<(a.n:Int))) then lt (λ(z3:Bool)=>if z3 then some 16 else W8 N (λc (x7:Int)=>if (decide (x7<x3)) then if (((0:Int)<=x7/\x7<(a.n:Int))/\((0:Int)<=x3/\x3<(a.n:Int)))then if (((a.g x7.toNat).Name==(a.g x3.toNat).Name) != false) then some 16 else c (wrap .i64 (x7+1)) else none else b (wrap .i64 (x3+1))) 0) λk3=>if (decide (0<x3)) then if ((0:Int)<=x3/\x3<(a.n:Int))then if (decide ((a.g x3.toNat).No<0)) then k3 true else if ((0:Int)<=x3/\x3<(a.n:Int))then if (decide (x3<=(a.g x3.toNat).No)) then k3 true else if ((0:Int)<=x3/\x3<(a.n:Int))then (EJ N (a.g x3.toNat).Name).bind λd=>k3 (!d) else none else none else none else if ((0:Int)<=x3/\x3<(a.n:Int))then (EJ N (a.g x3.toNat).Name).bind λf=>k3 (!f) else none else some 0) 0 else none
theorem XY {c:Sl Node}{y:Int}(h:Dt N c=some y) :Mb S OU [.p (vSl 2 C6 c)] [] (pN y) ([]) []:=by
 unfold Dt at h;refine A2 Z func34 ?_;obtain⟨c1,h⟩:=C9 h;refine kB Z (A4 Z) Fc c1 11 (.o (.o (.a (decide ((c.n:Int)<1))) (.a (decide (63<(c.n:Int))))) (.a ((c.g 0).No != (-1)))) ?_;apply kI Z h<;>intro h
 .cases h;exact kR Z
 refine P9 Z Fc h (λx3=>⟨[(3,pN x3),(0,.p (vSl 2 C6 c))],[]⟩) (ids:=[]) (λ_ _ _ _ _ f x3 i h=>?_);apply kI Z h<;>intro h
 .refine Mz Z Fc (A4 Z) h 0 (λz3=>⟨[(53,pB z3),(3,pN x3),(0,.p (vSl 2 C6 c))],[]⟩) (λM3 k3 d h=>?_) (λz3 h=>?_)
  .refine kG Z h (λh=>?_) (λh=>?_)
   .obtain⟨c71,h⟩:=C9 h;refine GR Z c71 (b:=decide ((c.g x3.toNat).No<0)) (λc72=>?_) (λc72=>?_)
    .replace h:=itT c72 h;exact d _ [] _ true Fc h
    replace h:=itF c72 h;obtain⟨c73,h⟩:=C9 h;refine GR Z c73 (b:=decide (x3<=(c.g x3.toNat).No)) (λc74=>?_) (λc74=>?_)
    .replace h:=itT c74 h;exact d _ [] _ true Fc h
    replace h:=itF c74 h;obtain⟨c75,h⟩:=C9 h;obtain⟨j,e11,h⟩:=A8 h;refine B3 Z [] c75 (RQ Z Y e11) ?_;exact d _ [] _ (!j) Fc h
   obtain⟨c76,h⟩:=C9 h;obtain⟨l,e12,h⟩:=A8 h;refine B3 Z [] c76 (RQ Z Y e12) ?_;exact d _ [] _ (!l) Fc h
  apply kI Z h<;>intro h
  .cases h;exact kR Z
  refine P9 Z Fc h (λx7=>⟨[(4,pN x7),(3,pN x3),(0,.p (vSl 2 C6 c))],[]⟩) (ids:=[]) (λ_ _ _ _ _ m x7 q h=>?_);apply kI Z h<;>intro h
  .refine E3 Z Fc [2,4,7,9] ?_;obtain⟨c85,h⟩:=C9 h;refine C7 c85 ?_;apply kI Z h<;>intro h
   .cases h;exact kR Z
   exact q _ [] _ (wrap .i64 (x7+1)) Fc h
  exact i _ [] _ (wrap .i64 (x3+1)) Fc h
 cases h;exact kR Z
def Hc (N:Nat)(a:Int):Option Bool:= some (((((decide (97<=a))&&(decide (a<=122)))||((decide (65<=a))&&(decide (a<=90))))||((decide (48<=a))&&(decide (a<=57))))||(a==45))
theorem TC {b:Int}{y:Bool}(h:Hc N b=some y) :Mb S Ln [.p (pI .u8 b)] [] (pB y) ([]) []:=by unfold Hc at h;refine A2 Z func151 ?_;refine kB Z (A4 Z) Fc Fc 23 (.o (.o (.o (.n (.a (decide (97<=b))) (.a (decide (b<=122)))) (.n (.a (decide (65<=b))) (.a (decide (b<=90))))) (.n (.a (decide (48<=b))) (.a (decide (b<=57))))) (.a (b==45))) ?_;cases h;exact kR Z
def DV (N:Nat)(a:Str):Option Bool:= W8 N (λb (x1:Int)=>if (decide (x1<(a.length:Int))) then if ((0:Int)<=x1/\x1<(a.length:Int))then (Hc N (HX a x1)).bind λy3=>if (!y3) then some false else b (wrap .i64 (x1+1)) else none else some ((decide (0<(a.length:Int)))&&(decide ((a.length:Int)<=24)))) 0
theorem VV {b:Str}{y:Bool}(h:DV N b=some y) :Mb S MR [.p (.str b)] [] (pB y) ([]) []:=by
 unfold DV at h;refine A2 Z func115 ?_;refine P9 Z Fc h (λx1=>⟨[(6,pN x1),(5,pN (b.length:Int)),(0,.p (.str b))],[]⟩) (ids:=[]) (λ_ _ _ _ _ c x1 d h=>?_);apply kI Z h<;>intro h
 .obtain⟨c8,h⟩:=C9 h;obtain⟨y3,e3,h⟩:=A8 h;refine B3 Z [] c8 (TC Z Y e3) ?_;apply kI Z h<;>intro h
  .cases h;exact kR Z
  exact d _ [] _ (wrap .i64 (x1+1)) Fc h
 refine kB Z (A4 Z) Fc Fc 4 (.n (.a (decide (0<(b.length:Int)))) (.a (decide ((b.length:Int)<=24)))) ?_;cases h;exact kR Z
def X1 (N:Nat)(a:Sl Node):Option Int:= if (((a.n:Int)==0)||(decide (63<(a.n:Int)))) then some 16 else Bx N (λb (x2:List (Str×Bool)) (x3:Int)=>if (decide (x3<(a.n:Int))) then if ((0:Int)<=x3/\x3<(a.n:Int))then lt (λ(z3:Bool)=>if z3 then some 16 else b (Eh eqS (a.g x3.toNat).Name true x2) (wrap .i64 (x3+1))) λk3=>if (decide (x3<=(a.g x3.toNat).No)) then k3 true else if (decide ((a.g x3.toNat).No<(if 0<(wrap .i64 (x3-1))then 0 else (wrap .i64 (x3-1))))) then k3 true else (DV N (a.g x3.toNat).Name).bind λy6=>if (!y6) then k3 true else My (R8 eqS (a.g x3.toNat).Name x2) (k3 false) λv6=>k3 v6 else none else some 0) [] 0
theorem FM {b:Sl Node}{y:Int}(h:X1 N b=some y) :Mb S MN [.p (vSl 2 C6 b)] [] (pN y) ([]) []:=by
 unfold X1 at h;refine A2 Z func73 ?_;refine kB Z (A4 Z) Fc Fc 4 (.o (.a ((b.n:Int)==0)) (.a (decide (63<(b.n:Int))))) ?_;apply kI Z h<;>intro h
 .cases h;exact kR Z
 refine I4 Z Fc h (λx2 x3=>⟨[(17,pN x3),(16,pN (b.n:Int)),(15,.p (vSl 2 C6 b)),(3,.Ni 15000)],[(15000,oM PV.str PV.bb x2)]⟩) (ids:=[(15000,15000)]) (λ_ _ _ _ _ d x2 x3 f h=>?_);apply kI Z h<;>intro h
 .obtain⟨c25,h⟩:=C9 h;refine Mz Z (Ki c25 Hm) (A4 Z) h 0 (λz3=>⟨[(45,pB z3),(17,pN x3),(16,pN (b.n:Int)),(15,.p (vSl 2 C6 b)),(5,.reg 6000 0),(3,.Ni 15000)],[(15000,oM PV.str PV.bb x2),(6000,.cells [pN (b.g x3.toNat).No,.p (.str (b.g x3.toNat).Name)])]⟩) (λM3 k3 c h=>?_) (λz3 h=>?_)
  .refine kG Z h (λh=>?_) (λh=>?_)
   .exact c _ (Kg [6000,15000]) _ true Fc h
   refine kG Z h (λh=>?_) (λh=>?_)
   .exact c _ (Kg [6000,15000]) _ true Fc h
   refine kC Z h (VV Z Y) (λy6 h=>?_);refine kG Z h (λh=>?_) (λh=>?_)
   .exact c _ (Kg [6000,15000]) _ true Fc h
   rcases o6:R8 eqS (b.g x3.toNat).Name x2 with _|v6
   .replace h:=Ab8 o6 h;refine Xs Z Fc F4 AK0 PV.str PV.bb eqS o6 (.v (.bool false)) Fc ?_;exact c _ (Kg [6000,15000]) _ false Fc h
   replace h:=YV o6 h;refine Xr Z Fc F4 AK0 PV.str PV.bb eqS o6 Fc ?_;exact c _ (Kg [6000,15000]) _ v6 Fc h
  apply kI Z h<;>intro h
  .cases h;exact kR Z
  refine Ac8 Z Fc F4 PV.str PV.bb eqS (b.g x3.toNat).Name true x2 Fc ?_;exact f _ [(15000,15000)] _ (Eh eqS (b.g x3.toNat).Name true x2) (wrap .i64 (x3+1)) Fc h
 cases h;exact kR Z
def AA (N:Nat)(a:Nm):Option Int:= if ((0:Int)<=(a.On.n:Int)/\(a.On.n:Int)<=(a.On.n:Int)/\(a.On.n:Int)*8<=140737488355328/\(a.On.n:Int)<=140737488355328)then Ay9 N (λc (x4:Sl Int) (x5:Bool) (x6:Int)=>if (decide (x6<(a.On.n:Int))) then if ((((0:Int)<=x6/\x6<(a.On.n:Int))/\((0:Int)<=x6/\x6<(x4.n:Int)))/\x6.toNat<x4.n)then if ((0:Int)<=x6/\x6<(a.Tree.n:Int))then lt (λ(z3:Sl Int)=>if (((0:Int)<=x6/\x6<(z3.n:Int))/\x6.toNat<z3.n)then if (decide (64<(z3.g x6.toNat))) then some 2 else Bx N (λd (f:Bool) (b:Int)=>if (decide (b<((a.On.g x6.toNat).n:Int))) then if ((0:Int)<=b/\b<((a.On.g x6.toNat).n:Int))then d ((f||(decide (((a.On.g x6.toNat).g b.toNat)<0)))||(decide ((a.Laws.n:Int)<=((a.On.g x6.toNat).g b.toNat)))) (wrap .i64 (b+1)) else none else c z3 f (wrap .i64 (x6+1))) x5 0 else none) λk3=>if (decide (0<=(a.Tree.g x6.toNat).No)) then if (((((((0:Int)<=x6/\x6<((x4.upd x6.toNat ((a.On.g x6.toNat).n:Int)).n:Int))/\x6.toNat<(x4.upd x6.toNat ((a.On.g x6.toNat).n:Int)).n)/\((0:Int)<=(a.Tree.g x6.toNat).No/\(a.Tree.g x6.toNat).No<((x4.upd x6.toNat ((a.On.g x6.toNat).n:Int)).n:Int)))/\(a.Tree.g x6.toNat).No.toNat<(x4.upd x6.toNat ((a.On.g x6.toNat).n:Int)).n)/\((0:Int)<=x6/\x6<((x4.upd x6.toNat ((a.On.g x6.toNat).n:Int)).n:Int)))/\x6.toNat<(x4.upd x6.toNat ((a.On.g x6.toNat).n:Int)).n)then k3 ((x4.upd x6.toNat ((a.On.g x6.toNat).n:Int)).upd x6.toNat (wrap .i64 (((x4.upd x6.toNat ((a.On.g x6.toNat).n:Int)).g x6.toNat)+((x4.upd x6.toNat ((a.On.g x6.toNat).n:Int)).g (a.Tree.g x6.toNat).No.toNat)))) else none else k3 (x4.upd x6.toNat ((a.On.g x6.toNat).n:Int)) else none else none else if x5 then some 3 else some 0) (Sl.rep (a.On.n:Int).toNat 0:Sl Int) false 0 else none
theorem PC {d:Nm}{y:Int}(h:AA N d=some y) :Mb S Io [.p (.agg (A7 d))] [] (pN y) ([]) []:=by
 unfold AA at h;refine A2 Z func107 ?_;refine F6 Z Fc 2 2000 (A7 d) ?_;obtain⟨c1,h⟩:=C9 h;refine OC Z c1 h (λx4 x5 x6=>⟨[(17,pN x6),(16,pN (d.On.n:Int)),(15,.p (vSl 1 (cL 1 (cI .i64)) d.On)),(4,pB x5),(3,.vec 14000),(1,.p (.ptr (A7 d)))],[(14000,oV E4 1 (cI .i64) x4 false)]⟩) (ids:=[(14000,14000)]) (λ_ _ _ _ _ q x4 x5 x6 r h=>?_);apply kI Z h<;>intro h
 .obtain⟨c35,h⟩:=C9 h;refine O7 Z (Ki (Ki c35.1.1 c35.1.2) (Ki (rfl:(1:Nat)=1) (Ki c35.2 Gt))) 27 ⟨[(17,pN x6),(16,pN (d.On.n:Int)),(15,.p (vSl 1 (cL 1 (cI .i64)) d.On)),(6,.p (vSl 1 (cI .i64) (d.On.g x6.toNat))),(5,pN x6),(4,pB x5),(3,.vec 14000),(1,.p (.ptr (A7 d)))],[(14000,.vec E4 1 (x4.upd x6.toNat ((d.On.g x6.toNat).n:Int)).n (λi=>cI .i64 ((x4.upd x6.toNat ((d.On.g x6.toNat).n:Int)).g i)) false)]⟩ (ids:=[(14000,14000)]) ?_ (hle:=klR [(7,.fn x4.n (x4.upd x6.toNat ((d.On.g x6.toNat).n:Int)).n (λl=>if l=x6.toNat then splice ((λi=>cI .i64 (x4.g i)) l) 0 [pI .i64 ((d.On.g x6.toNat).n:Int)]else (λi=>cI .i64 (x4.g i)) l) (λi=>cI .i64 ((x4.upd x6.toNat ((d.On.g x6.toNat).n:Int)).g i)))] (al1 ⟨rfl,AW0 (c:=cI .i64) (v:=x4) (x:=((d.On.g x6.toNat).n:Int)) same (λ_=>by first|rfl|(dsimp only;split<;>rfl))⟩ al0));obtain⟨c36,h⟩:=C9 h;refine Mz Z c36 (A4 Z) h 0 (λz3=>⟨[(17,pN x6),(16,pN (d.On.n:Int)),(15,.p (vSl 1 (cL 1 (cI .i64)) d.On)),(6,.p (vSl 1 (cI .i64) (d.On.g x6.toNat))),(5,pN x6),(4,pB x5),(3,.vec 14000),(1,.p (.ptr (A7 d)))],[(14000,oV E4 1 (cI .i64) z3 false)]⟩) (λM3 k3 m h=>?_) (λz3 h=>?_)
  .apply kI Z h<;>intro h
   .refine EW Z Fc ?_;obtain⟨c41,h⟩:=C9 h;refine C7 (Ki (Ki (Ki (Ki (Ki c41.1.1.1.1.1 c41.1.1.1.1.2) c41.1.1.1.2) c41.1.1.2) c41.1.2) (Ki (rfl:(1:Nat)=1) (Ki c41.2 Gt))) ?_;exact m _ [(14000,14000)] _ ((x4.upd x6.toNat ((d.On.g x6.toNat).n:Int)).upd x6.toNat (wrap .i64 (((x4.upd x6.toNat ((d.On.g x6.toNat).n:Int)).g x6.toNat)+((x4.upd x6.toNat ((d.On.g x6.toNat).n:Int)).g (d.Tree.g x6.toNat).No.toNat)))) Fc h (hle:=klR [(7,.fn (x4.upd x6.toNat ((d.On.g x6.toNat).n:Int)).n ((x4.upd x6.toNat ((d.On.g x6.toNat).n:Int)).upd x6.toNat (wrap .i64 (((x4.upd x6.toNat ((d.On.g x6.toNat).n:Int)).g x6.toNat)+((x4.upd x6.toNat ((d.On.g x6.toNat).n:Int)).g (d.Tree.g x6.toNat).No.toNat)))).n (λl=>if l=x6.toNat then splice ((λi=>cI .i64 ((x4.upd x6.toNat ((d.On.g x6.toNat).n:Int)).g i)) l) 0 [pI .i64 (wrap .i64 (((x4.upd x6.toNat ((d.On.g x6.toNat).n:Int)).g x6.toNat)+((x4.upd x6.toNat ((d.On.g x6.toNat).n:Int)).g (d.Tree.g x6.toNat).No.toNat)))]else (λi=>cI .i64 ((x4.upd x6.toNat ((d.On.g x6.toNat).n:Int)).g i)) l) (λi=>cI .i64 (((x4.upd x6.toNat ((d.On.g x6.toNat).n:Int)).upd x6.toNat (wrap .i64 (((x4.upd x6.toNat ((d.On.g x6.toNat).n:Int)).g x6.toNat)+((x4.upd x6.toNat ((d.On.g x6.toNat).n:Int)).g (d.Tree.g x6.toNat).No.toNat)))).g i)))] (al1 ⟨rfl,AW0 (c:=cI .i64) (v:=x4.upd x6.toNat ((d.On.g x6.toNat).n:Int)) (x:=wrap .i64 (((x4.upd x6.toNat ((d.On.g x6.toNat).n:Int)).g x6.toNat)+((x4.upd x6.toNat ((d.On.g x6.toNat).n:Int)).g (d.Tree.g x6.toNat).No.toNat))) same (λ_=>by first|rfl|(dsimp only;split<;>rfl))⟩ al0))
   exact m _ [(14000,14000)] _ (x4.upd x6.toNat ((d.On.g x6.toNat).n:Int)) Fc h
  obtain⟨c42,h⟩:=C9 h;refine D0 Z c42 (b:=decide (64<(z3.g x6.toNat))) (λc43=>?_) (λc43=>?_)
  .replace h:=itT c43 h;cases h;exact kR Z
  replace h:=itF c43 h;refine I4 Z Fc h (λj f=>⟨[(52,pN f),(51,pN ((d.On.g x6.toNat).n:Int)),(50,.p (vSl 1 (cI .i64) (d.On.g x6.toNat))),(17,pN x6),(16,pN (d.On.n:Int)),(15,.p (vSl 1 (cL 1 (cI .i64)) d.On)),(4,pB j),(3,.vec 14000),(1,.p (.ptr (A7 d)))],[(14000,oV E4 1 (cI .i64) z3 false)]⟩) (ids:=[(14000,14000)]) (λ_ _ _ _ _ s j f t h=>?_);apply kI Z h<;>intro h
  .obtain⟨c49,h⟩:=C9 h;refine kB Z (A4 Z) c49 Fc 10 (.o (.o (.a j) (.a (decide (((d.On.g x6.toNat).g f.toNat)<0)))) (.a (decide ((d.Laws.n:Int)<=((d.On.g x6.toNat).g f.toNat))))) ?_;exact t _ [(14000,14000)] _ ((j||(decide (((d.On.g x6.toNat).g f.toNat)<0)))||(decide ((d.Laws.n:Int)<=((d.On.g x6.toNat).g f.toNat)))) (wrap .i64 (f+1)) Fc h
  exact r _ [(14000,14000)] _ z3 j (wrap .i64 (x6+1)) Fc h
 apply kI Z h<;>intro h
 .cases h;exact kR Z
 cases h;exact kR Z
def K3 (N:Nat)(a:Nm):Option Int:= (X1 N a.Tree).bind λy1=>if (y1 != 0) then some 16 else if (decide (64<(a.Laws.n:Int))) then some 12 else Bx N (λb (x1:List (Str×Int)) (x2:Int)=>if (decide (x2<(a.Laws.n:Int))) then if ((0:Int)<=x2/\x2<(a.Laws.n:Int))then (Ay N (a.Laws.g x2.toNat)).bind λy4=>if (y4 != 0) then some 17 else My (R8 eqS (a.Laws.g x2.toNat).Name x1) (b (Eh eqS (a.Laws.g x2.toNat).Name (wrap .i64 (0+1)) x1) (wrap .i64 (x2+1))) λv3=>b (Eh eqS (a.Laws.g x2.toNat).Name (wrap .i64 (v3+1)) x1) (wrap .i64 (x2+1)) else none else if (decide (((Dd PV.str (pI .i64) x1).length:Int)<(a.Laws.n:Int))) then some 6 else if ((a.On.n:Int) != (a.Tree.n:Int)) then some 2 else (AA N a).bind λy5=>some y5) [] 0
theorem CV {a:Nm}{y:Int}(h:K3 N a=some y) :Mb S Il [.p (.agg (A7 a))] [] (pN y) ([]) []:=by
 unfold K3 at h;refine A2 Z func67 ?_;refine kC Z h (FM Z Y) (λy1 h=>?_);apply kI Z h<;>intro h
 .cases h;exact kR Z
 apply kI Z h<;>intro h
 .cases h;exact kR Z
 refine I4 Z Fc h (λx1 x2=>⟨[(18,pN x2),(17,pN (a.Laws.n:Int)),(16,.p (vSl 18 B4 a.Laws)),(3,.Ni 15000),(1,.reg 2000 0)],[(15000,oM PV.str (pI .i64) x1),(2000,.cells ((A7 a).map .p))]⟩) (ids:=(Kg [2000,15000])) (λ_ _ _ _ _ c x1 x2 b h=>?_);apply kI Z h<;>intro h
 .obtain⟨c10,h⟩:=C9 h;obtain⟨y4,e4,h⟩:=A8 h;refine B3 Z [] (Ki c10 Ip) (Hb Z Y e4) ?_;apply kI Z h<;>intro h
  .cases h;exact kR Z
  rcases o3:R8 eqS (a.Laws.g x2.toNat).Name x1 with _|v3
  .replace h:=Ab8 o3 h;refine Xs Z Fc F4 E4 PV.str (pI .i64) eqS o3 (pI .i64 0) Fc ?_;refine Ac8 Z Fc F4 PV.str (pI .i64) eqS (a.Laws.g x2.toNat).Name (wrap .i64 (0+1)) x1 Fc ?_;exact b _ (Kg [2000,15000]) _ (Eh eqS (a.Laws.g x2.toNat).Name (wrap .i64 (0+1)) x1) (wrap .i64 (x2+1)) Fc h
  replace h:=YV o3 h;refine Xr Z Fc F4 E4 PV.str (pI .i64) eqS o3 Fc ?_;refine Ac8 Z Fc F4 PV.str (pI .i64) eqS (a.Laws.g x2.toNat).Name (wrap .i64 (v3+1)) x1 Fc ?_;exact b _ (Kg [2000,15000]) _ (Eh eqS (a.Laws.g x2.toNat).Name (wrap .i64 (v3+1)) x1) (wrap .i64 (x2+1)) Fc h
 apply kI Z h<;>intro h
 .cases h;exact kR Z
 apply kI Z h<;>intro h
 .cases h;exact kR Z
 refine kC Z h (PC Z Y) (λy5 h=>?_);cases h;exact kR Z
def U8 (N:Nat)(b:Nm)(a:Int):Option Bool:= some ((decide (0<=a))&&(decide (a<(b.Tree.n:Int))))
theorem Ga {c:Nm}{b:Int}{y:Bool}(h:U8 N c b=some y) :Mb S Jt [.p (.agg (A7 c)),pN b] [] (pB y) ([]) []:=by unfold U8 at h;refine A2 Z func37 ?_;refine kB Z (A4 Z) Fc Fc 6 (.n (.a (decide (0<=b))) (.a (decide (b<(c.Tree.n:Int))))) ?_;cases h;exact kR Z
def T0 (N:Nat)(q0:Int)(q1:Sl Node):Option (List (Int)):= Bx N (λa (x1:Int) (x2:Sl Int)=>if (decide (0<=x1)) then if ((Kh 8 (x2.n+(Sl.of [x1]:Sl Int).n))/\((0:Int)<=x1/\x1<(q1.n:Int)))then a (q1.g x1.toNat).No (x2.push x1) else none else W8 N (λb (x3:Int)=>if (decide (0<=x3)) then if (((0:Int)<=x3/\x3<(x2.n:Int))/\x3.toNat<x2.n)then Ag (x2.g x3.toNat) (b (wrap .i64 (x3-1))) else none else some []) (wrap .i64 ((x2.n:Int)-1))) q0 Iv
theorem IE {q0:Int}{q1:Sl Node}{L:List (Int)}(h:T0 N q0 q1=some L) :ET S EY [] [.reg 0 0,.reg 1 0] [.cells [pN q0],.cells [.p (vSl 2 C6 q1)]] (L.map (λ(x:Int)=>[pI .i64 x])):=by
 unfold T0 at h;refine EB Z func68 ?_;refine SQ Z Fc h (λx1 x2 L1=>⟨[(4,.vec 5500),(2,.reg 1 0),(1,.reg 0 0),(0,.yf 2)],[(5500,oV E4 1 (cI .i64) x2 false),(2,.yld (L1.map (λ(x:Int)=>[pI .i64 x])) true),(1,.cells [.p (vSl 2 C6 q1)]),(0,.cells [pN x1])]⟩) (ids:=(Kg [0,1,2])) (λ_ _ _ _ _ d x1 x2 L1 f h=>?_);apply kI Z h<;>intro h
 .obtain⟨c4,h⟩:=C9 h;exact f _ [(0,0),(1,1),(2,2),(5500,17000)] _ (q1.g x1.toNat).No (x2.push x1) L1 (Ki (Ki Iu c4.1) c4.2) h (hle:=kl1 0 (X5 (cI .i64) x2 x1 [pI .i64 0]))
 refine Dl Z Fc h (λx3 L2=>⟨[(5,pN x3),(4,.vec 5500),(0,.yf 2)],[(5500,oV E4 1 (cI .i64) x2 false),(2,.yld (L2.map (λ(x:Int)=>[pI .i64 x])) true),(1,.cells [.p (vSl 2 C6 q1)]),(0,.cells [pN x1])]⟩) (ids:=(Kg [0,1,2,5500])) (λ_ _ _ _ _ i x3 L2 j h=>?_);apply kI Z h<;>intro h
 .obtain⟨c14,h⟩:=C9 h;obtain⟨L5,rfl,c⟩:=LY h;replace h:=c;refine Dk Z c14 (ys:=(λ(x:Int)=>[pI .i64 x]) (x2.g x3.toNat)) (rest:=L5.map (λ(x:Int)=>[pI .i64 x])) ?_ ?_
  .refine D0 Z Fc (b:=false) (λc15=>?_) (λc15=>?_)
   .exact Bool.noConfusion ((rfl:false=false).symm.trans c15)
   exact j _ (Kg [0,1,2,5500]) _ (wrap .i64 (x3-1)) L5 Fc h
  refine D0 Z Fc (b:=true) (λc16=>?_) (λc16=>?_)
  .exact kO Z Fc (a:=.tup []) (objs:=[(.cells [pN x1]),.cells [.p (vSl 2 C6 q1)],.yld [] false]) [0,1,2] ⟨false,rfl,rfl,_,rfl⟩
  exact Bool.noConfusion (Iu.symm.trans c16)
 obtain rfl:=B0 h;exact kO Z Fc (a:=.tup []) (objs:=[(.cells [pN x1]),.cells [.p (vSl 2 C6 q1)],.yld [] true]) [0,1,2] ⟨true,rfl,rfl,_,rfl⟩
def Ba (N:Nat)(a:Sl Node)(b:Int):Option (Int×(Sl Node)):= some (b,a)
theorem Ly {a:Sl Node}{b:Int}{y:Int×(Sl Node)}(h:Ba N a b=some y) :Mb S Lc [.p (vSl 2 C6 a),pN b] [] (.clo EY [] [.reg 0 0,.reg 1 0]) ([.cells [pN y.1],.cells [.p (vSl 2 C6 y.2)]]) []:=by unfold Ba at h;refine A2 Z func38 ?_;obtain rfl:=B0 h;exact kO Z Fc [4000,3000]
def Z8 (N:Nat)(a:Nm)(c:Int):Option ((Sl Int)×Int):= (K3 N a).bind λy1=>if (y1 != 0) then some (Iv,y1) else (U8 N a c).bind λy2=>if (!y2) then some (Iv,3) else (Ba N a.Tree c).bind λy3=>(T0 N y3.1 y3.2).bind λL1=>T4 L1 (λb (x1:Int) (z1:Sl Int)=>if (((0:Int)<=x1/\x1<(a.On.n:Int))/\(Kh 8 (z1.n+(a.On.g x1.toNat).n)))then b (z1.app (a.On.g x1.toNat)) else none) (λ(z1:Sl Int)=>some (z1,0)) Iv
theorem QN {a:Nm}{b:Int}{y:(Sl Int)×Int}(h:Z8 N a b=some y) :Mb S JC [.p (.agg (A7 a)),pN b] [] (.tup [.vec 0,pN y.2]) ([oV E4 1 (cI .i64) y.1 true]) []:=by
 unfold Z8 at h;refine A2 Z func105 ?_;refine F6 Z Fc 4 3000 (A7 a) ?_;obtain⟨y1,e1,h⟩:=A8 h;refine B3 Z [] Hz (CV Z Y e1) ?_;apply kI Z h<;>intro h
 .obtain rfl:=B0 h;exact kO Z Fc [5700]
 obtain⟨y2,e2,h⟩:=A8 h;refine B3 Z [] Hz (Ga Z Y e2) ?_;apply kI Z h<;>intro h
 .obtain rfl:=B0 h;exact kO Z Fc [5700]
 refine kC Z h (Ly Z Y) (λy3 h=>?_);obtain⟨L1,e4,h⟩:=A8 h;refine GS Z Fc [22000,22001] [7,2] 901 (λz1=>⟨[(7,.reg 8000 0),(2,.p (.ptr (A7 a)))],[(8500,oV E4 1 (cI .i64) z1 false),(8000,.cells [.vec 8500])]⟩) (idl:=[(8000,8000)]) h (IE Z Y e4) (λ_=>by kernel_rfl) (λ_=>by kernel_rfl) (λ_=>by kernel_rfl) (λ_=>by kernel_rfl) (λx1 _ c z1 d h=>?_) (λz1 h=>?_)
 .refine Ke Z Fc ?_;refine E3 Z Fc [2,4,5] ?_;obtain⟨c5,h⟩:=C9 h;refine C7 c5 ?_;exact d _ [(901,901),(8000,8000),(8500,30000)] _ (z1.app (a.On.g x1.toNat)) Fc h (hle:=kl1 0 (appS (cI .i64) z1 (a.On.g x1.toNat)))
 obtain rfl:=B0 h;exact kO Z Fc [8500]
def T1 (rec:Pat->Option Pat)(N:Nat)(a:Pat):Option Pat:= W8 N (λb (x2:Int)=>if (decide (x2<(a.L.n:Int))) then if ((0:Int)<=x2/\x2<(a.L.n:Int))then (rec (a.L.g x2.toNat)).bind λy3=>if (Kh 64 (x2.toNat+1))then b (wrap .i64 (x2+1)) else none else none else if x2.toNat=a.L.n then some a else none) 0
def S1:Nat->Pat->Option Pat
 |0=>λ_=>none
 |N+1=>T1 (S1 N) N
omit Z Y in
theorem wrapN {x:Int}(h:0<=x)(a:x.toNat+1<=140737488355328):(wrap .i64 (x+1)).toNat=x.toNat+1:=by have h1:(x+1) % (2 ^ 64:Int)=x+1:=Bo9 (by omega) (by omega);unfold wrap;simp only[IntKind.bits,IntKind.signed,h1];rw[Er (by simp;omega)];omega
theorem Lz {rec:Pat->Option Pat}(b:∀{a:Pat}{y:Pat},rec a=some y->Mb S AO [.p (.agg (D5 a))] [] (.p (.agg (D5 a))) ([]) []){a:Pat}{y:Pat}(h:T1 rec N a=some y) :Mb S AO [.p (.agg (D5 a))] [] (.p (.agg (D5 a))) ([]) []:=by
 unfold T1 at h;refine A2 Z func112 ?_;refine O7 Z Fc 8 ⟨[(7,.p (vSl 7 D5 a.L)),(3,.p C8),(2,.reg 3000 0),(1,.reg 2000 0)],[(3000,.cells [pN 0,pU 0,pU 0,.p (.v (.bool false)),pN 0,pN 0,.p C8]),(2000,.cells ((D5 a).map .p))]⟩ (ids:=(Kg [2000,3000])) ?_ (hle:=klR [(0,.fn a.L.n a.L.n (EC a) (λi=>D5 (a.L.g i)))] (al1 ⟨rfl,BY a⟩ al0));refine P9 Z Fc h (λx2=>⟨[(9,pN x2),(8,pN (a.L.n:Int)),(7,.p (vSl 7 D5 a.L)),(3,.vec 4500),(2,.reg 3000 0),(1,.reg 2000 0)],[(4500,.vec Gz 7 x2.toNat (λi=>D5 (a.L.g i)) false),(3000,.cells [pN 0,pU 0,pU 0,.p (.v (.bool false)),pN 0,pN 0,.p C8]),(2000,.cells ((D5 a).map .p))]⟩) (ids:=(Kg [2000,3000])) (λ_ _ _ _ _ c x2 d h=>?_);apply kI Z h<;>intro h
 .obtain⟨c6,h⟩:=C9 h;obtain⟨y3,e3,h⟩:=A8 h;refine B3 Z [] (Ki c6 Im) (b e3) ?_;obtain⟨c7,h⟩:=C9 h;exact d _ [(2000,2000),(3000,3000),(4500,18000)] _ (wrap .i64 (x2+1)) (Ki Iu c7) h (hle:=kl1 3 (L:=.fn (x2.toNat+1) (wrap .i64 (x2+1)).toNat (Gf x2.toNat (λi=>D5 (a.L.g i)) (H2 [pI .i64 0,pI .u32 0,pI .u32 0,.v (.bool false),pI .i64 0,pI .i64 0,C8] [(0,D5 (a.L.g x2.toNat))])) (λi=>D5 (a.L.g i))) ⟨(wrapN c6.1 c7.2).symm,λi f=>by
   unfold Gf;split
   .rfl
   obtain rfl:i=x2.toNat:=by omega
   simp[H2]⟩)
 obtain⟨c8,h⟩:=C9 h;exact J7 Z Fc ⟨[(2,.reg 3000 0)],[(3000,.cells [pN a.Kind,pU a.Is.Plus,pU a.Is.Minus,pB a.Not,pN a.Min,pN a.Max,.p (.sl false 7 a.L.n (EC a))])]⟩ [] (ids:=[(3000,3000)]) ⟨rfl,rfl,rfl⟩ (hle:=kl1 6 (L:=.fn x2.toNat a.L.n (λi=>D5 (a.L.g i)) (EC a)) ⟨c8,λi f=>(BY a i (by omega)).symm⟩)
theorem GA {a:Pat}{y:Pat}(h:S1 N a=some y) :Mb S AO [.p (.agg (D5 a))] [] (.p (.agg (D5 a))) ([]) []:=by
 induction N generalizing a y with
 |zero=>cases (show (none:Option Pat)=some y from h)
 |succ N ih=>exact Lz Z Y (λe=>ih e) h
def T7 (N:Nat)(a:Law):Option Law:= (S1 N a.Left).bind λ_=>(S1 N a.Right).bind λ_=>(A6 N a.If).bind λy3=>(H6 N a.Out).bind λy4=>some (⟨a.Name,a.Left,a.Right,y3,y4,a.Mode⟩:Law)
theorem HF {a:Law}{y:Law}(h:T7 N a=some y) :Mb S Hw [.p (.agg (B4 a))] [] (.p (.agg (B4 y))) ([]) []:=by unfold T7 at h;refine A2 Z func71 ?_;refine E3 Z Fc [2,5] ?_;obtain⟨y1,e1,h⟩:=A8 h;refine G3 Fc (GA Z Y e1) ?_;obtain⟨y2,e2,h⟩:=A8 h;refine G3 Fc (GA Z Y e2) ?_;refine C7 Fc ?_;refine E3 Z Fc [2,5] ?_;obtain⟨y3,e3,h⟩:=A8 h;refine G3 Fc (AR Z Y e3) ?_;obtain⟨y4,e4,h⟩:=A8 h;refine G3 Fc (CF Z Y e4) ?_;refine C7 Fc ?_;cases h;exact kR Z
def R6 (N:Nat)(c:Nm)(a:Sl Int):Option (Sl Law):= Bx N (λb (x1:Sl Law) (x2:Int)=>if (decide (x2<(a.n:Int))) then if (((0:Int)<=x2/\x2<(a.n:Int))/\((0:Int)<=(a.g x2.toNat)/\(a.g x2.toNat)<(c.Laws.n:Int)))then (T7 N (c.Laws.g (a.g x2.toNat).toNat)).bind λy3=>if (Kh 200 (x1.n+(Sl.of [y3]:Sl Law).n))then b (x1.push y3) (wrap .i64 (x2+1)) else none else none else some x1) (Sl.nil:Sl Law) 0
theorem JL {b:Nm}{a:Sl Int}{y:Sl Law}(h:R6 N b a=some y) :Mb S Ju [.p (.agg (A7 b)),.p (vSl 1 (cI .i64) a)] [] (.p (vSl 18 B4 y)) ([]) []:=by
 unfold R6 at h;refine A2 Z func40 ?_;refine I4 Z Fc h (λx1 x2=>⟨[(10,pN x2),(9,pN (a.n:Int)),(8,.p (vSl 1 (cI .i64) a)),(5,.vec 6500),(2,.reg 3000 0)],[(6500,oV H5 18 B4 x1 false),(3000,.cells ((A7 b).map .p))]⟩) (ids:=[(3000,3000)]) (λ_ _ _ _ _ c x1 x2 d h=>?_);apply kI Z h<;>intro h
 .obtain⟨c6,h⟩:=C9 h;obtain⟨y3,e3,h⟩:=A8 h;refine B3 Z [] (Ki (Ki c6.1 c6.2) Ip) (HF Z Y e3) ?_;obtain⟨c7,h⟩:=C9 h;exact d _ [(3000,3000),(6500,23000)] _ (x1.push y3) (wrap .i64 (x2+1)) (Ki Iu c7) h (hle:=kl1 3 (X5 B4 x1 y3 [.str [],pI .i64 0,pI .u32 0,pI .u32 0,.v (.bool false),pI .i64 0,pI .i64 0,C8,pI .i64 0,pI .u32 0,pI .u32 0,.v (.bool false),pI .i64 0,pI .i64 0,C8,C8,C8,pI .i64 0]))
 obtain rfl:=B0 h;exact kO Z Fc []
def R7 (N:Nat)(a:Nm)(b:Int):Option ((Sl Law)×Int):= (Z8 N a b).bind λy1=>(R6 N a y1.1).bind λy2=>some (y2,y1.2)
theorem QO {a:Nm}{b:Int}{y:(Sl Law)×Int}(h:R7 N a b=some y) :Mb S Jx [.p (.agg (A7 a)),pN b] [] (.tup [.p (vSl 18 B4 y.1),pN y.2]) ([]) []:=by unfold R7 at h;refine A2 Z func65 ?_;refine kC Z h (QN Z Y) (λy1 h=>?_);refine kC Z h (JL Z Y) (λy2 h=>?_);cases h;exact kR Z
def CW (N:Nat)(a:Nm)(b:Sl Jf):Option Int:= (K3 N a).bind λy1=>if (y1 != 0) then some y1 else (W9 N b).bind λy2=>some y2
theorem PD {a:Nm}{b:Sl Jf}{y:Int}(h:CW N a b=some y) :Mb S Ii [.p (.agg (A7 a)),.p (vSl 2 A0 b)] [] (pN y) ([]) []:=by
 unfold CW at h;refine A2 Z func36 ?_;refine kC Z h (CV Z Y) (λy1 h=>?_);apply kI Z h<;>intro h
 .cases h;exact kR Z
 refine kC Z h (DQ Z Y) (λy2 h=>?_);cases h;exact kR Z
def Cz (N:Nat)(a:Nm)(c:Sl Jf)(d:Int):Option ((Sl Jf)×Int):= (CW N a c).bind λy1=>if (y1 != 0) then some (Iy,y1) else (U8 N a d).bind λy2=>if (!y2) then some (Iy,3) else (Ba N a.Tree d).bind λy3=>(T0 N y3.1 y3.2).bind λL1=>T4 L1 (λb (x1:Int) (z1:Sl Jf)=>if ((0:Int)<=x1/\x1<(a.On.n:Int))then (R6 N a (a.On.g x1.toNat)).bind λy8=>(S9 N y8 z1).bind λy9=>if (y9.2 != 0) then some (Iy,y9.2) else b y9.1 else none) (λ(z1:Sl Jf)=>some (z1,0)) c
theorem VW {a:Nm}{b:Sl Jf}{c:Int}{y:(Sl Jf)×Int}(h:Cz N a b c=some y) :Mb S ME [.p (.agg (A7 a)),.p (vSl 2 A0 b),pN c] [] (.tup [.p (vSl 2 A0 y.1),pN y.2]) ([]) []:=by
 unfold Cz at h;refine A2 Z func14 ?_;refine F6 Z Fc 4 4000 (A7 a) ?_;obtain⟨y1,e1,h⟩:=A8 h;refine B3 Z [] Hz (PD Z Y e1) ?_;apply kI Z h<;>intro h
 .obtain rfl:=B0 h;exact J7 Z Fc ⟨[(7,.reg 8000 0),(6,.reg 7000 0)],[(8000,.cells [pN y1]),(7000,.cells [.p (vSl 2 A0 Iy)])]⟩ [] (ids:=(Kg [7000,8000])) ⟨rfl,rfl,rfl⟩
 obtain⟨y2,e2,h⟩:=A8 h;refine B3 Z [] Hz (Ga Z Y e2) ?_;apply kI Z h<;>intro h
 .obtain rfl:=B0 h;exact J7 Z Fc ⟨[(7,.reg 8000 0),(6,.reg 7000 0)],[(8000,.cells [pN 3]),(7000,.cells [.p (vSl 2 A0 Iy)])]⟩ [] (ids:=(Kg [7000,8000])) ⟨rfl,rfl,rfl⟩
 refine kC Z h (Ly Z Y) (λy3 h=>?_);obtain⟨L1,e4,h⟩:=A8 h;refine GS Z Fc [25000,25001] [7,6,4,3] 901 (λz1=>⟨[(7,.reg 8000 0),(6,.reg 7000 0),(4,.reg 5000 0),(3,.p (.ptr (A7 a)))],[(8000,.cells [pN 0]),(7000,.cells [.p C8]),(5000,.cells [.p (vSl 2 A0 z1)])]⟩) (idl:=(Kg [5000,7000,8000])) h (IE Z Y e4) (λ_=>by kernel_rfl) (λ_=>by kernel_rfl) (λ_=>by kernel_rfl) (λ_=>by kernel_rfl) (λx1 _ d z1 f h=>?_) (λz1 h=>?_)
 .refine Ke Z Fc ?_;refine E3 Z Fc [0,2,4,5,6,8] ?_;obtain⟨c7,h⟩:=C9 h;obtain⟨y8,e9,h⟩:=A8 h;refine G3 (Ki Hz c7) (JL Z Y e9) ?_;obtain⟨y9,e10,h⟩:=A8 h;refine G3 Fc (Fl Z Y e10) ?_;refine C7 Fc ?_;apply kI Z h<;>intro h
  .refine NH Z Fc ⟨[(7,.reg 8000 0),(6,.reg 7000 0),(4,.reg 5000 0),(3,.p (.ptr (A7 a)))],[(8000,.cells [pN y9.2]),(7000,.cells [.p C8]),(5000,.cells [.p (vSl 2 A0 y9.1)])]⟩ (ids:=(Kg [901,5000,7000,8000])) ?_;obtain rfl:=B0 h;exact J7 Z Fc ⟨[(7,.reg 8000 0),(6,.reg 7000 0)],[(8000,.cells [pN y9.2]),(7000,.cells [.p (vSl 2 A0 Iy)])]⟩ [] (ids:=(Kg [7000,8000])) ⟨rfl,rfl,rfl⟩
  exact f _ (Kg [901,5000,7000,8000]) _ y9.1 Fc h
 cases h;exact kR Z
end Go.AM
namespace Go.AM
open IntKind (wrap)
open Go.Proofs
set_option maxRecDepth 10000
set_option maxHeartbeats 2000000
variable {S:U6}(Z:G6 S Tryz.prog) (Y:Km S)
abbrev Fm {T:Type}(e:TypeId)(k:Nat)(c:T->List PV)(x:Sl T):Obj:=.vec e k x.n (λq=>c (x.g q)) false
def Bd2 {T:Type}{e:TypeId}{k n i:Nat}{c:T->List PV}{X:Sl (Sl T)}{z:Sl T}:∀q,q<n->(λq=>if q=i then Fm e k c z else if q=i then Obj.dead else Fm e k c (X.g q)) q=(λq=>Fm e k c ((X.upd i z).g q)) q:=λq _=>by by_cases h:q=i<;>simp[h]
include Z Y
def AB (N:Nat)(a:Sl Node):Option (Sl (Sl Int)):= if ((0:Int)<=(a.n:Int)/\(a.n:Int)<=(a.n:Int)/\(a.n:Int)*24<=140737488355328/\(a.n:Int)<=140737488355328)then Bx N (λb (x:Int) (X:Sl (Sl Int))=>if (decide (x<(a.n:Int))) then if ((0:Int)<=x/\x<(a.n:Int))then if (a.g x.toNat).No.toNat<X.n then lt (λ(z:Sl Int)=>b (wrap .i64 (x+1)) (X.upd (a.g x.toNat).No.toNat z)) λk=>if (decide (0<x)) then if (((0:Int)<=(a.g x.toNat).No/\(a.g x.toNat).No<(X.n:Int))/\(Kh 8 ((X.g (a.g x.toNat).No.toNat).n+1)))then k ((X.g (a.g x.toNat).No.toNat).push x) else none else k (X.g (a.g x.toNat).No.toNat) else none else none else some X) 0 ⟨a.n,λ_=>Sl.nil⟩ else none
theorem PE {N:Nat}{b:Sl Node}{y:Sl (Sl Int)}(h:AB N b=some y) :Mb S Iq [.p (vSl 2 C6 b)] [] (.p (vSl 1 (cL 1 (cI .i64)) y)) [] []:=by
 unfold AB at h;refine A2 Z Tryz.func116 ?_;obtain⟨c1,h⟩:=C9 h;refine EX Z c1 9 (.fam 9000 9901 λi=>Fm E4 1 (cI .i64) ((⟨b.n,λ_=>Sl.nil⟩:Sl (Sl Int)).g i)) (⟨by decide,λi _=>rfl⟩:1000<=9901/\∀i,i<b.n->Rc [C8] (Fm E4 1 (cI .i64) ((⟨b.n,λ_=>Sl.nil⟩:Sl (Sl Int)).g i))) ?_;refine I4 Z Fc h (λx X=>⟨[(11,pN x),(10,pN (b.n:Int)),(9,.p (vSl 2 C6 b)),(3,.vec 9000)],[(9901,.rows X.n λi=>Fm E4 1 (cI .i64) (X.g i)),(9000,.fam FJ X.n 9901 none)]⟩) (ids:=(Kg [9901,9000])) (λ_ _ _ _ _ f x X d h=>?_);apply kI Z h<;>intro h
 .obtain⟨c2,h⟩:=C9 h;obtain⟨c3,h⟩:=C9 h;refine EX Z (Ki c2 Hm) 17 (.take 9000 (b.g x.toNat).No.toNat 9801) (⟨⟨by decide,rfl⟩,c3⟩:(1000<=9801/\X.n=X.n)/\(b.g x.toNat).No.toNat<X.n) ?_;refine Mz Z Fc (A4 Z) h 0 (λz=>⟨[(11,pN x),(10,pN (b.n:Int)),(9,.p (vSl 2 C6 b)),(3,.vec 9000)],
   [(9901,(.rows X.n λl=>if l=(b.g x.toNat).No.toNat then .dead else Fm E4 1 (cI .i64) (X.g l))),(9801,Fm E4 1 (cI .i64) z),(9000,.fam FJ X.n 9901 (some ((b.g x.toNat).No.toNat,.vec 9801)))]⟩) (λM k c h=>?_) (λz h=>?_)
  .apply kI Z h<;>intro h
   .obtain⟨c4,h⟩:=C9 h;refine F7 Z Fc [(0,.n),(1,.n),(2,.l [6000]),(3,.n),(4,.n),(5,.l [6000]),(6,.l [9000]),(7,.l [9000]),(8,.n),(10,.a [29000,9801]),(11,.l [9000]),(12,.a [9000])] ?_;refine N3 (Ki c4.1 (Ki c3 (rfl:(b.g x.toNat).No.toNat=(b.g x.toNat).No.toNat))) (x:=.sl true 1 1 (H2 [pI .i64 0] [(0,cI .i64 x)])) ?_;refine C7 (Ki (Ki c4.2 c4.1) (Ki c3 (rfl:(b.g x.toNat).No.toNat=(b.g x.toNat).No.toNat))) ?_;exact c _ [(9901,9901),(9801,29000),(9000,9000)] _ ((X.g (b.g x.toNat).No.toNat).push x) Fc h (hle:=kl1 5 (X5 (cI .i64) (X.g (b.g x.toNat).No.toNat) x [pI .i64 0]))
   exact c _ (Kg [9901,9801,9000]) _ (X.g (b.g x.toNat).No.toNat) Fc h
  refine EX Z Fc 30 (.put 9000 9902) (⟨⟨by decide,rfl⟩,c3⟩:(1000<=9902/\X.n=X.n)/\(b.g x.toNat).No.toNat<X.n) ?_;exact d _ [(9901,9902),(9000,9000)] _ (wrap .i64 (x+1)) (X.upd (b.g x.toNat).No.toNat z) Fc h (hle:=klR [(4,.ob X.n (λq=>if q=(b.g x.toNat).No.toNat then Fm E4 1 (cI .i64) z else if q=(b.g x.toNat).No.toNat then .dead else Fm E4 1 (cI .i64) (X.g q)) λi=>Fm E4 1 (cI .i64) ((X.upd (b.g x.toNat).No.toNat z).g i))] (al1 Bd2 al0))
 refine EX Z Fc 31 (.pub 9000) (⟨rfl,λi _=>rfl⟩:X.n=X.n/\∀i,i<X.n->(Ra (Fm E4 1 (cI .i64) (X.g i))).isSome=true) ?_;obtain rfl:=B0 h;exact kO Z Fc [] (hle:=klR [(0,.fn X.n X.n (λi=>[(Ra (Fm E4 1 (cI .i64) (X.g i))).getD default]) (λi=>cL 1 (cI .i64) (X.g i)))] (al1 ⟨rfl,λ_ _=>rfl⟩ al0))
end Go.AM
namespace Go.AM
open Go.Proofs.Tryz
variable {N:Nat}
open IntKind (wrap)
open Go.Proofs
set_option maxRecDepth 10000
set_option maxHeartbeats 2000000
variable {S:U6}(Z:G6 S Tryz.prog) (Y:Km S)
include Z Y
def CX (N:Nat)(b:Sl Node):Option (Sl Int):= (AB N b).bind λy1=>Bx N (λa (x1:Sl Int) (x2:Int)=>if (decide (x2<(y1.n:Int))) then if ((0:Int)<=x2/\x2<(y1.n:Int))then if (((y1.g x2.toNat).n:Int)==0) then if (Kh 8 (x1.n+(Sl.of [x2]:Sl Int).n))then a (x1.push x2) (wrap .i64 (x2+1)) else none else a x1 (wrap .i64 (x2+1)) else none else some x1) Iv 0
theorem TD {a:Sl Node}{y:Sl Int}(h:CX N a=some y) :Mb S Li [.p (vSl 2 C6 a)] [] (.vec 0) ([oV E4 1 (cI .i64) y true]) []:=by
 unfold CX at h;refine A2 Z func74 ?_;refine kC Z h (PE Z Y) (λy1 h=>?_);refine I4 Z Fc h (λx1 x2=>⟨[(9,pN x2),(8,pN (y1.n:Int)),(7,.p (vSl 1 (cL 1 (cI .i64)) y1)),(3,.vec 4500)],[(4500,oV E4 1 (cI .i64) x1 false)]⟩) (ids:=[]) (λ_ _ _ _ _ d x1 x2 c h=>?_);apply kI Z h<;>intro h
 .obtain⟨c8,h⟩:=C9 h;refine D0 Z c8 (b:=((y1.g x2.toNat).n:Int)==0) (λc9=>?_) (λc9=>?_)
  .replace h:=itT c9 h;obtain⟨c10,h⟩:=C9 h;exact c _ [(4500,21000)] _ (x1.push x2) (wrap .i64 (x2+1)) (Ki Iu c10) h (hle:=kl1 3 (X5 (cI .i64) x1 x2 [pI .i64 0]))
  replace h:=itF c9 h;exact c _ [(4500,4500)] _ x1 (wrap .i64 (x2+1)) Fc h
 obtain rfl:=B0 h;exact kO Z Fc [4500]
def Q9 (N:Nat)(a:Sl Node):Option ((Sl Int)×Int):= (X1 N a).bind λy1=>if (y1 != 0) then some (Iv,y1) else (CX N a).bind λy2=>some (y2,0)
theorem EE {a:Sl Node}{y:(Sl Int)×Int}(h:Q9 N a=some y) :Mb S Ld [.p (vSl 2 C6 a)] [] (.tup [.vec 0,pN y.2]) ([oV E4 1 (cI .i64) y.1 true]) []:=by
 unfold Q9 at h;refine A2 Z func42 ?_;refine kC Z h (FM Z Y) (λy1 h=>?_);apply kI Z h<;>intro h
 .obtain rfl:=B0 h;exact kO Z Fc [3700]
 refine kC Z h (TD Z Y) (λy2 h=>?_);obtain rfl:=B0 h;exact kO Z Fc [12000]
def BV (N:Nat)(b:Sl Node)(c:Int):Option (Sl Int):= Bx N (λa (x1:Sl Int) (x2:Int)=>if (decide (x2<(b.n:Int))) then if ((0:Int)<=x2/\x2<(b.n:Int))then if ((b.g x2.toNat).No==c) then if (Kh 8 (x1.n+(Sl.of [x2]:Sl Int).n))then a (x1.push x2) (wrap .i64 (x2+1)) else none else a x1 (wrap .i64 (x2+1)) else none else some x1) Iv 0
theorem QP {a:Sl Node}{c:Int}{y:Sl Int}(h:BV N a c=some y) :Mb S Js [.p (vSl 2 C6 a),pN c] [] (.vec 0) ([oV E4 1 (cI .i64) y true]) []:=by
 unfold BV at h;refine A2 Z func35 ?_;refine I4 Z Fc h (λx1 x2=>⟨[(6,pN x2),(5,.vec 6500),(1,pN c),(0,.p (vSl 2 C6 a))],[(6500,oV E4 1 (cI .i64) x1 false)]⟩) (ids:=[]) (λ_ _ _ _ _ f x1 x2 d h=>?_);apply kI Z h<;>intro h
 .obtain⟨c8,h⟩:=C9 h;refine D0 Z c8 (b:=(a.g x2.toNat).No==c) (λc9=>?_) (λc9=>?_)
  .replace h:=itT c9 h;obtain⟨c10,h⟩:=C9 h;exact d _ [(6500,24000)] _ (x1.push x2) (wrap .i64 (x2+1)) (Ki Iu c10) h (hle:=kl1 3 (X5 (cI .i64) x1 x2 [pI .i64 0]))
  replace h:=itF c9 h;exact d _ [(6500,6500)] _ x1 (wrap .i64 (x2+1)) Fc h
 obtain rfl:=B0 h;exact kO Z Fc [6500]
def AC (N:Nat)(b:Sl Node):Option ((Sl Int)×Int):= (Dt N b).bind λy1=>if (y1 != 0) then some (Iv,y1) else Bx N (λa (x1:Sl Int) (x2:Int)=>if (decide (x2<(b.n:Int))) then (BV N b x2).bind λy4=>if ((y4.n:Int)==0) then if (Kh 8 (x1.n+(Sl.of [x2]:Sl Int).n))then a (x1.push x2) (wrap .i64 (x2+1)) else none else a x1 (wrap .i64 (x2+1)) else some (x1,0)) Iv 0
theorem VX {a:Sl Node}{y:(Sl Int)×Int}(h:AC N a=some y) :Mb S MD [.p (vSl 2 C6 a)] [] (.tup [.vec 0,pN y.2]) ([oV E4 1 (cI .i64) y.1 true]) []:=by
 unfold AC at h;refine A2 Z func13 ?_;refine kC Z h (XY Z Y) (λy1 h=>?_);apply kI Z h<;>intro h
 .obtain rfl:=B0 h;exact kO Z Fc [3700]
 refine I4 Z Fc h (λx1 x2=>⟨[(6,pN x2),(5,.vec 6500),(0,.p (vSl 2 C6 a))],[(6500,oV E4 1 (cI .i64) x1 false)]⟩) (ids:=[]) (λ_ _ _ _ _ c x1 x2 b h=>?_);apply kI Z h<;>intro h
 .refine kC Z h (QP Z Y) (λy4 h=>?_);apply kI Z h<;>intro h
  .obtain⟨c8,h⟩:=C9 h;exact b _ [(6500,27000)] _ (x1.push x2) (wrap .i64 (x2+1)) (Ki Iu c8) h (hle:=kl1 2 (X5 (cI .i64) x1 x2 [pI .i64 0]))
  exact b _ [(6500,6500)] _ x1 (wrap .i64 (x2+1)) Fc h
 obtain rfl:=B0 h;exact kO Z Fc [6500]
def DW (N:Nat)(c:Sl Node)(a:Sl Int):Option Int:= (X1 N c).bind λy1=>if (y1 != 0) then some y1 else W8 N (λb (x1:Int)=>if (decide (x1<(a.n:Int))) then if ((0:Int)<=x1/\x1<(a.n:Int))then if ((decide ((a.g x1.toNat)<0))||(decide ((c.n:Int)<=(a.g x1.toNat)))) then some 3 else b (wrap .i64 (x1+1)) else none else some 0) 0
theorem VY {c:Sl Node}{b:Sl Int}{y:Int}(h:DW N c b=some y) :Mb S MS [.p (vSl 2 C6 c),.p (vSl 1 (cI .i64) b)] [] (pN y) ([]) []:=by
 unfold DW at h;refine A2 Z func137 ?_;refine kC Z h (FM Z Y) (λy1 h=>?_);apply kI Z h<;>intro h
 .cases h;exact kR Z
 refine P9 Z Fc h (λx1=>⟨[(15,pN x1),(14,pN (b.n:Int)),(13,.p (vSl 1 (cI .i64) b)),(0,.p (vSl 2 C6 c))],[]⟩) (ids:=[]) (λ_ _ _ _ _ d x1 f h=>?_);apply kI Z h<;>intro h
 .obtain⟨c9,h⟩:=C9 h;refine kB Z (A4 Z) c9 Fc 5 (.o (.a (decide ((b.g x1.toNat)<0))) (.a (decide ((c.n:Int)<=(b.g x1.toNat))))) ?_;apply kI Z h<;>intro h
  .cases h;exact kR Z
  exact f _ [] _ (wrap .i64 (x1+1)) Fc h
 cases h;exact kR Z
def Fn (N:Nat)(q0:Int)(q1:Sl Node):Option (List (Int)):= W8 N (λa (x1:Int)=>if (decide (0<=x1)) then Ag x1 (if ((0:Int)<=x1/\x1<(q1.n:Int))then a (q1.g x1.toNat).No else none) else some []) q0
theorem XZ {q0:Int}{q1:Sl Node}{L:List (Int)}(h:Fn N q0 q1=some L) :ET S Kj [] [.reg 0 0,.reg 1 0] [.cells [pN q0],.cells [.p (vSl 2 C6 q1)]] (L.map (λ(x:Int)=>[pI .i64 x])):=by
 unfold Fn at h;refine EB Z func176 ?_;refine Dl Z Fc h (λx1 L1=>⟨[(2,.reg 1 0),(1,.reg 0 0),(0,.yf 2)],[(2,.yld (L1.map (λ(x:Int)=>[pI .i64 x])) true),(1,.cells [.p (vSl 2 C6 q1)]),(0,.cells [pN x1])]⟩) (ids:=(Kg [0,1,2])) (λ_ _ _ _ _ d x1 L1 f h=>?_);apply kI Z h<;>intro h
 .obtain⟨L4,rfl,c⟩:=LY h;replace h:=c;refine Dk Z Fc (ys:=(λ(x:Int)=>[pI .i64 x]) x1) (rest:=L4.map (λ(x:Int)=>[pI .i64 x])) ?_ ?_
  .refine D0 Z Fc (b:=false) (λc8=>?_) (λc8=>?_)
   .exact Bool.noConfusion ((rfl:false=false).symm.trans c8)
   obtain⟨c9,h⟩:=C9 h;exact f _ (Kg [0,1,2]) _ (q1.g x1.toNat).No L4 c9 h
  refine D0 Z Fc (b:=true) (λc10=>?_) (λc10=>?_)
  .exact kO Z Fc (a:=.tup []) (objs:=[(.cells [pN x1]),.cells [.p (vSl 2 C6 q1)],.yld [] false]) [0,1,2] ⟨false,rfl,rfl,_,rfl⟩
  exact Bool.noConfusion (Iu.symm.trans c10)
 obtain rfl:=B0 h;exact kO Z Fc (a:=.tup []) (objs:=[(.cells [pN x1]),.cells [.p (vSl 2 C6 q1)],.yld [] true]) [0,1,2] ⟨true,rfl,rfl,_,rfl⟩
def LA (N:Nat)(a:Sl Node)(b:Int):Option (Int×(Sl Node)):= some (b,a)
theorem Ao7 {a:Sl Node}{b:Int}{y:Int×(Sl Node)}(h:LA N a b=some y) :Mb S VE [.p (vSl 2 C6 a),pN b] [] (.clo Kj [] [.reg 0 0,.reg 1 0]) ([.cells [pN y.1],.cells [.p (vSl 2 C6 y.2)]]) []:=by unfold LA at h;refine A2 Z func139 ?_;obtain rfl:=B0 h;exact kO Z Fc [4000,3000]
def G5 (N:Nat)(a:List (Int)):Option (Sl Int):= T4 a (λb (x1:Int) (z1:Sl Int)=>if (Kh 8 (z1.n+(Sl.of [x1]:Sl Int).n))then b (z1.push x1) else none) (λ(z1:Sl Int)=>some z1) Iv
theorem DX {c:List (Int)}{a:Int}{b:(Sl Node)}{kp_seq:Nat}(fp_seq:∃fn,Bh6[kp_seq]? = some fn/\fn.body.isSome=true/\(fn.name == "runtime.NumGoroutine")=false)(d:ET S kp_seq [] [.reg 0 0,.reg 1 0] [(.cells [(pN a)]),(.cells [(.p (vSl 2 C6 b))])] (c.map (λ(x:Int)=>[(pI .i64) x]))){y:(Sl Int)}(h:G5 N c=some y) :Mb S P8 [(.p C8),(.clo kp_seq [] [(.reg 0 0),(.reg 1 0)])] [(.cells [(pN a)]),(.cells [(.p (vSl 2 C6 b))])] (.vec 0) ([(oV E4 1 (cI .i64) y false)]) [false,false]:=by
 unfold G5 at h;refine A2 Z func175 ?_;refine NG Z Fc fp_seq [0,1] [2] 901 (λz1=>⟨[(2,(.reg 3000 0))],[(3500,(oV E4 1 (cI .i64) z1 false)),(3000,(.cells [(.vec 3500)]))]⟩) (idl:=[(3000,3000)]) h d (λ_=>by kernel_rfl) (λ_=>by kernel_rfl) (λ_=>by kernel_rfl) (λ_=>by kernel_rfl) (λx1 _ f z1 g h=>?_) (λz1 h=>?_)
 .refine Ke Z Fc ?_;obtain⟨c1,h⟩:=C9 h;exact g _ [(901,901),(3000,3000),(3500,12000)] _ (z1.push x1) (Ki Iu c1) h (hle:=kl1 0 (X5 (cI .i64) z1 x1 [(pI .i64 0)]))
 obtain rfl:=B0 h;exact kO Z Fc [3500]
def U3 (N:Nat)(a:List (Int)):Option (Sl Int):= (G5 N a).bind λy1=>some y1
theorem IF {c:List (Int)}{a:Int}{b:(Sl Node)}{kp_seq:Nat}(fp_seq:∃fn,Bh6[kp_seq]? = some fn/\fn.body.isSome=true/\(fn.name == "runtime.NumGoroutine")=false)(d:ET S kp_seq [] [.reg 0 0,.reg 1 0] [(.cells [(pN a)]),(.cells [(.p (vSl 2 C6 b))])] (c.map (λ(x:Int)=>[(pI .i64) x]))){y:(Sl Int)}(h:U3 N c=some y) :Mb S Bj [(.clo kp_seq [] [(.reg 0 0),(.reg 1 0)])] [(.cells [(pN a)]),(.cells [(.p (vSl 2 C6 b))])] (.vec 0) ([(oV E4 1 (cI .i64) y false)]) [false,false]:=by unfold U3 at h;refine A2 Z func138 ?_;obtain⟨y1,e1,h⟩:=A8 h;refine B3 Z [0,1] Fc (DX Z Y fp_seq d e1) ?_;obtain rfl:=B0 h;exact kO Z Fc [5000]
def I6 (N:Nat)(b:Sl Int):Option (Sl Int):= Ay9 N (λa (x1:Sl Int) (x2:Int) (x3:Int)=>if (decide (x2<x3)) then if (((((((((0:Int)<=x3/\x3<(x1.n:Int))/\x3.toNat<x1.n)/\((0:Int)<=x2/\x2<(x1.n:Int)))/\x2.toNat<x1.n)/\((0:Int)<=x2/\x2<(x1.n:Int)))/\x2.toNat<x1.n)/\((0:Int)<=x3/\x3<((x1.upd x2.toNat (x1.g x3.toNat)).n:Int)))/\x3.toNat<(x1.upd x2.toNat (x1.g x3.toNat)).n)then a ((x1.upd x2.toNat (x1.g x3.toNat)).upd x3.toNat (x1.g x2.toNat)) (wrap .i64 (x2+1)) (wrap .i64 (x3-1)) else none else some x1) b 0 (wrap .i64 ((b.n:Int)-1))
theorem Fo {a:Sl Int}{y:Sl Int}(h:I6 N a=some y) :Mb S Ap [.vec 0] [oV E4 1 (cI .i64) a false] (.tup []) ([oV E4 1 (cI .i64) y false]) [true]:=by
 unfold I6 at h;refine A2 Z func140 ?_;refine OC Z Fc h (λx1 x2 x3=>⟨[(3,pN x3),(2,pN x2),(0,.vec 0)],[(0,oV E4 1 (cI .i64) x1 false)]⟩) (ids:=[(0,0)]) (λ_ _ _ _ _ b x1 x2 x3 d h=>?_);apply kI Z h<;>intro h
 .refine EW Z Fc ?_;obtain⟨c6,h⟩:=C9 h;refine C7 (Ki (Ki (Ki (Ki (Ki (Ki (Ki c6.1.1.1.1.1.1.1 c6.1.1.1.1.1.1.2) c6.1.1.1.1.1.2) c6.1.1.1.1.2) c6.1.1.1.2) (Ki (rfl:(1:Nat)=1) (Ki c6.1.1.2 Gt))) c6.1.2) (Ki (rfl:(1:Nat)=1) (Ki c6.2 Gt))) ?_;exact d _ [(0,0)] _ ((x1.upd x2.toNat (x1.g x3.toNat)).upd x3.toNat (x1.g x2.toNat)) (wrap .i64 (x2+1)) (wrap .i64 (x3-1)) Fc h (hle:=klR [(2,.fn x1.n ((x1.upd x2.toNat (x1.g x3.toNat)).upd x3.toNat (x1.g x2.toNat)).n (λl=>if l=x3.toNat then splice ((λl=>if l=x2.toNat then splice ((λi=>cI .i64 (x1.g i)) l) 0 [pI .i64 (x1.g x3.toNat)]else (λi=>cI .i64 (x1.g i)) l) l) 0 [pI .i64 (x1.g x2.toNat)]else (λl=>if l=x2.toNat then splice ((λi=>cI .i64 (x1.g i)) l) 0 [pI .i64 (x1.g x3.toNat)]else (λi=>cI .i64 (x1.g i)) l) l) (λi=>cI .i64 (((x1.upd x2.toNat (x1.g x3.toNat)).upd x3.toNat (x1.g x2.toNat)).g i)))] (al1 ⟨rfl,AW0 (c:=cI .i64) (v:=x1.upd x2.toNat (x1.g x3.toNat)) (x:=x1.g x2.toNat) (AW0 (c:=cI .i64) (v:=x1) (x:=x1.g x3.toNat) same (λ_=>by first|rfl|(dsimp only;split<;>rfl))) (λ_=>by first|rfl|(dsimp only;split<;>rfl))⟩ al0))
 obtain rfl:=B0 h;exact kO Z Fc [0]
def Fp (N:Nat)(a:Sl Node)(b:Int):Option ((Sl Int)×Int):= (DW N a (Sl.of [b]:Sl Int)).bind λy1=>if (y1 != 0) then some (Iv,y1) else (LA N a b).bind λy2=>(Fn N y2.1 y2.2).bind λL1=>(U3 N L1).bind λy3=>(I6 N y3).bind λy4=>some (y4,0)
theorem Ya {b:Sl Node}{a:Int}{y:(Sl Int)×Int}(h:Fp N b a=some y) :Mb S Pf [.p (vSl 2 C6 b),pN a] [] (.tup [.vec 0,pN y.2]) ([oV E4 1 (cI .i64) y.1 true]) []:=by
 unfold Fp at h;refine A2 Z func93 ?_;refine KS Z Iu ⟨[(10,.vec 11000),(8,.p (vSl 2 C6 b)),(1,pN a),(0,.p (vSl 2 C6 b))],[(11000,oV E4 1 (cI .i64) (Sl.of [a]:Sl Int) false)]⟩ (ids:=[(11000,11000)]) ?_ (hle:=kl1 3 (Ac7 (cI .i64) ([a]:List Int) [pI .i64 0]));refine kC Z h (VY Z Y) (λy1 h=>?_);apply kI Z h<;>intro h
 .obtain rfl:=B0 h;exact kO Z Fc [5700]
 refine kC Z h (Ao7 Z Y) (λy2 h=>?_);obtain⟨L1,e3,h⟩:=A8 h;obtain⟨y3,e4,h⟩:=A8 h;refine B3 Z [18000,18001] Fc (IF Z Y ⟨_,func176,by decide +kernel,by decide +kernel⟩ (XZ Z Y e3) e4) ?_;obtain⟨y4,e5,h⟩:=A8 h;refine AQ6 Z [19000] Fc (Fo Z Y e5) ?_;obtain rfl:=B0 h;exact kO Z Fc [19000]
def CA (N:Nat)(a:Sl Jf):Option Str:= Bx N (λb (x1:Sl Int) (x2:Int)=>if (decide (x2<(a.n:Int))) then if ((0:Int)<=x2/\x2<(a.n:Int))then if (Kh 1 (x1.n+(Fd (a.g x2.toNat).Plus).n))then if (Kh 1 ((x1.app (Fd (a.g x2.toNat).Plus)).n+(Fd (a.g x2.toNat).Minus).n))then b ((x1.app (Fd (a.g x2.toNat).Plus)).app (Fd (a.g x2.toNat).Minus)) (wrap .i64 (x2+1)) else none else none else none else some (strOf x1)) Iv 0
theorem MY {a:Sl Jf}{y:Str}(h:CA N a=some y) :Mb S MP [.p (vSl 2 A0 a)] [] (.p (.str y)) ([]) []:=by
 unfold CA at h;refine A2 Z func95 ?_;refine I4 Z Fc h (λx1 x2=>⟨[(10,pN x2),(9,pN (a.n:Int)),(8,.p (vSl 2 A0 a)),(3,.vec 4500)],[(4500,oV H9 1 (cI .u8) x1 false)]⟩) (ids:=[]) (λ_ _ _ _ _ d x1 x2 l h=>?_);apply kI Z h<;>intro h
 .obtain⟨c22,h⟩:=C9 h;refine AB0 Z (Ki c22 Hm) 2 (unrT [λt=>t=⟨[(19,pN 0),(18,.p (.agg [pI .u32 (a.g x2.toNat).Plus,pI .u32 (a.g x2.toNat).Minus])),(10,pN x2),(9,pN (a.n:Int)),(8,.p (vSl 2 A0 a)),(3,.vec 4501)],[(4501,oV H9 1 (cI .u8) x1 false)]⟩/\(
   if (Kh 1 (x1.n+(Fd (a.g x2.toNat).Plus).n))then
    if (Kh 1 ((x1.app (Fd (a.g x2.toNat).Plus)).n+(Fd (a.g x2.toNat).Minus).n))then
     d ((x1.app (Fd (a.g x2.toNat).Plus)).app (Fd (a.g x2.toNat).Minus)) (wrap .i64 (x2+1))
    else none
   else none
   )=some y,λt=>t=⟨[(19,pN 1),(18,.p (.agg [pI .u32 (a.g x2.toNat).Plus,pI .u32 (a.g x2.toNat).Minus])),(10,pN x2),(9,pN (a.n:Int)),(8,.p (vSl 2 A0 a)),(3,.vec 4500)],[(4500,.vec H9 1 (x1.app (Fd (a.g x2.toNat).Plus)).n (λi=>cI .u8 ((x1.app (Fd (a.g x2.toNat).Plus)).g i)) false)]⟩/\(
    if (Kh 1 ((x1.app (Fd (a.g x2.toNat).Plus)).n+(Fd (a.g x2.toNat).Minus).n))then
     d ((x1.app (Fd (a.g x2.toNat).Plus)).app (Fd (a.g x2.toNat).Minus)) (wrap .i64 (x2+1))
    else none
   )=some y,λt=>t=⟨[(19,pN 2),(18,.p (.agg [pI .u32 (a.g x2.toNat).Plus,pI .u32 (a.g x2.toNat).Minus])),(10,pN x2),(9,pN (a.n:Int)),(8,.p (vSl 2 A0 a)),(3,.vec 4501)],[(4501,.vec H9 1 ((x1.app (Fd (a.g x2.toNat).Plus)).app (Fd (a.g x2.toNat).Minus)).n (λi=>cI .u8 (((x1.app (Fd (a.g x2.toNat).Plus)).app (Fd (a.g x2.toNat).Minus)).g i)) false)]⟩/\(
    d ((x1.app (Fd (a.g x2.toNat).Plus)).app (Fd (a.g x2.toNat).Minus)) (wrap .i64 (x2+1))
   )=some y]) ⟨[(19,pN 0),(18,.p (.agg [pI .u32 (a.g x2.toNat).Plus,pI .u32 (a.g x2.toNat).Minus])),(10,pN x2),(9,pN (a.n:Int)),(8,.p (vSl 2 A0 a)),(3,.vec 4501)],[(4501,oV H9 1 (cI .u8) x1 false)]⟩ (ids:=[(4501,4500)]) ⟨rfl,h⟩ (λ_ _ _ _ i _ t f ht j=>?_)
  rcases i with _|_|_|i
  .obtain⟨rfl,h⟩:=ht;refine D0 Z Fc (b:=decide ((0:Int)<2)) (λc29=>?_) (λc29=>?_)
   .obtain⟨c30,h⟩:=C9 h;exact j _ [(4500,33000)] _ _ (Ki (Ki (Ki (Ki (by decide:(0:Int)<=0/\(0:Int)<2) (by decide:(0:Int)<=8)) (by decide:(0:Int)<=16)) Iu) c30) rfl ⟨rfl,h⟩ (hle:=klR [(5,.fn (x1.n+3) (x1.app (Fd (a.g x2.toNat).Plus)).n (Gf x1.n (λi=>cI .u8 (x1.g i)) (H2 [pI .u8 0] [(0,cI .u8 (wrap .u8 (a.g x2.toNat).Plus)),(1,cI .u8 (wrap .u8 (shI .shr .u32 (a.g x2.toNat).Plus 8))),(2,cI .u8 (wrap .u8 (shI .shr .u32 (a.g x2.toNat).Plus 16)))])) (λi=>cI .u8 ((x1.app (Fd (a.g x2.toNat).Plus)).g i)))] (al1 ⟨rfl,appL (c:=cI .u8) (v:=x1) (w:=(Fd (a.g x2.toNat).Plus)) same rfl (λi f=>match i,f with|0,_=>rfl|1,_=>rfl|2,_=>rfl|_+3,f=>Es f (by omega)) rfl⟩ al0))
   exact Bool.noConfusion ((by decide:decide ((0:Int)<2)=true).symm.trans c29)
  .obtain⟨rfl,h⟩:=ht;refine D0 Z Fc (b:=decide ((1:Int)<2)) (λc27=>?_) (λc27=>?_)
   .obtain⟨c28,h⟩:=C9 h;exact j _ [(4501,33000)] _ _ (Ki (Ki (Ki (Ki (by decide:(0:Int)<=1/\(1:Int)<2) (by decide:(0:Int)<=8)) (by decide:(0:Int)<=16)) Iu) c28) rfl ⟨rfl,h⟩ (hle:=klR [(5,.fn ((x1.app (Fd (a.g x2.toNat).Plus)).n+3) ((x1.app (Fd (a.g x2.toNat).Plus)).app (Fd (a.g x2.toNat).Minus)).n (Gf (x1.app (Fd (a.g x2.toNat).Plus)).n (λi=>cI .u8 ((x1.app (Fd (a.g x2.toNat).Plus)).g i)) (H2 [pI .u8 0] [(0,cI .u8 (wrap .u8 (a.g x2.toNat).Minus)),(1,cI .u8 (wrap .u8 (shI .shr .u32 (a.g x2.toNat).Minus 8))),(2,cI .u8 (wrap .u8 (shI .shr .u32 (a.g x2.toNat).Minus 16)))])) (λi=>cI .u8 (((x1.app (Fd (a.g x2.toNat).Plus)).app (Fd (a.g x2.toNat).Minus)).g i)))] (al1 ⟨rfl,appL (c:=cI .u8) (v:=x1.app (Fd (a.g x2.toNat).Plus)) (w:=(Fd (a.g x2.toNat).Minus)) same rfl (λi f=>match i,f with|0,_=>rfl|1,_=>rfl|2,_=>rfl|_+3,f=>Es f (by omega)) rfl⟩ al0))
   exact Bool.noConfusion ((by decide:decide ((1:Int)<2)=true).symm.trans c27)
  .obtain⟨rfl,h⟩:=ht;refine D0 Z Fc (b:=decide ((2:Int)<2)) (λc26=>?_) (λc26=>?_)
   .exact Bool.noConfusion ((by decide:decide ((2:Int)<2)=false).symm.trans c26)
   exact l _ [(4500,4501)] _ ((x1.app (Fd (a.g x2.toNat).Plus)).app (Fd (a.g x2.toNat).Minus)) (wrap .i64 (x2+1)) Fc h
  exact Es f (by omega)
 obtain rfl:=B0 h;exact Am0 Z ((λ_ _=>rfl):∀i:Nat,i<x1.n->true=true) [] ⟨rfl,rfl,rfl⟩
def D9 (N:Nat)(a:Sl H3)(c:H3->Option Bool):Option Int:= W8 N (λb (x1:Int)=>if (decide (x1<(a.n:Int))) then if ((0:Int)<=x1/\x1<(a.n:Int))then (c (a.g x1.toNat)).bind λy3=>if y3 then some x1 else b (wrap .i64 (x1+1)) else none else some (-1)) 0
theorem AD {a:Sl H3}{c:H3->Option Bool}{kp_f:Nat}(d:∀{a0:H3}{b:Bool},c a0=some b->Mb S kp_f [.p (.agg (F2 a0))] [] (pB b) [] []){y:Int}(h:D9 N a c=some y) :Mb S O8 [.p (vSl 2 F2 a),.clo kp_f [] []] [] (pN y) ([]) []:=by
 unfold D9 at h;refine A2 Z func174 ?_;refine P9 Z Fc h (λx1=>⟨[(8,pN x1),(7,pN (a.n:Int)),(1,.clo kp_f [] []),(0,.p (vSl 2 F2 a))],[]⟩) (ids:=[]) (λ_ _ _ _ _ f x1 g h=>?_);apply kI Z h<;>intro h
 .obtain⟨c8,h⟩:=C9 h;obtain⟨y3,e3,h⟩:=A8 h;refine B3 Z [] (Ki c8 Hm) (d e3) ?_;apply kI Z h<;>intro h
  .cases h;exact kR Z
  exact g _ [] _ (wrap .i64 (x1+1)) Fc h
 cases h;exact kR Z
def E8 (N:Nat)(a:Sl H3)(b:H3->Option Bool):Option Bool:= (D9 N a b).bind λy1=>some (decide (0<=y1))
theorem Z0 {a:Sl H3}{c:H3->Option Bool}{kp_f:Nat}(d:∀{a0:H3}{b:Bool},c a0=some b->Mb S kp_f [.p (.agg (F2 a0))] [] (pB b) [] []){y:Bool}(h:E8 N a c=some y) :Mb S N8 [.p (vSl 2 F2 a),.clo kp_f [] []] [] (pB y) ([]) []:=by unfold E8 at h;refine A2 Z func134 ?_;refine kC Z h (AD Z Y (λe=>d e)) (λy1 h=>?_);cases h;exact kR Z
def Cb (N:Nat)(a:H3):Option Bool:= some ((!a.Has)&&(decide (0<(a.W.n:Int))))
theorem Nv {b:H3}{y:Bool}(h:Cb N b=some y) :Mb S HA [.p (.agg (F2 b))] [] (pB y) ([]) []:=by unfold Cb at h;refine A2 Z func135 ?_;refine kB Z (A4 Z) Fc Fc 5 (.n (.a (!b.Has)) (.a (decide (0<(b.W.n:Int))))) ?_;cases h;exact kR Z
def Z9 (N:Nat)(a:Sl H3):Option Bool:= (E8 N a (λ(u1:H3)=>Cb N u1)).bind λy1=>some (!y1)
theorem JM {a:Sl H3}{y:Bool}(h:Z9 N a=some y) :Mb S Jz [.p (vSl 2 F2 a)] [] (pB y) ([]) []:=by unfold Z9 at h;refine A2 Z func90 ?_;refine kC Z h (Z0 Z Y (λe=>Nv Z Y e)) (λy1 h=>?_);cases h;exact kR Z
def Aa (N:Nat)(a:Sl H3):Option Int:= W8 N (λb (x1:Int)=>if (decide (x1<(a.n:Int))) then if ((0:Int)<=x1/\x1<(a.n:Int))then (W9 N (a.g x1.toNat).W).bind λy3=>if (y3 != 0) then some y3 else b (wrap .i64 (x1+1)) else none else some 0) 0
theorem JN {a:Sl H3}{y:Int}(h:Aa N a=some y) :Mb S JA [.p (vSl 2 F2 a)] [] (pN y) ([]) []:=by
 unfold Aa at h;refine A2 Z func92 ?_;refine P9 Z Fc h (λx1=>⟨[(8,pN x1),(7,pN (a.n:Int)),(6,.p (vSl 2 F2 a))],[]⟩) (ids:=[]) (λ_ _ _ _ _ b x1 c h=>?_);apply kI Z h<;>intro h
 .obtain⟨c8,h⟩:=C9 h;obtain⟨y3,e3,h⟩:=A8 h;refine B3 Z [] (Ki c8 Hm) (DQ Z Y e3) ?_;apply kI Z h<;>intro h
  .cases h;exact kR Z
  exact c _ [] _ (wrap .i64 (x1+1)) Fc h
 cases h;exact kR Z
def BW (N:Nat)(a:Str):Option Bool:= (X1 N (Sl.of [(⟨-1,a⟩:Node)]:Sl Node)).bind λy1=>some (y1==0)
theorem QR {a:Str}{y:Bool}(h:BW N a=some y) :Mb S JF [.p (.str a)] [] (pB y) ([]) []:=by unfold BW at h;refine A2 Z func136 ?_;refine KS Z Iu ⟨[(5,.vec 6000)],[(6000,oV O3 2 C6 (Sl.of [(⟨-1,a⟩:Node)]:Sl Node) false)]⟩ (ids:=[(6000,6000)]) ?_ (hle:=kl1 0 (Ac7 C6 ([(⟨-1,a⟩:Node)]:List Node) [pI .i64 0,.str []]));refine kC Z h (FM Z Y) (λy1 h=>?_);cases h;exact kR Z
def Z1 (N:Nat)(a:Sl Nr)(b:Int):Option Int:= W8 N (λc (x2:Int)=>if (decide (x2<(a.n:Int))) then if ((0:Int)<=x2/\x2<(a.n:Int))then lt (λ(z3:Bool)=>if z3 then some 2 else c (wrap .i64 (x2+1))) λk3=>if (((a.g x2.toNat).Nq.n:Int) != b) then k3 true else (Z9 N (a.g x2.toNat).Nq).bind λy6=>k3 (!y6) else none else W8 N (λd (x5:Int)=>if (decide (x5<(a.n:Int))) then if ((0:Int)<=x5/\x5<(a.n:Int))then (BW N (a.g x5.toNat).Gloss).bind λy9=>if (!y9) then some 15 else d (wrap .i64 (x5+1)) else none else some 0) 0) 0
theorem Nw {b:Sl Nr}{a:Int}{y:Int}(h:Z1 N b a=some y) :Mb S Hx [.p (vSl 2 F3 b),pN a] [] (pN y) ([]) []:=by
 unfold Z1 at h;refine A2 Z func91 ?_;refine P9 Z Fc h (λx2=>⟨[(11,pN x2),(10,pN (b.n:Int)),(9,.p (vSl 2 F3 b)),(1,pN a),(0,.p (vSl 2 F3 b))],[]⟩) (ids:=[]) (λ_ _ _ _ _ d x2 f h=>?_);apply kI Z h<;>intro h
 .obtain⟨c14,h⟩:=C9 h;refine Mz Z (Ki c14 Hm) (A4 Z) h 0 (λz3=>⟨[(25,pB z3),(11,pN x2),(10,pN (b.n:Int)),(9,.p (vSl 2 F3 b)),(1,pN a),(0,.p (vSl 2 F3 b))],[]⟩) (λM3 k3 c h=>?_) (λz3 h=>?_)
  .refine kG Z h (λh=>?_) (λh=>?_)
   .exact c _ [] _ true Fc h
   refine kC Z h (JM Z Y) (λy6 h=>?_);exact c _ [] _ (!y6) Fc h
  apply kI Z h<;>intro h
  .cases h;exact kR Z
  exact f _ [] _ (wrap .i64 (x2+1)) Fc h
 refine P9 Z Fc h (λx5=>⟨[(29,pN x5),(28,pN (b.n:Int)),(27,.p (vSl 2 F3 b))],[]⟩) (ids:=[]) (λ_ _ _ _ _ g x5 i h=>?_);apply kI Z h<;>intro h
 .obtain⟨c26,h⟩:=C9 h;obtain⟨y9,e9,h⟩:=A8 h;refine B3 Z [] (Ki c26 Hm) (QR Z Y e9) ?_;apply kI Z h<;>intro h
  .cases h;exact kR Z
  exact i _ [] _ (wrap .i64 (x5+1)) Fc h
 cases h;exact kR Z
def U9 (N:Nat)(d:Nm)(a:Sl H3)(b:Sl Nr):Option Int:= (K3 N d).bind λy1=>if (y1 != 0) then some y1 else (Q9 N d.Tree).bind λy2=>if (decide (256<(b.n:Int))) then some 12 else lt (λ(z1:Bool)=>if z1 then some 2 else (Z1 N b (y2.1.n:Int)).bind λy5=>if (y5 != 0) then some y5 else (Aa N a).bind λy6=>if (y6 != 0) then some y6 else W8 N (λc (x2:Int)=>if (decide (x2<(b.n:Int))) then if ((0:Int)<=x2/\x2<(b.n:Int))then (Aa N (b.g x2.toNat).Nq).bind λy9=>if (y9 != 0) then some y9 else c (wrap .i64 (x2+1)) else none else some 0) 0) λk1=>if ((a.n:Int) != (b.n:Int)) then k1 true else (Z9 N a).bind λy4=>k1 (!y4)
theorem JO {c:Nm}{a:Sl H3}{b:Sl Nr}{y:Int}(h:U9 N c a b=some y) :Mb S Jv [.p (.agg (A7 c)),.p (vSl 2 F2 a),.p (vSl 2 F3 b)] [] (pN y) ([]) []:=by
 unfold U9 at h;refine A2 Z func56 ?_;refine kC Z h (CV Z Y) (λy1 h=>?_);apply kI Z h<;>intro h
 .cases h;exact kR Z
 refine kC Z h (EE Z Y) (λy2 h=>?_);apply kI Z h<;>intro h
 .cases h;exact kR Z
 refine Mz Z Fc (A4 Z) h 0 (λz1=>⟨[(30,pB z1),(8,.vec 24000),(2,.p (vSl 2 F3 b)),(1,.p (vSl 2 F2 a))],[(24000,oV E4 1 (cI .i64) y2.1 true)]⟩) (λM1 k1 d h=>?_) (λz1 h=>?_)
 .refine kG Z h (λh=>?_) (λh=>?_)
  .exact d _ [(24000,24000)] _ true Fc h
  refine kC Z h (JM Z Y) (λy4 h=>?_);exact d _ [(24000,24000)] _ (!y4) Fc h
 apply kI Z h<;>intro h
 .cases h;exact kR Z
 refine kC Z h (Nw Z Y) (λy5 h=>?_);apply kI Z h<;>intro h
 .cases h;exact kR Z
 refine kC Z h (JN Z Y) (λy6 h=>?_);apply kI Z h<;>intro h
 .cases h;exact kR Z
 refine P9 Z Fc h (λx2=>⟨[(55,pN x2),(54,pN (b.n:Int)),(53,.p (vSl 2 F3 b))],[]⟩) (ids:=[]) (λ_ _ _ _ _ f x2 g h=>?_);apply kI Z h<;>intro h
 .obtain⟨c16,h⟩:=C9 h;obtain⟨y9,e9,h⟩:=A8 h;refine B3 Z [] (Ki c16 Hm) (JN Z Y e9) ?_;apply kI Z h<;>intro h
  .cases h;exact kR Z
  exact g _ [] _ (wrap .i64 (x2+1)) Fc h
 cases h;exact kR Z
def X8 (N:Nat)(q0:Sl Nr):Option (List (CE×(Sl Jf))):= W8 N (λb (x2:Int)=>if (decide (x2<(q0.n:Int))) then if ((0:Int)<=x2/\x2<(q0.n:Int))then W8 N (λa (x4:Int)=>if (decide (x4<((q0.g x2.toNat).Nq.n:Int))) then if ((0:Int)<=x4/\x4<((q0.g x2.toNat).Nq.n:Int))then if ((q0.g x2.toNat).Nq.g x4.toNat).Has then Ag ((⟨x2,x4⟩:CE),((q0.g x2.toNat).Nq.g x4.toNat).W) (a (wrap .i64 (x4+1))) else a (wrap .i64 (x4+1)) else none else b (wrap .i64 (x2+1))) 0 else none else some []) 0
theorem Kn {q0:Sl Nr}{L:List (CE×(Sl Jf))}(h:X8 N q0=some L) :ET S Cf [] [.reg 0 0] [.cells [.p (vSl 2 F3 q0)]] (L.map (λ(x:CE×(Sl Jf))=>[(λx=>.agg (OM x)) x.1,vSl 2 A0 x.2])):=by
 unfold X8 at h;refine EB Z func96 ?_;refine Dl Z Fc h (λx2 L1=>⟨[(9,pN x2),(8,pN (q0.n:Int)),(7,.p (vSl 2 F3 q0)),(0,.yf 1)],[(1,.yld (L1.map (λ(x:CE×(Sl Jf))=>[(λx=>.agg (OM x)) x.1,vSl 2 A0 x.2])) true),(0,.cells [.p (vSl 2 F3 q0)])]⟩) (ids:=(Kg [0,1])) (λ_ _ _ _ _ f x2 L1 i h=>?_);apply kI Z h<;>intro h
 .obtain⟨c48,h⟩:=C9 h;refine Dl Z (Ki c48 Hm) h (λx4 L16=>⟨[(17,pN x4),(16,pN ((q0.g x2.toNat).Nq.n:Int)),(15,.p (vSl 2 F2 (q0.g x2.toNat).Nq)),(9,pN x2),(8,pN (q0.n:Int)),(7,.p (vSl 2 F3 q0)),(3,pN x2),(0,.yf 1)],[(1,.yld (L16.map (λ(x:CE×(Sl Jf))=>[(λx=>.agg (OM x)) x.1,vSl 2 A0 x.2])) true),(0,.cells [.p (vSl 2 F3 q0)])]⟩) (ids:=(Kg [0,1])) (λ_ _ _ _ _ j x4 L16 d h=>?_);apply kI Z h<;>intro h
  .obtain⟨c64,h⟩:=C9 h;refine GR Z (Ki c64 Hm) (b:=((q0.g x2.toNat).Nq.g x4.toNat).Has) (λc67=>?_) (λc67=>?_)
   .replace h:=itT c67 h;obtain⟨L22,rfl,c⟩:=LY h;replace h:=c;refine Dk Z Fc (ys:=(λ(x:CE×(Sl Jf))=>[(λx=>.agg (OM x)) x.1,vSl 2 A0 x.2]) ((⟨x2,x4⟩:CE),((q0.g x2.toNat).Nq.g x4.toNat).W)) (rest:=L22.map (λ(x:CE×(Sl Jf))=>[(λx=>.agg (OM x)) x.1,vSl 2 A0 x.2])) ?_ ?_
    .refine D0 Z Fc (b:=false) (λc68=>?_) (λc68=>?_)
     .exact Bool.noConfusion ((rfl:false=false).symm.trans c68)
     exact d _ (Kg [0,1]) _ (wrap .i64 (x4+1)) L22 Fc h
    refine D0 Z Fc (b:=true) (λc69=>?_) (λc69=>?_)
    .exact kO Z Fc (a:=.tup []) (objs:=[(.cells [.p (vSl 2 F3 q0)]),.yld [] false]) [0,1] ⟨false,rfl,rfl,_,rfl⟩
    exact Bool.noConfusion (Iu.symm.trans c69)
   replace h:=itF c67 h;exact d _ (Kg [0,1]) _ (wrap .i64 (x4+1)) L16 Fc h
  exact i _ (Kg [0,1]) _ (wrap .i64 (x2+1)) L16 Fc h
 obtain rfl:=B0 h;exact kO Z Fc (a:=.tup []) (objs:=[(.cells [.p (vSl 2 F3 q0)]),.yld [] true]) [0,1] ⟨true,rfl,rfl,_,rfl⟩
def Bb (N:Nat)(a:Sl Nr):Option (Sl Nr):= some a
theorem Mi {a:Sl Nr}{y:Sl Nr}(h:Bb N a=some y) :Mb S Gu [.p (vSl 2 F3 a)] [] (.clo Cf [] [.reg 0 0]) ([.cells [.p (vSl 2 F3 y)]]) []:=by unfold Bb at h;refine A2 Z func58 ?_;obtain rfl:=B0 h;exact kO Z Fc [2000]
end Go.AM
namespace Go.AM
open IntKind (wrap)
open Go.Proofs
set_option maxRecDepth 10000
set_option maxHeartbeats 2000000
variable {S:U6}(Z:G6 S Tryz.prog) (Y:Km S)
abbrev Nx (es:List (Str×H3)):Obj:=.map (Dd PV.str (λx=>.agg (F2 x)) es)
abbrev AS3 (M:Sl (List (Str×H3))):List Obj:=[.cells [.vec 1],.fam D8 M.n 2 none,.rows M.n λi=>Nx (M.g i)]
def Bd3 {i n:Nat}{g:Nat->Obj}:∀q,q<n->(λq=>if q=i then g i else if q=i then Obj.dead else g q) q=(λq=>g q) q:=λq _=>by
 show (if q=i then g i else if q=i then Obj.dead else g q)=g q;by_cases h:q=i
 .subst h;rw[Ej rfl]
 rw[Er h,Er h]
def Bd4 {i n:Nat}{M:Sl (List (Str×H3))}{x:List (Str×H3)}:∀q,q<n->(λq=>if q=i then Nx x else if q=i then Obj.dead else Nx (M.g q)) q=(λq=>Nx ((M.upd i x).g q)) q:=λq _=>by
 show (if q=i then Nx x else if q=i then Obj.dead else Nx (M.g q))=Nx (if q=i then x else M.g q);by_cases h:q=i
 .rw[Ej h,Ej h]
 rw[Er h,Er h,Er h]
abbrev knO (K i:Nat):Obj:=if i<K then Nx []else .ghost [.p (.v (.map none))]
def obKn {K x n:Nat}(hx:x=K):∀q,q<n->(λq=>if q=x then Obj.map []else if q=x then Obj.dead else knO K q) q=(λi=>knO (K+1) i) q:=λq _=>by
 show (if q=x then Nx []else if q=x then Obj.dead else if q<K then Nx []else .ghost [.p (.v (.map none))])=if q<K+1 then Nx []else .ghost [.p (.v (.map none))]
 by_cases e:q=x
 .rw[Ej e,Ej (by omega)]
 rw[Er e,Er e];by_cases e2:q<K
 .rw[Ej e2,Ej (by omega)]
 rw[Er e2,Er (by omega)]
include Z Y
def N5 (N:Nat)(p:H3)(leaf:Int)(M:Sl (List (Str×H3)))(X:Sl (Sl Law)):Option (Sl Jf×Bool×Sl (List (Str×H3))):= if (!p.Has) then some (Iy,false,M) else if leaf.toNat<M.n then if ((0:Int)<=leaf/\leaf<(M.n:Int))then (CA N p.W).bind λk=>My (R8 eqS k (M.g leaf.toNat)) (if ((0:Int)<=leaf/\leaf<(X.n:Int))then (S9 N (X.g leaf.toNat) p.W).bind λw=>some (w.1,w.2==0,M.upd leaf.toNat (Eh eqS k (⟨w.2==0,w.1⟩:H3) (M.g leaf.toNat))) else none) λv=>some (v.W,v.Has,M) else none else none
theorem LB {N:Nat}{p:H3}{leaf:Int}{X:Sl (Sl Law)}{M:Sl (List (Str×H3))}{y:Sl Jf×Bool×Sl (List (Str×H3))}(h:N5 N p leaf M X=some y) :Mb S T9 [.p (.agg (F2 p)),pN leaf,.reg 0 0,.p (.ptr [vSl 1 (cL 18 B4) X])] (AS3 M) (.tup [.p (vSl 2 A0 y.1),pB y.2.1]) (AS3 y.2.2) [true,true,false]:=by
 unfold N5 at h;refine A2 Z Tryz.func94 ?_;refine F6 Z Fc 12 5000 (F2 p) ?_;apply kI Z h<;>intro h
 .obtain rfl:=B0 h;exact J7 Z Fc ⟨[(7,pB false),(6,.p (vSl 2 A0 Iy))],[(9902,.rows M.n λi=>Nx (M.g i)),(1,.fam D8 M.n 9902 none),(0,.cells [.vec 1])]⟩ [0,1,9902] (ids:=[(0,0),(1,1),(9902,2)]) ⟨rfl,rfl,rfl⟩
 obtain⟨c1,h⟩:=C9 h;obtain⟨c2,h⟩:=C9 h;refine Zk Z Fc (.take 1 leaf.toNat 9801) (⟨⟨by decide,rfl⟩,c1⟩:(1000<=9801/\M.n=M.n)/\leaf.toNat<M.n) ?_;obtain⟨k,e1,h⟩:=A8 h;refine F7 Z Fc [(0,.l [0]),(2,.l [1]),(3,.l [1]),(5,.n),(6,.n),(7,.l [9801]),(11,.a [9000]),(12,.a [9000])] ?_;refine G3 (Ki c2 (Ki c1 (rfl:leaf.toNat=leaf.toNat))) (MY Z Y e1) ?_;rcases o1:R8 eqS k (M.g leaf.toNat)with _|v1
 .replace h:=Ab8 o1 h;refine AR7 Fc F4 R9 PV.str (λx=>.agg (F2 x)) eqS o1 (.agg [.v (.bool false),C8]) Fc ?_;refine C7 Fc ?_;refine D0 Z Fc (b:=true) (λc=>?_) (λc=>Bool.noConfusion (Iu.symm.trans c));obtain⟨c3,h⟩:=C9 h;obtain⟨w,e2,h⟩:=A8 h;refine E3 Z Fc [0,2,3,5,6] ?_;refine G3 c3 (Fl Z Y e2) ?_;refine C7 Fc ?_;refine F7 Z Fc [(0,.l [0]),(2,.l [1]),(3,.l [1]),(5,.n),(6,.n),(7,.l [9000])] ?_;refine G3 (Ki c2 (Ki c1 (rfl:leaf.toNat=leaf.toNat))) (MY Z Y e1) ?_;refine SW Fc F4 PV.str (λx=>.agg (F2 x)) eqS k (⟨w.2==0,w.1⟩:H3) (M.g leaf.toNat) Fc ?_;refine C7 Fc ?_;obtain rfl:=B0 h;refine Zk Z Fc (.put 1 9902) (⟨⟨by decide,rfl⟩,c1⟩:(1000<=9902/\M.n=M.n)/\leaf.toNat<M.n) ?_;refine EW Z Fc ?_;refine C7 Fc ?_;exact J7 Z Fc ⟨[(7,pB (w.2==0)),(6,.p (vSl 2 A0 w.1))],[(9902,.rows M.n λi=>Nx ((M.upd leaf.toNat (Eh eqS k (⟨w.2==0,w.1⟩:H3) (M.g leaf.toNat))).g i)),(1,.fam D8 M.n 9902 none),(0,.cells [.vec 1])]⟩ [0,1,9902] (ids:=(Kg [0,1,9902])) ⟨rfl,rfl,rfl⟩ (hle:=klR [(3,.ob M.n (λq=>if q=leaf.toNat then Nx (Eh eqS k (⟨w.2==0,w.1⟩:H3) (M.g leaf.toNat))else if q=leaf.toNat then .dead else Nx (M.g q)) λi=>Nx ((M.upd leaf.toNat (Eh eqS k (⟨w.2==0,w.1⟩:H3) (M.g leaf.toNat))).g i))] (al1 Bd4 al0))
 replace h:=YV o1 h;refine AC6 Fc F4 R9 PV.str (λx=>.agg (F2 x)) eqS o1 Fc ?_;refine C7 Fc ?_;obtain rfl:=B0 h;refine D0 Z Fc (b:=false) (λc=>Bool.noConfusion ((rfl:false=false).symm.trans c)) (λc=>?_);refine Zk Z Fc (.put 1 9902) (⟨⟨by decide,rfl⟩,c1⟩:(1000<=9902/\M.n=M.n)/\leaf.toNat<M.n) ?_;refine EW Z Fc ?_;refine C7 Fc ?_;exact J7 Z Fc ⟨[(7,pB v1.Has),(6,.p (vSl 2 A0 v1.W))],[(9902,.rows M.n λi=>Nx (M.g i)),(1,.fam D8 M.n 9902 none),(0,.cells [.vec 1])]⟩ [0,1,9902] (ids:=(Kg [0,1,9902])) ⟨rfl,rfl,rfl⟩ (hle:=klR [(3,.ob M.n (λq=>if q=leaf.toNat then Nx (M.g leaf.toNat)else if q=leaf.toNat then .dead else Nx (M.g q)) λi=>Nx (M.g i))] (al1 (Bd3 (g:=λi=>Nx (M.g i))) al0))
def Z2 (N:Nat)(a:Nm)(b:Int):Option (Sl (Sl Law)):= (Q9 N a.Tree).bind λl=>if ((0:Int)<=(l.1.n:Int)/\(l.1.n:Int)<=(l.1.n:Int)/\(l.1.n:Int)*24<=140737488355328/\(l.1.n:Int)<=140737488355328)then if ((0:Int)<=(l.1.n:Int)/\(l.1.n:Int)<=(l.1.n:Int)/\(l.1.n:Int)*8<=140737488355328/\(l.1.n:Int)<=140737488355328)then Ay9 N (λf (K:Nat) (X:Sl (Sl Law)) (x:Int)=>if (decide (x<(l.1.n:Int))) then if (((0:Int)<=x/\x<(l.1.n:Int))/\x.toNat<l.1.n)then (Fp N a.Tree (l.1.g x.toNat)).bind λw=>Bx N (λd (X:Sl (Sl Law)) (y:Int)=>if (decide (y<(w.1.n:Int))) then if ((((0:Int)<=y/\y<(w.1.n:Int))/\y.toNat<w.1.n)/\((0:Int)<=(w.1.g y.toNat)/\(w.1.g y.toNat)<(a.On.n:Int)))then Bx N (λc (X:Sl (Sl Law)) (z:Int)=>if (decide (z<((a.On.g (w.1.g y.toNat).toNat).n:Int))) then if ((0:Int)<=z/\z<((a.On.g (w.1.g y.toNat).toNat).n:Int))then if (((a.On.g (w.1.g y.toNat).toNat).g z.toNat) != b) then if x.toNat<X.n then if (((0:Int)<=x/\x<(X.n:Int))/\((0:Int)<=((a.On.g (w.1.g y.toNat).toNat).g z.toNat)/\((a.On.g (w.1.g y.toNat).toNat).g z.toNat)<(a.Laws.n:Int)))then if (Kh 200 ((X.g x.toNat).n+1))then c (X.upd x.toNat ((X.g x.toNat).push (a.Laws.g ((a.On.g (w.1.g y.toNat).toNat).g z.toNat).toNat))) (wrap .i64 (z+1)) else none else none else none else c X (wrap .i64 (z+1)) else none else d X (wrap .i64 (y+1))) X 0 else none else if x.toNat=K/\K<l.1.n then f (K+1) X (wrap .i64 (x+1))else none) X 0 else none else if K=l.1.n/\X.n=l.1.n then some X else none) 0 ⟨l.1.n,λ_=>Sl.nil⟩ 0 else none else none
theorem Ny {N:Nat}{d:Nm}{c:Int}{y:Sl (Sl Law)}(h:Z2 N d c=some y) :Mb S Hu [.p (.agg (A7 d)),pN c] [] (.clo T9 [] [.reg 0 0,.p (.ptr [vSl 1 (cL 18 B4) y])]) (AS3 ⟨y.n,λ_=>[]⟩) []:=by
 unfold Z2 at h;refine A2 Z Tryz.func57 ?_;refine F6 Z Fc 18 3000 (A7 d) ?_;obtain⟨l,e1,h⟩:=A8 h;refine B3 Z [] Fc (EE Z Y e1) ?_;obtain⟨c1,h⟩:=C9 h;refine EX Z c1 26 (.fam 26000 9901 λi=>Fm H5 18 B4 ((⟨l.1.n,λ_=>Sl.nil⟩:Sl (Sl Law)).g i)) (⟨by decide,λi _=>rfl⟩:1000<=9901/\∀i,i<l.1.n->Rc [C8] (Fm H5 18 B4 ((⟨l.1.n,λ_=>Sl.nil⟩:Sl (Sl Law)).g i))) ?_;obtain⟨c2,h⟩:=C9 h;refine EX Z c2 29 (.fam 29000 9951 λi=>knO 0 i) (⟨by decide,λi _=>⟨rfl,rfl⟩⟩:1000<=9951/\∀i,i<l.1.n->Rc [.v (.map none)] (knO 0 i)) ?_;refine OC Z Fc h (λK X x=>⟨[(31,pN x),(30,pN (l.1.n:Int)),(29,.vec 21000),(8,.reg 9000 0),(7,.reg 8000 0),(2,.p (.ptr (A7 d))),(1,pN c)],
  [(29000,.fam D8 l.1.n 9951 none),(26000,.fam DP X.n 9901 none),(21000,oV E4 1 (cI .i64) l.1 true),(9951,.rows l.1.n λi=>knO K i),(9901,.rows X.n λi=>Fm H5 18 B4 (X.g i)),(9000,.cells [.vec 29000]),(8000,.cells [.vec 26000])]⟩) (ids:=(Kg [29000,26000,21000,9951,9901,9000,8000])) (λ_ _ _ _ _ s K X x j h=>?_)
 apply kI Z h<;>intro h
 .obtain⟨c3,h⟩:=C9 h;obtain⟨w,e2,h⟩:=A8 h;refine B3 Z [] c3 (Ya Z Y e2) ?_;refine I4 Z Fc h (λX u=>⟨[(45,pN u),(44,pN (w.1.n:Int)),(43,.vec 41000),(31,pN x),(30,pN (l.1.n:Int)),(29,.vec 21000),(9,pN x),(8,.reg 9000 0),(7,.reg 8000 0),(2,.p (.ptr (A7 d))),(1,pN c)],[(41000,oV E4 1 (cI .i64) w.1 true),(29000,.fam D8 l.1.n 9951 none),(26000,.fam DP X.n 9901 none),(21000,oV E4 1 (cI .i64) l.1 true),(9951,.rows l.1.n λi=>knO K i),(9901,.rows X.n λi=>Fm H5 18 B4 (X.g i)),(9000,.cells [.vec 29000]),(8000,.cells [.vec 26000])]⟩) (ids:=(Kg [41000,29000,26000,21000,9951,9901,9000,8000])) (λ_ _ _ _ _ m X u o h=>?_);apply kI Z h<;>intro h
  .obtain⟨c4,h⟩:=C9 h;refine I4 Z c4 h (λX z=>⟨[(55,pN z),(54,pN ((d.On.g (w.1.g u.toNat).toNat).n:Int)),(53,.p (vSl 1 (cI .i64) (d.On.g (w.1.g u.toNat).toNat))),(45,pN u),(44,pN (w.1.n:Int)),(43,.vec 41000),(31,pN x),(30,pN (l.1.n:Int)),(29,.vec 21000),(9,pN x),(8,.reg 9000 0),(7,.reg 8000 0),(2,.p (.ptr (A7 d))),(1,pN c)],[(41000,oV E4 1 (cI .i64) w.1 true),(29000,.fam D8 l.1.n 9951 none),(26000,.fam DP X.n 9901 none),(21000,oV E4 1 (cI .i64) l.1 true),(9951,.rows l.1.n λi=>knO K i),(9901,.rows X.n λi=>Fm H5 18 B4 (X.g i)),(9000,.cells [.vec 29000]),(8000,.cells [.vec 26000])]⟩) (ids:=(Kg [41000,29000,26000,21000,9951,9901,9000,8000])) (λ_ _ _ _ _ r X z f h=>?_);apply kI Z h<;>intro h
   .obtain⟨c5,h⟩:=C9 h;refine D0 Z c5 (b:=((d.On.g (w.1.g u.toNat).toNat).g z.toNat) != c) (λc6=>?_) (λc6=>?_)
    .replace h:=itT c6 h;obtain⟨c7,h⟩:=C9 h;obtain⟨c8,h⟩:=C9 h;obtain⟨c9,h⟩:=C9 h;refine Zk Z Fc (.take 26000 x.toNat 9801) (⟨⟨by decide,rfl⟩,c7⟩:(1000<=9801/\X.n=X.n)/\x.toNat<X.n) ?_;refine F7 Z Fc [(0,.l [8000]),(2,.l [8000]),(4,.l [26000]),(5,.l [26000]),(6,.n),(7,.n),(9,.n),(10,.n),(12,.a [75000,9801]),(13,.l [26000]),(14,.a [26000])] ?_;refine N3 (Ki (Ki (Ki c8.1 (Ki c7 (rfl:x.toNat=x.toNat))) c8.2) Ip) (x:=.sl true 18 1 (H2 [.str [],pI .i64 0,pI .u32 0,pI .u32 0,.v (.bool false),pI .i64 0,pI .i64 0,C8,pI .i64 0,pI .u32 0,pI .u32 0,.v (.bool false),pI .i64 0,pI .i64 0,C8,C8,C8,pI .i64 0] [(0,B4 (d.Laws.g ((d.On.g (w.1.g u.toNat).toNat).g z.toNat).toNat))])) ?_;refine C7 (Ki (Ki c9 c8.1) (Ki c7 (rfl:x.toNat=x.toNat))) ?_;refine O7 Z Fc 76 ⟨[(55,pN z),(54,pN ((d.On.g (w.1.g u.toNat).toNat).n:Int)),(53,.p (vSl 1 (cI .i64) (d.On.g (w.1.g u.toNat).toNat))),(45,pN u),(44,pN (w.1.n:Int)),(43,.vec 41000),(31,pN x),(30,pN (l.1.n:Int)),(29,.vec 21000),(9,pN x),(8,.reg 9000 0),(7,.reg 8000 0),(2,.p (.ptr (A7 d))),(1,pN c)],[(75000,Fm H5 18 B4 ((X.g x.toNat).push (d.Laws.g ((d.On.g (w.1.g u.toNat).toNat).g z.toNat).toNat))),(41000,oV E4 1 (cI .i64) w.1 true),(29000,.fam D8 l.1.n 9951 none),(26000,.fam DP X.n 9901 (some (x.toNat,.vec 75000))),(21000,oV E4 1 (cI .i64) l.1 true),(9951,.rows l.1.n λi=>knO K i),(9901,(.rows X.n λq=>if q=x.toNat then .dead else Fm H5 18 B4 (X.g q))),(9000,.cells [.vec 29000]),(8000,.cells [.vec 26000])]⟩ (ids:=(Kg [75000,41000,29000,26000,21000,9951,9901,9000,8000])) ?_ (hle:=kl1 10 (X5 B4 (X.g x.toNat) (d.Laws.g ((d.On.g (w.1.g u.toNat).toNat).g z.toNat).toNat) [.str [],pI .i64 0,pI .u32 0,pI .u32 0,.v (.bool false),pI .i64 0,pI .i64 0,C8,pI .i64 0,pI .u32 0,pI .u32 0,.v (.bool false),pI .i64 0,pI .i64 0,C8,C8,C8,pI .i64 0]));refine EX Z Fc 76 (.put 26000 9902) (⟨⟨by decide,rfl⟩,c7⟩:(1000<=9902/\X.n=X.n)/\x.toNat<X.n) ?_;exact f _ [(41000,41000),(29000,29000),(26000,26000),(21000,21000),(9951,9951),(9901,9902),(9000,9000),(8000,8000)] _ (X.upd x.toNat ((X.g x.toNat).push (d.Laws.g ((d.On.g (w.1.g u.toNat).toNat).g z.toNat).toNat))) (wrap .i64 (z+1)) Fc h (hle:=klR [(17,.ob X.n (λq=>if q=x.toNat then Fm H5 18 B4 ((X.g x.toNat).push (d.Laws.g ((d.On.g (w.1.g u.toNat).toNat).g z.toNat).toNat))else if q=x.toNat then .dead else Fm H5 18 B4 (X.g q)) λi=>Fm H5 18 B4 ((X.upd x.toNat ((X.g x.toNat).push (d.Laws.g ((d.On.g (w.1.g u.toNat).toNat).g z.toNat).toNat))).g i))] (al1 Bd2 al0))
    replace h:=itF c6 h;exact f _ (Kg [41000,29000,26000,21000,9951,9901,9000,8000]) _ X (wrap .i64 (z+1)) Fc h
   exact o _ (Kg [41000,29000,26000,21000,9951,9901,9000,8000]) _ X (wrap .i64 (u+1)) Fc h
  obtain⟨c4,h⟩:=C9 h;refine EX Z Fc 78 (.over 29000 x.toNat) (⟨rfl,by omega⟩:l.1.n=l.1.n/\x.toNat<l.1.n) ?_;refine EX Z (Ki c3.1 (Ki c3.2 (rfl:x.toNat=x.toNat))) 82 (.put 29000 9952) (⟨⟨by decide,rfl⟩,c3.2⟩:(1000<=9952/\l.1.n=l.1.n)/\x.toNat<l.1.n) ?_;exact j _ [(29000,29000),(26000,26000),(21000,21000),(9951,9952),(9901,9901),(9000,9000),(8000,8000)] _ (K+1) X (wrap .i64 (x+1)) Fc h (hle:=klR [(8,.ob l.1.n (λq=>if q=x.toNat then .map []else if q=x.toNat then .dead else knO K q) λi=>knO (K+1) i)] (al1 (obKn c4.1) al0))
 obtain⟨c3,h⟩:=C9 h;obtain rfl:=B0 h;refine EX Z Fc 83 (.pub 26000) (⟨rfl,λi _=>rfl⟩:X.n=X.n/\∀i,i<X.n->(Ra (Fm H5 18 B4 (X.g i))).isSome=true) ?_;refine O7 Z Fc 83 ⟨[(8,.reg 9000 0),(7,.reg 8000 0)],[(29000,.fam D8 X.n 9951 none),(9951,.rows X.n λi=>Nx []),(9000,.cells [.vec 29000]),(8000,.cells [.p (vSl 1 (cL 18 B4) X)])]⟩ (ids:=(Kg [29000,9951,9000,8000])) ?_ (hle:=klR [(0,.nt l.1.n X.n),(1,.nt l.1.n X.n),(2,.ob X.n (λi=>knO K i) (λi=>Nx [])),(3,.fn X.n X.n (λi=>[(Ra (Fm H5 18 B4 (X.g i))).getD default]) (λi=>cL 18 B4 (X.g i)))] (al1 c3.2.symm (al1 c3.2.symm (al1 (λi t=>Ej (by omega)) (al1 ⟨rfl,λ_ _=>rfl⟩ al0)))));refine F6 Z Fc 83 8000 [vSl 1 (cL 18 B4) X] ?_;exact J7 Z Fc ⟨[(4,.clo T9 [] [.reg 9000 0,.p (.ptr [vSl 1 (cL 18 B4) X])])],[(29000,.fam D8 X.n 9951 none),(9951,.rows X.n λi=>Nx []),(9000,.cells [.vec 29000])]⟩ [9000,29000,9951] (ids:=(Kg [29000,9951,9000])) ⟨rfl,rfl,rfl⟩
end Go.AM
namespace Go.AM
open Go.Proofs
set_option maxRecDepth 10000
set_option maxHeartbeats 2000000
variable {S:U6}(Z:G6 S Tryz.prog) (Y:Km S)
include Z Y
def DY (N:Nat)(d:Nm)(b:Sl H3)(f:Sl Nr)(a:Int):Option ((Sl A5)×Int):= (U9 N d b f).bind λy1=>if (y1 != 0) then some ((Sl.nil:Sl A5),y1) else if ((decide (a<0))||(decide (1073741824<a))) then some ((Sl.nil:Sl A5),2) else (Z2 N d (-1)).bind λy2=>(Bb N f).bind λy3=>(X8 N y3).bind λL1=>T4 L1 (λc (x1:CE×(Sl Jf)) (z1:(Sl (List (Str×H3)))×(Sl A5))=>if ((0:Int)<=x1.1.entry/\x1.1.entry<(b.n:Int))then (N5 N (b.g x1.1.entry.toNat) x1.1.leaf z1.1 y2).bind λy8=>if (!y8.2.1) then if (Kh 32 (z1.2.n+(Sl.of [(⟨x1.1.entry,x1.1.leaf,2,a⟩:A5)]:Sl A5).n))then c (y8.2.2,z1.2.push (⟨x1.1.entry,x1.1.leaf,2,a⟩:A5)) else none else (X0 N y8.1 x1.2).bind λy9=>if (!y9) then if (Kh 32 (z1.2.n+(Sl.of [(⟨x1.1.entry,x1.1.leaf,1,a⟩:A5)]:Sl A5).n))then c (y8.2.2,z1.2.push (⟨x1.1.entry,x1.1.leaf,1,a⟩:A5)) else none else c (y8.2.2,z1.2) else none) (λ(z1:(Sl (List (Str×H3)))×(Sl A5))=>some (z1.2,0)) ((⟨y2.n,λ_=>[]⟩:Sl (List (Str×H3))),(Sl.nil:Sl A5))
theorem VZ {N:Nat}{d:Nm}{c:Sl H3}{j:Sl Nr}{b:Int}{y:(Sl A5)×Int}(h:DY N d c j b=some y) :Mb S MG [.p (.agg (A7 d)),.p (vSl 2 F2 c),.p (vSl 2 F3 j),pN b] [] (.tup [.vec 0,pN y.2]) ([oV At 4 C0 y.1 false]) []:=by
 unfold DY at h;refine A2 Z Tryz.func26 ?_;refine F6 Z Fc 5 5000 (A7 d) ?_;refine F6 Z Fc 7 6000 [vSl 2 F2 c] ?_;refine F6 Z Fc 8 8000 [pI .i64 b] ?_;obtain⟨y1,e1,h⟩:=A8 h;refine B3 Z [] Hz (JO Z Y e1) ?_;apply kI Z h<;>intro h
 .obtain rfl:=B0 h;exact kO Z Fc [9700]
 refine kB Z (A4 Z) Fc Fc 3 (.o (.a (decide (b<0))) (.a (decide (1073741824<b)))) ?_;apply kI Z h<;>intro h
 .obtain rfl:=B0 h;exact kO Z Fc [9700]
 obtain⟨y2,e2,h⟩:=A8 h;refine B3 Z [] Hz (Ny Z Y e2) ?_;refine kC Z h (Mi Z Y) (λy3 h=>?_);obtain⟨L1,e4,h⟩:=A8 h;refine GS Z Fc [34000] [12,11,7,5] 901 (λz1=>⟨[(12,.reg 13000 0),(11,.reg 12000 0),(7,.p (.ptr [pI .i64 b])),(5,.p (.ptr [vSl 2 F2 c]))],[(32001,.fam D8 z1.1.n 12500 none),(32000,.cells [.vec 32001]),(13500,oV At 4 C0 z1.2 false),(13000,.cells [.vec 13500]),(12500,.rows z1.1.n λi=>Nx (z1.1.g i)),(12000,.cells [.clo T9 [] [.reg 32000 0,.p (.ptr [vSl 1 (cL 18 B4) y2])]])]⟩) (idl:=[(12000,12000),(12500,32002),(13000,13000),(32000,32000),(32001,32001)]) h (Kn Z Y e4) (λ_=>by kernel_rfl) (λ_=>by kernel_rfl) (λ_=>by kernel_rfl) (λ_=>by kernel_rfl) (λx1 _ l z1 f h=>?_) (λz1 h=>?_)
 .refine F6 Z Fc 14 14000 [pI .i64 x1.1.entry,pI .i64 x1.1.leaf] ?_;refine Ke Z Fc ?_;refine E3 Z Fc [1,3,4,5,7] ?_;obtain⟨c9,h⟩:=C9 h;obtain⟨y8,e9,h⟩:=A8 h;refine OD [32000,32001,12500] (Ki c9 Hm) (LB Z Y e9) ?_;refine C7 Fc ?_;apply kI Z h<;>intro h
  .obtain⟨c11,h⟩:=C9 h;exact f _ [(901,901),(12000,12000),(12500,46002),(13000,13000),(13500,60000),(32000,32000),(32001,32001)] _ (y8.2.2,z1.2.push (⟨x1.1.entry,x1.1.leaf,2,b⟩:A5)) (Ki Iu c11) h (hle:=kl1 1 (X5 C0 z1.2 (⟨x1.1.entry,x1.1.leaf,2,b⟩:A5) [pI .i64 0,pI .i64 0,pI .i64 0,pI .i64 0]))
  refine kC Z h (MW Z Y) (λy9 h=>?_);apply kI Z h<;>intro h
  .obtain⟨c13,h⟩:=C9 h;exact f _ [(901,901),(12000,12000),(12500,46002),(13000,13000),(13500,74000),(32000,32000),(32001,32001)] _ (y8.2.2,z1.2.push (⟨x1.1.entry,x1.1.leaf,1,b⟩:A5)) (Ki Iu c13) h (hle:=kl1 1 (X5 C0 z1.2 (⟨x1.1.entry,x1.1.leaf,1,b⟩:A5) [pI .i64 0,pI .i64 0,pI .i64 0,pI .i64 0]))
  exact f _ [(901,901),(12000,12000),(12500,46002),(13000,13000),(13500,13500),(32000,32000),(32001,32001)] _ (y8.2.2,z1.2) Fc h
 obtain rfl:=B0 h;exact kO Z Fc [13500]
end Go.AM
namespace Go.AM
open Go.Proofs.Tryz
variable {N:Nat}
open Go.Proofs
section
variable {S:U6}(Z:G6 S Tryz.prog) (Y:Km S)
include Z Y
def H1 (N:Nat)(s:Sl Str)(t:Str):Option Str:= if s.n<=140737488355328/\(Lib.join ((List.range s.n).map s.g) t).length<=140737488355328 then some (Lib.join ((List.range s.n).map s.g) t)else none
theorem QS {s:Sl Str}{t:Str}{y:Str}(h:H1 N s t=some y):Mb S DB [.p (vSl 1 cS s),.p (.str t)] [] (.p (.str y)) [] []:=by simp only[H1,Bv4,Bh9]at h;obtain⟨⟨h1,a⟩,rfl⟩:=h;exact Y.join false s.n s.g t h1 a
def X9 (N:Nat)(s:Str)(t:Int):Option Int:= if 0<=t/\t<256 then some (Lib.indexByte s (UInt8.ofNat t.toNat))else none
theorem Fq {s:Str}{t:Int}{y:Int}(h:X9 N s t=some y):Mb S X7 [.p (.str s),.p (pI .u8 t)] [] (.p (pI .i64 y)) [] []:=by
 simp only[X9,Bv4,Bh9]at h;obtain⟨h1,rfl⟩:=h
 have:=Y.indexByte s (UInt8.ofNat t.toNat)
 have e:(((UInt8.ofNat t.toNat).toNat:Nat):Int)=t:=by
  have:(UInt8.ofNat t.toNat).toNat=t.toNat:=UInt8.toNat_ofNat_of_lt' (by show t.toNat<256;omega)
  omega
 rw[e]at this;exact this
def G0 (N:Nat)(s:Sl Str):Option (Sl Str):=if (0+s.n)*16<=140737488355328/\0+s.n<=140737488355328 then some s else none
theorem O4 {s y:Sl Str}(h:G0 N s=some y):Mb S W2 [.p (vSl 1 cS s)] [] (.vec 0) [.vec F4 1 y.n (λi=>cS (y.g i)) true] []:=by
 unfold G0 at h;obtain⟨c1,h⟩:=C9 h;obtain rfl:=B0 h;refine A2 Z func179 ?_;refine Vf Z Fc 3 (k:=1) (n:=s.n) (f:=λi=>cS (s.g i)) (λa=>?_) ?_
 .obtain⟨n,g⟩:=s;obtain rfl:n=0:=a;exact kO Z Fc [3700]
 exact kO Z (Ki Iu c1) [8000]
  (hle:=kl1 0 (AJ9 cS s [.str []]))
def J4 (N:Nat)(s:Sl K5):Option (Sl K5):=if (0+s.n)*24<=140737488355328/\0+s.n<=140737488355328 then some s else none
theorem Bt {s y:Sl K5}(h:J4 N s=some y):Mb S Q3 [.p (vSl 3 D7 s)] [] (.vec 0) [.vec D2 3 y.n (λi=>D7 (y.g i)) true] []:=by
 unfold J4 at h;obtain⟨c1,h⟩:=C9 h;obtain rfl:=B0 h;refine A2 Z func184 ?_;refine Vf Z Fc 3 (k:=3) (n:=s.n) (f:=λi=>D7 (s.g i)) (λa=>?_) ?_
 .obtain⟨n,g⟩:=s;obtain rfl:n=0:=a;exact kO Z Fc [3700]
 exact kO Z (Ki Iu c1) [8000]
  (hle:=kl1 0 (AJ9 D7 s [.str [],pI .u32 0,pI .u32 0]))
def K9 (N:Nat)(s:Sl Jp):Option (Sl Jp):=if (0+s.n)*32<=140737488355328/\0+s.n<=140737488355328 then some s else none
theorem Cn {s y:Sl Jp}(h:K9 N s=some y):Mb S S6 [.p (vSl 4 V8 s)] [] (.vec 0) [.vec Ad8 4 y.n (λi=>V8 (y.g i)) true] []:=by
 unfold K9 at h;obtain⟨c1,h⟩:=C9 h;obtain rfl:=B0 h;refine A2 Z func147 ?_;refine Vf Z Fc 3 (k:=4) (n:=s.n) (f:=λi=>V8 (s.g i)) (λa=>?_) ?_
 .obtain⟨n,g⟩:=s;obtain rfl:n=0:=a;exact kO Z Fc [3700]
 exact kO Z (Ki Iu c1) [8000]
  (hle:=kl1 0 (AJ9 V8 s [.str [],pI .u32 0,pI .u32 0,pI .u32 0]))
end
end Go.AM
namespace Go.AM
open Go.Proofs.Tryz
variable {N:Nat}
open IntKind (wrap)
open Go.Proofs
set_option maxRecDepth 10000
set_option maxHeartbeats 2000000
variable {S:U6}(Z:G6 S Tryz.prog) (Y:Km S)
include Z Y
def Bc (N:Nat)(a:Int):Option Bool:= some (((decide (97<=a))&&(decide (a<=122)))||((decide (48<=a))&&(decide (a<=57))))
theorem GB {b:Int}{y:Bool}(h:Bc N b=some y) :Mb S Gw [.p (pI .u8 b)] [] (pB y) ([]) []:=by unfold Bc at h;refine A2 Z func178 ?_;refine kB Z (A4 Z) Fc Fc 11 (.o (.n (.a (decide (97<=b))) (.a (decide (b<=122)))) (.n (.a (decide (48<=b))) (.a (decide (b<=57))))) ?_;cases h;exact kR Z
def Q6 (N:Nat)(a:B1):Option Bool:= some true
theorem Bu {a:B1}{y:Bool}(h:Q6 N a=some y) :Mb S Bl [.reg 0 0] [.cells [.p (vSl 1 cS a.feats),.Ni 1,.vec 2,.Ni 3,.Ni 4],oM PV.str (pI .i64) a.number,oV D2 3 D7 a.sounds true,oM PV.str (pI .i64) a.symbols,oM (λx=>.agg (A0 x)) (pI .i64) a.values] (pB y) ([.cells [.p (vSl 1 cS a.feats),.Ni 1,.vec 2,.Ni 3,.Ni 4],oM PV.str (pI .i64) a.number,oV D2 3 D7 a.sounds true,oM PV.str (pI .i64) a.symbols,oM (λx=>.agg (A0 x)) (pI .i64) a.values]) [true,true,true,true,true]:=by unfold Q6 at h;refine A2 Z func180 ?_;obtain rfl:=B0 h;exact kO Z Fc [0,1,2,3,4]
def P7 (N:Nat)  : Option Bool:= some false
theorem CB    {y:Bool}(h:P7 N  = some y) :Mb S Bl [.p Ay8] [] (pB y) ([]) []:=by unfold P7 at h;refine A2 Z func180 ?_;cases h;exact kR Z
def Y0 (N:Nat)(b:B1)(a:Jf):Option Bool:= if (0:Int)<=(b.feats.n:Int)then some (((P2 .and .u32 a.Plus a.Minus)==0)&&((P2 .andNot .u32 (P2 .or .u32 a.Plus a.Minus) (wrap .u32 ((shI .shl .u32 1 (b.feats.n:Int))-1)))==0)) else none
theorem Hd {b:B1}{c:Jf}{y:Bool}(h:Y0 N b c=some y) :Mb S CP [.reg 0 0,.p (.agg (A0 c))] [.cells [.p (vSl 1 cS b.feats),.Ni 1,.vec 2,.Ni 3,.Ni 4],oM PV.str (pI .i64) b.number,oV D2 3 D7 b.sounds true,oM PV.str (pI .i64) b.symbols,oM (λx=>.agg (A0 x)) (pI .i64) b.values] (pB y) ([.cells [.p (vSl 1 cS b.feats),.Ni 1,.vec 2,.Ni 3,.Ni 4],oM PV.str (pI .i64) b.number,oV D2 3 D7 b.sounds true,oM PV.str (pI .i64) b.symbols,oM (λx=>.agg (A0 x)) (pI .i64) b.values]) [true,true,true,true,true]:=by unfold Y0 at h;refine A2 Z func183 ?_;obtain⟨c1,h⟩:=C9 h;refine kB Z (A4 Z) c1 Fc 9 (.n (.a ((P2 .and .u32 c.Plus c.Minus)==0)) (.a ((P2 .andNot .u32 (P2 .or .u32 c.Plus c.Minus) (wrap .u32 ((shI .shl .u32 1 (b.feats.n:Int))-1)))==0))) ?_;obtain rfl:=B0 h;exact kO Z Fc [0,1,2,3,4]
def Q7 (N:Nat)(a:Str)(b:Int)(d:Int->Option Bool):Option Bool:= if ((decide ((a.length:Int)<1))||(decide (b<(a.length:Int)))) then some false else W8 N (λc (x1:Int)=>if (decide (x1<(a.length:Int))) then if ((0:Int)<=x1/\x1<(a.length:Int))then (d (HX a x1)).bind λy3=>if (!y3) then some false else c (wrap .i64 (x1+1)) else none else some true) 0
theorem Bv {d:Str}{c:Int}{f:Int->Option Bool}{kp_of:Nat}(g:∀{a0:Int}{b:Bool},f a0=some b->Mb S kp_of [.p (pI .u8 a0)] [] (pB b) [] []){y:Bool}(h:Q7 N d c f=some y) :Mb S Et [.p (.str d),pN c,.clo kp_of [] []] [] (pB y) ([]) []:=by
 unfold Q7 at h;refine A2 Z func177 ?_;refine kB Z (A4 Z) Fc Fc 5 (.o (.a (decide ((d.length:Int)<1))) (.a (decide (c<(d.length:Int))))) ?_;apply kI Z h<;>intro h
 .cases h;exact kR Z
 refine P9 Z Fc h (λx1=>⟨[(19,pN x1),(18,pN (d.length:Int)),(2,.clo kp_of [] []),(0,.p (.str d))],[]⟩) (ids:=[]) (λ_ _ _ _ _ i x1 j h=>?_);apply kI Z h<;>intro h
 .obtain⟨c9,h⟩:=C9 h;obtain⟨y3,e3,h⟩:=A8 h;refine B3 Z [] c9 (g e3) ?_;apply kI Z h<;>intro h
  .cases h;exact kR Z
  exact j _ [] _ (wrap .i64 (x1+1)) Fc h
 cases h;exact kR Z
def U4 (N:Nat)(a:Int):Option Bool:= (Bc N a).bind λy1=>lt (λ(z1:Bool)=>some z1) λk1=>if y1 then k1 true else if (decide (65<=a)) then if (decide (a<=90)) then k1 true else (X9 N [64,63,33,38,42,36,37] a).bind λy4=>k1 (decide (0<=y4)) else (X9 N [64,63,33,38,42,36,37] a).bind λy5=>k1 (decide (0<=y5))
theorem DZ {b:Int}{y:Bool}(h:U4 N b=some y) :Mb S DN [.p (pI .u8 b)] [] (pB y) ([]) []:=by
 unfold U4 at h;refine A2 Z func181 ?_;refine kC Z h (GB Z Y) (λy1 h=>?_);refine Mz Z Fc (A4 Z) h 0 (λz1=>⟨[(2,pB z1)],[]⟩) (λM1 k1 a h=>?_) (λz1 h=>?_)
 .refine kG Z h (λh=>?_) (λh=>?_)
  .exact a _ [] _ true Fc h
  refine kG Z h (λh=>?_) (λh=>?_)
  .refine kG Z h (λh=>?_) (λh=>?_)
   .exact a _ [] _ true Fc h
   refine kC Z h (Fq Z Y) (λy4 h=>?_);exact a _ [] _ (decide (0<=y4)) Fc h
  refine kC Z h (Fq Z Y) (λy5 h=>?_);exact a _ [] _ (decide (0<=y5)) Fc h
 cases h;exact kR Z
def Co (N:Nat)(b:B1)(a:Str)(c:Jf):Option (Int×B1):= (Q6 N b).bind λy1=>if (!y1) then some (1,b) else (Q7 N a 4 (λ(u1:Int)=>U4 N u1)).bind λy2=>if (!y2) then some (15,b) else (Y0 N b c).bind λy3=>if (!y3) then some (14,b) else My (R8 eqS a b.symbols) (My (R8 G9 c b.values) (if (false||false) then some (6,b) else if ((b.sounds.n:Int)==256) then some (4,b) else if (Kh 24 (b.sounds.n+(Sl.of [(⟨a,c⟩:K5)]:Sl K5).n))then some (0,(⟨b.feats,b.number,b.sounds.push (⟨a,c⟩:K5),Eh eqS a (b.sounds.n:Int) b.symbols,Eh G9 c (b.sounds.n:Int) b.values⟩:B1)) else none) λv2=>if (false||true) then some (6,b) else if ((b.sounds.n:Int)==256) then some (4,b) else if (Kh 24 (b.sounds.n+(Sl.of [(⟨a,c⟩:K5)]:Sl K5).n))then some (0,(⟨b.feats,b.number,b.sounds.push (⟨a,c⟩:K5),Eh eqS a (b.sounds.n:Int) b.symbols,Eh G9 c (b.sounds.n:Int) b.values⟩:B1)) else none) λv1=>My (R8 G9 c b.values) (if (true||false) then some (6,b) else if ((b.sounds.n:Int)==256) then some (4,b) else if (Kh 24 (b.sounds.n+(Sl.of [(⟨a,c⟩:K5)]:Sl K5).n))then some (0,(⟨b.feats,b.number,b.sounds.push (⟨a,c⟩:K5),Eh eqS a (b.sounds.n:Int) b.symbols,Eh G9 c (b.sounds.n:Int) b.values⟩:B1)) else none) λv3=>if (true||true) then some (6,b) else if ((b.sounds.n:Int)==256) then some (4,b) else if (Kh 24 (b.sounds.n+(Sl.of [(⟨a,c⟩:K5)]:Sl K5).n))then some (0,(⟨b.feats,b.number,b.sounds.push (⟨a,c⟩:K5),Eh eqS a (b.sounds.n:Int) b.symbols,Eh G9 c (b.sounds.n:Int) b.values⟩:B1)) else none
theorem Ko {c:B1}{b:Str}{d:Jf}{y:Int×B1}(h:Co N c b d=some y) :Mb S Ci [.reg 0 0,.p (.str b),.p (.agg (A0 d))] [.cells [.p (vSl 1 cS c.feats),.Ni 1,.vec 2,.Ni 3,.Ni 4],oM PV.str (pI .i64) c.number,oV D2 3 D7 c.sounds true,oM PV.str (pI .i64) c.symbols,oM (λx=>.agg (A0 x)) (pI .i64) c.values] (pN y.1) ([.cells [.p (vSl 1 cS y.2.feats),.Ni 1,.vec 2,.Ni 3,.Ni 4],oM PV.str (pI .i64) y.2.number,oV D2 3 D7 y.2.sounds true,oM PV.str (pI .i64) y.2.symbols,oM (λx=>.agg (A0 x)) (pI .i64) y.2.values]) [true,true,false,true,true]:=by
 unfold Co at h;refine A2 Z func142 ?_;refine F6 Z Fc 6 6000 [pI .u32 d.Plus,pI .u32 d.Minus] ?_;obtain⟨y1,e1,h⟩:=A8 h;refine B3 Z [0,1,2,3,4] Fc (Bu Z Y e1) ?_;apply kI Z h<;>intro h
 .obtain rfl:=B0 h;exact kOi Z Fc [(0,0),(1,1),(3,3),(4,4),(990002,2)] [0,1,990002,3,4]
 refine kC Z h (Bv Z Y (λe=>DZ Z Y e)) (λy2 h=>?_);apply kI Z h<;>intro h
 .obtain rfl:=B0 h;exact kOi Z Fc [(0,0),(1,1),(3,3),(4,4),(990002,2)] [0,1,990002,3,4]
 obtain⟨y3,e3,h⟩:=A8 h;refine B3 Z [0,1,2,3,4] Hm (Hd Z Y e3) ?_;apply kI Z h<;>intro h
 .obtain rfl:=B0 h;exact kOi Z Fc [(0,0),(1,1),(3,3),(4,4),(990002,2)] [0,1,990002,3,4]
 rcases o1:R8 eqS b c.symbols with _|v1
 .replace h:=Ab8 o1 h;refine Xs Z Fc F4 E4 PV.str (pI .i64) eqS o1 (pI .i64 0) Fc ?_;refine E3 Z Fc [4] ?_;rcases o2:R8 G9 d c.values with _|v2
  .replace h:=Ab8 o2 h;refine AR7 Hm B6 E4 (λx=>.agg (A0 x)) (pI .i64) G9 o2 (pI .i64 0) (by decide +kernel:QW Tryz.prog B6=true) ?_;refine C7 Fc ?_;refine kB Z (A4 Z) Fc Fc 2 (.o (.a false) (.a false)) ?_;apply kI Z h<;>intro h
   .obtain rfl:=B0 h;exact kOi Z Fc [(0,0),(1,1),(3,3),(4,4),(990002,2)] [0,1,990002,3,4]
   apply kI Z h<;>intro h
   .obtain rfl:=B0 h;exact kOi Z Fc [(0,0),(1,1),(3,3),(4,4),(990002,2)] [0,1,990002,3,4]
   refine EW Z Fc ?_;refine SW Fc F4 PV.str (pI .i64) eqS b (c.sounds.n:Int) c.symbols Fc ?_;refine C7 Fc ?_;refine E3 Z Fc [4] ?_;refine SW Hm B6 (λx=>.agg (A0 x)) (pI .i64) G9 d (c.sounds.n:Int) c.values (by decide +kernel:QW Tryz.prog B6=true) ?_;refine C7 Fc ?_;refine E3 Z Fc [6] ?_;refine N3 Hm (x:=.sl true 3 1 (H2 [.str [],pI .u32 0,pI .u32 0] [(0,D7 (⟨b,d⟩:K5))])) ?_;obtain⟨c6,h⟩:=C9 h;refine C7 c6 ?_;obtain rfl:=B0 h;exact kO Z Fc [0,1,79000,3,4] (hle:=kl1 1 (X5 D7 c.sounds (⟨b,d⟩:K5) [.str [],pI .u32 0,pI .u32 0]))
  replace h:=YV o2 h;refine AC6 Hm B6 E4 (λx=>.agg (A0 x)) (pI .i64) G9 o2 (by decide +kernel:QW Tryz.prog B6=true) ?_;refine C7 Fc ?_;refine kB Z (A4 Z) Fc Fc 2 (.o (.a false) (.a true)) ?_;apply kI Z h<;>intro h
  .obtain rfl:=B0 h;exact kOi Z Fc [(0,0),(1,1),(3,3),(4,4),(990002,2)] [0,1,990002,3,4]
  apply kI Z h<;>intro h
  .obtain rfl:=B0 h;exact kOi Z Fc [(0,0),(1,1),(3,3),(4,4),(990002,2)] [0,1,990002,3,4]
  refine EW Z Fc ?_;refine SW Fc F4 PV.str (pI .i64) eqS b (c.sounds.n:Int) c.symbols Fc ?_;refine C7 Fc ?_;refine E3 Z Fc [4] ?_;refine SW Hm B6 (λx=>.agg (A0 x)) (pI .i64) G9 d (c.sounds.n:Int) c.values (by decide +kernel:QW Tryz.prog B6=true) ?_;refine C7 Fc ?_;refine E3 Z Fc [6] ?_;refine N3 Hm (x:=.sl true 3 1 (H2 [.str [],pI .u32 0,pI .u32 0] [(0,D7 (⟨b,d⟩:K5))])) ?_;obtain⟨c9,h⟩:=C9 h;refine C7 c9 ?_;obtain rfl:=B0 h;exact kO Z Fc [0,1,79000,3,4] (hle:=kl1 1 (X5 D7 c.sounds (⟨b,d⟩:K5) [.str [],pI .u32 0,pI .u32 0]))
 replace h:=YV o1 h;refine Xr Z Fc F4 E4 PV.str (pI .i64) eqS o1 Fc ?_;refine E3 Z Fc [4] ?_;rcases o3:R8 G9 d c.values with _|v3
 .replace h:=Ab8 o3 h;refine AR7 Hm B6 E4 (λx=>.agg (A0 x)) (pI .i64) G9 o3 (pI .i64 0) (by decide +kernel:QW Tryz.prog B6=true) ?_;refine C7 Fc ?_;refine kB Z (A4 Z) Fc Fc 2 (.o (.a true) (.a false)) ?_;apply kI Z h<;>intro h
  .obtain rfl:=B0 h;exact kOi Z Fc [(0,0),(1,1),(3,3),(4,4),(990002,2)] [0,1,990002,3,4]
  apply kI Z h<;>intro h
  .obtain rfl:=B0 h;exact kOi Z Fc [(0,0),(1,1),(3,3),(4,4),(990002,2)] [0,1,990002,3,4]
  refine EW Z Fc ?_;refine SW Fc F4 PV.str (pI .i64) eqS b (c.sounds.n:Int) c.symbols Fc ?_;refine C7 Fc ?_;refine E3 Z Fc [4] ?_;refine SW Hm B6 (λx=>.agg (A0 x)) (pI .i64) G9 d (c.sounds.n:Int) c.values (by decide +kernel:QW Tryz.prog B6=true) ?_;refine C7 Fc ?_;refine E3 Z Fc [6] ?_;refine N3 Hm (x:=.sl true 3 1 (H2 [.str [],pI .u32 0,pI .u32 0] [(0,D7 (⟨b,d⟩:K5))])) ?_;obtain⟨c12,h⟩:=C9 h;refine C7 c12 ?_;obtain rfl:=B0 h;exact kO Z Fc [0,1,79000,3,4] (hle:=kl1 1 (X5 D7 c.sounds (⟨b,d⟩:K5) [.str [],pI .u32 0,pI .u32 0]))
 replace h:=YV o3 h;refine AC6 Hm B6 E4 (λx=>.agg (A0 x)) (pI .i64) G9 o3 (by decide +kernel:QW Tryz.prog B6=true) ?_;refine C7 Fc ?_;refine kB Z (A4 Z) Fc Fc 2 (.o (.a true) (.a true)) ?_;apply kI Z h<;>intro h
 .obtain rfl:=B0 h;exact kOi Z Fc [(0,0),(1,1),(3,3),(4,4),(990002,2)] [0,1,990002,3,4]
 apply kI Z h<;>intro h
 .obtain rfl:=B0 h;exact kOi Z Fc [(0,0),(1,1),(3,3),(4,4),(990002,2)] [0,1,990002,3,4]
 refine EW Z Fc ?_;refine SW Fc F4 PV.str (pI .i64) eqS b (c.sounds.n:Int) c.symbols Fc ?_;refine C7 Fc ?_;refine E3 Z Fc [4] ?_;refine SW Hm B6 (λx=>.agg (A0 x)) (pI .i64) G9 d (c.sounds.n:Int) c.values (by decide +kernel:QW Tryz.prog B6=true) ?_;refine C7 Fc ?_;refine E3 Z Fc [6] ?_;refine N3 Hm (x:=.sl true 3 1 (H2 [.str [],pI .u32 0,pI .u32 0] [(0,D7 (⟨b,d⟩:K5))])) ?_;obtain⟨c15,h⟩:=C9 h;refine C7 c15 ?_;obtain rfl:=B0 h;exact kO Z Fc [0,1,79000,3,4] (hle:=kl1 1 (X5 D7 c.sounds (⟨b,d⟩:K5) [.str [],pI .u32 0,pI .u32 0]))
def Y1 (N:Nat)(a:Str)(b:Jf):Option Int:= (P7 N ).bind λy1=>if (!y1) then some 1 else (Q7 N a 4 (λ(u1:Int)=>U4 N u1)).bind λy2=>if (!y2) then some 15 else none
theorem He {a:Str}{b:Jf}{y:Int}(h:Y1 N a b=some y) :Mb S Ci [.p Ay8,.p (.str a),.p (.agg (A0 b))] [] (pN y) ([]) []:=by
 unfold Y1 at h;refine A2 Z func142 ?_;refine F6 Z Fc 6 6000 [pI .u32 b.Plus,pI .u32 b.Minus] ?_;refine kC Z h (CB Z Y) (λy1 h=>?_);apply kI Z h<;>intro h
 .cases h;exact kR Z
 refine kC Z h (Bv Z Y (λe=>DZ Z Y e)) (λy2 h=>?_);apply kI Z h<;>intro h
 .cases h;exact kR Z
 cases h
def Fr (N:Nat)(a:Sl Str):Option ((Option B1)×Int):= if (decide (24<(a.n:Int))) then some (none,12) else W8 N (λb (x1:Int)=>if (decide (x1<(a.n:Int))) then if ((0:Int)<=x1/\x1<(a.n:Int))then (Q7 N (a.g x1.toNat) 16 (λ(u3:Int)=>Bc N u3)).bind λy3=>if ((!y3)=false->((0:Int)<=0/\0<((a.g x1.toNat).length:Int)))then if ((!y3)||(decide ((HX (a.g x1.toNat) 0)<=57))) then some (none,15) else b (wrap .i64 (x1+1)) else none else none else Bx N (λc (x2:List (Str×Int)) (x3:Int)=>if (decide (x3<(a.n:Int))) then if ((0:Int)<=x3/\x3<(a.n:Int))then My (R8 eqS (a.g x3.toNat) x2) (c (Eh eqS (a.g x3.toNat) x3 x2) (wrap .i64 (x3+1))) λv3=>some (none,6) else none else (G0 N a).bind λy4=>some (some (⟨y4,x2,(Sl.nil:Sl K5),[],[]⟩:B1),0)) [] 0) 0
theorem IG {c:Sl Str}{y:(Option B1)×Int}(h:Fr N c=some y) :Mb S Ir [.p (vSl 1 cS c)] [] (.tup [My y.1 (.p Ay8) λ_=>.reg 0 0,pN y.2]) (My y.1 [] λo=>[(.cells [.p (vSl 1 cS o.feats),.Ni 1,.vec 2,.Ni 3,.Ni 4]),oM PV.str (pI .i64) o.number,oV D2 3 D7 o.sounds true,oM PV.str (pI .i64) o.symbols,oM (λx=>.agg (A0 x)) (pI .i64) o.values]) []:=by
 unfold Fr at h;refine A2 Z func141 ?_;apply kI Z h<;>intro h
 .obtain rfl:=B0 h;exact kO Z Fc []
 refine P9 Z Fc h (λx1=>⟨[(21,pN x1),(20,pN (c.n:Int)),(19,.p (vSl 1 cS c)),(4,.reg 19000 0),(0,.p (vSl 1 cS c))],[(19000,.cells [.p C8,.Ni 15000,.p C8,.Ni 16000,.Ni 17000]),(17000,oM (λx=>.agg (A0 x)) (pI .i64) []),(16000,oM PV.str (pI .i64) []),(15000,oM PV.str (pI .i64) [])]⟩) (ids:=(Kg [15000,16000,17000,19000])) (λ_ _ _ _ _ d x1 f h=>?_);apply kI Z h<;>intro h
 .obtain⟨c11,h⟩:=C9 h;obtain⟨y3,e3,h⟩:=A8 h;refine B3 Z [] c11 (Bv Z Y (λe=>GB Z Y e) e3) ?_;obtain⟨c12,h⟩:=C9 h;refine kB Z (A4 Z) Fc c12 4 (.o (.a (!y3)) (.a (decide ((HX (c.g x1.toNat) 0)<=57)))) ?_;apply kI Z h<;>intro h
  .obtain rfl:=B0 h;exact kO Z Fc []
  exact f _ (Kg [15000,16000,17000,19000]) _ (wrap .i64 (x1+1)) Fc h
 refine I4 Z Fc h (λx2 x3=>⟨[(36,pN x3),(35,pN (c.n:Int)),(34,.p (vSl 1 cS c)),(4,.reg 19000 0),(0,.p (vSl 1 cS c))],[(19000,.cells [.p C8,.Ni 15000,.p C8,.Ni 16000,.Ni 17000]),(17000,oM (λx=>.agg (A0 x)) (pI .i64) []),(16000,oM PV.str (pI .i64) []),(15000,oM PV.str (pI .i64) x2)]⟩) (ids:=(Kg [15000,16000,17000,19000])) (λ_ _ _ _ _ i x2 x3 j h=>?_);apply kI Z h<;>intro h
 .obtain⟨c23,h⟩:=C9 h;rcases o3:R8 eqS (c.g x3.toNat) x2 with _|v3
  .replace h:=Ab8 o3 h;refine Xs Z c23 F4 E4 PV.str (pI .i64) eqS o3 (pI .i64 0) Fc ?_;refine D0 Z Fc (b:=false) (λc24=>?_) (λc24=>?_)
   .exact Bool.noConfusion ((rfl:false=false).symm.trans c24)
   refine Ac8 Z Fc F4 PV.str (pI .i64) eqS (c.g x3.toNat) x3 x2 Fc ?_;exact j _ (Kg [15000,16000,17000,19000]) _ (Eh eqS (c.g x3.toNat) x3 x2) (wrap .i64 (x3+1)) Fc h
  replace h:=YV o3 h;refine Xr Z c23 F4 E4 PV.str (pI .i64) eqS o3 Fc ?_;refine D0 Z Fc (b:=true) (λc25=>?_) (λc25=>?_)
  .obtain rfl:=B0 h;exact kO Z Fc []
  exact Bool.noConfusion (Iu.symm.trans c25)
 refine kC Z h (O4 Z Y) (λy4 h=>?_);obtain rfl:=B0 h;exact kO Z Fc [19000,15000,3802,16000,17000]
def AE (N:Nat)(a:B1):Option (Sl Str):= (Q6 N a).bind λy1=>if (!y1) then some (Sl.nil:Sl Str) else (G0 N a.feats).bind λy2=>some y2
theorem IH {a:B1}{y:Sl Str}(h:AE N a=some y) :Mb S DM [.reg 0 0] [.cells [.p (vSl 1 cS a.feats),.Ni 1,.vec 2,.Ni 3,.Ni 4],oM PV.str (pI .i64) a.number,oV D2 3 D7 a.sounds true,oM PV.str (pI .i64) a.symbols,oM (λx=>.agg (A0 x)) (pI .i64) a.values] (.vec 5) ([.cells [.p (vSl 1 cS a.feats),.Ni 1,.vec 2,.Ni 3,.Ni 4],oM PV.str (pI .i64) a.number,oV D2 3 D7 a.sounds true,oM PV.str (pI .i64) a.symbols,oM (λx=>.agg (A0 x)) (pI .i64) a.values,oV F4 1 cS y true]) [true,true,true,true,true]:=by
 unfold AE at h;refine A2 Z func144 ?_;obtain⟨y1,e1,h⟩:=A8 h;refine B3 Z [0,1,2,3,4] Fc (Bu Z Y e1) ?_;apply kI Z h<;>intro h
 .obtain rfl:=B0 h;exact kO Z Fc [0,1,2,3,4,3700]
 refine kC Z h (O4 Z Y) (λy2 h=>?_);obtain rfl:=B0 h;exact kO Z Fc [0,1,2,3,4,11000]
def W4 (N:Nat)  : Option Unit:= (P7 N ).bind λy1=>if (!y1) then some () else none
theorem GC    {y:Unit}(h:W4 N  = some y) :Mb S Bk [.p Ay8] [] (.p Ay8) ([]) []:=by
 unfold W4 at h;refine A2 Z func143 ?_;refine kC Z h (CB Z Y) (λy1 h=>?_);apply kI Z h<;>intro h
 .obtain rfl:=B0 h;exact kO Z Fc []
 cases h
end Go.AM
namespace Go.AM
open IntKind (wrap)
open Go.Proofs
set_option maxRecDepth 10000
set_option maxHeartbeats 4000000
def Cp {κ ν : Type}(kP : κ -> PV)(vP : ν -> PV):∀l:List (κ × ν),(Dd kP vP l).length=l.length
 |[]=>rfl
 |_::l=>congrArg (· + 1) (Cp kP vP l)
variable {S:U6}(Z:G6 S Tryz.prog) (Y:Km S)
include Z Y
def Bw (N:Nat)(a:B1):Option (Option B1):= (Q6 N a).bind λy1=>if (!y1) then some none else (G0 N a.feats).bind λy2=>(J4 N a.sounds).bind λy3=>Bx N (λb (x1:List (Str×Int)) (x2:Int)=>if (decide (x2<(y2.n:Int))) then if (((0:Int)<=x2/\x2<(y2.n:Int))/\x2.toNat<y2.n)then b (Eh eqS (y2.g x2.toNat) x2 x1) (wrap .i64 (x2+1)) else none else Ay9 N (λc (x3:List (Str×Int)) (x4:List (Jf×Int)) (x5:Int)=>if (decide (x5<(y3.n:Int))) then if (((0:Int)<=x5/\x5<(y3.n:Int))/\x5.toNat<y3.n)then c (Eh eqS (y3.g x5.toNat).Symbol x5 x3) (Eh G9 (y3.g x5.toNat).S x5 x4) (wrap .i64 (x5+1)) else none else some (some (⟨y2,x1,y3,x3,x4⟩:B1))) [] [] 0) [] 0
theorem Ew {N:Nat}{b:B1}{y:Option B1}(h:Bw N b=some y) :Mb S Bk [.reg 0 0] [.cells [.p (vSl 1 cS b.feats),.Ni 1,.vec 2,.Ni 3,.Ni 4],oM PV.str (pI .i64) b.number,oV D2 3 D7 b.sounds true,oM PV.str (pI .i64) b.symbols,oM (λx=>.agg (A0 x)) (pI .i64) b.values] (My y (.p Ay8) λ_=>.reg 5 0) ([.cells [.p (vSl 1 cS b.feats),.Ni 1,.vec 2,.Ni 3,.Ni 4],oM PV.str (pI .i64) b.number,oV D2 3 D7 b.sounds true,oM PV.str (pI .i64) b.symbols,oM (λx=>.agg (A0 x)) (pI .i64) b.values]++(My y [] λo=>[(.cells [.p (vSl 1 cS o.feats),.Ni 6,.vec 7,.Ni 8,.Ni 9]),oM PV.str (pI .i64) o.number,oV D2 3 D7 o.sounds true,oM PV.str (pI .i64) o.symbols,oM (λx=>.agg (A0 x)) (pI .i64) o.values])) [true,true,true,true,true]:=by
 unfold Bw at h;refine A2 Z Tryz.func143 ?_;obtain⟨y1,e1,h⟩:=A8 h;refine B3 Z [0,1,2,3,4] Fc (Bu Z Y e1) ?_;apply kI Z h<;>intro h
 .obtain rfl:=B0 h;exact kO Z Fc [0,1,2,3,4]
 refine F7 Z Fc [(3,.l [0]),(4,.a [16000]),(8,.l [0]),(9,.a [2,21000]),(10,.a [22000]),(11,.a [23000]),(12,.a [24000])] ?_;obtain⟨y2,e2,h⟩:=A8 h;refine OD [] Fc (O4 Z Y e2) ?_;obtain⟨y3,e3,h⟩:=A8 h;refine OD [] Fc (Bt Z Y e3) ?_;refine C7 Fc ?_;refine I4 Z Fc h (λx1 x2=>⟨[(31,pN x2),(30,pN (y2.n:Int)),(29,.vec 16000),(3,.reg 26000 0)],[(26000,.cells [.vec 16000,.Ni 22000,.vec 21000,.Ni 23000,.Ni 24000]),(24000,oM (λx=>.agg (A0 x)) (pI .i64) []),(23000,oM PV.str (pI .i64) []),(22000,oM PV.str (pI .i64) x1),(21000,oV D2 3 D7 y3 true),(16000,oV F4 1 cS y2 true),(4,oM (λx=>.agg (A0 x)) (pI .i64) b.values),(3,oM PV.str (pI .i64) b.symbols),(2,oV D2 3 D7 b.sounds true),(1,oM PV.str (pI .i64) b.number),(0,.cells [.p (vSl 1 cS b.feats),.Ni 1,.vec 2,.Ni 3,.Ni 4])]⟩) (ids:=(Kg [0,1,2,3,4,16000,21000,22000,23000,24000,26000])) (λ_ _ _ _ _ c x1 x2 d h=>?_);apply kI Z h<;>intro h
 .obtain⟨c7,h⟩:=C9 h;refine Ac8 Z c7 F4 PV.str (pI .i64) eqS (y2.g x2.toNat) x2 x1 Fc ?_;exact d _ (Kg [0,1,2,3,4,16000,21000,22000,23000,24000,26000]) _ (Eh eqS (y2.g x2.toNat) x2 x1) (wrap .i64 (x2+1)) Fc h
 refine OC Z Fc h (λx3 x4 x5=>⟨[(48,pN x5),(47,pN (y3.n:Int)),(46,.vec 21000),(3,.reg 26000 0)],[(26000,.cells [.vec 16000,.Ni 22000,.vec 21000,.Ni 23000,.Ni 24000]),(24000,oM (λx=>.agg (A0 x)) (pI .i64) x4),(23000,oM PV.str (pI .i64) x3),(22000,oM PV.str (pI .i64) x1),(21000,oV D2 3 D7 y3 true),(16000,oV F4 1 cS y2 true),(4,oM (λx=>.agg (A0 x)) (pI .i64) b.values),(3,oM PV.str (pI .i64) b.symbols),(2,oV D2 3 D7 b.sounds true),(1,oM PV.str (pI .i64) b.number),(0,.cells [.p (vSl 1 cS b.feats),.Ni 1,.vec 2,.Ni 3,.Ni 4])]⟩) (ids:=(Kg [0,1,2,3,4,16000,21000,22000,23000,24000,26000])) (λ_ _ _ _ _ f x3 x4 x5 j h=>?_);apply kI Z h<;>intro h
 .obtain⟨c13,h⟩:=C9 h;refine Qg Z (Ki (Ki c13.1 Hz) c13.2) 8000 (D7 (y3.g x5.toNat)) ?_;refine E3 Z Fc [5,11] ?_;refine An0 Hm (kt:=F4) (key:=PV.str (y3.g x5.toNat).Symbol) (z:=pI .i64 0) (y:=pI .i64 (HM eqS (y3.g x5.toNat).Symbol (0:Int) x3).2.1) (es:=Dd PV.str (pI .i64) x3) (es':=Dd PV.str (pI .i64) (HM eqS (y3.g x5.toNat).Symbol (0:Int) x3).2.2) (i:=(HM eqS (y3.g x5.toNat).Symbol (0:Int) x3).1) (NK (kP:=PV.str) (vP:=pI .i64) (eq:=eqS) (λ_ _=>by kernel_rfl) (y3.g x5.toNat).Symbol 0 x3) Fc ?_;refine SU Fc (i:=(HM eqS (y3.g x5.toNat).Symbol (0:Int) x3).1) (y:=pI .i64 x5) (es:=Dd PV.str (pI .i64) (HM eqS (y3.g x5.toNat).Symbol (0:Int) x3).2.2) (es':=Dd PV.str (pI .i64) (Eh eqS (y3.g x5.toNat).Symbol x5 x3)) (by rw[Cp];exact Kf eqS (y3.g x5.toNat).Symbol 0 x3) ((KT (HM eqS (y3.g x5.toNat).Symbol (0:Int) x3).2.2 (HM eqS (y3.g x5.toNat).Symbol (0:Int) x3).1 x5 (Kf eqS (y3.g x5.toNat).Symbol 0 x3)).trans (congrArg (Dd PV.str (pI .i64)) (KU eqS (y3.g x5.toNat).Symbol 0 x5 x3))) ?_;refine An0 Fc (kt:=B6) (key:=(λx=>.agg (A0 x)) (y3.g x5.toNat).S) (z:=pI .i64 0) (y:=pI .i64 (HM G9 (y3.g x5.toNat).S (0:Int) x4).2.1) (es:=Dd (λx=>.agg (A0 x)) (pI .i64) x4) (es':=Dd (λx=>.agg (A0 x)) (pI .i64) (HM G9 (y3.g x5.toNat).S (0:Int) x4).2.2) (i:=(HM G9 (y3.g x5.toNat).S (0:Int) x4).1) (NK (kP:=λx=>.agg (A0 x)) (vP:=pI .i64) (eq:=G9) (λ_ _=>by kernel_rfl) (y3.g x5.toNat).S 0 x4) (by decide +kernel:QW Tryz.prog B6=true) ?_;refine SU Fc (i:=(HM G9 (y3.g x5.toNat).S (0:Int) x4).1) (y:=pI .i64 x5) (es:=Dd (λx=>.agg (A0 x)) (pI .i64) (HM G9 (y3.g x5.toNat).S (0:Int) x4).2.2) (es':=Dd (λx=>.agg (A0 x)) (pI .i64) (Eh G9 (y3.g x5.toNat).S x5 x4)) (by rw[Cp];exact Kf G9 (y3.g x5.toNat).S 0 x4) ((KT (HM G9 (y3.g x5.toNat).S (0:Int) x4).2.2 (HM G9 (y3.g x5.toNat).S (0:Int) x4).1 x5 (Kf G9 (y3.g x5.toNat).S 0 x4)).trans (congrArg (Dd (λx=>.agg (A0 x)) (pI .i64)) (KU G9 (y3.g x5.toNat).S 0 x5 x4))) ?_;refine C7 Fc ?_;exact j _ (Kg [0,1,2,3,4,16000,21000,22000,23000,24000,26000]) _ (Eh eqS (y3.g x5.toNat).Symbol x5 x3) (Eh G9 (y3.g x5.toNat).S x5 x4) (wrap .i64 (x5+1)) Fc h
 obtain rfl:=B0 h;exact kO Z Fc [0,1,2,3,4,26000,22000,21000,23000,24000]
end Go.AM
namespace Go.AM
open Go.Proofs.Tryz
variable {N:Nat}
open IntKind (wrap)
open Go.Proofs
set_option maxRecDepth 10000
set_option maxHeartbeats 2000000
variable {S:U6}(Z:G6 S Tryz.prog) (Y:Km S)
include Z Y
def Em (N:Nat)(a:B2):Option ((Option B1)×Int):= (Fr N a.Feats).bind λy1=>My y1.1 (if (y1.2 != 0) then some (none,y1.2) else W8 N (λb (x1:Int)=>if (decide (x1<(a.Sounds.n:Int))) then if ((0:Int)<=x1/\x1<(a.Sounds.n:Int))then (Y1 N (a.Sounds.g x1.toNat).Symbol (a.Sounds.g x1.toNat).S).bind λy4=>if (y4 != 0) then some (none,y4) else b (wrap .i64 (x1+1)) else none else some (none,0)) 0) λz1=>if (y1.2 != 0) then some (none,y1.2) else fix6 N (λc (x2:Sl Str) (x3:List (Str×Int)) (x4:Sl K5) (x5:List (Str×Int)) (x6:List (Jf×Int)) (x7:Int)=>if (decide (x7<(a.Sounds.n:Int))) then if ((0:Int)<=x7/\x7<(a.Sounds.n:Int))then (Co N (⟨x2,x3,x4,x5,x6⟩:B1) (a.Sounds.g x7.toNat).Symbol (a.Sounds.g x7.toNat).S).bind λy7=>if (y7.1 != 0) then some (none,y7.1) else c y7.2.feats y7.2.number y7.2.sounds y7.2.symbols y7.2.values (wrap .i64 (x7+1)) else none else some (some (⟨x2,x3,x4,x5,x6⟩:B1),0)) z1.feats z1.number z1.sounds z1.symbols z1.values 0
theorem HG {a:B2}{y:(Option B1)×Int}(h:Em N a=some y) :Mb S Hy [.p (.agg (B5 a))] [] (.tup [My y.1 (.p Ay8) λ_=>.reg 0 0,pN y.2]) (My y.1 [] λo=>[(.cells [.p (vSl 1 cS o.feats),.Ni 1,.vec 2,.Ni 3,.Ni 4]),oM PV.str (pI .i64) o.number,oV D2 3 D7 o.sounds true,oM PV.str (pI .i64) o.symbols,oM (λx=>.agg (A0 x)) (pI .i64) o.values]) []:=by
 unfold Em at h;refine A2 Z func101 ?_;obtain⟨y1,e1,h⟩:=A8 h;rcases o1:y1.1 with _|z1
 .replace h:=Ab8 o1 h;have w1:=(IG Z Y e1);simp only[o1,CM,EU,Bn3,Bk9,Bq8]at w1;refine B3 Z [] Fc w1 ?_;apply kI Z h<;>intro h
  .obtain rfl:=B0 h;exact kO Z Fc []
  refine P9 Z Fc h (λx1=>⟨[(21,pN x1),(20,pN (a.Sounds.n:Int)),(19,.p (vSl 3 D7 a.Sounds)),(4,.p Ay8)],[]⟩) (ids:=[]) (λ_ _ _ _ _ b x1 c h=>?_);apply kI Z h<;>intro h
  .obtain⟨c9,h⟩:=C9 h;obtain⟨y4,e4,h⟩:=A8 h;refine B3 Z [] (Ki c9 Hz) (He Z Y e4) ?_;apply kI Z h<;>intro h
   .obtain rfl:=B0 h;exact kO Z Fc []
   exact c _ [] _ (wrap .i64 (x1+1)) Fc h
  obtain rfl:=B0 h;exact kO Z Fc []
 replace h:=YV o1 h;have w2:=(IG Z Y e1);simp only[o1,CM,EU,Bn3,Bk9,Bq8]at w2;refine B3 Z [] Fc w2 ?_;apply kI Z h<;>intro h
 .obtain rfl:=B0 h;exact kO Z Fc []
 refine Ba5 Z Fc h (λx2 x3 x4 x5 x6 x7=>⟨[(21,pN x7),(20,pN (a.Sounds.n:Int)),(19,.p (vSl 3 D7 a.Sounds)),(4,.reg 13000 0)],[(13004,oM (λx=>.agg (A0 x)) (pI .i64) x6),(13003,oM PV.str (pI .i64) x5),(13001,oM PV.str (pI .i64) x3),(13000,.cells [.p (vSl 1 cS x2),.Ni 13001,.vec 5500,.Ni 13003,.Ni 13004]),(5500,oV D2 3 D7 x4 true)]⟩) (ids:=[(5500,13002),(13000,13000),(13001,13001),(13003,13003),(13004,13004)]) (λ_ _ _ _ _ d x2 x3 x4 x5 x6 x7 f h=>?_);apply kI Z h<;>intro h
 .obtain⟨c19,h⟩:=C9 h;obtain⟨y7,e7,h⟩:=A8 h;refine B3 Z [13000,13001,5500,13003,13004] (Ki c19 Hz) (Ko Z Y e7) ?_;apply kI Z h<;>intro h
  .obtain rfl:=B0 h;exact kO Z Fc []
  exact f _ [(5500,31002),(13000,13000),(13001,13001),(13003,13003),(13004,13004)] _ y7.2.feats y7.2.number y7.2.sounds y7.2.symbols y7.2.values (wrap .i64 (x7+1)) Fc h
 obtain rfl:=B0 h;exact kO Z Fc [13000,13001,5500,13003,13004]
def Eo (N:Nat)(a:Jp)(q0:Jp):Option Bool:= some ((a.Text==q0.Text) != false)
theorem Nz {a:Jp}{q0:Jp}{y:Bool}(h:Eo N a q0=some y) :Mb S HB [.p (.agg (V8 a)),.p (.ptr (V8 q0))] [] (pB y) ([]) []:=by unfold Eo at h;refine A2 Z func146 ?_;cases h;exact kR Z
def I7 (N:Nat)(a:Sl Jp)(c:Jp->Option Bool):Option Int:= W8 N (λb (x1:Int)=>if (decide (x1<(a.n:Int))) then if ((0:Int)<=x1/\x1<(a.n:Int))then (c (a.g x1.toNat)).bind λy3=>if y3 then some x1 else b (wrap .i64 (x1+1)) else none else some (-1)) 0
theorem AF {a:Sl Jp}{c:Jp->Option Bool}{kp_f:Nat}{cp_f_0:List PV}(d:∀{a0:Jp}{b:Bool},c a0=some b->Mb S kp_f [.p (.agg (V8 a0)),.p (.ptr cp_f_0)] [] (pB b) [] []){y:Int}(h:I7 N a c=some y) :Mb S O9 [.p (vSl 4 V8 a),.clo kp_f [] [.p (.ptr cp_f_0)]] [] (pN y) ([]) []:=by
 unfold I7 at h;refine A2 Z func185 ?_;refine P9 Z Fc h (λx1=>⟨[(8,pN x1),(7,pN (a.n:Int)),(1,.clo kp_f [] [.p (.ptr cp_f_0)]),(0,.p (vSl 4 V8 a))],[]⟩) (ids:=[]) (λ_ _ _ _ _ f x1 g h=>?_);apply kI Z h<;>intro h
 .obtain⟨c8,h⟩:=C9 h;obtain⟨y3,e3,h⟩:=A8 h;refine B3 Z [] (Ki c8 Ik) (d e3) ?_;apply kI Z h<;>intro h
  .cases h;exact kR Z
  exact g _ [] _ (wrap .i64 (x1+1)) Fc h
 cases h;exact kR Z
def G8 (N:Nat)(a:Sl Jp)(b:Jp->Option Bool):Option Bool:= (I7 N a b).bind λy1=>some (decide (0<=y1))
theorem Z3 {a:Sl Jp}{c:Jp->Option Bool}{kp_f:Nat}{cp_f_0:List PV}(d:∀{a0:Jp}{b:Bool},c a0=some b->Mb S kp_f [.p (.agg (V8 a0)),.p (.ptr cp_f_0)] [] (pB b) [] []){y:Bool}(h:G8 N a c=some y) :Mb S N9 [.p (vSl 4 V8 a),.clo kp_f [] [.p (.ptr cp_f_0)]] [] (pB y) ([]) []:=by unfold G8 at h;refine A2 Z func145 ?_;refine kC Z h (AF Z Y (λe=>d e)) (λy1 h=>?_);cases h;exact kR Z
def Gb (N:Nat)(c:B1)(a:Sl Jp):Option Int:= (Bw N c).bind λy1=>My y1 (some 1) λz1=>if (decide (32<(a.n:Int))) then some 12 else (AE N z1).bind λy2=>if (0:Int)<=(y2.n:Int)then W8 N (λb (x3:Int)=>if (decide (x3<(a.n:Int))) then if ((0:Int)<=x3/\x3<(a.n:Int))then lt (λ(z6:Bool)=>if z6 then some 15 else lt (λ(z7:Bool)=>if z7 then some 2 else if ((0:Int)<=x3/\x3<=(a.n:Int))then (G8 N (a.take x3.toNat) (λ(u3:Jp)=>Eo N u3 (a.g x3.toNat))).bind λd=>if d then some 6 else b (wrap .i64 (x3+1)) else none) λk6=>if ((P2 .and .u32 (P2 .or .u32 (a.g x3.toNat).Clear (P2 .or .u32 (a.g x3.toNat).Set.Plus (a.g x3.toNat).Set.Minus)) (P2 .xor .u32 4294967295 (wrap .u32 ((shI .shl .u32 1 (y2.n:Int))-1)))) != 0) then k6 true else if ((P2 .and .u32 (a.g x3.toNat).Clear (P2 .or .u32 (a.g x3.toNat).Set.Plus (a.g x3.toNat).Set.Minus)) != 0) then k6 true else (H7 N (a.g x3.toNat).Set).bind λf=>k6 (!f)) λk5=>if (((a.g x3.toNat).Text==[]) != false) then k5 true else if (decide (3<((a.g x3.toNat).Text.length:Int))) then k5 true else (DE N (a.g x3.toNat).Text [58,39,34,126,94,95,61,96]).bind λi=>k5 ((i==[]) != true) else none else (K9 N a).bind λj=>some 0) 0 else none
theorem QT {b:B1}{a:Sl Jp}{y:Int}(h:Gb N b a=some y) :Mb S FU [.reg 0 0,.p (vSl 4 V8 a)] [.cells [.p (vSl 1 cS b.feats),.Ni 1,.vec 2,.Ni 3,.Ni 4],oM PV.str (pI .i64) b.number,oV D2 3 D7 b.sounds true,oM PV.str (pI .i64) b.symbols,oM (λx=>.agg (A0 x)) (pI .i64) b.values] (.tup [.top,pN y]) ([.cells [.p (vSl 1 cS b.feats),.Ni 1,.vec 2,.Ni 3,.Ni 4],oM PV.str (pI .i64) b.number,oV D2 3 D7 b.sounds true,oM PV.str (pI .i64) b.symbols,oM (λx=>.agg (A0 x)) (pI .i64) b.values]) [true,true,true,true,true]:=by
 unfold Gb at h;refine A2 Z func102 ?_;obtain⟨y1,e1,h⟩:=A8 h;rcases o1:y1 with _|z1
 .replace h:=Ab8 o1 h;have w1:=(Ew Z Y e1);simp only[o1,CM,EU,Bn3,Bk9,Bq8]at w1;refine B3 Z [0,1,2,3,4] Fc w1 ?_;obtain rfl:=B0 h;exact kO Z Fc [0,1,2,3,4]
 replace h:=YV o1 h;have w2:=(Ew Z Y e1);simp only[o1,CM,EU,Bn3,Bk9,Bq8]at w2;refine B3 Z [0,1,2,3,4] Fc w2 ?_;apply kI Z h<;>intro h
 .obtain rfl:=B0 h;exact kO Z Fc [0,1,2,3,4]
 obtain⟨y2,e2,h⟩:=A8 h;refine B3 Z [13005,13006,13007,13008,13009] Fc (IH Z Y e2) ?_;obtain⟨c2,h⟩:=C9 h;refine P9 Z c2 h (λx3=>⟨[(26,pN x3),(25,pN (a.n:Int)),(24,.p (vSl 4 V8 a)),(7,pU (P2 .xor .u32 4294967295 (wrap .u32 ((shI .shl .u32 1 (y2.n:Int))-1)))),(6,.reg 13005 0),(1,.p (vSl 4 V8 a))],[(13009,oM (λx=>.agg (A0 x)) (pI .i64) z1.values),(13008,oM PV.str (pI .i64) z1.symbols),(13007,oV D2 3 D7 z1.sounds true),(13006,oM PV.str (pI .i64) z1.number),(13005,.cells [.p (vSl 1 cS z1.feats),.Ni 13006,.vec 13007,.Ni 13008,.Ni 13009]),(4,oM (λx=>.agg (A0 x)) (pI .i64) b.values),(3,oM PV.str (pI .i64) b.symbols),(2,oV D2 3 D7 b.sounds true),(1,oM PV.str (pI .i64) b.number),(0,.cells [.p (vSl 1 cS b.feats),.Ni 1,.vec 2,.Ni 3,.Ni 4])]⟩) (ids:=(Kg [0,1,2,3,4,13005,13006,13007,13008,13009])) (λ_ _ _ _ _ f x3 i h=>?_);apply kI Z h<;>intro h
 .obtain⟨c40,h⟩:=C9 h;refine Mz Z (Ki c40 Ik) (A4 Z) h 0 (λz6=>⟨[(38,pB z6),(26,pN x3),(25,pN (a.n:Int)),(24,.p (vSl 4 V8 a)),(10,pU (P2 .or .u32 (a.g x3.toNat).Set.Plus (a.g x3.toNat).Set.Minus)),(9,.reg 10000 0),(8,pN x3),(7,pU (P2 .xor .u32 4294967295 (wrap .u32 ((shI .shl .u32 1 (y2.n:Int))-1)))),(6,.reg 13005 0),(1,.p (vSl 4 V8 a))],[(13009,oM (λx=>.agg (A0 x)) (pI .i64) z1.values),(13008,oM PV.str (pI .i64) z1.symbols),(13007,oV D2 3 D7 z1.sounds true),(13006,oM PV.str (pI .i64) z1.number),(13005,.cells [.p (vSl 1 cS z1.feats),.Ni 13006,.vec 13007,.Ni 13008,.Ni 13009]),(10000,.cells ((V8 (a.g x3.toNat)).map .p)),(4,oM (λx=>.agg (A0 x)) (pI .i64) b.values),(3,oM PV.str (pI .i64) b.symbols),(2,oV D2 3 D7 b.sounds true),(1,oM PV.str (pI .i64) b.number),(0,.cells [.p (vSl 1 cS b.feats),.Ni 1,.vec 2,.Ni 3,.Ni 4])]⟩) (λM5 k5 c h=>?_) (λz6 h=>?_)
  .refine kG Z h (λh=>?_) (λh=>?_)
   .exact c _ (Kg [0,1,2,3,4,10000,13005,13006,13007,13008,13009]) _ true Fc h
   refine kG Z h (λh=>?_) (λh=>?_)
   .exact c _ (Kg [0,1,2,3,4,10000,13005,13006,13007,13008,13009]) _ true Fc h
   refine kC Z h (JJ Z Y) (λj h=>?_);exact c _ (Kg [0,1,2,3,4,10000,13005,13006,13007,13008,13009]) _ ((j==[]) != true) Fc h
  apply kI Z h<;>intro h
  .obtain rfl:=B0 h;exact kO Z Fc [0,1,2,3,4]
  refine Mz Z Fc (A4 Z) h 0 (λz7=>⟨[(54,pB z7),(26,pN x3),(25,pN (a.n:Int)),(24,.p (vSl 4 V8 a)),(9,.reg 10000 0),(8,pN x3),(7,pU (P2 .xor .u32 4294967295 (wrap .u32 ((shI .shl .u32 1 (y2.n:Int))-1)))),(6,.reg 13005 0),(1,.p (vSl 4 V8 a))],[(13009,oM (λx=>.agg (A0 x)) (pI .i64) z1.values),(13008,oM PV.str (pI .i64) z1.symbols),(13007,oV D2 3 D7 z1.sounds true),(13006,oM PV.str (pI .i64) z1.number),(13005,.cells [.p (vSl 1 cS z1.feats),.Ni 13006,.vec 13007,.Ni 13008,.Ni 13009]),(10000,.cells ((V8 (a.g x3.toNat)).map .p)),(4,oM (λx=>.agg (A0 x)) (pI .i64) b.values),(3,oM PV.str (pI .i64) b.symbols),(2,oV D2 3 D7 b.sounds true),(1,oM PV.str (pI .i64) b.number),(0,.cells [.p (vSl 1 cS b.feats),.Ni 1,.vec 2,.Ni 3,.Ni 4])]⟩) (λM6 k6 d h=>?_) (λz7 h=>?_)
  .refine kG Z h (λh=>?_) (λh=>?_)
   .exact d _ (Kg [0,1,2,3,4,10000,13005,13006,13007,13008,13009]) _ true Fc h
   refine kG Z h (λh=>?_) (λh=>?_)
   .exact d _ (Kg [0,1,2,3,4,10000,13005,13006,13007,13008,13009]) _ true Fc h
   refine kC Z h (Q8 Z Y) (λl h=>?_);exact d _ (Kg [0,1,2,3,4,10000,13005,13006,13007,13008,13009]) _ (!l) Fc h
  apply kI Z h<;>intro h
  .obtain rfl:=B0 h;exact kO Z Fc [0,1,2,3,4]
  obtain⟨c55,h⟩:=C9 h;refine F6 Z c55 79 10000 (V8 (a.g x3.toNat)) ?_;refine kC Z h (Z3 Z Y (λe=>Nz Z Y e)) (λm h=>?_);apply kI Z h<;>intro h
  .obtain rfl:=B0 h;exact kO Z Fc [0,1,2,3,4]
  exact i _ (Kg [0,1,2,3,4,13005,13006,13007,13008,13009]) _ (wrap .i64 (x3+1)) Fc h
 refine kC Z h (Cn Z Y) (λo h=>?_);obtain rfl:=B0 h;exact kO Z Fc [0,1,2,3,4]
def CY (N:Nat)(a:Sl Jp):Option Int:= (W4 N ).bind λy1=>some 1
theorem LC {a:Sl Jp}{y:Int}(h:CY N a=some y) :Mb S FU [.p Ay8,.p (vSl 4 V8 a)] [] (.tup [.top,pN y]) ([]) []:=by unfold CY at h;refine A2 Z func102 ?_;refine kC Z h (GC Z Y) (λy1 h=>?_);obtain rfl:=B0 h;exact kO Z Fc []
def Ea (N:Nat)(a:B2):Option Int:= (Em N a).bind λy1=>My y1.1 (if (y1.2 != 0) then some y1.2 else (CY N a.Marks).bind λy2=>if (y2 != 0) then some y2 else some 0) λz1=>if (y1.2 != 0) then some y1.2 else (Gb N z1 a.Marks).bind λy3=>if (y3 != 0) then some y3 else some 0
theorem Wa {a:B2}{y:Int}(h:Ea N a=some y) :Mb S ML [.p (.agg (B5 a))] [] (.tup [.top,.top,pN y]) ([]) []:=by
 unfold Ea at h;refine A2 Z func63 ?_;obtain⟨y1,e1,h⟩:=A8 h;rcases o1:y1.1 with _|z1
 .replace h:=Ab8 o1 h;have w1:=(HG Z Y e1);simp only[o1,CM,EU,Bn3,Bk9,Bq8]at w1;refine B3 Z [] Fc w1 ?_;apply kI Z h<;>intro h
  .obtain rfl:=B0 h;exact kO Z Fc []
  refine kC Z h (LC Z Y) (λy2 h=>?_);apply kI Z h<;>intro h
  .obtain rfl:=B0 h;exact kO Z Fc []
  obtain rfl:=B0 h;exact kO Z Fc []
 replace h:=YV o1 h;have w2:=(HG Z Y e1);simp only[o1,CM,EU,Bn3,Bk9,Bq8]at w2;refine B3 Z [] Fc w2 ?_;apply kI Z h<;>intro h
 .obtain rfl:=B0 h;exact kO Z Fc []
 obtain⟨y3,e3,h⟩:=A8 h;refine B3 Z [11000,11001,11002,11003,11004] Fc (QT Z Y e3) ?_;apply kI Z h<;>intro h
 .obtain rfl:=B0 h;exact kO Z Fc []
 obtain rfl:=B0 h;exact kO Z Fc []
def U5 (N:Nat)(a:B2):Option Int:= (Ea N a).bind λy1=>if (y1 != 0) then some y1 else (U9 N a.Nm a.Nl a.Np).bind λy2=>some y2
theorem FN {a:B2}{y:Int}(h:U5 N a=some y) :Mb S MH [.p (.agg (B5 a))] [] (pN y) ([]) []:=by
 unfold U5 at h;refine A2 Z func30 ?_;refine kC Z h (Wa Z Y) (λy1 h=>?_);apply kI Z h<;>intro h
 .cases h;exact kR Z
 refine kC Z h (JO Z Y) (λy2 h=>?_);cases h;exact kR Z
end Go.AM
namespace Go.AM
open Go.Proofs.Tryz
variable {N:Nat}
open IntKind (wrap)
open Go.Proofs
set_option maxRecDepth 10000
set_option maxHeartbeats 2000000
variable {S:U6}(Z:G6 S Tryz.prog) (Y:Km S)
def Bd5 {T:Type}{e:TypeId}{k:Nat}{c:T->List PV}{X:Sl (Sl T)}{z:Sl T}:∀q,q<X.n+1->(λq=>if q=X.n then Fm e k c z else Fm e k c (X.g q)) q=(λq=>Fm e k c ((X.push z).g q)) q:=λq a=>by
 show (if q=X.n then Fm e k c z else Fm e k c (X.g q))=Fm e k c (if q<X.n then X.g q else z);by_cases h:q=X.n
 .rw[Ej h,Er (by omega)]
 rw[Er h,Ej (by omega)]
def AS4 {T:Type}{e:TypeId}{k n i:Nat}{c:T->List PV}{X:Sl (Sl T)}{z:Sl T}:∀q,q<n->(Ra (if q=i then Fm e k c z else if q=i then Obj.dead else Fm e k c (X.g q))).isSome=true:=λq _=>by
 by_cases h:q=i
 .rw[Ej h];rfl
 rw[Er h,Er h];rfl
def Bd6 {T:Type}{e:TypeId}{k n i:Nat}{c:T->List PV}{X:Sl (Sl T)}{z:Sl T}:∀q,q<n->[(Ra (if q=i then Fm e k c z else if q=i then Obj.dead else Fm e k c (X.g q))).getD default]=cL k c ((X.upd i z).g q):=λq _=>by
 show _=cL k c (if q=i then z else X.g q);by_cases h:q=i
 .rw[Ej h,Ej h];rfl
 rw[Er h,Er h,Er h];rfl
include Z Y
def L0 (N:Nat)(s:Sl Node):Option (Sl Node):=if (0+s.n)*24<=140737488355328/\0+s.n<=140737488355328 then some s else none
theorem Cq {s y:Sl Node}(h:L0 N s=some y):Mb S S5 [.p (vSl 2 C6 s)] [] (.vec 0) [.vec O3 2 y.n (λi=>C6 (y.g i)) true] []:=by
 unfold L0 at h;obtain⟨c1,h⟩:=C9 h;obtain rfl:=B0 h;refine A2 Z func103 ?_;refine Vf Z Fc 3 (k:=2) (n:=s.n) (f:=λi=>C6 (s.g i)) (λa=>?_) ?_
 .obtain⟨n,g⟩:=s;obtain rfl:n=0:=a;exact kO Z Fc [3700]
 exact kO Z (Ki Iu c1) [8000]
  (hle:=kl1 0 (AJ9 C6 s [pI .i64 0,.str []]))
def V2 (N:Nat)(s:Sl Int):Option (Sl Int):=if (0+s.n)*8<=140737488355328/\0+s.n<=140737488355328 then some s else none
theorem Gc {s y:Sl Int}(h:V2 N s=some y):Mb S BH [.p (vSl 1 (cI .i64) s)] [] (.vec 0) [.vec E4 1 y.n (λi=>cI .i64 (y.g i)) false] []:=by
 unfold V2 at h;obtain⟨c1,h⟩:=C9 h;obtain rfl:=B0 h;refine A2 Z func104 ?_;refine Vf Z Fc 3 (k:=1) (n:=s.n) (f:=λi=>cI .i64 (s.g i)) (λa=>?_) ?_
 .obtain⟨n,g⟩:=s;obtain rfl:n=0:=a;exact kO Z Fc [3700]
 exact kO Z (Ki Iu c1) [8000]
  (hle:=kl1 0 (AJ9 (cI .i64) s [pI .i64 0]))
def K4 (N:Nat)(c:Nm)(b:Int)(a:Int):Option (Nm×Int):= (K3 N c).bind λy1=>if (y1 != 0) then some ((⟨(Sl.nil:Sl Node),(Sl.nil:Sl Law),(Sl.nil:Sl (Sl Int))⟩:Nm),y1) else (U8 N c b).bind λy2=>if ((!y2)=false->((decide (a<0))=false->((0:Int)<=b/\b<(c.On.n:Int))))then if (((!y2)||(decide (a<0)))||(decide ((wrap .i64 (((c.On.g b.toNat).n:Int)-1))<=a))) then some ((⟨(Sl.nil:Sl Node),(Sl.nil:Sl Law),(Sl.nil:Sl (Sl Int))⟩:Nm),3) else (L0 N c.Tree).bind λy3=>Bx N (λd (x1:Sl Law) (x2:Int)=>if (decide (x2<(c.Laws.n:Int))) then if ((0:Int)<=x2/\x2<(c.Laws.n:Int))then (T7 N (c.Laws.g x2.toNat)).bind λy6=>if (Kh 200 (x1.n+(Sl.of [y6]:Sl Law).n))then d (x1.push y6) (wrap .i64 (x2+1)) else none else none else Bx N (λf (x3:Sl (Sl Int)) (x4:Int)=>if (decide (x4<(c.On.n:Int))) then if ((0:Int)<=x4/\x4<(c.On.n:Int))then (V2 N (c.On.g x4.toNat)).bind λy9=>if (Kh 24 (x3.n+(Sl.of [y9]:Sl (Sl Int)).n))then f (x3.push y9) (wrap .i64 (x4+1)) else none else none else if b.toNat<x3.n then if (((0:Int)<=b/\b<(x3.n:Int))/\((0:Int)<=a/\a<((x3.g b.toNat).n:Int))/\((0:Int)<=(wrap .i64 (a+1))/\(wrap .i64 (a+1))<((x3.g b.toNat).n:Int)))then some ((⟨y3,x1,x3.upd b.toNat (((x3.g b.toNat).upd a.toNat ((x3.g b.toNat).g (wrap .i64 (a+1)).toNat)).upd (wrap .i64 (a+1)).toNat ((x3.g b.toNat).g a.toNat))⟩:Nm),0) else none else none) (Sl.nil:Sl (Sl Int)) 0) (Sl.nil:Sl Law) 0 else none
theorem JP {j:Nm}{f:Int}{d:Int}{y:Nm×Int}(h:K4 N j f d=some y) :Mb S Jw [.p (.agg (A7 j)),pN f,pN d] [] (.tup [.p (.agg (A7 y.1)),pN y.2]) ([]) []:=by
 unfold K4 at h;refine A2 Z func64 ?_;refine F6 Z Fc 6 4000 (A7 j) ?_;obtain⟨y1,e1,h⟩:=A8 h;refine B3 Z [] Hz (CV Z Y e1) ?_;apply kI Z h<;>intro h
 .obtain rfl:=B0 h;exact J7 Z Fc ⟨[(7,pN y1),(6,.reg 7000 0)],[(7000,.cells [.p (vSl 2 C6 (Sl.nil:Sl Node)),.p (vSl 18 B4 (Sl.nil:Sl Law)),.p (vSl 1 (cL 1 (cI .i64)) (Sl.nil:Sl (Sl Int)))])]⟩ [] (ids:=[(7000,7000)]) ⟨rfl,rfl,rfl⟩
 obtain⟨y2,e2,h⟩:=A8 h;refine B3 Z [] Hz (Ga Z Y e2) ?_;obtain⟨c2,h⟩:=C9 h;refine kB Z (A4 Z) Fc c2 14 (.o (.o (.a (!y2)) (.a (decide (d<0)))) (.a (decide ((wrap .i64 (((j.On.g f.toNat).n:Int)-1))<=d)))) ?_;apply kI Z h<;>intro h
 .obtain rfl:=B0 h;exact J7 Z Fc ⟨[(7,pN 3),(6,.reg 7000 0)],[(7000,.cells [.p (vSl 2 C6 (Sl.nil:Sl Node)),.p (vSl 18 B4 (Sl.nil:Sl Law)),.p (vSl 1 (cL 1 (cI .i64)) (Sl.nil:Sl (Sl Int)))])]⟩ [] (ids:=[(7000,7000)]) ⟨rfl,rfl,rfl⟩
 refine kC Z h (Cq Z Y) (λy3 h=>?_);refine I4 Z Fc h (λx1 x2=>⟨[(48,pN x2),(47,pN (j.Laws.n:Int)),(46,.p (vSl 18 B4 j.Laws)),(9,.reg 10000 0),(6,.reg 7000 0),(3,.p (.ptr (A7 j))),(2,pN d),(1,pN f)],[(44000,oV O3 2 C6 y3 true),(10500,oV H5 18 B4 x1 false),(10000,.cells [.vec 44000,.vec 10500,.p C8]),(7000,.cells [.p C8,.p C8,.p C8])]⟩) (ids:=(Kg [7000,10000,44000])) (λ_ _ _ _ _ m x1 x2 r h=>?_);apply kI Z h<;>intro h
 .obtain⟨c11,h⟩:=C9 h;refine Qg Z (Ki c11 Ip) 12000 (B4 (j.Laws.g x2.toNat)) ?_;refine E3 Z Fc [2,3] ?_;obtain⟨y6,e6,h⟩:=A8 h;refine G3 Ip (HF Z Y e6) ?_;refine N3 Fc (x:=.sl true 18 1 (H2 [.str [],pI .i64 0,pI .u32 0,pI .u32 0,.v (.bool false),pI .i64 0,pI .i64 0,C8,pI .i64 0,pI .u32 0,pI .u32 0,.v (.bool false),pI .i64 0,pI .i64 0,C8,C8,C8,pI .i64 0] [(0,B4 y6)])) ?_;obtain⟨c12,h⟩:=C9 h;refine C7 c12 ?_;exact r _ [(7000,7000),(10000,10000),(10500,58000),(44000,44000)] _ (x1.push y6) (wrap .i64 (x2+1)) Fc h (hle:=kl1 7 (X5 B4 x1 y6 [.str [],pI .i64 0,pI .u32 0,pI .u32 0,.v (.bool false),pI .i64 0,pI .i64 0,C8,pI .i64 0,pI .u32 0,pI .u32 0,.v (.bool false),pI .i64 0,pI .i64 0,C8,C8,C8,pI .i64 0]))
 refine O7 Z Fc 60 ⟨[(9,.reg 10000 0),(6,.reg 7000 0),(3,.p (.ptr (A7 j))),(2,pN d),(1,pN f)],[(44000,oV O3 2 C6 y3 true),(10501,.vec FJ 1 0 (λ_=>[]) false),(10500,oV H5 18 B4 x1 false),(10000,.cells [.vec 44000,.vec 10500,.vec 10501]),(7000,.cells [.p C8,.p C8,.p C8])]⟩ (ids:=(Kg [7000,10000,10500,44000])) ?_;refine EX Z Fc 60 (.fam 10501 10901 λi=>Fm E4 1 (cI .i64) ((Sl.nil:Sl (Sl Int)).g i)) (⟨by decide,λi u=>Es u (Bj5 i)⟩:1000<=10901/\∀i,i<0->Rc ((λ_=>[]) i) (Fm E4 1 (cI .i64) ((Sl.nil:Sl (Sl Int)).g i))) ?_;refine I4 Z Fc h (λx3 x4=>⟨[(63,pN x4),(62,pN (j.On.n:Int)),(61,.p (vSl 1 (cL 1 (cI .i64)) j.On)),(9,.reg 10000 0),(6,.reg 7000 0),(2,pN d),(1,pN f)],[(44000,oV O3 2 C6 y3 true),(10901,.rows x3.n λi=>Fm E4 1 (cI .i64) (x3.g i)),(10501,.fam FJ x3.n 10901 none),(10500,oV H5 18 B4 x1 false),(10000,.cells [.vec 44000,.vec 10500,.vec 10501]),(7000,.cells [.p C8,.p C8,.p C8])]⟩) (ids:=(Kg [7000,10000,10500,10501,10901,44000])) (λ_ _ _ _ _ s x3 x4 t h=>?_);apply kI Z h<;>intro h
 .obtain⟨c20,h⟩:=C9 h;refine F7 Z c20 [(1,.l [10000]),(3,.b [71000]),(4,.b [72000,71000])] ?_;obtain⟨y9,e9,h⟩:=A8 h;refine OD [] Fc (Gc Z Y e9) ?_;obtain⟨c21,h⟩:=C9 h;refine C7 c21 ?_;refine EX Z Fc 74 (.psh 73000 10902) (⟨by decide,rfl,rfl⟩:1000<=10902/\x3.n+1=x3.n+1/\x3.n=x3.n) ?_;exact t _ [(7000,7000),(10000,10000),(10500,10500),(10501,73000),(10901,10902),(44000,44000)] _ (x3.push y9) (wrap .i64 (x4+1)) Fc h (hle:=klR [(7,.ob (x3.n+1) (λq=>if q=x3.n then Fm E4 1 (cI .i64) y9 else Fm E4 1 (cI .i64) (x3.g q)) (λi=>Fm E4 1 (cI .i64) ((x3.push y9).g i)))] (al1 Bd5 al0))
 obtain⟨cT,h⟩:=C9 h;obtain⟨⟨c30,c31,c32⟩,h⟩:=C9 h;refine EX Z Fc 75 (.take 10501 f.toNat 10801) (⟨⟨by decide,rfl⟩,cT⟩:(1000<=10801/\x3.n=x3.n)/\f.toNat<x3.n) ?_;refine F7 Z (Ki c30 (Ki cT (rfl:f.toNat=f.toNat))) [(8,.l [10801]),(9,.l [10801]),(12,.l [10801]),(13,.l [10801]),(14,.l [10801]),(15,.a [10801]),(16,.l [10801]),(17,.a [10801])] ?_;have l1:(wrap .i64 (d+1)).toNat<(x3.g f.toNat).n:=by omega
 have l2:d.toNat<(x3.g f.toNat).n:=by omega
 refine C7 (Ki (Ki (Ki (Ki (Ki (Ki (Ki c32 l1) c31) l2) c31) (Ki (rfl:(1:Nat)=1) (Ki l2 Gt))) c32) (Ki (rfl:(1:Nat)=1) (Ki l1 Gt))) ?_;refine O7 Z Fc 96 ⟨[(9,.reg 10000 0),(6,.reg 7000 0)],[(44000,oV O3 2 C6 y3 true),(10901,(.rows x3.n λl=>if l=f.toNat then .dead else Fm E4 1 (cI .i64) (x3.g l))),(10801,Fm E4 1 (cI .i64) (((x3.g f.toNat).upd d.toNat ((x3.g f.toNat).g (wrap .i64 (d+1)).toNat)).upd (wrap .i64 (d+1)).toNat ((x3.g f.toNat).g d.toNat))),(10501,.fam FJ x3.n 10901 (some (f.toNat,.vec 10801))),(10500,oV H5 18 B4 x1 false),(10000,.cells [.vec 44000,.vec 10500,.vec 10501]),(7000,.cells [.p C8,.p C8,.p C8])]⟩ (ids:=(Kg [7000,10000,10500,10501,10801,10901,44000])) ?_ (hle:=klR [(3,.fn (x3.g f.toNat).n (((x3.g f.toNat).upd d.toNat ((x3.g f.toNat).g (wrap .i64 (d+1)).toNat)).upd (wrap .i64 (d+1)).toNat ((x3.g f.toNat).g d.toNat)).n (λl=>if l=(wrap .i64 (d+1)).toNat then splice ((λl=>if l=d.toNat then splice ((λi=>cI .i64 ((x3.g f.toNat).g i)) l) 0 [pI .i64 ((x3.g f.toNat).g (wrap .i64 (d+1)).toNat)]else (λi=>cI .i64 ((x3.g f.toNat).g i)) l) l) 0 [pI .i64 ((x3.g f.toNat).g d.toNat)]else (λl=>if l=d.toNat then splice ((λi=>cI .i64 ((x3.g f.toNat).g i)) l) 0 [pI .i64 ((x3.g f.toNat).g (wrap .i64 (d+1)).toNat)]else (λi=>cI .i64 ((x3.g f.toNat).g i)) l) l) (λi=>cI .i64 ((((x3.g f.toNat).upd d.toNat ((x3.g f.toNat).g (wrap .i64 (d+1)).toNat)).upd (wrap .i64 (d+1)).toNat ((x3.g f.toNat).g d.toNat)).g i)))] (al1 ⟨rfl,AW0 (c:=cI .i64) (v:=(x3.g f.toNat).upd d.toNat ((x3.g f.toNat).g (wrap .i64 (d+1)).toNat)) (x:=(x3.g f.toNat).g d.toNat) (AW0 (c:=cI .i64) (v:=x3.g f.toNat) (x:=(x3.g f.toNat).g (wrap .i64 (d+1)).toNat) same (λ_=>by first|rfl|(dsimp only;split<;>rfl))) (λ_=>by first|rfl|(dsimp only;split<;>rfl))⟩ al0));refine EX Z Fc 96 (.put 10501 10902) (⟨⟨by decide,rfl⟩,cT⟩:(1000<=10902/\x3.n=x3.n)/\f.toNat<x3.n) ?_;refine EX Z Fc 96 (.pub 10501) (⟨rfl,AS4⟩:x3.n=x3.n/\∀q,q<x3.n->(Ra (if q=f.toNat then Fm E4 1 (cI .i64) (((x3.g f.toNat).upd d.toNat ((x3.g f.toNat).g (wrap .i64 (d+1)).toNat)).upd (wrap .i64 (d+1)).toNat ((x3.g f.toNat).g d.toNat))else if q=f.toNat then Obj.dead else Fm E4 1 (cI .i64) (x3.g q))).isSome=true) ?_;obtain rfl:=B0 h;exact J7 Z Fc ⟨[(7,pN 0),(6,.reg 7000 0)],[(7000,.cells [.p (vSl 2 C6 y3),.p (vSl 18 B4 x1),.p (vSl 1 (cL 1 (cI .i64)) (x3.upd f.toNat (((x3.g f.toNat).upd d.toNat ((x3.g f.toNat).g (wrap .i64 (d+1)).toNat)).upd (wrap .i64 (d+1)).toNat ((x3.g f.toNat).g d.toNat))))])]⟩ [] (ids:=[(7000,7000)]) ⟨rfl,rfl,rfl⟩ (hle:=klR [(3,.fn x3.n (x3.upd f.toNat (((x3.g f.toNat).upd d.toNat ((x3.g f.toNat).g (wrap .i64 (d+1)).toNat)).upd (wrap .i64 (d+1)).toNat ((x3.g f.toNat).g d.toNat))).n (λq=>[(Ra (if q=f.toNat then Fm E4 1 (cI .i64) (((x3.g f.toNat).upd d.toNat ((x3.g f.toNat).g (wrap .i64 (d+1)).toNat)).upd (wrap .i64 (d+1)).toNat ((x3.g f.toNat).g d.toNat))else if q=f.toNat then Obj.dead else Fm E4 1 (cI .i64) (x3.g q))).getD default]) (λi=>cL 1 (cI .i64) ((x3.upd f.toNat (((x3.g f.toNat).upd d.toNat ((x3.g f.toNat).g (wrap .i64 (d+1)).toNat)).upd (wrap .i64 (d+1)).toNat ((x3.g f.toNat).g d.toNat))).g i)))] (al1 ⟨rfl,Bd6⟩ al0))
end Go.AM
namespace Go.AM
open Go.Proofs.Tryz
variable {N:Nat}
open IntKind (wrap)
open Go.Proofs
set_option maxRecDepth 10000
set_option maxHeartbeats 2000000
variable {S:U6}(Z:G6 S Tryz.prog) (Y:Km S)
include Z Y
def CZ (N:Nat)(b:B2)(a:Int):Option Int:= (U5 N b).bind λy1=>if (y1 != 0) then some y1 else if ((decide (a<0))||(decide (1073741824<a))) then some 2 else some 0
theorem LD {c:B2}{b:Int}{y:Int}(h:CZ N c b=some y) :Mb S KZ [.p (.agg (B5 c)),pN b] [] (pN y) ([]) []:=by
 unfold CZ at h;refine A2 Z func25 ?_;refine kC Z h (FN Z Y) (λy1 h=>?_);apply kI Z h<;>intro h
 .cases h;exact kR Z
 refine kB Z (A4 Z) Fc Fc 3 (.o (.a (decide (b<0))) (.a (decide (1073741824<b)))) ?_;apply kI Z h<;>intro h
 .cases h;exact kR Z
 cases h;exact kR Z
def G1 (N:Nat)(b:Sl Law)(a:H3)(c:H3):Option Bool:= if ((!a.Has)||(!c.Has)) then some false else (S9 N b a.W).bind λy1=>lt (λ(z1:Bool)=>some z1) λk1=>if (y1.2==0) then (X0 N y1.1 c.W).bind λy3=>k1 y3 else k1 false
theorem AG {c:Sl Law}{b:H3}{d:H3}{y:Bool}(h:G1 N c b d=some y) :Mb S Ih [.p (vSl 18 B4 c),.p (.agg (F2 b)),.p (.agg (F2 d))] [] (pB y) ([]) []:=by
 unfold G1 at h;refine A2 Z func32 ?_;refine kB Z (A4 Z) Fc Fc 4 (.o (.a (!b.Has)) (.a (!d.Has))) ?_;apply kI Z h<;>intro h
 .cases h;exact kR Z
 refine kC Z h (Fl Z Y) (λy1 h=>?_);refine Mz Z Fc (A4 Z) h 0 (λz1=>⟨[(6,pB z1)],[]⟩) (λM1 k1 f h=>?_) (λz1 h=>?_)
 .refine kG Z h (λh=>?_) (λh=>?_)
  .refine kC Z h (MW Z Y) (λy3 h=>?_);exact f _ [] _ y3 Fc h
  exact f _ [] _ false Fc h
 cases h;exact kR Z
def N6 (N:Nat)(b:Nm):Option (Sl (Sl Law)):= (Q9 N b.Tree).bind λy1=>Bx N (λa (x1:Sl (Sl Law)) (x2:Int)=>if (decide (x2<(y1.1.n:Int))) then if (((0:Int)<=x2/\x2<(y1.1.n:Int))/\x2.toNat<y1.1.n)then (R7 N b (y1.1.g x2.toNat)).bind λy4=>if (Kh 24 (x1.n+(Sl.of [y4.1]:Sl (Sl Law)).n))then a (x1.push y4.1) (wrap .i64 (x2+1)) else none else none else some x1) (Sl.nil:Sl (Sl Law)) 0
theorem Da {a:Nm}{y:Sl (Sl Law)}(h:N6 N a=some y) :Mb S Lb [.p (.agg (A7 a))] [] (.p (vSl 1 (cL 18 B4) y)) ([]) []:=by
 unfold N6 at h;refine A2 Z func33 ?_;refine kC Z h (EE Z Y) (λy1 h=>?_);refine I4 Z Fc h (λx1 x2=>⟨[(18,pN x2),(17,pN (y1.1.n:Int)),(16,.vec 14000),(5,.vec 6500),(1,.reg 2000 0)],[(14000,oV E4 1 (cI .i64) y1.1 true),(6500,oV DP 1 (cL 18 B4) x1 false),(2000,.cells ((A7 a).map .p))]⟩) (ids:=(Kg [2000,14000])) (λ_ _ _ _ _ b x1 x2 c h=>?_);apply kI Z h<;>intro h
 .obtain⟨c6,h⟩:=C9 h;obtain⟨y4,e4,h⟩:=A8 h;refine B3 Z [] c6 (QO Z Y e4) ?_;obtain⟨c7,h⟩:=C9 h;exact c _ [(2000,2000),(6500,32000),(14000,14000)] _ (x1.push y4.1) (wrap .i64 (x2+1)) (Ki Iu c7) h (hle:=kl1 3 (X5 (cL 18 B4) x1 y4.1 [C8]))
 obtain rfl:=B0 h;exact kO Z Fc []
def Cr (N:Nat)(c:B2)(a:Int)(b:Int):Option Bool:= if ((decide (0<=a))=true->((decide (a<(c.Np.n:Int)))=true->((decide (0<=b))=true->((0:Int)<=a/\a<(c.Np.n:Int)))))then some ((((decide (0<=a))&&(decide (a<(c.Np.n:Int))))&&(decide (0<=b)))&&(decide (b<((c.Np.g a.toNat).Nq.n:Int)))) else none
theorem PF {d:B2}{b:Int}{c:Int}{y:Bool}(h:Cr N d b c=some y) :Mb S OX [.p (.agg (B5 d)),pN b,pN c] [] (pB y) ([]) []:=by unfold Cr at h;refine A2 Z func46 ?_;obtain⟨c1,h⟩:=C9 h;refine kB Z (A4 Z) Fc c1 21 (.n (.n (.n (.a (decide (0<=b))) (.a (decide (b<(d.Np.n:Int))))) (.a (decide (0<=c)))) (.a (decide (c<((d.Np.g b.toNat).Nq.n:Int))))) ?_;cases h;exact kR Z
def T2 (N:Nat)(a:B2)(p_x:FB):Option (Nm×Int):= (K4 N a.Nm p_x.Node p_x.Place).bind λy1=>lt (λ(z1:Bool)=>if z1 then some ((⟨(Sl.nil:Sl Node),(Sl.nil:Sl Law),(Sl.nil:Sl (Sl Int))⟩:Nm),3) else some (y1.1,0)) λk1=>if (y1.2 != 0) then k1 true else (Cr N a p_x.Nr p_x.Nj).bind λy3=>k1 (!y3)
theorem II {a:B2}{p_x:FB}{y:Nm×Int}(h:T2 N a p_x=some y) :Mb S Ig [.p (.agg (B5 a)),.p (.agg (V4 p_x))] [] (.tup [.p (.agg (A7 y.1)),pN y.2]) ([]) []:=by
 unfold T2 at h;refine A2 Z func31 ?_;refine kC Z h (JP Z Y) (λy1 h=>?_);refine Mz Z Fc (A4 Z) h 0 (λz1=>⟨[(28,pB z1),(6,.reg 7000 0),(4,.reg 5000 0)],[(7000,.cells ((A7 y1.1).map .p)),(5000,.cells [.p C8,.p C8,.p C8])]⟩) (λM1 k1 b h=>?_) (λz1 h=>?_)
 .refine kG Z h (λh=>?_) (λh=>?_)
  .exact b _ (Kg [5000,7000]) _ true Fc h
  refine kC Z h (PF Z Y) (λy3 h=>?_);exact b _ (Kg [5000,7000]) _ (!y3) Fc h
 apply kI Z h<;>intro h
 .obtain rfl:=B0 h;exact J7 Z Fc ⟨[(5,pN 3),(4,.reg 5000 0)],[(5000,.cells [.p (vSl 2 C6 (Sl.nil:Sl Node)),.p (vSl 18 B4 (Sl.nil:Sl Law)),.p (vSl 1 (cL 1 (cI .i64)) (Sl.nil:Sl (Sl Int)))])]⟩ [] (ids:=[(5000,5000)]) ⟨rfl,rfl,rfl⟩
 cases h;exact kR Z
def IJ (N:Nat)(a:B2)(p_x:FB):Option (Bool×Int):= (U5 N a).bind λy1=>if (y1 != 0) then some (false,y1) else (T2 N a p_x).bind λy2=>if (y2.2 != 0) then some (false,y2.2) else if ((((0:Int)<=p_x.Nr/\p_x.Nr<(a.Nl.n:Int))/\((0:Int)<=p_x.Nr/\p_x.Nr<(a.Np.n:Int)))/\((0:Int)<=p_x.Nj/\p_x.Nj<((a.Np.g p_x.Nr.toNat).Nq.n:Int)))then (N6 N a.Nm).bind λy3=>if ((0:Int)<=p_x.Nj/\p_x.Nj<(y3.n:Int))then (G1 N (y3.g p_x.Nj.toNat) (a.Nl.g p_x.Nr.toNat) ((a.Np.g p_x.Nr.toNat).Nq.g p_x.Nj.toNat)).bind λy4=>if y4 then (N6 N y2.1).bind λy5=>if ((0:Int)<=p_x.Nj/\p_x.Nj<(y5.n:Int))then (G1 N (y5.g p_x.Nj.toNat) (a.Nl.g p_x.Nr.toNat) ((a.Np.g p_x.Nr.toNat).Nq.g p_x.Nj.toNat)).bind λy6=>some (!y6,0) else none else some (false,0) else none else none
theorem Wb {c:B2}{p_x:FB}{y:Bool×Int}(h:IJ N c p_x=some y) :Mb S MC [.p (.agg (B5 c)),.p (.agg (V4 p_x))] [] (.tup [pB y.1,pN y.2]) ([]) []:=by
 unfold IJ at h;refine A2 Z func12 ?_;refine F6 Z Fc 3 3000 (B5 c) ?_;refine F6 Z Fc 4 4000 (V4 p_x) ?_;obtain⟨y1,e1,h⟩:=A8 h;refine B3 Z [] (by decide:(8:Nat)<=8) (FN Z Y e1) ?_;apply kI Z h<;>intro h
 .cases h;exact kR Z
 obtain⟨y2,e2,h⟩:=A8 h;refine B3 Z [] (Ki (by decide:(8:Nat)<=8) Ik) (II Z Y e2) ?_;refine F6 Z Fc 8 8000 (A7 y2.1) ?_;apply kI Z h<;>intro h
 .cases h;exact kR Z
 refine F7 Z Fc [(1,.n),(3,.n),(4,.n),(5,.n),(7,.n),(9,.n),(10,.n),(12,.n),(14,.n),(15,.n),(16,.n),(17,.a [10000]),(18,.a [11000]),(19,.a [10000]),(20,.a [11000])] ?_;obtain⟨c3,h⟩:=C9 h;refine C7 (Ki (Ki (Ki (Ki c3.1.1 Hm) c3.1.2) c3.2) Hm) ?_;refine Qg Z Fc 10000 [.bb (c.Nl.g p_x.Nr.toNat).Has,vSl 2 A0 (c.Nl.g p_x.Nr.toNat).W] ?_;refine Qg Z Fc 11000 [.bb ((c.Np.g p_x.Nr.toNat).Nq.g p_x.Nj.toNat).Has,vSl 2 A0 ((c.Np.g p_x.Nr.toNat).Nq.g p_x.Nj.toNat).W] ?_;refine E3 Z Fc [1,2,4,5,6,7,8,9,11,12,14,15,16,17,18,19] ?_;obtain⟨y3,e3,h⟩:=A8 h;refine G3 (by decide:(3:Nat)<=5) (Da Z Y e3) ?_;obtain⟨c4,h⟩:=C9 h;obtain⟨y4,e4,h⟩:=A8 h;refine G3 (Ki (Ki c4 Hm) Hm) (AG Z Y e4) ?_;refine J2 Fc (b:=y4) (λc5=>?_) (λc5=>?_)
 .replace h:=itT c5 h;obtain⟨y5,e5,h⟩:=A8 h;refine G3 Hz (Da Z Y e5) ?_;obtain⟨c6,h⟩:=C9 h;obtain⟨y6,e6,h⟩:=A8 h;refine G3 (Ki (Ki c6 Hm) Hm) (AG Z Y e6) ?_;refine C7 Fc ?_;cases h;exact kR Z
 replace h:=itF c5 h;refine C7 Fc ?_;cases h;exact kR Z
def H0 (N:Nat)(a:List (B7)):Option (Sl B7):= T4 a (λb (x1:B7) (z1:Sl B7)=>if (Kh 16 (z1.n+(Sl.of [x1]:Sl B7).n))then b (z1.push x1) else none) (λ(z1:Sl B7)=>some z1) (Sl.nil:Sl B7)
theorem CG {c:List (B7)}{a:B2}{b:(Sl (Sl Law))}{kp_seq:Nat}(fp_seq:∃fn,Bh6[kp_seq]? = some fn/\fn.body.isSome=true/\(fn.name == "runtime.NumGoroutine")=false)(d:ET S kp_seq [] [.reg 0 0,.reg 1 0] [(.cells ((B5 a).map .p)),(.cells [(.p (vSl 1 (cL 18 B4) b))])] (c.map (λ(x:B7)=>[(λx=>.agg (D6 x)) x]))){y:(Sl B7)}(h:H0 N c=some y) :Mb S U0 [(.p C8),(.clo kp_seq [] [(.reg 0 0),(.reg 1 0)])] [(.cells ((B5 a).map .p)),(.cells [(.p (vSl 1 (cL 18 B4) b))])] (.vec 0) ([(oV Bp 2 D6 y false)]) [false,false]:=by
 unfold H0 at h;refine A2 Z func98 ?_;refine NG Z Fc fp_seq [0,1] [2] 901 (λz1=>⟨[(2,(.reg 3000 0))],[(3500,(oV Bp 2 D6 z1 false)),(3000,(.cells [(.vec 3500)]))]⟩) (idl:=[(3000,3000)]) h d (λ_=>by kernel_rfl) (λ_=>by kernel_rfl) (λ_=>by kernel_rfl) (λ_=>by kernel_rfl) (λx1 _ f z1 g h=>?_) (λz1 h=>?_)
 .refine Ke Z Fc ?_;obtain⟨c1,h⟩:=C9 h;exact g _ [(901,901),(3000,3000),(3500,12000)] _ (z1.push x1) (Ki Iu c1) h (hle:=kl1 0 (X5 D6 z1 x1 [(pI .i64 0),(pI .i64 0)]))
 obtain rfl:=B0 h;exact kO Z Fc [3500]
def N7 (N:Nat)(a:List (B7)):Option (Sl B7):= (H0 N a).bind λy1=>some y1
theorem Hf {c:List (B7)}{a:B2}{b:(Sl (Sl Law))}{kp_seq:Nat}(fp_seq:∃fn,Bh6[kp_seq]? = some fn/\fn.body.isSome=true/\(fn.name == "runtime.NumGoroutine")=false)(d:ET S kp_seq [] [.reg 0 0,.reg 1 0] [(.cells ((B5 a).map .p)),(.cells [(.p (vSl 1 (cL 18 B4) b))])] (c.map (λ(x:B7)=>[(λx=>.agg (D6 x)) x]))){y:(Sl B7)}(h:N7 N c=some y) :Mb S De [(.clo kp_seq [] [(.reg 0 0),(.reg 1 0)])] [(.cells ((B5 a).map .p)),(.cells [(.p (vSl 1 (cL 18 B4) b))])] (.vec 0) ([(oV Bp 2 D6 y false)]) [false,false]:=by unfold N7 at h;refine A2 Z func60 ?_;obtain⟨y1,e1,h⟩:=A8 h;refine B3 Z [0,1] Fc (CG Z Y fp_seq d e1) ?_;obtain rfl:=B0 h;exact kO Z Fc [5000]
def Y2 (N:Nat)(q0:B2):Option (List (B7×Nm)):= W8 N (λa (x2:Int)=>if (decide (x2<(q0.Nm.On.n:Int))) then if ((0:Int)<=x2/\x2<(q0.Nm.On.n:Int))then W8 N (λb (x4:Int)=>if (decide (x4<(wrap .i64 (((q0.Nm.On.g x2.toNat).n:Int)-1)))) then (K4 N q0.Nm x2 x4).bind λy9=>Ag ((⟨x2,x4⟩:B7),y9.1) (b (wrap .i64 (x4+1))) else a (wrap .i64 (x2+1))) 0 else none else some []) 0
theorem Kq {q0:B2}{L:List (B7×Nm)}(h:Y2 N q0=some L) :ET S Cg [] [.reg 0 0] [.cells ((B5 q0).map .p)] (L.map (λ(x:B7×Nm)=>[(λx=>.agg (D6 x)) x.1,(λx=>.agg (A7 x)) x.2])):=by
 unfold Y2 at h;refine EB Z func100 ?_;refine Dl Z Fc h (λx2 L1=>⟨[(12,pN x2),(11,pN (q0.Nm.On.n:Int)),(10,.p (vSl 1 (cL 1 (cI .i64)) q0.Nm.On)),(1,.reg 0 0),(0,.yf 1)],[(1,.yld (L1.map (λ(x:B7×Nm)=>[(λx=>.agg (D6 x)) x.1,(λx=>.agg (A7 x)) x.2])) true),(0,.cells ((B5 q0).map .p))]⟩) (ids:=(Kg [0,1])) (λ_ _ _ _ _ d x2 L1 f h=>?_);apply kI Z h<;>intro h
 .obtain⟨c24,h⟩:=C9 h;refine Dl Z c24 h (λx4 L10=>⟨[(20,pN x4),(19,pN (wrap .i64 (((q0.Nm.On.g x2.toNat).n:Int)-1))),(12,pN x2),(11,pN (q0.Nm.On.n:Int)),(10,.p (vSl 1 (cL 1 (cI .i64)) q0.Nm.On)),(3,pN x2),(1,.reg 0 0),(0,.yf 1)],[(1,.yld (L10.map (λ(x:B7×Nm)=>[(λx=>.agg (D6 x)) x.1,(λx=>.agg (A7 x)) x.2])) true),(0,.cells ((B5 q0).map .p))]⟩) (ids:=(Kg [0,1])) (λ_ _ _ _ _ i x4 L10 j h=>?_);apply kI Z h<;>intro h
  .refine kC Z h (JP Z Y) (λy9 h=>?_);obtain⟨L13,rfl,c⟩:=LY h;replace h:=c;refine Dk Z Fc (ys:=(λ(x:B7×Nm)=>[(λx=>.agg (D6 x)) x.1,(λx=>.agg (A7 x)) x.2]) ((⟨x2,x4⟩:B7),y9.1)) (rest:=L13.map (λ(x:B7×Nm)=>[(λx=>.agg (D6 x)) x.1,(λx=>.agg (A7 x)) x.2])) ?_ ?_
   .refine D0 Z Fc (b:=false) (λc32=>?_) (λc32=>?_)
    .exact Bool.noConfusion ((rfl:false=false).symm.trans c32)
    exact j _ (Kg [0,1]) _ (wrap .i64 (x4+1)) L13 Fc h
   refine D0 Z Fc (b:=true) (λc33=>?_) (λc33=>?_)
   .exact kO Z Fc (a:=.tup []) (objs:=[(.cells ((B5 q0).map .p)),.yld [] false]) [0,1] ⟨false,rfl,rfl,_,rfl⟩
   exact Bool.noConfusion (Iu.symm.trans c33)
  exact f _ (Kg [0,1]) _ (wrap .i64 (x2+1)) L10 Fc h
 obtain rfl:=B0 h;exact kO Z Fc (a:=.tup []) (objs:=[(.cells ((B5 q0).map .p)),.yld [] true]) [0,1] ⟨true,rfl,rfl,_,rfl⟩
def Du (N:Nat)(a:B2):Option (B2):= some a
theorem Mj {a:B2}{y:B2}(h:Du N a=some y) :Mb S Gv [.p (.agg (B5 a))] [] (.clo Cg [] [.reg 0 0]) ([.cells ((B5 y).map .p)]) []:=by unfold Du at h;refine A2 Z func62 ?_;obtain rfl:=B0 h;exact kO Z Fc [2000]
def G2 (N:Nat)(a:Sl A5)(b:Sl A5):Option Bool:= if ((a.n:Int) != (b.n:Int)) then some false else W8 N (λc (x1:Int)=>if (decide (x1<(a.n:Int))) then if (((0:Int)<=x1/\x1<(a.n:Int))/\((0:Int)<=x1/\x1<(b.n:Int)))then if ((((a.g x1.toNat).Nr==(b.g x1.toNat).Nr)&&(((a.g x1.toNat).Nj==(b.g x1.toNat).Nj)&&(((a.g x1.toNat).Kind==(b.g x1.toNat).Kind)&&((a.g x1.toNat).Cost==(b.g x1.toNat).Cost)))) != true) then some false else c (wrap .i64 (x1+1)) else none else some true) 0
theorem W5 {a:Sl A5}{b:Sl A5}{y:Bool}(h:G2 N a b=some y) :Mb S M4 [.p (vSl 4 C0 a),.p (vSl 4 C0 b)] [] (pB y) ([]) []:=by
 unfold G2 at h;refine A2 Z func28 ?_;apply kI Z h<;>intro h
 .cases h;exact kR Z
 refine P9 Z Fc h (λx1=>⟨[(13,pN x1),(12,pN (a.n:Int)),(1,.p (vSl 4 C0 b)),(0,.p (vSl 4 C0 a))],[]⟩) (ids:=[]) (λ_ _ _ _ _ c x1 d h=>?_);apply kI Z h<;>intro h
 .refine E3 Z Fc [2,3,6,7] ?_;obtain⟨c9,h⟩:=C9 h;refine C7 (Ki (Ki (Ki (Ki c9.1 Ik) c9.2) Ik) (by decide +kernel:QW Tryz.prog At=true)) ?_;apply kI Z h<;>intro h
  .cases h;exact kR Z
  exact d _ [] _ (wrap .i64 (x1+1)) Fc h
 cases h;exact kR Z
def L7 (N:Nat)(a:Sl FB)(b:Sl FB):Option Bool:= if ((a.n:Int) != (b.n:Int)) then some false else W8 N (λc (x1:Int)=>if (decide (x1<(a.n:Int))) then if (((0:Int)<=x1/\x1<(a.n:Int))/\((0:Int)<=x1/\x1<(b.n:Int)))then if ((((a.g x1.toNat).Node==(b.g x1.toNat).Node)&&(((a.g x1.toNat).Place==(b.g x1.toNat).Place)&&(((a.g x1.toNat).Nr==(b.g x1.toNat).Nr)&&((a.g x1.toNat).Nj==(b.g x1.toNat).Nj)))) != true) then some false else c (wrap .i64 (x1+1)) else none else some true) 0
theorem Cs {a:Sl FB}{b:Sl FB}{y:Bool}(h:L7 N a b=some y) :Mb S S3 [.p (vSl 4 V4 a),.p (vSl 4 V4 b)] [] (pB y) ([]) []:=by
 unfold L7 at h;refine A2 Z func29 ?_;apply kI Z h<;>intro h
 .cases h;exact kR Z
 refine P9 Z Fc h (λx1=>⟨[(13,pN x1),(12,pN (a.n:Int)),(1,.p (vSl 4 V4 b)),(0,.p (vSl 4 V4 a))],[]⟩) (ids:=[]) (λ_ _ _ _ _ c x1 d h=>?_);apply kI Z h<;>intro h
 .refine E3 Z Fc [2,3,6,7] ?_;obtain⟨c9,h⟩:=C9 h;refine C7 (Ki (Ki (Ki (Ki c9.1 Ik) c9.2) Ik) (by decide +kernel:QW Tryz.prog Gy=true)) ?_;apply kI Z h<;>intro h
  .cases h;exact kR Z
  exact d _ [] _ (wrap .i64 (x1+1)) Fc h
 cases h;exact kR Z
def Hg (N:Nat)(d:B2)(a:Sl (Sl Jf))(b:Int)(f:Int):Option (Int×Int):= (CZ N d f).bind λy1=>if (y1 != 0) then some (0,y1) else if (decide (256<(a.n:Int))) then some (0,12) else W8 N (λo (x1:Int)=>if (decide (x1<(a.n:Int))) then if ((0:Int)<=x1/\x1<(a.n:Int))then (W9 N (a.g x1.toNat)).bind λy4=>if (y4 != 0) then some (0,y4) else o (wrap .i64 (x1+1)) else none else if ((decide (b<0))||(decide ((d.Np.n:Int)<=b))) then some (0,3) else if ((a.n:Int)==0) then some (0,5) else (N6 N d.Nm).bind λy5=>Ay9 N (λl (x8:Int) (x9:Int) (i:Int)=>if (decide (i<(a.n:Int))) then if (((0:Int)<=i/\i<(a.n:Int))/\((0:Int)<=b/\b<(d.Np.n:Int)))then Bx N (λj (m:Int) (c:Int)=>if (decide (c<((d.Np.g b.toNat).Nq.n:Int))) then if ((0:Int)<=c/\c<((d.Np.g b.toNat).Nq.n:Int))then if ((d.Np.g b.toNat).Nq.g c.toNat).Has then if ((0:Int)<=c/\c<(y5.n:Int))then (G1 N (y5.g c.toNat) (⟨true,a.g i.toNat⟩:H3) ((d.Np.g b.toNat).Nq.g c.toNat)).bind λq=>if (!q) then j (wrap .i64 (m+f)) (wrap .i64 (c+1)) else j m (wrap .i64 (c+1)) else none else j m (wrap .i64 (c+1)) else none else if ((i==0)||(decide (m<x9))) then l i m (wrap .i64 (i+1)) else l x8 x9 (wrap .i64 (i+1))) 0 0 else none else some (x8,0)) 0 0 0) 0
theorem TE {i:B2}{d:Sl (Sl Jf)}{c:Int}{f:Int}{y:Int×Int}(h:Hg N i d c f=some y) :Mb S KX [.p (.agg (B5 i)),.p (vSl 1 (cL 2 A0) d),pN c,pN f] [] (.tup [pN y.1,pN y.2]) ([]) []:=by
 unfold Hg at h;refine A2 Z func18 ?_;refine F6 Z Fc 8 5000 (B5 i) ?_;obtain⟨y1,e1,h⟩:=A8 h;refine B3 Z [] (by decide:(8:Nat)<=8) (LD Z Y e1) ?_;apply kI Z h<;>intro h
 .cases h;exact kR Z
 apply kI Z h<;>intro h
 .cases h;exact kR Z
 refine P9 Z Fc h (λx1=>⟨[(33,pN x1),(32,pN (d.n:Int)),(31,.p (vSl 1 (cL 2 A0) d)),(4,.p (.ptr (B5 i))),(3,pN f),(2,pN c),(1,.p (vSl 1 (cL 2 A0) d))],[]⟩) (ids:=[]) (λ_ _ _ _ _ s x1 t h=>?_);apply kI Z h<;>intro h
 .obtain⟨c10,h⟩:=C9 h;obtain⟨y4,e4,h⟩:=A8 h;refine B3 Z [] c10 (DQ Z Y e4) ?_;apply kI Z h<;>intro h
  .cases h;exact kR Z
  exact t _ [] _ (wrap .i64 (x1+1)) Fc h
 refine kB Z (A4 Z) Fc Fc 6 (.o (.a (decide (c<0))) (.a (decide ((i.Np.n:Int)<=c)))) ?_;apply kI Z h<;>intro h
 .cases h;exact kR Z
 apply kI Z h<;>intro h
 .cases h;exact kR Z
 obtain⟨y5,e5,h⟩:=A8 h;refine B3 Z [] (by decide:(3:Nat)<=5) (Da Z Y e5) ?_;refine OC Z Fc h (λx8 x9 j=>⟨[(62,pN j),(61,pN (d.n:Int)),(60,.p (vSl 1 (cL 2 A0) d)),(16,pN x9),(15,pN x8),(14,.p (vSl 1 (cL 18 B4) y5)),(4,.p (.ptr (B5 i))),(3,pN f),(2,pN c)],[]⟩) (ids:=[]) (λ_ _ _ _ _ u x8 x9 j r h=>?_);apply kI Z h<;>intro h
 .obtain⟨c69,h⟩:=C9 h;refine I4 Z c69 h (λm l=>⟨[(74,pN l),(73,pN ((i.Np.g c.toNat).Nq.n:Int)),(72,.p (vSl 2 F2 (i.Np.g c.toNat).Nq)),(62,pN j),(61,pN (d.n:Int)),(60,.p (vSl 1 (cL 2 A0) d)),(19,pN m),(18,.p (vSl 2 A0 (d.g j.toNat))),(17,pN j),(16,pN x9),(15,pN x8),(14,.p (vSl 1 (cL 18 B4) y5)),(4,.p (.ptr (B5 i))),(3,pN f),(2,pN c)],[]⟩) (ids:=[]) (λ_ _ _ _ _ v m l q h=>?_);apply kI Z h<;>intro h
  .obtain⟨c81,h⟩:=C9 h;refine Qg Z (Ki c81 Hm) 22000 [.bb ((i.Np.g c.toNat).Nq.g l.toNat).Has,vSl 2 A0 ((i.Np.g c.toNat).Nq.g l.toNat).W] ?_;refine E3 Z Fc [1,5,6,9,10] ?_;refine J2 Fc (b:=((i.Np.g c.toNat).Nq.g l.toNat).Has) (λc82=>?_) (λc82=>?_)
   .replace h:=itT c82 h;obtain⟨c83,h⟩:=C9 h;obtain⟨w,e17,h⟩:=A8 h;refine G3 (Ki c83 Hm) (AG Z Y e17) ?_;refine C7 Fc ?_;apply kI Z h<;>intro h
    .exact q _ [] _ (wrap .i64 (m+f)) (wrap .i64 (l+1)) Fc h
    exact q _ [] _ m (wrap .i64 (l+1)) Fc h
   replace h:=itF c82 h;refine C7 Fc ?_;exact q _ [] _ m (wrap .i64 (l+1)) Fc h
  refine kB Z (A4 Z) Fc Fc 4 (.o (.a (j==0)) (.a (decide (m<x9)))) ?_;apply kI Z h<;>intro h
  .exact r _ [] _ j m (wrap .i64 (j+1)) Fc h
  exact r _ [] _ x8 x9 (wrap .i64 (j+1)) Fc h
 cases h;exact kR Z
def Db (N:Nat)(q0:B2)(q1:Sl (Sl Law)):Option (List (B7)):= W8 N (λb (x2:Int)=>if (decide (x2<(q0.Np.n:Int))) then if ((0:Int)<=x2/\x2<(q0.Np.n:Int))then W8 N (λa (x4:Int)=>if (decide (x4<((q0.Np.g x2.toNat).Nq.n:Int))) then if ((0:Int)<=x4/\x4<((q0.Np.g x2.toNat).Nq.n:Int))then if (((0:Int)<=x4/\x4<(q1.n:Int))/\((0:Int)<=x2/\x2<(q0.Nl.n:Int)))then (G1 N (q1.g x4.toNat) (q0.Nl.g x2.toNat) ((q0.Np.g x2.toNat).Nq.g x4.toNat)).bind λy9=>if y9 then Ag (⟨x2,x4⟩:B7) (a (wrap .i64 (x4+1))) else a (wrap .i64 (x4+1)) else none else none else b (wrap .i64 (x2+1))) 0 else none else some []) 0
theorem PG {q0:B2}{q1:Sl (Sl Law)}{L:List (B7)}(h:Db N q0 q1=some L) :ET S Fa [] [.reg 0 0,.reg 1 0] [.cells ((B5 q0).map .p),.cells [.p (vSl 1 (cL 18 B4) q1)]] (L.map (λ(x:B7)=>[(λx=>.agg (D6 x)) x])):=by
 unfold Db at h;refine EB Z func99 ?_;refine Dl Z Fc h (λx2 L1=>⟨[(11,pN x2),(10,pN (q0.Np.n:Int)),(9,.p (vSl 2 F3 q0.Np)),(2,.reg 1 0),(1,.reg 0 0),(0,.yf 2)],[(2,.yld (L1.map (λ(x:B7)=>[(λx=>.agg (D6 x)) x])) true),(1,.cells [.p (vSl 1 (cL 18 B4) q1)]),(0,.cells ((B5 q0).map .p))]⟩) (ids:=(Kg [0,1,2])) (λ_ _ _ _ _ f x2 L1 i h=>?_);apply kI Z h<;>intro h
 .obtain⟨c78,h⟩:=C9 h;refine Dl Z (Ki c78 Hm) h (λx4 L16=>⟨[(19,pN x4),(18,pN ((q0.Np.g x2.toNat).Nq.n:Int)),(17,.p (vSl 2 F2 (q0.Np.g x2.toNat).Nq)),(11,pN x2),(10,pN (q0.Np.n:Int)),(9,.p (vSl 2 F3 q0.Np)),(4,pN x2),(2,.reg 1 0),(1,.reg 0 0),(0,.yf 2)],[(2,.yld (L16.map (λ(x:B7)=>[(λx=>.agg (D6 x)) x])) true),(1,.cells [.p (vSl 1 (cL 18 B4) q1)]),(0,.cells ((B5 q0).map .p))]⟩) (ids:=(Kg [0,1,2])) (λ_ _ _ _ _ j x4 L16 d h=>?_);apply kI Z h<;>intro h
  .obtain⟨c104,h⟩:=C9 h;refine Qg Z (Ki c104 Hm) 8000 [.bb ((q0.Np.g x2.toNat).Nq.g x4.toNat).Has,vSl 2 A0 ((q0.Np.g x2.toNat).Nq.g x4.toNat).W] ?_;refine AC0 Z Fc 16 [(0,.l [1]),(2,.n),(3,.n),(5,.l [0]),(7,.n),(8,.n),(9,.n),(10,.n)] ?_;obtain⟨c105,h⟩:=C9 h;obtain⟨y9,e9,h⟩:=A8 h;refine G3 (Ki (Ki (Ki c105.1 c105.2) Hm) Hm) (AG Z Y e9) ?_;refine J2 Fc (b:=y9) (λc106=>?_) (λc106=>?_)
   .replace h:=itT c106 h;refine C7 Fc ?_;refine GR Z Fc (b:=true) (λc109=>?_) (λc109=>?_)
    .obtain⟨L22,rfl,c⟩:=LY h;replace h:=c;refine Dk Z Fc (ys:=(λ(x:B7)=>[(λx=>.agg (D6 x)) x]) (⟨x2,x4⟩:B7)) (rest:=L22.map (λ(x:B7)=>[(λx=>.agg (D6 x)) x])) ?_ ?_
     .refine D0 Z Fc (b:=false) (λc110=>?_) (λc110=>?_)
      .exact Bool.noConfusion ((rfl:false=false).symm.trans c110)
      exact d _ (Kg [0,1,2]) _ (wrap .i64 (x4+1)) L22 Fc h
     refine D0 Z Fc (b:=true) (λc111=>?_) (λc111=>?_)
     .exact kO Z Fc (a:=.tup []) (objs:=[(.cells ((B5 q0).map .p)),.cells [.p (vSl 1 (cL 18 B4) q1)],.yld [] false]) [0,1,2] ⟨false,rfl,rfl,_,rfl⟩
     exact Bool.noConfusion (Iu.symm.trans c111)
    exact Bool.noConfusion (Iu.symm.trans c109)
   replace h:=itF c106 h;refine C7 Fc ?_;refine GR Z Fc (b:=false) (λc114=>?_) (λc114=>?_)
   .exact Bool.noConfusion ((rfl:false=false).symm.trans c114)
   exact d _ (Kg [0,1,2]) _ (wrap .i64 (x4+1)) L16 Fc h
  exact i _ (Kg [0,1,2]) _ (wrap .i64 (x2+1)) L16 Fc h
 obtain rfl:=B0 h;exact kO Z Fc (a:=.tup []) (objs:=[(.cells ((B5 q0).map .p)),.cells [.p (vSl 1 (cL 18 B4) q1)],.yld [] true]) [0,1,2] ⟨true,rfl,rfl,_,rfl⟩
def Hh (N:Nat)(b:B2)(a:Sl (Sl Law)):Option (B2×(Sl (Sl Law))):= some (b,a)
theorem TF {b:B2}{a:Sl (Sl Law)}{y:B2×(Sl (Sl Law))}(h:Hh N b a=some y) :Mb S Lh [.p (.agg (B5 b)),.p (vSl 1 (cL 18 B4) a)] [] (.clo Fa [] [.reg 0 0,.reg 1 0]) ([.cells ((B5 y.1).map .p),.cells [.p (vSl 1 (cL 18 B4) y.2)]]) []:=by unfold Hh at h;refine A2 Z func61 ?_;obtain rfl:=B0 h;exact kO Z Fc [3000,4000]
def Bd (N:Nat)(a:B2):Option ((Sl FB)×Int):= (U5 N a).bind λy1=>if (y1 != 0) then some ((Sl.nil:Sl FB),y1) else (N6 N a.Nm).bind λy2=>(Hh N a y2).bind λy3=>(Db N y3.1 y3.2).bind λL1=>(N7 N L1).bind λy4=>(Du N a).bind λy5=>(Y2 N y5).bind λL2=>T4 L2 (λb (x1:B7×Nm) (z1:Sl FB)=>(N6 N x1.2).bind λd=>W8 N (λc (x5:Int)=>if (decide (x5<(y4.n:Int))) then if (((0:Int)<=x5/\x5<(y4.n:Int))/\x5.toNat<y4.n)then if (((((0:Int)<=(y4.g x5.toNat).a1/\(y4.g x5.toNat).a1<(d.n:Int))/\((0:Int)<=(y4.g x5.toNat).a0/\(y4.g x5.toNat).a0<(a.Nl.n:Int)))/\((0:Int)<=(y4.g x5.toNat).a0/\(y4.g x5.toNat).a0<(a.Np.n:Int)))/\((0:Int)<=(y4.g x5.toNat).a1/\(y4.g x5.toNat).a1<((a.Np.g (y4.g x5.toNat).a0.toNat).Nq.n:Int)))then (G1 N (d.g (y4.g x5.toNat).a1.toNat) (a.Nl.g (y4.g x5.toNat).a0.toNat) ((a.Np.g (y4.g x5.toNat).a0.toNat).Nq.g (y4.g x5.toNat).a1.toNat)).bind λf=>if (!f) then if (Kh 32 (z1.n+(Sl.of [(⟨x1.1.a0,x1.1.a1,(y4.g x5.toNat).a0,(y4.g x5.toNat).a1⟩:FB)]:Sl FB).n))then b (z1.push (⟨x1.1.a0,x1.1.a1,(y4.g x5.toNat).a0,(y4.g x5.toNat).a1⟩:FB)) else none else c (wrap .i64 (x5+1)) else none else none else b z1) 0) (λ(z1:Sl FB)=>some (z1,0)) (Sl.nil:Sl FB)
theorem TG {b:B2}{y:(Sl FB)×Int}(h:Bd N b=some y) :Mb S La [.p (.agg (B5 b))] [] (.tup [.vec 0,pN y.2]) ([oV Gy 4 V4 y.1 true]) []:=by
 unfold Bd at h;refine A2 Z func27 ?_;refine F6 Z Fc 2 2000 (B5 b) ?_;obtain⟨y1,e1,h⟩:=A8 h;refine B3 Z [] (by decide:(8:Nat)<=8) (FN Z Y e1) ?_;apply kI Z h<;>intro h
 .obtain rfl:=B0 h;exact kO Z Fc [3700]
 refine F7 Z Fc [(0,.n),(2,.n),(3,.n),(4,.a [22000,22001]),(5,.a [22000,22001,23000,23001,23002]),(6,.a [6000]),(7,.a [6000,23000])] ?_;obtain⟨y2,e2,h⟩:=A8 h;refine G3 (Ki (by decide:(8:Nat)<=8) (by decide:(3:Nat)<=5)) (Da Z Y e2) ?_;obtain⟨y3,e3,h⟩:=A8 h;refine OD [] Fc (TF Z Y e3) ?_;obtain⟨L1,e4,h⟩:=A8 h;obtain⟨y4,e5,h⟩:=A8 h;refine OK [22000,22001] Fc (Hf Z Y ⟨_,func99,by decide +kernel,by decide +kernel⟩ (PG Z Y e4) e5) ?_;refine C7 Fc ?_;obtain⟨y5,e6,h⟩:=A8 h;refine B3 Z [] (by decide:(8:Nat)<=8) (Mj Z Y e6) ?_;obtain⟨L2,e7,h⟩:=A8 h;refine GS Z Fc [25000] [6,5,1] 901 (λz1=>⟨[(6,.reg 7000 0),(5,.reg 6000 0),(1,.p (.ptr (B5 b)))],[(23000,oV Bp 2 D6 y4 false),(7500,oV Gy 4 V4 z1 false),(7000,.cells [.vec 7500]),(6000,.cells [.vec 23000])]⟩) (idl:=(Kg [6000,7000,23000])) h (Kq Z Y e7) (λ_=>by kernel_rfl) (λ_=>by kernel_rfl) (λ_=>by kernel_rfl) (λ_=>by kernel_rfl) (λx1 _ d z1 c h=>?_) (λz1 h=>?_)
 .refine F6 Z Fc 8 8000 [pI .i64 x1.1.a0,pI .i64 x1.1.a1] ?_;refine Ke Z Fc ?_;refine F6 Z Fc 27 9000 (A7 x1.2) ?_;obtain⟨f,e16,h⟩:=A8 h;refine B3 Z [] Hz (Da Z Y e16) ?_;refine P9 Z Fc h (λx5=>⟨[(31,pN x5),(30,pN (y4.n:Int)),(29,.vec 23000),(9,.p (vSl 1 (cL 18 B4) f)),(7,.p (.ptr [pI .i64 x1.1.a0,pI .i64 x1.1.a1])),(6,.reg 7000 0),(1,.p (.ptr (B5 b)))],[(23000,oV Bp 2 D6 y4 false),(7500,oV Gy 4 V4 z1 false),(7000,.cells [.vec 7500]),(6000,.cells [.vec 23000]),(901,.ghost [.reg 7000 0,.reg 6000 0,.p (.ptr (B5 b))])]⟩) (ids:=(Kg [901,6000,7000,7500,23000])) (λ_ _ _ _ _ i x5 j h=>?_);apply kI Z h<;>intro h
  .obtain⟨c35,h⟩:=C9 h;refine F7 Z (Ki (Ki c35.1 Hm) c35.2) [(1,.l [12000]),(2,.l [12000]),(3,.n),(4,.n),(6,.n),(7,.l [12000]),(8,.l [12000]),(9,.n),(10,.n),(12,.n),(13,.l [12000]),(14,.l [12000]),(15,.n),(17,.n),(18,.l [12000]),(19,.l [12000]),(20,.n),(21,.n),(22,.n)] ?_;obtain⟨c36,h⟩:=C9 h;obtain⟨m,e19,h⟩:=A8 h;refine G3 (Ki (Ki (Ki (Ki (Ki (Ki (Ki (Ki (Ki (by decide:(0:Int)<=1/\(1:Int)<2) c36.1.1.1) (by decide:(0:Int)<=0/\(0:Int)<2)) c36.1.1.2) Hm) (by decide:(0:Int)<=0/\(0:Int)<2)) c36.1.2) (by decide:(0:Int)<=1/\(1:Int)<2)) c36.2) Hm) (AG Z Y e19) ?_;refine C7 Fc ?_;apply kI Z h<;>intro h
   .refine F6 Z Fc 59 12000 [pI .i64 (y4.g x5.toNat).a0,pI .i64 (y4.g x5.toNat).a1] ?_;obtain⟨c38,h⟩:=C9 h;exact c _ [(901,901),(6000,6000),(7000,7000),(7500,71000),(23000,23000)] _ (z1.push (⟨x1.1.a0,x1.1.a1,(y4.g x5.toNat).a0,(y4.g x5.toNat).a1⟩:FB)) (Ki (Ki (Ki (Ki (Ki (by decide:(0:Int)<=0/\(0:Int)<2) (by decide:(0:Int)<=1/\(1:Int)<2)) (by decide:(0:Int)<=0/\(0:Int)<2)) (by decide:(0:Int)<=1/\(1:Int)<2)) Iu) c38) h (hle:=kl1 1 (X5 V4 z1 (⟨x1.1.a0,x1.1.a1,(y4.g x5.toNat).a0,(y4.g x5.toNat).a1⟩:FB) [pI .i64 0,pI .i64 0,pI .i64 0,pI .i64 0]))
   refine F6 Z Fc 71 12000 [pI .i64 (y4.g x5.toNat).a0,pI .i64 (y4.g x5.toNat).a1] ?_;exact j _ (Kg [901,6000,7000,7500,23000]) _ (wrap .i64 (x5+1)) Fc h
  exact c _ (Kg [901,6000,7000,7500,23000]) _ z1 Fc h
 obtain rfl:=B0 h;exact kO Z Fc [7500]
def X2 (N:Nat)(b:B2)(a:Int):Option (Je×Int):= (CZ N b a).bind λy1=>if (y1 != 0) then some ((⟨(Sl.nil:Sl A5),(Sl.nil:Sl FB)⟩:Je),y1) else (DY N b.Nm b.Nl b.Np a).bind λy2=>(Bd N b).bind λy3=>some ((⟨y2.1,y3.1⟩:Je),0)
theorem FO {b:B2}{a:Int}{y:Je×Int}(h:X2 N b a=some y) :Mb S MB [.p (.agg (B5 b)),pN a] [] (.tup [.p (.agg (OL y.1)),pN y.2]) ([]) []:=by
 unfold X2 at h;refine A2 Z func9 ?_;refine kC Z h (LD Z Y) (λy1 h=>?_);apply kI Z h<;>intro h
 .obtain rfl:=B0 h;exact J7 Z Fc ⟨[(5,pN y1),(4,.reg 5000 0)],[(5000,.cells [.p (vSl 4 C0 (Sl.nil:Sl A5)),.p (vSl 4 V4 (Sl.nil:Sl FB))])]⟩ [] (ids:=[(5000,5000)]) ⟨rfl,rfl,rfl⟩
 refine kC Z h (VZ Z Y) (λy2 h=>?_);refine kC Z h (TG Z Y) (λy3 h=>?_);obtain rfl:=B0 h;exact J7 Z Fc ⟨[(5,pN 0),(4,.reg 5000 0)],[(5000,.cells [.p (vSl 4 C0 y2.1),.p (vSl 4 V4 y3.1)])]⟩ [] (ids:=[(5000,5000)]) ⟨rfl,rfl,rfl⟩
def DH (N:Nat)(c:B2)(a:Int)(b:Je):Option (Bool×Int):= (X2 N c a).bind λy1=>if (y1.2 != 0) then some (false,y1.2) else (G2 N y1.1.Bad b.Bad).bind λy2=>lt (λ(z1:Bool)=>some (z1,0)) λk1=>if y2 then (L7 N y1.1.Nn b.Nn).bind λy4=>k1 y4 else k1 false
theorem JQ {b:B2}{a:Int}{c:Je}{y:Bool×Int}(h:DH N b a c=some y) :Mb S Jr [.p (.agg (B5 b)),pN a,.p (.agg (OL c))] [] (.tup [pB y.1,pN y.2]) ([]) []:=by
 unfold DH at h;refine A2 Z func10 ?_;refine kC Z h (FO Z Y) (λy1 h=>?_);apply kI Z h<;>intro h
 .cases h;exact kR Z
 refine kC Z h (W5 Z Y) (λy2 h=>?_);refine Mz Z Fc (A4 Z) h 0 (λz1=>⟨[(7,pN 0),(6,pB z1)],[]⟩) (λM1 k1 d h=>?_) (λz1 h=>?_)
 .refine kG Z h (λh=>?_) (λh=>?_)
  .refine kC Z h (Cs Z Y) (λy4 h=>?_);exact d _ [] _ y4 Fc h
  exact d _ [] _ false Fc h
 cases h;exact kR Z
end Go.AM
namespace Go.AM
open Go.Proofs.Tryz
open Go.Proofs
set_option maxRecDepth 10000
set_option maxHeartbeats 2000000
variable {S:U6}(Z:G6 S Tryz.prog) (Y:Km S)
include Z Y
abbrev MZ (s:Str):Nat->List PV:=λi=>[.v (.int .u8 ((s.getD i 0).toNat:Nat))]
theorem TH {s:Str}{u n:Nat}{f:Nat->List PV}(hc:(n+s.length)*1<=140737488355328/\n+s.length<=140737488355328) :Mb S Y4 [.reg 0 0,.p (.str s)] [.blk [0,122,u] 1,.vec H9 1 n f false] (.tup [pN (s.length:Int),.p (.v .nilIface)]) [.blk [0,122,1] 1,.vec H9 1 (n+s.length) (Gf n f (MZ s)) false] [true,false]:=by refine A2 Z func44 ?_;refine B3 Z [0,1] Fc (Y.copyCheck 122 u n f rfl) ?_;exact kO Z hc [0,15000]
theorem w_Len {u n:Nat}{f:Nat->List PV}:Mb S DL [.reg 0 0] [.blk [0,122,u] 1,.vec H9 1 n f false] (pN (n:Int)) [.blk [0,122,u] 1,.vec H9 1 n f false] [true,true]:=by refine A2 Z func48 ?_;exact kO Z Fc [0,1]
theorem AD2 {N:Nat}{ws:Sl Str}{j:Str}{u n:Nat}{f:Nat->List PV}(b:H1 N ws [32]=some j)(hc:(n+(j++[10]).length)*1<=140737488355328/\n+(j++[10]).length<=140737488355328) :Mb S BG [.p (vSl 1 cS ws),.reg 0 0] [.blk [0,122,u] 1,.vec H9 1 n f false] (.tup []) [.blk [0,122,1] 1,.vec H9 1 (n+(j++[10]).length) (Gf n f (MZ (j++[10]))) false] [true,false]:=by
 have a:((j.length+([10]:Str).length:Nat):Int)<=9223372036854775807:=by have h1:=hc.2;rw[Bi9]at h1;have c:([10]:Str).length=1:=rfl;omega
 refine A2 Z func43 ?_;refine B3 Z [] Fc (QS Z Y b) ?_;refine B3 Z [0,1] a (TH Z Y (u:=u) (f:=f) hc) ?_;exact kO Z Fc [0,7001]
end Go.AM
