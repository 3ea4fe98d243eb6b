/- Part 7. -/
import Derived.Test.YtnpnbnncocgaeaaGreatDoorZF
import Derived.Test.YtnpnbnncocgaeaaGreatDoorZE
set_option linter.defProp false
set_option linter.unusedSimpArgs false
set_option linter.unusedVariables false
set_option linter.unusedSectionVars false
namespace Go.AM
open Go.Proofs.Tryz
def Mq:(4:Nat)<=4:=by decide
def Mo:(3:Nat)<=3:=by decide
def Mm:(1:Nat)<=1:=by decide
abbrev Ml(z:Int):Sl Int:=(Sl.of [IntKind.wrap .u8 z,IntKind.wrap .u8 (shI .shr .u32 z 8),IntKind.wrap .u8 (shI .shr .u32 z 16)]:Sl Int)
variable {N:Nat}
open IntKind (wrap)
def BY6:=@List.nil_append
def Cf9:=@Nat.not_lt_zero
def Cg5:=@Option.ite_none_right_eq_some
open Go.Proofs
set_option maxRecDepth 10000
set_option maxHeartbeats 2000000
variable {S:W9}(Z:H6 S Tryz.prog) (Y:KY S)
include Z Y
def JU (N:Nat)(a:Int):Option Bool:= some (((((decide (97<=a))&&(decide (a<=122)))||((decide (65<=a))&&(decide (a<=90))))||((decide (48<=a))&&(decide (a<=57))))||(a==45))
theorem Ad4 {b:Int}{y:Bool}(h:JU N b=some y) :Qi S Pu [.p (pI .u8 b)] [] (pB y) ([]) []:=by unfold JU at h;refine A1 Z func86 ?_;refine kB Z (A3 Z) Jy Jy 23 (.o (.o (.o (.n (.a (decide (97<=b))) (.a (decide (b<=122)))) (.n (.a (decide (65<=b))) (.a (decide (b<=90))))) (.n (.a (decide (48<=b))) (.a (decide (b<=57))))) (.a (b==45))) ?_;cases h;exact kR Z
def DW (N:Nat)(a:Str):Option Bool:= O7 N (λb (x1:Int)=>if (decide (x1<(a.length:Int))) then if ((0:Int)<=x1/\x1<(a.length:Int))then (JU N (F0 a x1)).bind λy3=>if (!y3) then some false else b (wrap .i64 (x1+1)) else none else some ((decide (1<=(a.length:Int)))&&(decide ((a.length:Int)<=24)))) 0
theorem OF {b:Str}{y:Bool}(h:DW N b=some y) :Qi S Vr [.p (.str b)] [] (pB y) ([]) []:=by
 unfold DW at h;refine A1 Z func58 ?_;refine F1 Z Jy h (λx1=>⟨[(3,pN x1),(0,.p (.str b))],[]⟩) (ids:=[]) (λ_ _ _ _ _ c x1 d h=>?_);apply kI Z h<;>intro h
 .obtain⟨c8,h⟩:=B9 h;obtain⟨y3,e3,h⟩:=A7 h;refine A8 Z [] c8 (Ad4 Z Y e3) ?_;refine Ug Z h fun h=>?_;exact d _ [] _ _ Jy h
 refine kB Z (A3 Z) Jy Jy 4 (.n (.a (decide (1<=(b.length:Int)))) (.a (decide ((b.length:Int)<=24)))) ?_;cases h;exact kR Z
def CJ (N:Nat)(a:Sl Node):Option Int:= if ((decide ((a.n:Int)<1))=false->((decide (63<(a.n:Int)))=false->((0:Int)<=0/\0<(a.n:Int))))then if (((decide ((a.n:Int)<1))||(decide (63<(a.n:Int))))||((a.g 0).Sx != (-1))) then some 16 else O7 N (λb (x3:Int)=>if (decide (x3<(a.n:Int))) then lt (λ(z3:Bool)=>if z3 then some 16 else O7 N (λc (x7:Int)=>if (decide (x7<x3)) then if (((0:Int)<=x7/\x7<(a.n:Int))/\((0:Int)<=x3/\x3<(a.n:Int)))then if (((a.g x7.toNat).Name==(a.g x3.toNat).Name) != false) then some 16 else c (wrap .i64 (x7+1)) else none else b (wrap .i64 (x3+1))) 0) λk3=>if (decide (0<x3)) then if ((0:Int)<=x3/\x3<(a.n:Int))then if (decide ((a.g x3.toNat).Sx<0)) then k3 true else if ((0:Int)<=x3/\x3<(a.n:Int))then if (decide (x3<=(a.g x3.toNat).Sx)) then k3 true else if ((0:Int)<=x3/\x3<(a.n:Int))then (DW N (a.g x3.toNat).Name).bind λd=>k3 (!d) else none else none else none else if ((0:Int)<=x3/\x3<(a.n:Int))then (DW N (a.g x3.toNat).Name).bind λf=>k3 (!f) else none else some 0) 0 else none
theorem SL {c:Sl Node}{y:Int}(h:CJ N c=some y) :Qi S RE [.p (vSl 2 F4 c)] [] (pN y) ([]) []:=by
 unfold CJ at h;refine A1 Z func29 ?_;obtain⟨c1,h⟩:=B9 h;refine kB Z (A3 Z) Jy c1 11 (.o (.o (.a (decide ((c.n:Int)<1))) (.a (decide (63<(c.n:Int))))) (.a ((c.g 0).Sx != (-1)))) ?_;refine Ug Z h fun h=>?_;refine F1 Z Jy h (λx3=>⟨[(3,pN x3),(0,.p (vSl 2 F4 c))],[]⟩) (ids:=[]) (λ_ _ _ _ _ f x3 i h=>?_);apply kI Z h<;>intro h
 .refine GN Z Jy (A3 Z) h 0 (λz3=>⟨[(53,pB z3),(3,pN x3),(0,.p (vSl 2 F4 c))],[]⟩) (λM3 k3 d h=>?_) (λz3 h=>?_)
  .refine kG Z h (λh=>?_) (λh=>?_)
   .obtain⟨c71,h⟩:=B9 h;refine FS Z c71 (b:=decide ((c.g x3.toNat).Sx<0)) (λc72=>?_) (λc72=>?_)
    .replace h:=itT c72 h;exact d _ [] _ _ Jy h
    replace h:=itF c72 h;obtain⟨c73,h⟩:=B9 h;refine FS Z c73 (b:=decide (x3<=(c.g x3.toNat).Sx)) (λc74=>?_) (λc74=>?_)
    .replace h:=itT c74 h;exact d _ [] _ _ Jy h
    replace h:=itF c74 h;obtain⟨c75,h⟩:=B9 h;obtain⟨m,e11,h⟩:=A7 h;refine A8 Z [] c75 (OF Z Y e11) ?_;exact d _ [] _ _ Jy h
   obtain⟨c76,h⟩:=B9 h;obtain⟨q,e12,h⟩:=A7 h;refine A8 Z [] c76 (OF Z Y e12) ?_;exact d _ [] _ _ Jy h
  refine Ug Z h fun h=>?_;refine F1 Z Jy h (λx7=>⟨[(4,pN x7),(3,pN x3),(0,.p (vSl 2 F4 c))],[]⟩) (ids:=[]) (λ_ _ _ _ _ j x7 l h=>?_);apply kI Z h<;>intro h
  .refine B5 Z Jy [2,4,7,9] ?_;obtain⟨c85,h⟩:=B9 h;refine C7 c85 ?_;refine Ug Z h fun h=>?_;exact l _ [] _ _ Jy h
  exact i _ [] _ _ Jy h
 cases h;exact kR Z
def Io (N:Nat)(a:Int):Option Bool:= some (((((decide (97<=a))&&(decide (a<=122)))||((decide (65<=a))&&(decide (a<=90))))||((decide (48<=a))&&(decide (a<=57))))||(a==45))
theorem XM {b:Int}{y:Bool}(h:Io N b=some y) :Qi S Nw [.p (pI .u8 b)] [] (pB y) ([]) []:=by unfold Io at h;refine A1 Z func145 ?_;refine kB Z (A3 Z) Jy Jy 23 (.o (.o (.o (.n (.a (decide (97<=b))) (.a (decide (b<=122)))) (.n (.a (decide (65<=b))) (.a (decide (b<=90))))) (.n (.a (decide (48<=b))) (.a (decide (b<=57))))) (.a (b==45))) ?_;cases h;exact kR Z
def EF (N:Nat)(a:Str):Option Bool:= O7 N (λb (x1:Int)=>if (decide (x1<(a.length:Int))) then if ((0:Int)<=x1/\x1<(a.length:Int))then (Io N (F0 a x1)).bind λy3=>if (!y3) then some false else b (wrap .i64 (x1+1)) else none else some ((decide (0<(a.length:Int)))&&(decide ((a.length:Int)<=24)))) 0
theorem Ad5 {b:Str}{y:Bool}(h:EF N b=some y) :Qi S Pw [.p (.str b)] [] (pB y) ([]) []:=by
 unfold EF at h;refine A1 Z func101 ?_;refine F1 Z Jy h (λx1=>⟨[(6,pN x1),(5,pN (b.length:Int)),(0,.p (.str b))],[]⟩) (ids:=[]) (λ_ _ _ _ _ c x1 d h=>?_);apply kI Z h<;>intro h
 .obtain⟨c8,h⟩:=B9 h;obtain⟨y3,e3,h⟩:=A7 h;refine A8 Z [] c8 (XM Z Y e3) ?_;refine Ug Z h fun h=>?_;exact d _ [] _ _ Jy h
 refine kB Z (A3 Z) Jy Jy 4 (.n (.a (decide (0<(b.length:Int)))) (.a (decide ((b.length:Int)<=24)))) ?_;cases h;exact kR Z
def W1 (N:Nat)(a:Sl Node):Option Int:= if (((a.n:Int)==0)||(decide (63<(a.n:Int)))) then some 16 else Y4 N (λb (x2:List (Str×Bool)) (x3:Int)=>if (decide (x3<(a.n:Int))) then if ((0:Int)<=x3/\x3<(a.n:Int))then lt (λ(z3:Bool)=>if z3 then some 16 else b (GL eqS (a.g x3.toNat).Name true x2) (wrap .i64 (x3+1))) λk3=>if (decide (x3<=(a.g x3.toNat).Sx)) then k3 true else if (decide ((a.g x3.toNat).Sx<(if 0<(wrap .i64 (x3-1))then 0 else (wrap .i64 (x3-1))))) then k3 true else (EF N (a.g x3.toNat).Name).bind λy6=>if (!y6) then k3 true else Jo (O1 eqS (a.g x3.toNat).Name x2) (k3 false) λv6=>k3 v6 else none else some 0) [] 0
theorem GU {b:Sl Node}{y:Int}(h:W1 N b=some y) :Qi S Ps [.p (vSl 2 F4 b)] [] (pN y) ([]) []:=by
 unfold W1 at h;refine A1 Z func70 ?_;refine kB Z (A3 Z) Jy Jy 4 (.o (.a ((b.n:Int)==0)) (.a (decide (63<(b.n:Int))))) ?_;refine Ug Z h fun h=>?_;refine G2 Z Jy h (λx2 x3=>⟨[(17,pN x3),(16,pN (b.n:Int)),(15,.p (vSl 2 F4 b)),(3,.Sc 15000)],[(15000,oM PV.str PV.bb x2)]⟩) (ids:=[(15000,15000)]) (λ_ _ _ _ _ d x2 x3 f h=>?_);apply kI Z h<;>intro h
 .obtain⟨c25,h⟩:=B9 h;refine GN Z (Qe c25 Mn) (A3 Z) h 0 (λz3=>⟨[(45,pB z3),(17,pN x3),(16,pN (b.n:Int)),(15,.p (vSl 2 F4 b)),(5,.reg 6000 0),(3,.Sc 15000)],[(15000,oM PV.str PV.bb x2),(6000,.cells [pN (b.g x3.toNat).Sx,.p (.str (b.g x3.toNat).Name)])]⟩) (λM3 k3 c h=>?_) (λz3 h=>?_)
  .refine kG Z h (λh=>?_) (λh=>?_)
   .exact c _ (Qc [6000,15000]) _ _ Jy h
   refine kG Z h (λh=>?_) (λh=>?_)
   .exact c _ (Qc [6000,15000]) _ _ Jy h
   refine kC Z h (Ad5 Z Y) (λy6 h=>?_);refine kG Z h (λh=>?_) (λh=>?_)
   .exact c _ (Qc [6000,15000]) _ _ Jy h
   rcases o6:O1 eqS (b.g x3.toNat).Name x2 with _|v6
   .replace h:=Ai4 o6 h;refine Am5 Z Jy J6 Bu4 PV.str PV.bb eqS o6 (.v (.bool false)) Jy ?_;exact c _ (Qc [6000,15000]) _ _ Jy h
   replace h:=Zq o6 h;refine Am4 Z Jy J6 Bu4 PV.str PV.bb eqS o6 Jy ?_;exact c _ (Qc [6000,15000]) _ v6 Jy h
  refine Ug Z h fun h=>?_;refine AH8 Z Jy J6 PV.str PV.bb eqS (b.g x3.toNat).Name true x2 Jy ?_;exact f _ [(15000,15000)] _ _ _ Jy h
 cases h;exact kR Z
def AR (N:Nat)(a:Sv):Option Int:= if ((0:Int)<=(a.On.n:Int)/\(a.On.n:Int)<=(a.On.n:Int)/\(a.On.n:Int)*8<=140737488355328/\(a.On.n:Int)<=140737488355328)then AT6 N (λc (x4:Sl Int) (x5:Bool) (x6:Int)=>if (decide (x6<(a.On.n:Int))) then if ((((0:Int)<=x6/\x6<(a.On.n:Int))/\((0:Int)<=x6/\x6<(x4.n:Int)))/\x6.toNat<x4.n)then if ((0:Int)<=x6/\x6<(a.Tree.n:Int))then lt (λ(z3:Sl Int)=>if (((0:Int)<=x6/\x6<(z3.n:Int))/\x6.toNat<z3.n)then if (decide (64<(z3.g x6.toNat))) then some 2 else Y4 N (λd (f:Bool) (b:Int)=>if (decide (b<((a.On.g x6.toNat).n:Int))) then if ((0:Int)<=b/\b<((a.On.g x6.toNat).n:Int))then d ((f||(decide (((a.On.g x6.toNat).g b.toNat)<0)))||(decide ((a.Laws.n:Int)<=((a.On.g x6.toNat).g b.toNat)))) (wrap .i64 (b+1)) else none else c z3 f (wrap .i64 (x6+1))) x5 0 else none) λk3=>if (decide (0<=(a.Tree.g x6.toNat).Sx)) then if (((((((0:Int)<=x6/\x6<((x4.upd x6.toNat ((a.On.g x6.toNat).n:Int)).n:Int))/\x6.toNat<(x4.upd x6.toNat ((a.On.g x6.toNat).n:Int)).n)/\((0:Int)<=(a.Tree.g x6.toNat).Sx/\(a.Tree.g x6.toNat).Sx<((x4.upd x6.toNat ((a.On.g x6.toNat).n:Int)).n:Int)))/\(a.Tree.g x6.toNat).Sx.toNat<(x4.upd x6.toNat ((a.On.g x6.toNat).n:Int)).n)/\((0:Int)<=x6/\x6<((x4.upd x6.toNat ((a.On.g x6.toNat).n:Int)).n:Int)))/\x6.toNat<(x4.upd x6.toNat ((a.On.g x6.toNat).n:Int)).n)then k3 ((x4.upd x6.toNat ((a.On.g x6.toNat).n:Int)).upd x6.toNat (wrap .i64 (((x4.upd x6.toNat ((a.On.g x6.toNat).n:Int)).g x6.toNat)+((x4.upd x6.toNat ((a.On.g x6.toNat).n:Int)).g (a.Tree.g x6.toNat).Sx.toNat)))) else none else k3 (x4.upd x6.toNat ((a.On.g x6.toNat).n:Int)) else none else none else if x5 then some 3 else some 0) (Sl.rep (a.On.n:Int).toNat 0:Sl Int) false 0 else none
theorem SM {d:Sv}{y:Int}(h:AR N d=some y) :Qi S JF [.p (.agg (B0 d))] [] (pN y) ([]) []:=by
 unfold AR at h;refine A1 Z func128 ?_;refine D9 Z Jy 2 2000 (B0 d) ?_;obtain⟨c1,h⟩:=B9 h;refine Nb Z c1 h (λx4 x5 x6=>⟨[(17,pN x6),(16,pN (d.On.n:Int)),(15,.p (vSl 1 (cL 1 (cI .i64)) d.On)),(4,pB x5),(3,.vec 14000),(1,.p (.ptr (B0 d)))],[(14000,oV D2 1 (cI .i64) x4 false)]⟩) (ids:=[(14000,14000)]) (λ_ _ _ _ _ q x4 x5 x6 r h=>?_);apply kI Z h<;>intro h
 .obtain⟨c35,h⟩:=B9 h;refine I7 Z (Qe (Qe c35.1.1 c35.1.2) (Qe (rfl:(1:Nat)=1) (Qe c35.2 Mm))) 27 ⟨[(17,pN x6),(16,pN (d.On.n:Int)),(15,.p (vSl 1 (cL 1 (cI .i64)) d.On)),(6,.p (vSl 1 (cI .i64) (d.On.g x6.toNat))),(5,pN x6),(4,pB x5),(3,.vec 14000),(1,.p (.ptr (B0 d)))],[(14000,.vec D2 1 (x4.upd x6.toNat ((d.On.g x6.toNat).n:Int)).n (λi=>cI .i64 ((x4.upd x6.toNat ((d.On.g x6.toNat).n:Int)).g i)) false)]⟩ (ids:=[(14000,14000)]) ?_ (hle:=klR [(7,.fn x4.n (x4.upd x6.toNat ((d.On.g x6.toNat).n:Int)).n (λl=>if l=x6.toNat then splice ((λi=>cI .i64 (x4.g i)) l) 0 [pI .i64 ((d.On.g x6.toNat).n:Int)]else (λi=>cI .i64 (x4.g i)) l) (λi=>cI .i64 ((x4.upd x6.toNat ((d.On.g x6.toNat).n:Int)).g i)))] (al1 ⟨rfl,Az6 (c:=cI .i64) (v:=x4) (x:=((d.On.g x6.toNat).n:Int)) same (λ_=>by first|rfl|(dsimp only;split<;>rfl))⟩ al0));obtain⟨c36,h⟩:=B9 h;refine GN Z c36 (A3 Z) h 0 (λz3=>⟨[(17,pN x6),(16,pN (d.On.n:Int)),(15,.p (vSl 1 (cL 1 (cI .i64)) d.On)),(6,.p (vSl 1 (cI .i64) (d.On.g x6.toNat))),(5,pN x6),(4,pB x5),(3,.vec 14000),(1,.p (.ptr (B0 d)))],[(14000,oV D2 1 (cI .i64) z3 false)]⟩) (λM3 k3 m h=>?_) (λz3 h=>?_)
  .apply kI Z h<;>intro h
   .refine FT Z Jy ?_;obtain⟨c41,h⟩:=B9 h;refine C7 (Qe (Qe (Qe (Qe (Qe c41.1.1.1.1.1 c41.1.1.1.1.2) c41.1.1.1.2) c41.1.1.2) c41.1.2) (Qe (rfl:(1:Nat)=1) (Qe c41.2 Mm))) ?_;exact m _ [(14000,14000)] _ _ Jy h (hle:=klR [(7,.fn (x4.upd x6.toNat ((d.On.g x6.toNat).n:Int)).n ((x4.upd x6.toNat ((d.On.g x6.toNat).n:Int)).upd x6.toNat (wrap .i64 (((x4.upd x6.toNat ((d.On.g x6.toNat).n:Int)).g x6.toNat)+((x4.upd x6.toNat ((d.On.g x6.toNat).n:Int)).g (d.Tree.g x6.toNat).Sx.toNat)))).n (λl=>if l=x6.toNat then splice ((λi=>cI .i64 ((x4.upd x6.toNat ((d.On.g x6.toNat).n:Int)).g i)) l) 0 [pI .i64 (wrap .i64 (((x4.upd x6.toNat ((d.On.g x6.toNat).n:Int)).g x6.toNat)+((x4.upd x6.toNat ((d.On.g x6.toNat).n:Int)).g (d.Tree.g x6.toNat).Sx.toNat)))]else (λi=>cI .i64 ((x4.upd x6.toNat ((d.On.g x6.toNat).n:Int)).g i)) l) (λi=>cI .i64 (((x4.upd x6.toNat ((d.On.g x6.toNat).n:Int)).upd x6.toNat (wrap .i64 (((x4.upd x6.toNat ((d.On.g x6.toNat).n:Int)).g x6.toNat)+((x4.upd x6.toNat ((d.On.g x6.toNat).n:Int)).g (d.Tree.g x6.toNat).Sx.toNat)))).g i)))] (al1 ⟨rfl,Az6 (c:=cI .i64) (v:=x4.upd x6.toNat ((d.On.g x6.toNat).n:Int)) (x:=wrap .i64 (((x4.upd x6.toNat ((d.On.g x6.toNat).n:Int)).g x6.toNat)+((x4.upd x6.toNat ((d.On.g x6.toNat).n:Int)).g (d.Tree.g x6.toNat).Sx.toNat))) same (λ_=>by first|rfl|(dsimp only;split<;>rfl))⟩ al0))
   exact m _ [(14000,14000)] _ _ Jy h
  obtain⟨c42,h⟩:=B9 h;refine C6 Z c42 (b:=decide (64<(z3.g x6.toNat))) (λc43=>?_) (λc43=>?_)
  .replace h:=itT c43 h;cases h;exact kR Z
  replace h:=itF c43 h;refine G2 Z Jy h (λf j=>⟨[(52,pN j),(51,pN ((d.On.g x6.toNat).n:Int)),(50,.p (vSl 1 (cI .i64) (d.On.g x6.toNat))),(17,pN x6),(16,pN (d.On.n:Int)),(15,.p (vSl 1 (cL 1 (cI .i64)) d.On)),(4,pB f),(3,.vec 14000),(1,.p (.ptr (B0 d)))],[(14000,oV D2 1 (cI .i64) z3 false)]⟩) (ids:=[(14000,14000)]) (λ_ _ _ _ _ s f j t h=>?_);apply kI Z h<;>intro h
  .obtain⟨c49,h⟩:=B9 h;refine kB Z (A3 Z) c49 Jy 10 (.o (.o (.a f) (.a (decide (((d.On.g x6.toNat).g j.toNat)<0)))) (.a (decide ((d.Laws.n:Int)<=((d.On.g x6.toNat).g j.toNat))))) ?_;exact t _ [(14000,14000)] _ _ _ Jy h
  exact r _ [(14000,14000)] _ z3 f _ Jy h
 refine Ug Z h fun h=>?_;cases h;exact kR Z
def Q2 (N:Nat)(a:Sv):Option Int:= (W1 N a.Tree).bind λy1=>if (y1 != 0) then some 16 else if (decide (64<(a.Laws.n:Int))) then some 12 else Y4 N (λb (x1:List (Str×Int)) (x2:Int)=>if (decide (x2<(a.Laws.n:Int))) then if ((0:Int)<=x2/\x2<(a.Laws.n:Int))then (Z4 N (a.Laws.g x2.toNat)).bind λy4=>if (y4 != 0) then some 17 else Jo (O1 eqS (a.Laws.g x2.toNat).Name x1) (b (GL eqS (a.Laws.g x2.toNat).Name (wrap .i64 (0+1)) x1) (wrap .i64 (x2+1))) λv3=>b (GL eqS (a.Laws.g x2.toNat).Name (wrap .i64 (v3+1)) x1) (wrap .i64 (x2+1)) else none else if (decide (((DH PV.str (pI .i64) x1).length:Int)<(a.Laws.n:Int))) then some 6 else if ((a.On.n:Int) != (a.Tree.n:Int)) then some 2 else (AR N a).bind λy5=>some y5) [] 0
theorem Gi {a:Sv}{y:Int}(h:Q2 N a=some y) :Qi S JA [.p (.agg (B0 a))] [] (pN y) ([]) []:=by
 unfold Q2 at h;refine A1 Z func88 ?_;refine kC Z h (GU Z Y) (λy1 h=>?_);refine Ug Z h fun h=>?_;refine Ug Z h fun h=>?_;refine G2 Z Jy h (λx1 x2=>⟨[(18,pN x2),(17,pN (a.Laws.n:Int)),(16,.p (vSl 18 B3 a.Laws)),(3,.Sc 15000),(1,.reg 2000 0)],[(15000,oM PV.str (pI .i64) x1),(2000,.cells ((B0 a).map .p))]⟩) (ids:=(Qc [2000,15000])) (λ_ _ _ _ _ c x1 x2 b h=>?_);apply kI Z h<;>intro h
 .obtain⟨c10,h⟩:=B9 h;obtain⟨y4,e4,h⟩:=A7 h;refine A8 Z [] (Qe c10 Ov) (Ms Z Y e4) ?_;refine Ug Z h fun h=>?_;rcases o3:O1 eqS (a.Laws.g x2.toNat).Name x1 with _|v3
  .replace h:=Ai4 o3 h;refine Am5 Z Jy J6 D2 PV.str (pI .i64) eqS o3 (pI .i64 0) Jy ?_;refine AH8 Z Jy J6 PV.str (pI .i64) eqS (a.Laws.g x2.toNat).Name (wrap .i64 (0+1)) x1 Jy ?_;exact b _ (Qc [2000,15000]) _ _ _ Jy h
  replace h:=Zq o3 h;refine Am4 Z Jy J6 D2 PV.str (pI .i64) eqS o3 Jy ?_;refine AH8 Z Jy J6 PV.str (pI .i64) eqS (a.Laws.g x2.toNat).Name (wrap .i64 (v3+1)) x1 Jy ?_;exact b _ (Qc [2000,15000]) _ _ _ Jy h
 refine Ug Z h fun h=>?_;refine Ug Z h fun h=>?_;refine kC Z h (SM Z Y) (λy5 h=>?_);cases h;exact kR Z
def Cf (N:Nat)(b:Sv)(a:Int):Option Bool:= some ((decide (0<=a))&&(decide (a<(b.Tree.n:Int))))
theorem LP {c:Sv}{b:Int}{y:Bool}(h:Cf N c b=some y) :Qi S LA [.p (.agg (B0 c)),pN b] [] (pB y) ([]) []:=by unfold Cf at h;refine A1 Z func109 ?_;refine kB Z (A3 Z) Jy Jy 6 (.n (.a (decide (0<=b))) (.a (decide (b<(c.Tree.n:Int))))) ?_;cases h;exact kR Z
def Y0 (N:Nat)(q0:Int)(q1:Sl Node):Option (List (Int)):= Y4 N (λa (x1:Int) (x2:Sl Int)=>if (decide (0<=x1)) then if ((Qd 8 (x2.n+(Sl.of [x1]:Sl Int).n))/\((0:Int)<=x1/\x1<(q1.n:Int)))then a (q1.g x1.toNat).Sx (x2.push x1) else none else O7 N (λb (x3:Int)=>if (decide (0<=x3)) then if (((0:Int)<=x3/\x3<(x2.n:Int))/\x3.toNat<x2.n)then Dk (x2.g x3.toNat) (b (wrap .i64 (x3-1))) else none else some []) (wrap .i64 ((x2.n:Int)-1))) q0 Ox
theorem SN {q0:Int}{q1:Sl Node}{L:List (Int)}(h:Y0 N q0 q1=some L) :FQ S Ga [] [.reg 0 0,.reg 1 0] [.cells [pN q0],.cells [.p (vSl 2 F4 q1)]] (L.map (λ(x:Int)=>[pI .i64 x])):=by
 unfold Y0 at h;refine Fm Z func155 ?_;refine WQ Z Jy h (λx1 x2 L1=>⟨[(4,.vec 5500),(2,.reg 1 0),(1,.reg 0 0),(0,.yf 2)],[(5500,oV D2 1 (cI .i64) x2 false),(2,.yld (L1.map (λ(x:Int)=>[pI .i64 x])) true),(1,.cells [.p (vSl 2 F4 q1)]),(0,.cells [pN x1])]⟩) (ids:=(Qc [0,1,2])) (λ_ _ _ _ _ d x1 x2 L1 f h=>?_);apply kI Z h<;>intro h
 .obtain⟨c4,h⟩:=B9 h;exact f _ [(0,0),(1,1),(2,2),(5500,17000)] _ (q1.g x1.toNat).Sx (x2.push x1) L1 (Qe (Qe Ow c4.1) c4.2) h (hle:=kl1 0 (R7 (cI .i64) x2 x1 [pI .i64 0]))
 refine DQ Z Jy h (λx3 L2=>⟨[(5,pN x3),(4,.vec 5500),(0,.yf 2)],[(5500,oV D2 1 (cI .i64) x2 false),(2,.yld (L2.map (λ(x:Int)=>[pI .i64 x])) true),(1,.cells [.p (vSl 2 F4 q1)]),(0,.cells [pN x1])]⟩) (ids:=(Qc [0,1,2,5500])) (λ_ _ _ _ _ i x3 L2 j h=>?_);apply kI Z h<;>intro h
 .obtain⟨c14,h⟩:=B9 h;obtain⟨L5,rfl,c⟩:=Ou h;replace h:=c;refine DP Z c14 (ys:=(λ(x:Int)=>[pI .i64 x]) (x2.g x3.toNat)) (rest:=L5.map (λ(x:Int)=>[pI .i64 x])) ?_ ?_
  .refine C6 Z Jy (b:=false) (λc15=>?_) (λc15=>?_)
   .exact Bool.noConfusion ((rfl:false=false).symm.trans c15)
   exact j _ (Qc [0,1,2,5500]) _ _ L5 Jy h
  refine C6 Z Jy (b:=true) (λc16=>?_) (λc16=>?_)
  .exact kO Z Jy (a:=.tup []) (objs:=[(.cells [pN x1]),.cells [.p (vSl 2 F4 q1)],.yld [] false]) [0,1,2] ⟨false,rfl,rfl,_,rfl⟩
  exact Bool.noConfusion (Ow.symm.trans c16)
 obtain rfl:=A6 h;exact kO Z Jy (a:=.tup []) (objs:=[(.cells [pN x1]),.cells [.p (vSl 2 F4 q1)],.yld [] true]) [0,1,2] ⟨true,rfl,rfl,_,rfl⟩
def Fo (N:Nat)(a:Sl Node)(b:Int):Option (Int×(Sl Node)):= some (b,a)
theorem XN {a:Sl Node}{b:Int}{y:Int×(Sl Node)}(h:Fo N a b=some y) :Qi S Nu [.p (vSl 2 F4 a),pN b] [] (.clo Ga [] [.reg 0 0,.reg 1 0]) ([.cells [pN y.1],.cells [.p (vSl 2 F4 y.2)]]) []:=by unfold Fo at h;refine A1 Z func113 ?_;obtain rfl:=A6 h;exact kO Z Jy [4000,3000]
def Cg (N:Nat)(a:Sv)(c:Int):Option ((Sl Int)×Int):= (Q2 N a).bind λy1=>if (y1 != 0) then some (Ox,y1) else (Cf N a c).bind λy2=>if (!y2) then some (Ox,3) else (Fo N a.Tree c).bind λy3=>(Y0 N y3.1 y3.2).bind λL1=>T9 L1 (λb (x1:Int) (z1:Sl Int)=>if (((0:Int)<=x1/\x1<(a.On.n:Int))/\(Qd 8 (z1.n+(a.On.g x1.toNat).n)))then b (z1.app (a.On.g x1.toNat)) else none) (λ(z1:Sl Int)=>some (z1,0)) Ox
theorem Ur {a:Sv}{b:Int}{y:(Sl Int)×Int}(h:Cg N a b=some y) :Qi S Ls [.p (.agg (B0 a)),pN b] [] (.tup [.vec 0,pN y.2]) ([oV D2 1 (cI .i64) y.1 true]) []:=by
 unfold Cg at h;refine A1 Z func76 ?_;refine D9 Z Jy 4 3000 (B0 a) ?_;obtain⟨y1,e1,h⟩:=A7 h;refine A8 Z [] Mo (Gi Z Y e1) ?_;apply kI Z h<;>intro h
 .obtain rfl:=A6 h;exact kO Z Jy [5700]
 obtain⟨y2,e2,h⟩:=A7 h;refine A8 Z [] Mo (LP Z Y e2) ?_;apply kI Z h<;>intro h
 .obtain rfl:=A6 h;exact kO Z Jy [5700]
 refine kC Z h (XN Z Y) (λy3 h=>?_);obtain⟨L1,e4,h⟩:=A7 h;refine Js Z Jy [22000,22001] [7,2] 901 (λz1=>⟨[(7,.reg 8000 0),(2,.p (.ptr (B0 a)))],[(8500,oV D2 1 (cI .i64) z1 false),(8000,.cells [.vec 8500])]⟩) (idl:=[(8000,8000)]) h (SN Z Y e4) (λ_=>by kernel_rfl) (λ_=>by kernel_rfl) (λ_=>by kernel_rfl) (λ_=>by kernel_rfl) (λx1 _ c z1 d h=>?_) (λz1 h=>?_)
 .refine Nc Z Jy ?_;refine B5 Z Jy [2,4,5] ?_;obtain⟨c5,h⟩:=B9 h;refine C7 c5 ?_;exact d _ [(901,901),(8000,8000),(8500,30000)] _ _ Jy h (hle:=kl1 0 (appS (cI .i64) z1 (a.On.g x1.toNat)))
 obtain rfl:=A6 h;exact kO Z Jy [8500]
def U7 (rec:Pat->Option Pat)(N:Nat)(a:Pat):Option Pat:= O7 N (λb (x2:Int)=>if (decide (x2<(a.L.n:Int))) then if ((0:Int)<=x2/\x2<(a.L.n:Int))then (rec (a.L.g x2.toNat)).bind λy3=>if (Qd 64 (x2.toNat+1))then b (wrap .i64 (x2+1)) else none else none else if x2.toNat=a.L.n then some a else none) 0
def T5:Nat->Pat->Option Pat
 |0=>λ_=>none
 |N+1=>U7 (T5 N) N
omit Z Y in
theorem wrapN {x:Int}(h:0<=x)(a:x.toNat+1<=140737488355328):(wrap .i64 (x+1)).toNat=x.toNat+1:=by have h1:(x+1) % (2 ^ 64:Int)=x+1:=Int.emod_eq_of_lt (by omega) (by omega);unfold wrap;simp only[IntKind.bits,IntKind.signed,h1];rw[Gb (by simp;omega)];omega
theorem NN {rec:Pat->Option Pat}(b:∀{a:Pat}{y:Pat},rec a=some y->Qi S Bi [.p (.agg (B7 a))] [] (.p (.agg (B7 a))) ([]) []){a:Pat}{y:Pat}(h:U7 rec N a=some y) :Qi S Bi [.p (.agg (B7 a))] [] (.p (.agg (B7 a))) ([]) []:=by
 unfold U7 at h;refine A1 Z func152 ?_;refine I7 Z Jy 8 ⟨[(7,.p (vSl 7 B7 a.L)),(3,.p I3),(2,.reg 3000 0),(1,.reg 2000 0)],[(3000,.cells [pN 0,pU 0,pU 0,.p (.v (.bool false)),pN 0,pN 0,.p I3]),(2000,.cells ((B7 a).map .p))]⟩ (ids:=(Qc [2000,3000])) ?_ (hle:=klR [(0,.fn a.L.n a.L.n (CA a) (λi=>B7 (a.L.g i)))] (al1 ⟨rfl,P7 a⟩ al0));refine F1 Z Jy h (λx2=>⟨[(9,pN x2),(8,pN (a.L.n:Int)),(7,.p (vSl 7 B7 a.L)),(3,.vec 4500),(2,.reg 3000 0),(1,.reg 2000 0)],[(4500,.vec HB 7 x2.toNat (λi=>B7 (a.L.g i)) false),(3000,.cells [pN 0,pU 0,pU 0,.p (.v (.bool false)),pN 0,pN 0,.p I3]),(2000,.cells ((B7 a).map .p))]⟩) (ids:=(Qc [2000,3000])) (λ_ _ _ _ _ c x2 d h=>?_);apply kI Z h<;>intro h
 .obtain⟨c6,h⟩:=B9 h;obtain⟨y3,e3,h⟩:=A7 h;refine A8 Z [] (Qe c6 Nt) (b e3) ?_;obtain⟨c7,h⟩:=B9 h;exact d _ [(2000,2000),(3000,3000),(4500,18000)] _ (wrap .i64 (x2+1)) (Qe Ow c7) h (hle:=kl1 3 (L:=.fn (x2.toNat+1) (wrap .i64 (x2+1)).toNat (DF x2.toNat (λi=>B7 (a.L.g i)) (H2 [pI .i64 0,pI .u32 0,pI .u32 0,.v (.bool false),pI .i64 0,pI .i64 0,I3] [(0,B7 (a.L.g x2.toNat))])) (λi=>B7 (a.L.g i))) ⟨(wrapN c6.1 c7.2).symm,λi f=>by
   unfold DF;split
   .rfl
   obtain rfl:i=x2.toNat:=by omega
   simp[H2]⟩)
 obtain⟨c8,h⟩:=B9 h;exact P3 Z Jy ⟨[(2,.reg 3000 0)],[(3000,.cells [pN a.Kind,pU a.Is.Plus,pU a.Is.Minus,pB a.Not,pN a.Min,pN a.Max,.p (.sl false 7 a.L.n (CA a))])]⟩ [] (ids:=[(3000,3000)]) ⟨rfl,rfl,rfl⟩ (hle:=kl1 6 (L:=.fn x2.toNat a.L.n (λi=>B7 (a.L.g i)) (CA a)) ⟨c8,λi f=>(P7 a i (by omega)).symm⟩)
theorem HD {a:Pat}{y:Pat}(h:T5 N a=some y) :Qi S Bi [.p (.agg (B7 a))] [] (.p (.agg (B7 a))) ([]) []:=by
 induction N generalizing a y with
 |zero=>cases (show (none:Option Pat)=some y from h)
 |succ N ih=>exact NN Z Y (λe=>ih e) h
def V6 (N:Nat)(a:Law):Option Law:= (T5 N a.Left).bind λ_=>(T5 N a.Right).bind λ_=>(B2 N a.If).bind λy3=>(H7 N a.Out).bind λy4=>some (⟨a.Name,a.Left,a.Right,y3,y4,a.Mode⟩:Law)
theorem IZ {a:Law}{y:Law}(h:V6 N a=some y) :Qi S IR [.p (.agg (B3 a))] [] (.p (.agg (B3 y))) ([]) []:=by unfold V6 at h;refine A1 Z func111 ?_;refine B5 Z Jy [2,5] ?_;obtain⟨y1,e1,h⟩:=A7 h;refine F7 Jy (HD Z Y e1) ?_;obtain⟨y2,e2,h⟩:=A7 h;refine F7 Jy (HD Z Y e2) ?_;refine C7 Jy ?_;refine B5 Z Jy [2,5] ?_;obtain⟨y3,e3,h⟩:=A7 h;refine F7 Jy (Bl Z Y e3) ?_;obtain⟨y4,e4,h⟩:=A7 h;refine F7 Jy (Dd Z Y e4) ?_;refine C7 Jy ?_;cases h;exact kR Z
def Ci (N:Nat)(c:Sv)(a:Sl Int):Option (Sl Law):= Y4 N (λb (x1:Sl Law) (x2:Int)=>if (decide (x2<(a.n:Int))) then if (((0:Int)<=x2/\x2<(a.n:Int))/\((0:Int)<=(a.g x2.toNat)/\(a.g x2.toNat)<(c.Laws.n:Int)))then (V6 N (c.Laws.g (a.g x2.toNat).toNat)).bind λy3=>if (Qd 200 (x1.n+(Sl.of [y3]:Sl Law).n))then b (x1.push y3) (wrap .i64 (x2+1)) else none else none else some x1) (Sl.nil:Sl Law) 0
theorem Us {b:Sv}{a:Sl Int}{y:Sl Law}(h:Ci N b a=some y) :Qi S Lt [.p (.agg (B0 b)),.p (vSl 1 (cI .i64) a)] [] (.p (vSl 18 B3 y)) ([]) []:=by
 unfold Ci at h;refine A1 Z func77 ?_;refine G2 Z Jy h (λx1 x2=>⟨[(10,pN x2),(9,pN (a.n:Int)),(8,.p (vSl 1 (cI .i64) a)),(5,.vec 6500),(2,.reg 3000 0)],[(6500,oV I9 18 B3 x1 false),(3000,.cells ((B0 b).map .p))]⟩) (ids:=[(3000,3000)]) (λ_ _ _ _ _ c x1 x2 d h=>?_);apply kI Z h<;>intro h
 .obtain⟨c6,h⟩:=B9 h;obtain⟨y3,e3,h⟩:=A7 h;refine A8 Z [] (Qe (Qe c6.1 c6.2) Ov) (IZ Z Y e3) ?_;obtain⟨c7,h⟩:=B9 h;exact d _ [(3000,3000),(6500,23000)] _ (x1.push y3) (wrap .i64 (x2+1)) (Qe Ow c7) h (hle:=kl1 3 (R7 B3 x1 y3 [.str [],pI .i64 0,pI .u32 0,pI .u32 0,.v (.bool false),pI .i64 0,pI .i64 0,I3,pI .i64 0,pI .u32 0,pI .u32 0,.v (.bool false),pI .i64 0,pI .i64 0,I3,I3,I3,pI .i64 0]))
 obtain rfl:=A6 h;exact kO Z Jy []
def Cj (N:Nat)(a:Sv)(b:Int):Option ((Sl Law)×Int):= (Cg N a b).bind λy1=>(Ci N a y1.1).bind λy2=>some (y2,y1.2)
theorem Ut {a:Sv}{b:Int}{y:(Sl Law)×Int}(h:Cj N a b=some y) :Qi S Lp [.p (.agg (B0 a)),pN b] [] (.tup [.p (vSl 18 B3 y.1),pN y.2]) ([]) []:=by unfold Cj at h;refine A1 Z func50 ?_;refine kC Z h (Ur Z Y) (λy1 h=>?_);refine kC Z h (Us Z Y) (λy2 h=>?_);cases h;exact kR Z
omit Z Y
abbrev Gj {T:Type}(e:TypeId)(k:Nat)(c:T->List PV)(x:Sl T):Obj:=.vec e k x.n (λq=>c (x.g q)) false
def BO4 {T:Type}{e:TypeId}{k n i:Nat}{c:T->List PV}{X:Sl (Sl T)}{z:Sl T}:∀q,q<n->(λq=>if q=i then Gj e k c z else if q=i then Obj.dead else Gj e k c (X.g q)) q=(λq=>Gj e k c ((X.upd i z).g q)) q:=λq _=>by by_cases h:q=i<;>simp[h]
include Z Y
def AS (N:Nat)(a:Sl Node):Option (Sl (Sl Int)):= if ((0:Int)<=(a.n:Int)/\(a.n:Int)<=(a.n:Int)/\(a.n:Int)*24<=140737488355328/\(a.n:Int)<=140737488355328)then Y4 N (λb (x:Int) (X:Sl (Sl Int))=>if (decide (x<(a.n:Int))) then if ((0:Int)<=x/\x<(a.n:Int))then if (a.g x.toNat).Sx.toNat<X.n then lt (λ(z:Sl Int)=>b (wrap .i64 (x+1)) (X.upd (a.g x.toNat).Sx.toNat z)) λk=>if (decide (0<x)) then if (((0:Int)<=(a.g x.toNat).Sx/\(a.g x.toNat).Sx<(X.n:Int))/\(Qd 8 ((X.g (a.g x.toNat).Sx.toNat).n+1)))then k ((X.g (a.g x.toNat).Sx.toNat).push x) else none else k (X.g (a.g x.toNat).Sx.toNat) else none else none else some X) 0 ⟨a.n,λ_=>Sl.nil⟩ else none
theorem SO {N:Nat}{b:Sl Node}{y:Sl (Sl Int)}(h:AS N b=some y) :Qi S JC [.p (vSl 2 F4 b)] [] (.p (vSl 1 (cL 1 (cI .i64)) y)) [] []:=by
 unfold AS at h;refine A1 Z Tryz.func102 ?_;obtain⟨c1,h⟩:=B9 h;refine FU Z c1 9 (.fam 9000 9901 λi=>Gj D2 1 (cI .i64) ((⟨b.n,λ_=>Sl.nil⟩:Sl (Sl Int)).g i)) (⟨by decide,λi _=>rfl⟩:1000<=9901/\∀i,i<b.n->UH [I3] (Gj D2 1 (cI .i64) ((⟨b.n,λ_=>Sl.nil⟩:Sl (Sl Int)).g i))) ?_;refine G2 Z Jy h (λx X=>⟨[(11,pN x),(10,pN (b.n:Int)),(9,.p (vSl 2 F4 b)),(3,.vec 9000)],[(9901,.rows X.n λi=>Gj D2 1 (cI .i64) (X.g i)),(9000,.fam KI X.n 9901 none)]⟩) (ids:=(Qc [9901,9000])) (λ_ _ _ _ _ f x X d h=>?_);apply kI Z h<;>intro h
 .obtain⟨c2,h⟩:=B9 h;obtain⟨c3,h⟩:=B9 h;refine FU Z (Qe c2 Mn) 17 (.take 9000 (b.g x.toNat).Sx.toNat 9801) (⟨⟨by decide,rfl⟩,c3⟩:(1000<=9801/\X.n=X.n)/\(b.g x.toNat).Sx.toNat<X.n) ?_;refine GN Z Jy (A3 Z) h 0 (λz=>⟨[(11,pN x),(10,pN (b.n:Int)),(9,.p (vSl 2 F4 b)),(3,.vec 9000)],
   [(9901,(.rows X.n λl=>if l=(b.g x.toNat).Sx.toNat then .dead else Gj D2 1 (cI .i64) (X.g l))),(9801,Gj D2 1 (cI .i64) z),(9000,.fam KI X.n 9901 (some ((b.g x.toNat).Sx.toNat,.vec 9801)))]⟩) (λM k c h=>?_) (λz h=>?_)
  .apply kI Z h<;>intro h
   .obtain⟨c4,h⟩:=B9 h;refine I0 Z Jy [(0,.n),(1,.n),(2,.l [6000]),(3,.n),(4,.n),(5,.l [6000]),(6,.l [9000]),(7,.l [9000]),(8,.n),(10,.a [29000,9801]),(11,.l [9000]),(12,.a [9000])] ?_;refine O8 (Qe c4.1 (Qe c3 (rfl:(b.g x.toNat).Sx.toNat=(b.g x.toNat).Sx.toNat))) (x:=.sl true 1 1 (H2 [pI .i64 0] [(0,cI .i64 x)])) ?_;refine C7 (Qe (Qe c4.2 c4.1) (Qe c3 (rfl:(b.g x.toNat).Sx.toNat=(b.g x.toNat).Sx.toNat))) ?_;exact c _ [(9901,9901),(9801,29000),(9000,9000)] _ _ Jy h (hle:=kl1 5 (R7 (cI .i64) (X.g (b.g x.toNat).Sx.toNat) x [pI .i64 0]))
   exact c _ (Qc [9901,9801,9000]) _ _ Jy h
  refine FU Z Jy 30 (.put 9000 9902) (⟨⟨by decide,rfl⟩,c3⟩:(1000<=9902/\X.n=X.n)/\(b.g x.toNat).Sx.toNat<X.n) ?_;exact d _ [(9901,9902),(9000,9000)] _ _ _ Jy h (hle:=klR [(4,.ob X.n (λq=>if q=(b.g x.toNat).Sx.toNat then Gj D2 1 (cI .i64) z else if q=(b.g x.toNat).Sx.toNat then .dead else Gj D2 1 (cI .i64) (X.g q)) λi=>Gj D2 1 (cI .i64) ((X.upd (b.g x.toNat).Sx.toNat z).g i))] (al1 BO4 al0))
 refine FU Z Jy 31 (.pub 9000) (⟨rfl,λi _=>rfl⟩:X.n=X.n/\∀i,i<X.n->(YA (Gj D2 1 (cI .i64) (X.g i))).isSome=true) ?_;obtain rfl:=A6 h;exact kO Z Jy [] (hle:=klR [(0,.fn X.n X.n (λi=>[(YA (Gj D2 1 (cI .i64) (X.g i))).getD default]) (λi=>cL 1 (cI .i64) (X.g i)))] (al1 ⟨rfl,λ_ _=>rfl⟩ al0))
def Du (N:Nat)(b:Sl Node):Option (Sl Int):= (AS N b).bind λy1=>Y4 N (λa (x1:Sl Int) (x2:Int)=>if (decide (x2<(y1.n:Int))) then if ((0:Int)<=x2/\x2<(y1.n:Int))then if (((y1.g x2.toNat).n:Int)==0) then if (Qd 8 (x1.n+(Sl.of [x2]:Sl Int).n))then a (x1.push x2) (wrap .i64 (x2+1)) else none else a x1 (wrap .i64 (x2+1)) else none else some x1) Ox 0
theorem XO {a:Sl Node}{y:Sl Int}(h:Du N a=some y) :Qi S Ns [.p (vSl 2 F4 a)] [] (.vec 0) ([oV D2 1 (cI .i64) y true]) []:=by
 unfold Du at h;refine A1 Z func71 ?_;refine kC Z h (SO Z Y) (λy1 h=>?_);refine G2 Z Jy h (λx1 x2=>⟨[(9,pN x2),(8,pN (y1.n:Int)),(7,.p (vSl 1 (cL 1 (cI .i64)) y1)),(3,.vec 4500)],[(4500,oV D2 1 (cI .i64) x1 false)]⟩) (ids:=[]) (λ_ _ _ _ _ d x1 x2 c h=>?_);apply kI Z h<;>intro h
 .obtain⟨c8,h⟩:=B9 h;refine C6 Z c8 (b:=((y1.g x2.toNat).n:Int)==0) (λc9=>?_) (λc9=>?_)
  .replace h:=itT c9 h;obtain⟨c10,h⟩:=B9 h;exact c _ [(4500,21000)] _ (x1.push x2) (wrap .i64 (x2+1)) (Qe Ow c10) h (hle:=kl1 3 (R7 (cI .i64) x1 x2 [pI .i64 0]))
  replace h:=itF c9 h;exact c _ [(4500,4500)] _ x1 _ Jy h
 obtain rfl:=A6 h;exact kO Z Jy [4500]
def S9 (N:Nat)(a:Sl Node):Option ((Sl Int)×Int):= (W1 N a).bind λy1=>if (y1 != 0) then some (Ox,y1) else (Du N a).bind λy2=>some (y2,0)
theorem Fp {a:Sl Node}{y:(Sl Int)×Int}(h:S9 N a=some y) :Qi S Np [.p (vSl 2 F4 a)] [] (.tup [.vec 0,pN y.2]) ([oV D2 1 (cI .i64) y.1 true]) []:=by
 unfold S9 at h;refine A1 Z func40 ?_;refine kC Z h (GU Z Y) (λy1 h=>?_);apply kI Z h<;>intro h
 .obtain rfl:=A6 h;exact kO Z Jy [3700]
 refine kC Z h (XO Z Y) (λy2 h=>?_);obtain rfl:=A6 h;exact kO Z Jy [12000]
def Ck (N:Nat)(b:Sl Node)(c:Int):Option (Sl Int):= Y4 N (λa (x1:Sl Int) (x2:Int)=>if (decide (x2<(b.n:Int))) then if ((0:Int)<=x2/\x2<(b.n:Int))then if ((b.g x2.toNat).Sx==c) then if (Qd 8 (x1.n+(Sl.of [x2]:Sl Int).n))then a (x1.push x2) (wrap .i64 (x2+1)) else none else a x1 (wrap .i64 (x2+1)) else none else some x1) Ox 0
theorem Uu {a:Sl Node}{c:Int}{y:Sl Int}(h:Ck N a c=some y) :Qi S LC [.p (vSl 2 F4 a),pN c] [] (.vec 0) ([oV D2 1 (cI .i64) y true]) []:=by
 unfold Ck at h;refine A1 Z func122 ?_;refine G2 Z Jy h (λx1 x2=>⟨[(6,pN x2),(5,.vec 6500),(1,pN c),(0,.p (vSl 2 F4 a))],[(6500,oV D2 1 (cI .i64) x1 false)]⟩) (ids:=[]) (λ_ _ _ _ _ f x1 x2 d h=>?_);apply kI Z h<;>intro h
 .obtain⟨c8,h⟩:=B9 h;refine C6 Z c8 (b:=(a.g x2.toNat).Sx==c) (λc9=>?_) (λc9=>?_)
  .replace h:=itT c9 h;obtain⟨c10,h⟩:=B9 h;exact d _ [(6500,24000)] _ (x1.push x2) (wrap .i64 (x2+1)) (Qe Ow c10) h (hle:=kl1 3 (R7 (cI .i64) x1 x2 [pI .i64 0]))
  replace h:=itF c9 h;exact d _ [(6500,6500)] _ x1 _ Jy h
 obtain rfl:=A6 h;exact kO Z Jy [6500]
def AT (N:Nat)(b:Sl Node):Option ((Sl Int)×Int):= (CJ N b).bind λy1=>if (y1 != 0) then some (Ox,y1) else Y4 N (λa (x1:Sl Int) (x2:Int)=>if (decide (x2<(b.n:Int))) then (Ck N b x2).bind λy4=>if ((y4.n:Int)==0) then if (Qd 8 (x1.n+(Sl.of [x2]:Sl Int).n))then a (x1.push x2) (wrap .i64 (x2+1)) else none else a x1 (wrap .i64 (x2+1)) else some (x1,0)) Ox 0
theorem PK {a:Sl Node}{y:(Sl Int)×Int}(h:AT N a=some y) :Qi S Pt [.p (vSl 2 F4 a)] [] (.tup [.vec 0,pN y.2]) ([oV D2 1 (cI .i64) y.1 true]) []:=by
 unfold AT at h;refine A1 Z func83 ?_;refine kC Z h (SL Z Y) (λy1 h=>?_);apply kI Z h<;>intro h
 .obtain rfl:=A6 h;exact kO Z Jy [3700]
 refine G2 Z Jy h (λx1 x2=>⟨[(6,pN x2),(5,.vec 6500),(0,.p (vSl 2 F4 a))],[(6500,oV D2 1 (cI .i64) x1 false)]⟩) (ids:=[]) (λ_ _ _ _ _ c x1 x2 b h=>?_);apply kI Z h<;>intro h
 .refine kC Z h (Uu Z Y) (λy4 h=>?_);apply kI Z h<;>intro h
  .obtain⟨c8,h⟩:=B9 h;exact b _ [(6500,27000)] _ (x1.push x2) (wrap .i64 (x2+1)) (Qe Ow c8) h (hle:=kl1 2 (R7 (cI .i64) x1 x2 [pI .i64 0]))
  exact b _ [(6500,6500)] _ x1 _ Jy h
 obtain rfl:=A6 h;exact kO Z Jy [6500]
def JV (N:Nat)(c:Sl Node)(a:Sl Int):Option Int:= (W1 N c).bind λy1=>if (y1 != 0) then some y1 else O7 N (λb (x1:Int)=>if (decide (x1<(a.n:Int))) then if ((0:Int)<=x1/\x1<(a.n:Int))then if ((decide ((a.g x1.toNat)<0))||(decide ((c.n:Int)<=(a.g x1.toNat)))) then some 3 else b (wrap .i64 (x1+1)) else none else some 0) 0
theorem Ad6 {c:Sl Node}{b:Sl Int}{y:Int}(h:JV N c b=some y) :Qi S Px [.p (vSl 2 F4 c),.p (vSl 1 (cI .i64) b)] [] (pN y) ([]) []:=by
 unfold JV at h;refine A1 Z func132 ?_;refine kC Z h (GU Z Y) (λy1 h=>?_);refine Ug Z h fun h=>?_;refine F1 Z Jy h (λx1=>⟨[(15,pN x1),(14,pN (b.n:Int)),(13,.p (vSl 1 (cI .i64) b)),(0,.p (vSl 2 F4 c))],[]⟩) (ids:=[]) (λ_ _ _ _ _ d x1 f h=>?_);apply kI Z h<;>intro h
 .obtain⟨c9,h⟩:=B9 h;refine kB Z (A3 Z) c9 Jy 5 (.o (.a (decide ((b.g x1.toNat)<0))) (.a (decide ((c.n:Int)<=(b.g x1.toNat))))) ?_;refine Ug Z h fun h=>?_;exact f _ [] _ _ Jy h
 cases h;exact kR Z
def Mt (N:Nat)(q0:Int)(q1:Sl Node):Option (List (Int)):= O7 N (λa (x1:Int)=>if (decide (0<=x1)) then Dk x1 (if ((0:Int)<=x1/\x1<(q1.n:Int))then a (q1.g x1.toNat).Sx else none) else some []) q0
theorem Ar8 {q0:Int}{q1:Sl Node}{L:List (Int)}(h:Mt N q0 q1=some L) :FQ S Mp [] [.reg 0 0,.reg 1 0] [.cells [pN q0],.cells [.p (vSl 2 F4 q1)]] (L.map (λ(x:Int)=>[pI .i64 x])):=by
 unfold Mt at h;refine Fm Z func175 ?_;refine DQ Z Jy h (λx1 L1=>⟨[(2,.reg 1 0),(1,.reg 0 0),(0,.yf 2)],[(2,.yld (L1.map (λ(x:Int)=>[pI .i64 x])) true),(1,.cells [.p (vSl 2 F4 q1)]),(0,.cells [pN x1])]⟩) (ids:=(Qc [0,1,2])) (λ_ _ _ _ _ d x1 L1 f h=>?_);apply kI Z h<;>intro h
 .obtain⟨L4,rfl,c⟩:=Ou h;replace h:=c;refine DP Z Jy (ys:=(λ(x:Int)=>[pI .i64 x]) x1) (rest:=L4.map (λ(x:Int)=>[pI .i64 x])) ?_ ?_
  .refine C6 Z Jy (b:=false) (λc8=>?_) (λc8=>?_)
   .exact Bool.noConfusion ((rfl:false=false).symm.trans c8)
   obtain⟨c9,h⟩:=B9 h;exact f _ (Qc [0,1,2]) _ (q1.g x1.toNat).Sx L4 c9 h
  refine C6 Z Jy (b:=true) (λc10=>?_) (λc10=>?_)
  .exact kO Z Jy (a:=.tup []) (objs:=[(.cells [pN x1]),.cells [.p (vSl 2 F4 q1)],.yld [] false]) [0,1,2] ⟨false,rfl,rfl,_,rfl⟩
  exact Bool.noConfusion (Ow.symm.trans c10)
 obtain rfl:=A6 h;exact kO Z Jy (a:=.tup []) (objs:=[(.cells [pN x1]),.cells [.p (vSl 2 F4 q1)],.yld [] true]) [0,1,2] ⟨true,rfl,rfl,_,rfl⟩
def SP (N:Nat)(a:Sl Node)(b:Int):Option (Int×(Sl Node)):= some (b,a)
theorem AX7 {a:Sl Node}{b:Int}{y:Int×(Sl Node)}(h:SP N a b=some y) :Qi S Aa1 [.p (vSl 2 F4 a),pN b] [] (.clo Mp [] [.reg 0 0,.reg 1 0]) ([.cells [pN y.1],.cells [.p (vSl 2 F4 y.2)]]) []:=by unfold SP at h;refine A1 Z func134 ?_;obtain rfl:=A6 h;exact kO Z Jy [4000,3000]
def Q3 (N:Nat)(a:List (Int)):Option (Sl Int):= T9 a (λb (x1:Int) (z1:Sl Int)=>if (Qd 8 (z1.n+(Sl.of [x1]:Sl Int).n))then b (z1.push x1) else none) (λ(z1:Sl Int)=>some z1) Ox
theorem EG {c:List (Int)}{a:Int}{b:(Sl Node)}{kp_seq:Nat}(fp_seq:∃fn,BS8[kp_seq]? = some fn/\fn.body.isSome=true/\(fn.name == "runtime.NumGoroutine")=false)(d:FQ S kp_seq [] [.reg 0 0,.reg 1 0] [(.cells [(pN a)]),(.cells [(.p (vSl 2 F4 b))])] (c.map (λ(x:Int)=>[(pI .i64) x]))){y:(Sl Int)}(h:Q3 N c=some y) :Qi S R5 [(.p I3),(.clo kp_seq [] [(.reg 0 0),(.reg 1 0)])] [(.cells [(pN a)]),(.cells [(.p (vSl 2 F4 b))])] (.vec 0) ([(oV D2 1 (cI .i64) y false)]) [false,false]:=by
 unfold Q3 at h;refine A1 Z func174 ?_;refine QA Z Jy fp_seq [0,1] [2] 901 (λz1=>⟨[(2,(.reg 3000 0))],[(3500,(oV D2 1 (cI .i64) z1 false)),(3000,(.cells [(.vec 3500)]))]⟩) (idl:=[(3000,3000)]) h d (λ_=>by kernel_rfl) (λ_=>by kernel_rfl) (λ_=>by kernel_rfl) (λ_=>by kernel_rfl) (λx1 _ f z1 g h=>?_) (λz1 h=>?_)
 .refine Nc Z Jy ?_;obtain⟨c1,h⟩:=B9 h;exact g _ [(901,901),(3000,3000),(3500,12000)] _ (z1.push x1) (Qe Ow c1) h (hle:=kl1 0 (R7 (cI .i64) z1 x1 [(pI .i64 0)]))
 obtain rfl:=A6 h;exact kO Z Jy [3500]
def AU (N:Nat)(a:List (Int)):Option (Sl Int):= (Q3 N a).bind λy1=>some y1
theorem JW {c:List (Int)}{a:Int}{b:(Sl Node)}{kp_seq:Nat}(fp_seq:∃fn,BS8[kp_seq]? = some fn/\fn.body.isSome=true/\(fn.name == "runtime.NumGoroutine")=false)(d:FQ S kp_seq [] [.reg 0 0,.reg 1 0] [(.cells [(pN a)]),(.cells [(.p (vSl 2 F4 b))])] (c.map (λ(x:Int)=>[(pI .i64) x]))){y:(Sl Int)}(h:AU N c=some y) :Qi S Bz [(.clo kp_seq [] [(.reg 0 0),(.reg 1 0)])] [(.cells [(pN a)]),(.cells [(.p (vSl 2 F4 b))])] (.vec 0) ([(oV D2 1 (cI .i64) y false)]) [false,false]:=by unfold AU at h;refine A1 Z func133 ?_;obtain⟨y1,e1,h⟩:=A7 h;refine A8 Z [0,1] Jy (EG Z Y fp_seq d e1) ?_;obtain rfl:=A6 h;exact kO Z Jy [5000]
def U8 (N:Nat)(b:Sl Int):Option (Sl Int):= AT6 N (λa (x1:Sl Int) (x2:Int) (x3:Int)=>if (decide (x2<x3)) then if (((((((((0:Int)<=x3/\x3<(x1.n:Int))/\x3.toNat<x1.n)/\((0:Int)<=x2/\x2<(x1.n:Int)))/\x2.toNat<x1.n)/\((0:Int)<=x2/\x2<(x1.n:Int)))/\x2.toNat<x1.n)/\((0:Int)<=x3/\x3<((x1.upd x2.toNat (x1.g x3.toNat)).n:Int)))/\x3.toNat<(x1.upd x2.toNat (x1.g x3.toNat)).n)then a ((x1.upd x2.toNat (x1.g x3.toNat)).upd x3.toNat (x1.g x2.toNat)) (wrap .i64 (x2+1)) (wrap .i64 (x3-1)) else none else some x1) b 0 (wrap .i64 ((b.n:Int)-1))
theorem Gk {a:Sl Int}{y:Sl Int}(h:U8 N a=some y) :Qi S AG [.vec 0] [oV D2 1 (cI .i64) a false] (.tup []) ([oV D2 1 (cI .i64) y false]) [true]:=by
 unfold U8 at h;refine A1 Z func135 ?_;refine Nb Z Jy h (λx1 x2 x3=>⟨[(3,pN x3),(2,pN x2),(0,.vec 0)],[(0,oV D2 1 (cI .i64) x1 false)]⟩) (ids:=[(0,0)]) (λ_ _ _ _ _ b x1 x2 x3 d h=>?_);apply kI Z h<;>intro h
 .refine FT Z Jy ?_;obtain⟨c6,h⟩:=B9 h;refine C7 (Qe (Qe (Qe (Qe (Qe (Qe (Qe c6.1.1.1.1.1.1.1 c6.1.1.1.1.1.1.2) c6.1.1.1.1.1.2) c6.1.1.1.1.2) c6.1.1.1.2) (Qe (rfl:(1:Nat)=1) (Qe c6.1.1.2 Mm))) c6.1.2) (Qe (rfl:(1:Nat)=1) (Qe c6.2 Mm))) ?_;exact d _ [(0,0)] _ _ _ _ Jy h (hle:=klR [(2,.fn x1.n ((x1.upd x2.toNat (x1.g x3.toNat)).upd x3.toNat (x1.g x2.toNat)).n (λl=>if l=x3.toNat then splice ((λl=>if l=x2.toNat then splice ((λi=>cI .i64 (x1.g i)) l) 0 [pI .i64 (x1.g x3.toNat)]else (λi=>cI .i64 (x1.g i)) l) l) 0 [pI .i64 (x1.g x2.toNat)]else (λl=>if l=x2.toNat then splice ((λi=>cI .i64 (x1.g i)) l) 0 [pI .i64 (x1.g x3.toNat)]else (λi=>cI .i64 (x1.g i)) l) l) (λi=>cI .i64 (((x1.upd x2.toNat (x1.g x3.toNat)).upd x3.toNat (x1.g x2.toNat)).g i)))] (al1 ⟨rfl,Az6 (c:=cI .i64) (v:=x1.upd x2.toNat (x1.g x3.toNat)) (x:=x1.g x2.toNat) (Az6 (c:=cI .i64) (v:=x1) (x:=x1.g x3.toNat) same (λ_=>by first|rfl|(dsimp only;split<;>rfl))) (λ_=>by first|rfl|(dsimp only;split<;>rfl))⟩ al0))
 obtain rfl:=A6 h;exact kO Z Jy [0]
def Mu (N:Nat)(a:Sl Node)(b:Int):Option ((Sl Int)×Int):= (JV N a (Sl.of [b]:Sl Int)).bind λy1=>if (y1 != 0) then some (Ox,y1) else (SP N a b).bind λy2=>(Mt N y2.1 y2.2).bind λL1=>(AU N L1).bind λy3=>(U8 N y3).bind λy4=>some (y4,0)
theorem Ar9 {b:Sl Node}{a:Int}{y:(Sl Int)×Int}(h:Mu N b a=some y) :Qi S RV [.p (vSl 2 F4 b),pN a] [] (.tup [.vec 0,pN y.2]) ([oV D2 1 (cI .i64) y.1 true]) []:=by
 unfold Mu at h;refine A1 Z func92 ?_;refine Na Z Ow ⟨[(10,.vec 11000),(8,.p (vSl 2 F4 b)),(1,pN a),(0,.p (vSl 2 F4 b))],[(11000,oV D2 1 (cI .i64) (Sl.of [a]:Sl Int) false)]⟩ (ids:=[(11000,11000)]) ?_ (hle:=kl1 3 (AP0 (cI .i64) ([a]:List Int) [pI .i64 0]));refine kC Z h (Ad6 Z Y) (λy1 h=>?_);apply kI Z h<;>intro h
 .obtain rfl:=A6 h;exact kO Z Jy [5700]
 refine kC Z h (AX7 Z Y) (λy2 h=>?_);obtain⟨L1,e3,h⟩:=A7 h;obtain⟨y3,e4,h⟩:=A7 h;refine A8 Z [18000,18001] Jy (JW Z Y ⟨_,func175,by decide +kernel,by decide +kernel⟩ (Ar8 Z Y e3) e4) ?_;obtain⟨y4,e5,h⟩:=A7 h;refine BA4 Z [19000] Jy (Gk Z Y e5) ?_;obtain rfl:=A6 h;exact kO Z Jy [19000]
def JX (N:Nat)(a:Sl Qb):Option Str:= Y4 N (λb (x1:Sl Int) (x2:Int)=>if (decide (x2<(a.n:Int))) then if ((0:Int)<=x2/\x2<(a.n:Int))then if (Qd 1 (x1.n+(Ml (a.g x2.toNat).Plus).n))then if (Qd 1 ((x1.app (Ml (a.g x2.toNat).Plus)).n+(Ml (a.g x2.toNat).Minus).n))then b ((x1.app (Ml (a.g x2.toNat).Plus)).app (Ml (a.g x2.toNat).Minus)) (wrap .i64 (x2+1)) else none else none else none else some (strOf x1)) Ox 0
theorem PL {a:Sl Qb}{y:Str}(h:JX N a=some y) :Qi S Pv [.p (vSl 2 A0 a)] [] (.p (.str y)) ([]) []:=by
 unfold JX at h;refine A1 Z func94 ?_;refine G2 Z Jy h (λx1 x2=>⟨[(10,pN x2),(9,pN (a.n:Int)),(8,.p (vSl 2 A0 a)),(3,.vec 4500)],[(4500,oV H8 1 (cI .u8) x1 false)]⟩) (ids:=[]) (λ_ _ _ _ _ d x1 x2 l h=>?_);apply kI Z h<;>intro h
 .obtain⟨c22,h⟩:=B9 h;refine Bk9 Z (Qe c22 Mn) 2 (unrT [λt=>t=⟨[(19,pN 0),(18,.p (.agg [pI .u32 (a.g x2.toNat).Plus,pI .u32 (a.g x2.toNat).Minus])),(10,pN x2),(9,pN (a.n:Int)),(8,.p (vSl 2 A0 a)),(3,.vec 4501)],[(4501,oV H8 1 (cI .u8) x1 false)]⟩/\(
   if (Qd 1 (x1.n+(Ml (a.g x2.toNat).Plus).n))then
    if (Qd 1 ((x1.app (Ml (a.g x2.toNat).Plus)).n+(Ml (a.g x2.toNat).Minus).n))then
     d ((x1.app (Ml (a.g x2.toNat).Plus)).app (Ml (a.g x2.toNat).Minus)) (wrap .i64 (x2+1))
    else none
   else none
   )=some y,λt=>t=⟨[(19,pN 1),(18,.p (.agg [pI .u32 (a.g x2.toNat).Plus,pI .u32 (a.g x2.toNat).Minus])),(10,pN x2),(9,pN (a.n:Int)),(8,.p (vSl 2 A0 a)),(3,.vec 4500)],[(4500,.vec H8 1 (x1.app (Ml (a.g x2.toNat).Plus)).n (λi=>cI .u8 ((x1.app (Ml (a.g x2.toNat).Plus)).g i)) false)]⟩/\(
    if (Qd 1 ((x1.app (Ml (a.g x2.toNat).Plus)).n+(Ml (a.g x2.toNat).Minus).n))then
     d ((x1.app (Ml (a.g x2.toNat).Plus)).app (Ml (a.g x2.toNat).Minus)) (wrap .i64 (x2+1))
    else none
   )=some y,λt=>t=⟨[(19,pN 2),(18,.p (.agg [pI .u32 (a.g x2.toNat).Plus,pI .u32 (a.g x2.toNat).Minus])),(10,pN x2),(9,pN (a.n:Int)),(8,.p (vSl 2 A0 a)),(3,.vec 4501)],[(4501,.vec H8 1 ((x1.app (Ml (a.g x2.toNat).Plus)).app (Ml (a.g x2.toNat).Minus)).n (λi=>cI .u8 (((x1.app (Ml (a.g x2.toNat).Plus)).app (Ml (a.g x2.toNat).Minus)).g i)) false)]⟩/\(
    d ((x1.app (Ml (a.g x2.toNat).Plus)).app (Ml (a.g x2.toNat).Minus)) (wrap .i64 (x2+1))
   )=some y]) ⟨[(19,pN 0),(18,.p (.agg [pI .u32 (a.g x2.toNat).Plus,pI .u32 (a.g x2.toNat).Minus])),(10,pN x2),(9,pN (a.n:Int)),(8,.p (vSl 2 A0 a)),(3,.vec 4501)],[(4501,oV H8 1 (cI .u8) x1 false)]⟩ (ids:=[(4501,4500)]) ⟨rfl,h⟩ (λ_ _ _ _ i _ t f ht j=>?_)
  rcases i with _|_|_|i
  .obtain⟨rfl,h⟩:=ht;refine C6 Z Jy (b:=decide ((0:Int)<2)) (λc29=>?_) (λc29=>?_)
   .obtain⟨c30,h⟩:=B9 h;exact j _ [(4500,33000)] _ _ (Qe (Qe (Qe (Qe (by decide:(0:Int)<=0/\(0:Int)<2) (by decide:(0:Int)<=8)) (by decide:(0:Int)<=16)) Ow) c30) rfl ⟨rfl,h⟩ (hle:=klR [(5,.fn (x1.n+3) (x1.app (Ml (a.g x2.toNat).Plus)).n (DF x1.n (λi=>cI .u8 (x1.g i)) (H2 [pI .u8 0] [(0,cI .u8 (wrap .u8 (a.g x2.toNat).Plus)),(1,cI .u8 (wrap .u8 (shI .shr .u32 (a.g x2.toNat).Plus 8))),(2,cI .u8 (wrap .u8 (shI .shr .u32 (a.g x2.toNat).Plus 16)))])) (λi=>cI .u8 ((x1.app (Ml (a.g x2.toNat).Plus)).g i)))] (al1 ⟨rfl,Zo (c:=cI .u8) (v:=x1) (w:=(Ml (a.g x2.toNat).Plus)) same rfl (λi f=>match i,f with|0,_=>rfl|1,_=>rfl|2,_=>rfl|_+3,f=>Hc f (by omega)) rfl⟩ al0))
   exact Bool.noConfusion ((by decide:decide ((0:Int)<2)=true).symm.trans c29)
  .obtain⟨rfl,h⟩:=ht;refine C6 Z Jy (b:=decide ((1:Int)<2)) (λc27=>?_) (λc27=>?_)
   .obtain⟨c28,h⟩:=B9 h;exact j _ [(4501,33000)] _ _ (Qe (Qe (Qe (Qe (by decide:(0:Int)<=1/\(1:Int)<2) (by decide:(0:Int)<=8)) (by decide:(0:Int)<=16)) Ow) c28) rfl ⟨rfl,h⟩ (hle:=klR [(5,.fn ((x1.app (Ml (a.g x2.toNat).Plus)).n+3) ((x1.app (Ml (a.g x2.toNat).Plus)).app (Ml (a.g x2.toNat).Minus)).n (DF (x1.app (Ml (a.g x2.toNat).Plus)).n (λi=>cI .u8 ((x1.app (Ml (a.g x2.toNat).Plus)).g i)) (H2 [pI .u8 0] [(0,cI .u8 (wrap .u8 (a.g x2.toNat).Minus)),(1,cI .u8 (wrap .u8 (shI .shr .u32 (a.g x2.toNat).Minus 8))),(2,cI .u8 (wrap .u8 (shI .shr .u32 (a.g x2.toNat).Minus 16)))])) (λi=>cI .u8 (((x1.app (Ml (a.g x2.toNat).Plus)).app (Ml (a.g x2.toNat).Minus)).g i)))] (al1 ⟨rfl,Zo (c:=cI .u8) (v:=x1.app (Ml (a.g x2.toNat).Plus)) (w:=(Ml (a.g x2.toNat).Minus)) same rfl (λi f=>match i,f with|0,_=>rfl|1,_=>rfl|2,_=>rfl|_+3,f=>Hc f (by omega)) rfl⟩ al0))
   exact Bool.noConfusion ((by decide:decide ((1:Int)<2)=true).symm.trans c27)
  .obtain⟨rfl,h⟩:=ht;refine C6 Z Jy (b:=decide ((2:Int)<2)) (λc26=>?_) (λc26=>?_)
   .exact Bool.noConfusion ((by decide:decide ((2:Int)<2)=false).symm.trans c26)
   exact l _ [(4500,4501)] _ _ _ Jy h
  exact Hc f (by omega)
 obtain rfl:=A6 h;exact AU6 Z ((λ_ _=>rfl):∀i:Nat,i<x1.n->true=true) [] ⟨rfl,rfl,rfl⟩
def E3 (N:Nat)(a:Sl K0)(c:K0->Option Bool):Option Int:= O7 N (λb (x1:Int)=>if (decide (x1<(a.n:Int))) then if ((0:Int)<=x1/\x1<(a.n:Int))then (c (a.g x1.toNat)).bind λy3=>if y3 then some x1 else b (wrap .i64 (x1+1)) else none else some (-1)) 0
theorem AW {a:Sl K0}{c:K0->Option Bool}{kp_f:Nat}(d:∀{a0:K0}{b:Bool},c a0=some b->Qi S kp_f [.p (.agg (F2 a0))] [] (pB b) [] []){y:Int}(h:E3 N a c=some y) :Qi S P9 [.p (vSl 2 F2 a),.clo kp_f [] []] [] (pN y) ([]) []:=by
 unfold E3 at h;refine A1 Z func173 ?_;refine F1 Z Jy h (λx1=>⟨[(8,pN x1),(7,pN (a.n:Int)),(1,.clo kp_f [] []),(0,.p (vSl 2 F2 a))],[]⟩) (ids:=[]) (λ_ _ _ _ _ f x1 g h=>?_);apply kI Z h<;>intro h
 .obtain⟨c8,h⟩:=B9 h;obtain⟨y3,e3,h⟩:=A7 h;refine A8 Z [] (Qe c8 Mn) (d e3) ?_;refine Ug Z h fun h=>?_;exact g _ [] _ _ Jy h
 cases h;exact kR Z
def F5 (N:Nat)(a:Sl K0)(b:K0->Option Bool):Option Bool:= (E3 N a b).bind λy1=>some (decide (0<=y1))
theorem Ah {a:Sl K0}{c:K0->Option Bool}{kp_f:Nat}(d:∀{a0:K0}{b:Bool},c a0=some b->Qi S kp_f [.p (.agg (F2 a0))] [] (pB b) [] []){y:Bool}(h:F5 N a c=some y) :Qi S O2 [.p (vSl 2 F2 a),.clo kp_f [] []] [] (pB y) ([]) []:=by unfold F5 at h;refine A1 Z func129 ?_;refine kC Z h (AW Z Y (λe=>d e)) (λy1 h=>?_);cases h;exact kR Z
def Cv (N:Nat)(a:K0):Option Bool:= some ((!a.Has)&&(decide (0<(a.W.n:Int))))
theorem Qm {b:K0}{y:Bool}(h:Cv N b=some y) :Qi S IT [.p (.agg (F2 b))] [] (pB y) ([]) []:=by unfold Cv at h;refine A1 Z func130 ?_;refine kB Z (A3 Z) Jy Jy 5 (.n (.a (!b.Has)) (.a (decide (0<(b.W.n:Int))))) ?_;cases h;exact kR Z
def Aq (N:Nat)(a:Sl K0):Option Bool:= (F5 N a (λ(u1:K0)=>Cv N u1)).bind λy1=>some (!y1)
theorem LQ {a:Sl K0}{y:Bool}(h:Aq N a=some y) :Qi S Lx [.p (vSl 2 F2 a)] [] (pB y) ([]) []:=by unfold Aq at h;refine A1 Z func89 ?_;refine kC Z h (Ah Z Y (λe=>Qm Z Y e)) (λy1 h=>?_);cases h;exact kR Z
def T4 (N:Nat)(a:Sl K0):Option Int:= O7 N (λb (x1:Int)=>if (decide (x1<(a.n:Int))) then if ((0:Int)<=x1/\x1<(a.n:Int))then (W0 N (a.g x1.toNat).W).bind λy3=>if (y3 != 0) then some y3 else b (wrap .i64 (x1+1)) else none else some 0) 0
theorem LR {a:Sl K0}{y:Int}(h:T4 N a=some y) :Qi S Ly [.p (vSl 2 F2 a)] [] (pN y) ([]) []:=by
 unfold T4 at h;refine A1 Z func91 ?_;refine F1 Z Jy h (λx1=>⟨[(8,pN x1),(7,pN (a.n:Int)),(6,.p (vSl 2 F2 a))],[]⟩) (ids:=[]) (λ_ _ _ _ _ b x1 c h=>?_);apply kI Z h<;>intro h
 .obtain⟨c8,h⟩:=B9 h;obtain⟨y3,e3,h⟩:=A7 h;refine A8 Z [] (Qe c8 Mn) (GR Z Y e3) ?_;refine Ug Z h fun h=>?_;exact c _ [] _ _ Jy h
 cases h;exact kR Z
def Cl (N:Nat)(a:Str):Option Bool:= (W1 N (Sl.of [(⟨-1,a⟩:Node)]:Sl Node)).bind λy1=>some (y1==0)
theorem Uv {a:Str}{y:Bool}(h:Cl N a=some y) :Qi S LD [.p (.str a)] [] (pB y) ([]) []:=by unfold Cl at h;refine A1 Z func131 ?_;refine Na Z Ow ⟨[(5,.vec 6000)],[(6000,oV X8 2 F4 (Sl.of [(⟨-1,a⟩:Node)]:Sl Node) false)]⟩ (ids:=[(6000,6000)]) ?_ (hle:=kl1 0 (AP0 F4 ([(⟨-1,a⟩:Node)]:List Node) [pI .i64 0,.str []]));refine kC Z h (GU Z Y) (λy1 h=>?_);cases h;exact kR Z
def R6 (N:Nat)(a:Sl Ub)(b:Int):Option Int:= O7 N (λc (x2:Int)=>if (decide (x2<(a.n:Int))) then if ((0:Int)<=x2/\x2<(a.n:Int))then lt (λ(z3:Bool)=>if z3 then some 2 else c (wrap .i64 (x2+1))) λk3=>if (((a.g x2.toNat).Ua.n:Int) != b) then k3 true else (Aq N (a.g x2.toNat).Ua).bind λy6=>k3 (!y6) else none else O7 N (λd (x5:Int)=>if (decide (x5<(a.n:Int))) then if ((0:Int)<=x5/\x5<(a.n:Int))then (Cl N (a.g x5.toNat).Gloss).bind λy9=>if (!y9) then some 15 else d (wrap .i64 (x5+1)) else none else some 0) 0) 0
theorem Qn {b:Sl Ub}{a:Int}{y:Int}(h:R6 N b a=some y) :Qi S IP [.p (vSl 2 H0 b),pN a] [] (pN y) ([]) []:=by
 unfold R6 at h;refine A1 Z func90 ?_;refine F1 Z Jy h (λx2=>⟨[(11,pN x2),(10,pN (b.n:Int)),(9,.p (vSl 2 H0 b)),(1,pN a),(0,.p (vSl 2 H0 b))],[]⟩) (ids:=[]) (λ_ _ _ _ _ d x2 f h=>?_);apply kI Z h<;>intro h
 .obtain⟨c14,h⟩:=B9 h;refine GN Z (Qe c14 Mn) (A3 Z) h 0 (λz3=>⟨[(25,pB z3),(11,pN x2),(10,pN (b.n:Int)),(9,.p (vSl 2 H0 b)),(1,pN a),(0,.p (vSl 2 H0 b))],[]⟩) (λM3 k3 c h=>?_) (λz3 h=>?_)
  .refine kG Z h (λh=>?_) (λh=>?_)
   .exact c _ [] _ _ Jy h
   refine kC Z h (LQ Z Y) (λy6 h=>?_);exact c _ [] _ _ Jy h
  refine Ug Z h fun h=>?_;exact f _ [] _ _ Jy h
 refine F1 Z Jy h (λx5=>⟨[(29,pN x5),(28,pN (b.n:Int)),(27,.p (vSl 2 H0 b))],[]⟩) (ids:=[]) (λ_ _ _ _ _ g x5 i h=>?_);apply kI Z h<;>intro h
 .obtain⟨c26,h⟩:=B9 h;obtain⟨y9,e9,h⟩:=A7 h;refine A8 Z [] (Qe c26 Mn) (Uv Z Y e9) ?_;refine Ug Z h fun h=>?_;exact i _ [] _ _ Jy h
 cases h;exact kR Z
def Ar (N:Nat)(d:Sv)(a:Sl K0)(b:Sl Ub):Option Int:= (Q2 N d).bind λy1=>if (y1 != 0) then some y1 else (S9 N d.Tree).bind λy2=>if (decide (256<(b.n:Int))) then some 12 else lt (λ(z1:Bool)=>if z1 then some 2 else (R6 N b (y2.1.n:Int)).bind λy5=>if (y5 != 0) then some y5 else (T4 N a).bind λy6=>if (y6 != 0) then some y6 else O7 N (λc (x2:Int)=>if (decide (x2<(b.n:Int))) then if ((0:Int)<=x2/\x2<(b.n:Int))then (T4 N (b.g x2.toNat).Ua).bind λy9=>if (y9 != 0) then some y9 else c (wrap .i64 (x2+1)) else none else some 0) 0) λk1=>if ((a.n:Int) != (b.n:Int)) then k1 true else (Aq N a).bind λy4=>k1 (!y4)
theorem LS {c:Sv}{a:Sl K0}{b:Sl Ub}{y:Int}(h:Ar N c a b=some y) :Qi S Lq [.p (.agg (B0 c)),.p (vSl 2 F2 a),.p (vSl 2 H0 b)] [] (pN y) ([]) []:=by
 unfold Ar at h;refine A1 Z func63 ?_;refine kC Z h (Gi Z Y) (λy1 h=>?_);refine Ug Z h fun h=>?_;refine kC Z h (Fp Z Y) (λy2 h=>?_);refine Ug Z h fun h=>?_;refine GN Z Jy (A3 Z) h 0 (λz1=>⟨[(30,pB z1),(8,.vec 24000),(2,.p (vSl 2 H0 b)),(1,.p (vSl 2 F2 a))],[(24000,oV D2 1 (cI .i64) y2.1 true)]⟩) (λM1 k1 d h=>?_) (λz1 h=>?_)
 .refine kG Z h (λh=>?_) (λh=>?_)
  .exact d _ [(24000,24000)] _ _ Jy h
  refine kC Z h (LQ Z Y) (λy4 h=>?_);exact d _ [(24000,24000)] _ _ Jy h
 refine Ug Z h fun h=>?_;refine kC Z h (Qn Z Y) (λy5 h=>?_);refine Ug Z h fun h=>?_;refine kC Z h (LR Z Y) (λy6 h=>?_);refine Ug Z h fun h=>?_;refine F1 Z Jy h (λx2=>⟨[(55,pN x2),(54,pN (b.n:Int)),(53,.p (vSl 2 H0 b))],[]⟩) (ids:=[]) (λ_ _ _ _ _ f x2 g h=>?_);apply kI Z h<;>intro h
 .obtain⟨c16,h⟩:=B9 h;obtain⟨y9,e9,h⟩:=A7 h;refine A8 Z [] (Qe c16 Mn) (LR Z Y e9) ?_;refine Ug Z h fun h=>?_;exact g _ [] _ _ Jy h
 cases h;exact kR Z
def CK (N:Nat)(q0:Sl Ub):Option (List (GY×(Sl Qb))):= O7 N (λb (x2:Int)=>if (decide (x2<(q0.n:Int))) then if ((0:Int)<=x2/\x2<(q0.n:Int))then O7 N (λa (x4:Int)=>if (decide (x4<((q0.g x2.toNat).Ua.n:Int))) then if ((0:Int)<=x4/\x4<((q0.g x2.toNat).Ua.n:Int))then if ((q0.g x2.toNat).Ua.g x4.toNat).Has then Dk ((⟨x2,x4⟩:GY),((q0.g x2.toNat).Ua.g x4.toNat).W) (a (wrap .i64 (x4+1))) else a (wrap .i64 (x4+1)) else none else b (wrap .i64 (x2+1))) 0 else none else some []) 0
theorem Mv {q0:Sl Ub}{L:List (GY×(Sl Qb))}(h:CK N q0=some L) :FQ S CC [] [.reg 0 0] [.cells [.p (vSl 2 H0 q0)]] (L.map (λ(x:GY×(Sl Qb))=>[(λx=>.agg (Rs x)) x.1,vSl 2 A0 x.2])):=by
 unfold CK at h;refine Fm Z func95 ?_;refine DQ Z Jy h (λx2 L1=>⟨[(9,pN x2),(8,pN (q0.n:Int)),(7,.p (vSl 2 H0 q0)),(0,.yf 1)],[(1,.yld (L1.map (λ(x:GY×(Sl Qb))=>[(λx=>.agg (Rs x)) x.1,vSl 2 A0 x.2])) true),(0,.cells [.p (vSl 2 H0 q0)])]⟩) (ids:=(Qc [0,1])) (λ_ _ _ _ _ f x2 L1 i h=>?_);apply kI Z h<;>intro h
 .obtain⟨c48,h⟩:=B9 h;refine DQ Z (Qe c48 Mn) h (λx4 L16=>⟨[(17,pN x4),(16,pN ((q0.g x2.toNat).Ua.n:Int)),(15,.p (vSl 2 F2 (q0.g x2.toNat).Ua)),(9,pN x2),(8,pN (q0.n:Int)),(7,.p (vSl 2 H0 q0)),(3,pN x2),(0,.yf 1)],[(1,.yld (L16.map (λ(x:GY×(Sl Qb))=>[(λx=>.agg (Rs x)) x.1,vSl 2 A0 x.2])) true),(0,.cells [.p (vSl 2 H0 q0)])]⟩) (ids:=(Qc [0,1])) (λ_ _ _ _ _ j x4 L16 d h=>?_);apply kI Z h<;>intro h
  .obtain⟨c64,h⟩:=B9 h;refine FS Z (Qe c64 Mn) (b:=((q0.g x2.toNat).Ua.g x4.toNat).Has) (λc67=>?_) (λc67=>?_)
   .replace h:=itT c67 h;obtain⟨L22,rfl,c⟩:=Ou h;replace h:=c;refine DP Z Jy (ys:=(λ(x:GY×(Sl Qb))=>[(λx=>.agg (Rs x)) x.1,vSl 2 A0 x.2]) ((⟨x2,x4⟩:GY),((q0.g x2.toNat).Ua.g x4.toNat).W)) (rest:=L22.map (λ(x:GY×(Sl Qb))=>[(λx=>.agg (Rs x)) x.1,vSl 2 A0 x.2])) ?_ ?_
    .refine C6 Z Jy (b:=false) (λc68=>?_) (λc68=>?_)
     .exact Bool.noConfusion ((rfl:false=false).symm.trans c68)
     exact d _ (Qc [0,1]) _ _ L22 Jy h
    refine C6 Z Jy (b:=true) (λc69=>?_) (λc69=>?_)
    .exact kO Z Jy (a:=.tup []) (objs:=[(.cells [.p (vSl 2 H0 q0)]),.yld [] false]) [0,1] ⟨false,rfl,rfl,_,rfl⟩
    exact Bool.noConfusion (Ow.symm.trans c69)
   replace h:=itF c67 h;exact d _ (Qc [0,1]) _ _ L16 Jy h
  exact i _ (Qc [0,1]) _ _ L16 Jy h
 obtain rfl:=A6 h;exact kO Z Jy (a:=.tup []) (objs:=[(.cells [.p (vSl 2 H0 q0)]),.yld [] true]) [0,1] ⟨true,rfl,rfl,_,rfl⟩
def DX (N:Nat)(a:Sl Ub):Option (Sl Ub):= some a
theorem OG {a:Sl Ub}{y:Sl Ub}(h:DX N a=some y) :Qi S Hv [.p (vSl 2 H0 a)] [] (.clo CC [] [.reg 0 0]) ([.cells [.p (vSl 2 H0 y)]]) []:=by unfold DX at h;refine A1 Z func65 ?_;obtain rfl:=A6 h;exact kO Z Jy [2000]
omit Z Y
abbrev Qo (es:List (Str×K0)):Obj:=.map (DH PV.str (λx=>.agg (F2 x)) es)
abbrev BC1 (M:Sl (List (Str×K0))):List Obj:=[.cells [.vec 1],.fam E2 M.n 2 none,.rows M.n λi=>Qo (M.g i)]
def BO5 {i n:Nat}{g:Nat->Obj}:∀q,q<n->(λq=>if q=i then g i else if q=i then Obj.dead else g q) q=(λq=>g q) q:=λq _=>by
 show (if q=i then g i else if q=i then Obj.dead else g q)=g q;by_cases h:q=i
 .subst h;rw[Fg rfl]
 rw[Gb h,Gb h]
def BO6 {i n:Nat}{M:Sl (List (Str×K0))}{x:List (Str×K0)}:∀q,q<n->(λq=>if q=i then Qo x else if q=i then Obj.dead else Qo (M.g q)) q=(λq=>Qo ((M.upd i x).g q)) q:=λq _=>by
 show (if q=i then Qo x else if q=i then Obj.dead else Qo (M.g q))=Qo (if q=i then x else M.g q);by_cases h:q=i
 .rw[Fg h,Fg h]
 rw[Gb h,Gb h,Gb h]
abbrev knO (K i:Nat):Obj:=if i<K then Qo []else .ghost [.p (.v (.map none))]
def obKn {K x n:Nat}(hx:x=K):∀q,q<n->(λq=>if q=x then Obj.map []else if q=x then Obj.dead else knO K q) q=(λi=>knO (K+1) i) q:=λq _=>by
 show (if q=x then Qo []else if q=x then Obj.dead else if q<K then Qo []else .ghost [.p (.v (.map none))])=if q<K+1 then Qo []else .ghost [.p (.v (.map none))]
 by_cases e:q=x
 .rw[Fg e,Fg (by omega)]
 rw[Gb e,Gb e];by_cases e2:q<K
 .rw[Fg e2,Fg (by omega)]
 rw[Gb e2,Dm]
include Z Y
def Dv (N:Nat)(p:K0)(leaf:Int)(M:Sl (List (Str×K0)))(X:Sl (Sl Law)):Option (Sl Qb×Bool×Sl (List (Str×K0))):= if (!p.Has) then some ((Sl.nil:Sl Qb),false,M) else if leaf.toNat<M.n then if ((0:Int)<=leaf/\leaf<(M.n:Int))then (JX N p.W).bind λk=>Jo (O1 eqS k (M.g leaf.toNat)) (if ((0:Int)<=leaf/\leaf<(X.n:Int))then (U6 N (X.g leaf.toNat) p.W).bind λw=>some (w.1,w.2==0,M.upd leaf.toNat (GL eqS k (⟨w.2==0,w.1⟩:K0) (M.g leaf.toNat))) else none) λv=>some (v.W,v.Has,M) else none else none
theorem NO {N:Nat}{p:K0}{leaf:Int}{X:Sl (Sl Law)}{M:Sl (List (Str×K0))}{y:Sl Qb×Bool×Sl (List (Str×K0))}(h:Dv N p leaf M X=some y) :Qi S V7 [.p (.agg (F2 p)),pN leaf,.reg 0 0,.p (.ptr [vSl 1 (cL 18 B3) X])] (BC1 M) (.tup [.p (vSl 2 A0 y.1),pB y.2.1]) (BC1 y.2.2) [true,true,false]:=by
 unfold Dv at h;refine A1 Z Tryz.func93 ?_;refine D9 Z Jy 12 5000 (F2 p) ?_;apply kI Z h<;>intro h
 .obtain rfl:=A6 h;exact P3 Z Jy ⟨[(7,pB false),(6,.p (vSl 2 A0 (Sl.nil:Sl Qb)))],[(9902,.rows M.n λi=>Qo (M.g i)),(1,.fam E2 M.n 9902 none),(0,.cells [.vec 1])]⟩ [0,1,9902] (ids:=[(0,0),(1,1),(9902,2)]) ⟨rfl,rfl,rfl⟩
 obtain⟨c1,h⟩:=B9 h;obtain⟨c2,h⟩:=B9 h;refine AB0 Z Jy (.take 1 leaf.toNat 9801) (⟨⟨by decide,rfl⟩,c1⟩:(1000<=9801/\M.n=M.n)/\leaf.toNat<M.n) ?_;obtain⟨k,e1,h⟩:=A7 h;refine I0 Z Jy [(0,.l [0]),(2,.l [1]),(3,.l [1]),(5,.n),(6,.n),(7,.l [9801]),(11,.a [9000]),(12,.a [9000])] ?_;refine F7 (Qe c2 (Qe c1 (rfl:leaf.toNat=leaf.toNat))) (PL Z Y e1) ?_;rcases o1:O1 eqS k (M.g leaf.toNat)with _|v1
 .replace h:=Ai4 o1 h;refine BB5 Jy J6 Fv PV.str (λx=>.agg (F2 x)) eqS o1 (.agg [.v (.bool false),I3]) Jy ?_;refine C7 Jy ?_;refine C6 Z Jy (b:=true) (λc=>?_) (λc=>Bool.noConfusion (Ow.symm.trans c));obtain⟨c3,h⟩:=B9 h;obtain⟨w,e2,h⟩:=A7 h;refine B5 Z Jy [0,2,3,5,6] ?_;refine F7 c3 (JT Z Y e2) ?_;refine C7 Jy ?_;refine I0 Z Jy [(0,.l [0]),(2,.l [1]),(3,.l [1]),(5,.n),(6,.n),(7,.l [9000])] ?_;refine F7 (Qe c2 (Qe c1 (rfl:leaf.toNat=leaf.toNat))) (PL Z Y e1) ?_;refine WY Jy J6 PV.str (λx=>.agg (F2 x)) eqS k (⟨w.2==0,w.1⟩:K0) (M.g leaf.toNat) Jy ?_;refine C7 Jy ?_;obtain rfl:=A6 h;refine AB0 Z Jy (.put 1 9902) (⟨⟨by decide,rfl⟩,c1⟩:(1000<=9902/\M.n=M.n)/\leaf.toNat<M.n) ?_;refine FT Z Jy ?_;refine C7 Jy ?_;exact P3 Z Jy ⟨[(7,pB (w.2==0)),(6,.p (vSl 2 A0 w.1))],[(9902,.rows M.n λi=>Qo ((M.upd leaf.toNat (GL eqS k (⟨w.2==0,w.1⟩:K0) (M.g leaf.toNat))).g i)),(1,.fam E2 M.n 9902 none),(0,.cells [.vec 1])]⟩ [0,1,9902] (ids:=(Qc [0,1,9902])) ⟨rfl,rfl,rfl⟩ (hle:=klR [(3,.ob M.n (λq=>if q=leaf.toNat then Qo (GL eqS k (⟨w.2==0,w.1⟩:K0) (M.g leaf.toNat))else if q=leaf.toNat then .dead else Qo (M.g q)) λi=>Qo ((M.upd leaf.toNat (GL eqS k (⟨w.2==0,w.1⟩:K0) (M.g leaf.toNat))).g i))] (al1 BO6 al0))
 replace h:=Zq o1 h;refine Bm5 Jy J6 Fv PV.str (λx=>.agg (F2 x)) eqS o1 Jy ?_;refine C7 Jy ?_;obtain rfl:=A6 h;refine C6 Z Jy (b:=false) (λc=>Bool.noConfusion ((rfl:false=false).symm.trans c)) (λc=>?_);refine AB0 Z Jy (.put 1 9902) (⟨⟨by decide,rfl⟩,c1⟩:(1000<=9902/\M.n=M.n)/\leaf.toNat<M.n) ?_;refine FT Z Jy ?_;refine C7 Jy ?_;exact P3 Z Jy ⟨[(7,pB v1.Has),(6,.p (vSl 2 A0 v1.W))],[(9902,.rows M.n λi=>Qo (M.g i)),(1,.fam E2 M.n 9902 none),(0,.cells [.vec 1])]⟩ [0,1,9902] (ids:=(Qc [0,1,9902])) ⟨rfl,rfl,rfl⟩ (hle:=klR [(3,.ob M.n (λq=>if q=leaf.toNat then Qo (M.g leaf.toNat)else if q=leaf.toNat then .dead else Qo (M.g q)) λi=>Qo (M.g i))] (al1 (BO5 (g:=λi=>Qo (M.g i))) al0))
def EX (N:Nat)(a:Sv)(b:Int):Option (Sl (Sl Law)):= (S9 N a.Tree).bind λl=>if ((0:Int)<=(l.1.n:Int)/\(l.1.n:Int)<=(l.1.n:Int)/\(l.1.n:Int)*24<=140737488355328/\(l.1.n:Int)<=140737488355328)then if ((0:Int)<=(l.1.n:Int)/\(l.1.n:Int)<=(l.1.n:Int)/\(l.1.n:Int)*8<=140737488355328/\(l.1.n:Int)<=140737488355328)then AT6 N (λf (K:Nat) (X:Sl (Sl Law)) (x:Int)=>if (decide (x<(l.1.n:Int))) then if (((0:Int)<=x/\x<(l.1.n:Int))/\x.toNat<l.1.n)then (Mu N a.Tree (l.1.g x.toNat)).bind λw=>Y4 N (λd (X:Sl (Sl Law)) (y:Int)=>if (decide (y<(w.1.n:Int))) then if ((((0:Int)<=y/\y<(w.1.n:Int))/\y.toNat<w.1.n)/\((0:Int)<=(w.1.g y.toNat)/\(w.1.g y.toNat)<(a.On.n:Int)))then Y4 N (λc (X:Sl (Sl Law)) (z:Int)=>if (decide (z<((a.On.g (w.1.g y.toNat).toNat).n:Int))) then if ((0:Int)<=z/\z<((a.On.g (w.1.g y.toNat).toNat).n:Int))then if (((a.On.g (w.1.g y.toNat).toNat).g z.toNat) != b) then if x.toNat<X.n then if (((0:Int)<=x/\x<(X.n:Int))/\((0:Int)<=((a.On.g (w.1.g y.toNat).toNat).g z.toNat)/\((a.On.g (w.1.g y.toNat).toNat).g z.toNat)<(a.Laws.n:Int)))then if (Qd 200 ((X.g x.toNat).n+1))then c (X.upd x.toNat ((X.g x.toNat).push (a.Laws.g ((a.On.g (w.1.g y.toNat).toNat).g z.toNat).toNat))) (wrap .i64 (z+1)) else none else none else none else c X (wrap .i64 (z+1)) else none else d X (wrap .i64 (y+1))) X 0 else none else if x.toNat=K/\K<l.1.n then f (K+1) X (wrap .i64 (x+1))else none) X 0 else none else if K=l.1.n/\X.n=l.1.n then some X else none) 0 ⟨l.1.n,λ_=>Sl.nil⟩ 0 else none else none
theorem Qp {N:Nat}{d:Sv}{c:Int}{y:Sl (Sl Law)}(h:EX N d c=some y) :Qi S IN [.p (.agg (B0 d)),pN c] [] (.clo V7 [] [.reg 0 0,.p (.ptr [vSl 1 (cL 18 B3) y])]) (BC1 ⟨y.n,λ_=>[]⟩) []:=by
 unfold EX at h;refine A1 Z Tryz.func64 ?_;refine D9 Z Jy 18 3000 (B0 d) ?_;obtain⟨l,e1,h⟩:=A7 h;refine A8 Z [] Jy (Fp Z Y e1) ?_;obtain⟨c1,h⟩:=B9 h;refine FU Z c1 26 (.fam 26000 9901 λi=>Gj I9 18 B3 ((⟨l.1.n,λ_=>Sl.nil⟩:Sl (Sl Law)).g i)) (⟨by decide,λi _=>rfl⟩:1000<=9901/\∀i,i<l.1.n->UH [I3] (Gj I9 18 B3 ((⟨l.1.n,λ_=>Sl.nil⟩:Sl (Sl Law)).g i))) ?_;obtain⟨c2,h⟩:=B9 h;refine FU Z c2 29 (.fam 29000 9951 λi=>knO 0 i) (⟨by decide,λi _=>⟨rfl,rfl⟩⟩:1000<=9951/\∀i,i<l.1.n->UH [.v (.map none)] (knO 0 i)) ?_;refine Nb Z Jy h (λK X x=>⟨[(31,pN x),(30,pN (l.1.n:Int)),(29,.vec 21000),(8,.reg 9000 0),(7,.reg 8000 0),(2,.p (.ptr (B0 d))),(1,pN c)],
  [(29000,.fam E2 l.1.n 9951 none),(26000,.fam EC X.n 9901 none),(21000,oV D2 1 (cI .i64) l.1 true),(9951,.rows l.1.n λi=>knO K i),(9901,.rows X.n λi=>Gj I9 18 B3 (X.g i)),(9000,.cells [.vec 29000]),(8000,.cells [.vec 26000])]⟩) (ids:=(Qc [29000,26000,21000,9951,9901,9000,8000])) (λ_ _ _ _ _ s K X x j h=>?_)
 apply kI Z h<;>intro h
 .obtain⟨c3,h⟩:=B9 h;obtain⟨w,e2,h⟩:=A7 h;refine A8 Z [] c3 (Ar9 Z Y e2) ?_;refine G2 Z Jy h (λX u=>⟨[(45,pN u),(44,pN (w.1.n:Int)),(43,.vec 41000),(31,pN x),(30,pN (l.1.n:Int)),(29,.vec 21000),(9,pN x),(8,.reg 9000 0),(7,.reg 8000 0),(2,.p (.ptr (B0 d))),(1,pN c)],[(41000,oV D2 1 (cI .i64) w.1 true),(29000,.fam E2 l.1.n 9951 none),(26000,.fam EC X.n 9901 none),(21000,oV D2 1 (cI .i64) l.1 true),(9951,.rows l.1.n λi=>knO K i),(9901,.rows X.n λi=>Gj I9 18 B3 (X.g i)),(9000,.cells [.vec 29000]),(8000,.cells [.vec 26000])]⟩) (ids:=(Qc [41000,29000,26000,21000,9951,9901,9000,8000])) (λ_ _ _ _ _ m X u o h=>?_);apply kI Z h<;>intro h
  .obtain⟨c4,h⟩:=B9 h;refine G2 Z c4 h (λX z=>⟨[(55,pN z),(54,pN ((d.On.g (w.1.g u.toNat).toNat).n:Int)),(53,.p (vSl 1 (cI .i64) (d.On.g (w.1.g u.toNat).toNat))),(45,pN u),(44,pN (w.1.n:Int)),(43,.vec 41000),(31,pN x),(30,pN (l.1.n:Int)),(29,.vec 21000),(9,pN x),(8,.reg 9000 0),(7,.reg 8000 0),(2,.p (.ptr (B0 d))),(1,pN c)],[(41000,oV D2 1 (cI .i64) w.1 true),(29000,.fam E2 l.1.n 9951 none),(26000,.fam EC X.n 9901 none),(21000,oV D2 1 (cI .i64) l.1 true),(9951,.rows l.1.n λi=>knO K i),(9901,.rows X.n λi=>Gj I9 18 B3 (X.g i)),(9000,.cells [.vec 29000]),(8000,.cells [.vec 26000])]⟩) (ids:=(Qc [41000,29000,26000,21000,9951,9901,9000,8000])) (λ_ _ _ _ _ r X z f h=>?_);apply kI Z h<;>intro h
   .obtain⟨c5,h⟩:=B9 h;refine C6 Z c5 (b:=((d.On.g (w.1.g u.toNat).toNat).g z.toNat) != c) (λc6=>?_) (λc6=>?_)
    .replace h:=itT c6 h;obtain⟨c7,h⟩:=B9 h;obtain⟨c8,h⟩:=B9 h;obtain⟨c9,h⟩:=B9 h;refine AB0 Z Jy (.take 26000 x.toNat 9801) (⟨⟨by decide,rfl⟩,c7⟩:(1000<=9801/\X.n=X.n)/\x.toNat<X.n) ?_;refine I0 Z Jy [(0,.l [8000]),(2,.l [8000]),(4,.l [26000]),(5,.l [26000]),(6,.n),(7,.n),(9,.n),(10,.n),(12,.a [75000,9801]),(13,.l [26000]),(14,.a [26000])] ?_;refine O8 (Qe (Qe (Qe c8.1 (Qe c7 (rfl:x.toNat=x.toNat))) c8.2) Ov) (x:=.sl true 18 1 (H2 [.str [],pI .i64 0,pI .u32 0,pI .u32 0,.v (.bool false),pI .i64 0,pI .i64 0,I3,pI .i64 0,pI .u32 0,pI .u32 0,.v (.bool false),pI .i64 0,pI .i64 0,I3,I3,I3,pI .i64 0] [(0,B3 (d.Laws.g ((d.On.g (w.1.g u.toNat).toNat).g z.toNat).toNat))])) ?_;refine C7 (Qe (Qe c9 c8.1) (Qe c7 (rfl:x.toNat=x.toNat))) ?_;refine I7 Z Jy 76 ⟨[(55,pN z),(54,pN ((d.On.g (w.1.g u.toNat).toNat).n:Int)),(53,.p (vSl 1 (cI .i64) (d.On.g (w.1.g u.toNat).toNat))),(45,pN u),(44,pN (w.1.n:Int)),(43,.vec 41000),(31,pN x),(30,pN (l.1.n:Int)),(29,.vec 21000),(9,pN x),(8,.reg 9000 0),(7,.reg 8000 0),(2,.p (.ptr (B0 d))),(1,pN c)],[(75000,Gj I9 18 B3 ((X.g x.toNat).push (d.Laws.g ((d.On.g (w.1.g u.toNat).toNat).g z.toNat).toNat))),(41000,oV D2 1 (cI .i64) w.1 true),(29000,.fam E2 l.1.n 9951 none),(26000,.fam EC X.n 9901 (some (x.toNat,.vec 75000))),(21000,oV D2 1 (cI .i64) l.1 true),(9951,.rows l.1.n λi=>knO K i),(9901,(.rows X.n λq=>if q=x.toNat then .dead else Gj I9 18 B3 (X.g q))),(9000,.cells [.vec 29000]),(8000,.cells [.vec 26000])]⟩ (ids:=(Qc [75000,41000,29000,26000,21000,9951,9901,9000,8000])) ?_ (hle:=kl1 10 (R7 B3 (X.g x.toNat) (d.Laws.g ((d.On.g (w.1.g u.toNat).toNat).g z.toNat).toNat) [.str [],pI .i64 0,pI .u32 0,pI .u32 0,.v (.bool false),pI .i64 0,pI .i64 0,I3,pI .i64 0,pI .u32 0,pI .u32 0,.v (.bool false),pI .i64 0,pI .i64 0,I3,I3,I3,pI .i64 0]));refine FU Z Jy 76 (.put 26000 9902) (⟨⟨by decide,rfl⟩,c7⟩:(1000<=9902/\X.n=X.n)/\x.toNat<X.n) ?_;exact f _ [(41000,41000),(29000,29000),(26000,26000),(21000,21000),(9951,9951),(9901,9902),(9000,9000),(8000,8000)] _ _ _ Jy h (hle:=klR [(17,.ob X.n (λq=>if q=x.toNat then Gj I9 18 B3 ((X.g x.toNat).push (d.Laws.g ((d.On.g (w.1.g u.toNat).toNat).g z.toNat).toNat))else if q=x.toNat then .dead else Gj I9 18 B3 (X.g q)) λi=>Gj I9 18 B3 ((X.upd x.toNat ((X.g x.toNat).push (d.Laws.g ((d.On.g (w.1.g u.toNat).toNat).g z.toNat).toNat))).g i))] (al1 BO4 al0))
    replace h:=itF c6 h;exact f _ (Qc [41000,29000,26000,21000,9951,9901,9000,8000]) _ X _ Jy h
   exact o _ (Qc [41000,29000,26000,21000,9951,9901,9000,8000]) _ X _ Jy h
  obtain⟨c4,h⟩:=B9 h;refine FU Z Jy 78 (.over 29000 x.toNat) (⟨rfl,by omega⟩:l.1.n=l.1.n/\x.toNat<l.1.n) ?_;refine FU Z (Qe c3.1 (Qe c3.2 (rfl:x.toNat=x.toNat))) 82 (.put 29000 9952) (⟨⟨by decide,rfl⟩,c3.2⟩:(1000<=9952/\l.1.n=l.1.n)/\x.toNat<l.1.n) ?_;exact j _ [(29000,29000),(26000,26000),(21000,21000),(9951,9952),(9901,9901),(9000,9000),(8000,8000)] _ _ X _ Jy h (hle:=klR [(8,.ob l.1.n (λq=>if q=x.toNat then .map []else if q=x.toNat then .dead else knO K q) λi=>knO (K+1) i)] (al1 (obKn c4.1) al0))
 obtain⟨c3,h⟩:=B9 h;obtain rfl:=A6 h;refine FU Z Jy 83 (.pub 26000) (⟨rfl,λi _=>rfl⟩:X.n=X.n/\∀i,i<X.n->(YA (Gj I9 18 B3 (X.g i))).isSome=true) ?_;refine I7 Z Jy 83 ⟨[(8,.reg 9000 0),(7,.reg 8000 0)],[(29000,.fam E2 X.n 9951 none),(9951,.rows X.n λi=>Qo []),(9000,.cells [.vec 29000]),(8000,.cells [.p (vSl 1 (cL 18 B3) X)])]⟩ (ids:=(Qc [29000,9951,9000,8000])) ?_ (hle:=klR [(0,.nt l.1.n X.n),(1,.nt l.1.n X.n),(2,.ob X.n (λi=>knO K i) (λi=>Qo [])),(3,.fn X.n X.n (λi=>[(YA (Gj I9 18 B3 (X.g i))).getD default]) (λi=>cL 18 B3 (X.g i)))] (al1 c3.2.symm (al1 c3.2.symm (al1 (λi t=>Fg (by omega)) (al1 ⟨rfl,λ_ _=>rfl⟩ al0)))));refine D9 Z Jy 83 8000 [vSl 1 (cL 18 B3) X] ?_;exact P3 Z Jy ⟨[(4,.clo V7 [] [.reg 9000 0,.p (.ptr [vSl 1 (cL 18 B3) X])])],[(29000,.fam E2 X.n 9951 none),(9951,.rows X.n λi=>Qo []),(9000,.cells [.vec 29000])]⟩ [9000,29000,9951] (ids:=(Qc [29000,9951,9000])) ⟨rfl,rfl,rfl⟩
def JY (N:Nat)(d:Sv)(b:Sl K0)(f:Sl Ub)(a:Int):Option ((Sl C9)×Int):= (Ar N d b f).bind λy1=>if (y1 != 0) then some ((Sl.nil:Sl C9),y1) else if ((decide (a<0))||(decide (1073741824<a))) then some ((Sl.nil:Sl C9),2) else (EX N d (-1)).bind λy2=>(DX N f).bind λy3=>(CK N y3).bind λL1=>T9 L1 (λc (x1:GY×(Sl Qb)) (z1:(Sl (List (Str×K0)))×(Sl C9))=>if ((0:Int)<=x1.1.entry/\x1.1.entry<(b.n:Int))then (Dv N (b.g x1.1.entry.toNat) x1.1.leaf z1.1 y2).bind λy8=>if (!y8.2.1) then if (Qd 32 (z1.2.n+(Sl.of [(⟨x1.1.entry,x1.1.leaf,2,a⟩:C9)]:Sl C9).n))then c (y8.2.2,z1.2.push (⟨x1.1.entry,x1.1.leaf,2,a⟩:C9)) else none else (AK N y8.1 x1.2).bind λy9=>if (!y9) then if (Qd 32 (z1.2.n+(Sl.of [(⟨x1.1.entry,x1.1.leaf,1,a⟩:C9)]:Sl C9).n))then c (y8.2.2,z1.2.push (⟨x1.1.entry,x1.1.leaf,1,a⟩:C9)) else none else c (y8.2.2,z1.2) else none) (λ(z1:(Sl (List (Str×K0)))×(Sl C9))=>some (z1.2,0)) ((⟨y2.n,λ_=>[]⟩:Sl (List (Str×K0))),(Sl.nil:Sl C9))
theorem Ad7 {N:Nat}{d:Sv}{c:Sl K0}{j:Sl Ub}{b:Int}{y:(Sl C9)×Int}(h:JY N d c j b=some y) :Qi S Pm [.p (.agg (B0 d)),.p (vSl 2 F2 c),.p (vSl 2 H0 j),pN b] [] (.tup [.vec 0,pN y.2]) ([oV AJ 4 D1 y.1 false]) []:=by
 unfold JY at h;refine A1 Z Tryz.func35 ?_;refine D9 Z Jy 5 5000 (B0 d) ?_;refine D9 Z Jy 7 6000 [vSl 2 F2 c] ?_;refine D9 Z Jy 8 8000 [pI .i64 b] ?_;obtain⟨y1,e1,h⟩:=A7 h;refine A8 Z [] Mo (LS Z Y e1) ?_;apply kI Z h<;>intro h
 .obtain rfl:=A6 h;exact kO Z Jy [9700]
 refine kB Z (A3 Z) Jy Jy 3 (.o (.a (decide (b<0))) (.a (decide (1073741824<b)))) ?_;apply kI Z h<;>intro h
 .obtain rfl:=A6 h;exact kO Z Jy [9700]
 obtain⟨y2,e2,h⟩:=A7 h;refine A8 Z [] Mo (Qp Z Y e2) ?_;refine kC Z h (OG Z Y) (λy3 h=>?_);obtain⟨L1,e4,h⟩:=A7 h;refine Js Z Jy [34000] [12,11,7,5] 901 (λz1=>⟨[(12,.reg 13000 0),(11,.reg 12000 0),(7,.p (.ptr [pI .i64 b])),(5,.p (.ptr [vSl 2 F2 c]))],[(32001,.fam E2 z1.1.n 12500 none),(32000,.cells [.vec 32001]),(13500,oV AJ 4 D1 z1.2 false),(13000,.cells [.vec 13500]),(12500,.rows z1.1.n λi=>Qo (z1.1.g i)),(12000,.cells [.clo V7 [] [.reg 32000 0,.p (.ptr [vSl 1 (cL 18 B3) y2])]])]⟩) (idl:=[(12000,12000),(12500,32002),(13000,13000),(32000,32000),(32001,32001)]) h (Mv Z Y e4) (λ_=>by kernel_rfl) (λ_=>by kernel_rfl) (λ_=>by kernel_rfl) (λ_=>by kernel_rfl) (λx1 _ l z1 f h=>?_) (λz1 h=>?_)
 .refine D9 Z Jy 14 14000 [pI .i64 x1.1.entry,pI .i64 x1.1.leaf] ?_;refine Nc Z Jy ?_;refine B5 Z Jy [1,3,4,5,7] ?_;obtain⟨c9,h⟩:=B9 h;obtain⟨y8,e9,h⟩:=A7 h;refine IM [32000,32001,12500] (Qe c9 Mn) (NO Z Y e9) ?_;refine C7 Jy ?_;apply kI Z h<;>intro h
  .obtain⟨c11,h⟩:=B9 h;exact f _ [(901,901),(12000,12000),(12500,46002),(13000,13000),(13500,60000),(32000,32000),(32001,32001)] _ (y8.2.2,z1.2.push (⟨x1.1.entry,x1.1.leaf,2,b⟩:C9)) (Qe Ow c11) h (hle:=kl1 1 (R7 D1 z1.2 (⟨x1.1.entry,x1.1.leaf,2,b⟩:C9) [pI .i64 0,pI .i64 0,pI .i64 0,pI .i64 0]))
  refine kC Z h (PI Z Y) (λy9 h=>?_);apply kI Z h<;>intro h
  .obtain⟨c13,h⟩:=B9 h;exact f _ [(901,901),(12000,12000),(12500,46002),(13000,13000),(13500,74000),(32000,32000),(32001,32001)] _ (y8.2.2,z1.2.push (⟨x1.1.entry,x1.1.leaf,1,b⟩:C9)) (Qe Ow c13) h (hle:=kl1 1 (R7 D1 z1.2 (⟨x1.1.entry,x1.1.leaf,1,b⟩:C9) [pI .i64 0,pI .i64 0,pI .i64 0,pI .i64 0]))
  exact f _ [(901,901),(12000,12000),(12500,46002),(13000,13000),(13500,13500),(32000,32000),(32001,32001)] _ _ Jy h
 obtain rfl:=A6 h;exact kO Z Jy [13500]
end Go.AM
namespace Go.AM
open Go.Proofs.Tryz
variable {N:Nat}
open Go.Proofs
section
variable {S:W9}(Z:H6 S Tryz.prog) (Y:KY S)
include Z Y
def W5 (N:Nat)(s:Sl Str)(t:Str):Option Str:= if s.n<=140737488355328/\(Lib.join ((List.range s.n).map s.g) t).length<=140737488355328 then some (Lib.join ((List.range s.n).map s.g) t)else none
theorem Uw {s:Sl Str}{t:Str}{y:Str}(h:W5 N s t=some y):Qi S Ek [.p (vSl 1 cS s),.p (.str t)] [] (.p (.str y)) [] []:=by simp only[W5,Cg5,BT2]at h;obtain⟨⟨h1,a⟩,rfl⟩:=h;exact Y.join false s.n s.g t h1 a
def P0 (N:Nat)(s:Str)(t:Int):Option Int:= if 0<=t/\t<256 then some (Lib.indexByte s (UInt8.ofNat t.toNat))else none
theorem Gl {s:Str}{t:Int}{y:Int}(h:P0 N s t=some y):Qi S Z3 [.p (.str s),.p (pI .u8 t)] [] (.p (pI .i64 y)) [] []:=by
 simp only[P0,Cg5,BT2]at h;obtain⟨h1,rfl⟩:=h
 have:=Y.indexByte s (UInt8.ofNat t.toNat)
 have e:(((UInt8.ofNat t.toNat).toNat:Nat):Int)=t:=by
  have:(UInt8.ofNat t.toNat).toNat=t.toNat:=UInt8.toNat_ofNat_of_lt' (by show t.toNat<256;omega)
  omega
 rw[e]at this;exact this
def D5 (N:Nat)(s:Sl Str):Option (Sl Str):=if (0+s.n)*16<=140737488355328/\0+s.n<=140737488355328 then some s else none
theorem P1 {s y:Sl Str}(h:D5 N s=some y):Qi S X7 [.p (vSl 1 cS s)] [] (.vec 0) [.vec J6 1 y.n (λi=>cS (y.g i)) true] []:=by
 unfold D5 at h;obtain⟨c1,h⟩:=B9 h;obtain rfl:=A6 h;refine A1 Z func178 ?_;refine ZB Z Jy 3 (k:=1) (n:=s.n) (f:=λi=>cS (s.g i)) (λa=>?_) ?_
 .obtain⟨n,g⟩:=s;obtain rfl:n=0:=a;exact kO Z Jy [3700]
 exact kO Z (Qe Ow c1) [8000]
  (hle:=kl1 0 (Bu3 cS s [.str []]))
def J2 (N:Nat)(s:Sl G0):Option (Sl G0):=if (0+s.n)*24<=140737488355328/\0+s.n<=140737488355328 then some s else none
theorem BJ {s y:Sl G0}(h:J2 N s=some y):Qi S S1 [.p (vSl 3 D3 s)] [] (.vec 0) [.vec D4 3 y.n (λi=>D3 (y.g i)) true] []:=by
 unfold J2 at h;obtain⟨c1,h⟩:=B9 h;obtain rfl:=A6 h;refine A1 Z func183 ?_;refine ZB Z Jy 3 (k:=3) (n:=s.n) (f:=λi=>D3 (s.g i)) (λa=>?_) ?_
 .obtain⟨n,g⟩:=s;obtain rfl:n=0:=a;exact kO Z Jy [3700]
 exact kO Z (Qe Ow c1) [8000]
  (hle:=kl1 0 (Bu3 D3 s [.str [],pI .u32 0,pI .u32 0]))
def H5 (N:Nat)(s:Sl GI):Option (Sl GI):=if (0+s.n)*32<=140737488355328/\0+s.n<=140737488355328 then some s else none
theorem CL {s y:Sl GI}(h:H5 N s=some y):Qi S U3 [.p (vSl 4 R8 s)] [] (.vec 0) [.vec VK 4 y.n (λi=>R8 (y.g i)) true] []:=by
 unfold H5 at h;obtain⟨c1,h⟩:=B9 h;obtain rfl:=A6 h;refine A1 Z func144 ?_;refine ZB Z Jy 3 (k:=4) (n:=s.n) (f:=λi=>R8 (s.g i)) (λa=>?_) ?_
 .obtain⟨n,g⟩:=s;obtain rfl:n=0:=a;exact kO Z Jy [3700]
 exact kO Z (Qe Ow c1) [8000]
  (hle:=kl1 0 (Bu3 R8 s [.str [],pI .u32 0,pI .u32 0,pI .u32 0]))
end
open IntKind (wrap)
set_option maxRecDepth 10000
set_option maxHeartbeats 2000000
variable {S:W9}(Z:H6 S Tryz.prog) (Y:KY S)
include Z Y
def T6 (N:Nat)(a:Int):Option Bool:= some (((decide (97<=a))&&(decide (a<=122)))||((decide (48<=a))&&(decide (a<=57))))
theorem HE {b:Int}{y:Bool}(h:T6 N b=some y) :Qi S Hx [.p (pI .u8 b)] [] (pB y) ([]) []:=by unfold T6 at h;refine A1 Z func177 ?_;refine kB Z (A3 Z) Jy Jy 11 (.o (.n (.a (decide (97<=b))) (.a (decide (b<=122)))) (.n (.a (decide (48<=b))) (.a (decide (b<=57))))) ?_;cases h;exact kR Z
abbrev iO (v:A5)(a b c d:Nat):List Obj:=[(.cells [.p (vSl 1 cS v.feats),.Sc a,.vec b,.Sc c,.Sc d]),oM PV.str (pI .i64) v.number,oV D4 3 D3 v.sounds true,oM PV.str (pI .i64) v.symbols,oM (λx=>.agg (A0 x)) (pI .i64) v.values]
def J3 (N:Nat)(a:A5):Option Bool:= some true
theorem BK {a:A5}{y:Bool}(h:J3 N a=some y) :Qi S Ff [.reg 0 0] (iO a 1 2 3 4) (pB y) (iO a 1 2 3 4) [true,true,true,true,true]:=by unfold J3 at h;refine A1 Z func179 ?_;obtain rfl:=A6 h;exact kO Z Jy [0,1,2,3,4]
def O0 (N:Nat)(b:A5)(a:Qb):Option Bool:= if (0:Int)<=(b.feats.n:Int)then some (((E6 .and .u32 a.Plus a.Minus)==0)&&((E6 .andNot .u32 (E6 .or .u32 a.Plus a.Minus) (wrap .u32 ((shI .shl .u32 1 (b.feats.n:Int))-1)))==0)) else none
theorem Ip {c:A5}{b:Qb}{y:Bool}(h:O0 N c b=some y) :Qi S Dn [.reg 0 0,.p (.agg (A0 b))] (iO c 1 2 3 4) (pB y) (iO c 1 2 3 4) [true,true,true,true,true]:=by unfold O0 at h;refine A1 Z func182 ?_;obtain⟨c1,h⟩:=B9 h;refine kB Z (A3 Z) c1 Jy 9 (.n (.a ((E6 .and .u32 b.Plus b.Minus)==0)) (.a ((E6 .andNot .u32 (E6 .or .u32 b.Plus b.Minus) (wrap .u32 ((shI .shl .u32 1 (c.feats.n:Int))-1)))==0))) ?_;obtain rfl:=A6 h;exact kO Z Jy [0,1,2,3,4]
def J4 (N:Nat)(a:Str)(b:Int)(d:Int->Option Bool):Option Bool:= if ((decide ((a.length:Int)<1))||(decide (b<(a.length:Int)))) then some false else O7 N (λc (x1:Int)=>if (decide (x1<(a.length:Int))) then if ((0:Int)<=x1/\x1<(a.length:Int))then (d (F0 a x1)).bind λy3=>if (!y3) then some false else c (wrap .i64 (x1+1)) else none else some true) 0
theorem Fh {d:Str}{c:Int}{f:Int->Option Bool}{kp_of:Nat}(g:∀{a0:Int}{b:Bool},f a0=some b->Qi S kp_of [.p (pI .u8 a0)] [] (pB b) [] []){y:Bool}(h:J4 N d c f=some y) :Qi S Fe [.p (.str d),pN c,.clo kp_of [] []] [] (pB y) ([]) []:=by
 unfold J4 at h;refine A1 Z func176 ?_;refine kB Z (A3 Z) Jy Jy 5 (.o (.a (decide ((d.length:Int)<1))) (.a (decide (c<(d.length:Int))))) ?_;refine Ug Z h fun h=>?_;refine F1 Z Jy h (λx1=>⟨[(19,pN x1),(18,pN (d.length:Int)),(2,.clo kp_of [] []),(0,.p (.str d))],[]⟩) (ids:=[]) (λ_ _ _ _ _ i x1 j h=>?_);apply kI Z h<;>intro h
 .obtain⟨c9,h⟩:=B9 h;obtain⟨y3,e3,h⟩:=A7 h;refine A8 Z [] c9 (g e3) ?_;refine Ug Z h fun h=>?_;exact j _ [] _ _ Jy h
 cases h;exact kR Z
def N3 (N:Nat)(a:Int):Option Bool:= (T6 N a).bind λy1=>lt (λ(z1:Bool)=>some z1) λk1=>if y1 then k1 true else if (decide (65<=a)) then if (decide (a<=90)) then k1 true else (P0 N [64,63,33,38,42,36,37] a).bind λy4=>k1 (decide (0<=y4)) else (P0 N [64,63,33,38,42,36,37] a).bind λy5=>k1 (decide (0<=y5))
theorem JZ {b:Int}{y:Bool}(h:N3 N b=some y) :Qi S EA [.p (pI .u8 b)] [] (pB y) ([]) []:=by
 unfold N3 at h;refine A1 Z func180 ?_;refine kC Z h (HE Z Y) (λy1 h=>?_);refine GN Z Jy (A3 Z) h 0 (λz1=>⟨[(2,pB z1)],[]⟩) (λM1 k1 a h=>?_) (λz1 h=>?_)
 .refine kG Z h (λh=>?_) (λh=>?_)
  .exact a _ [] _ _ Jy h
  refine kG Z h (λh=>?_) (λh=>?_)
  .refine kG Z h (λh=>?_) (λh=>?_)
   .exact a _ [] _ _ Jy h
   refine kC Z h (Gl Z Y) (λy4 h=>?_);exact a _ [] _ _ Jy h
  refine kC Z h (Gl Z Y) (λy5 h=>?_);exact a _ [] _ _ Jy h
 cases h;exact kR Z
def P2 (N:Nat)(b:A5)(a:Str)(c:Qb):Option (Int×A5):= (J3 N b).bind λy1=>if (!y1) then some (1,b) else (J4 N a 4 (λ(u1:Int)=>N3 N u1)).bind λy2=>if (!y2) then some (15,b) else (O0 N b c).bind λy3=>if (!y3) then some (14,b) else Jo (O1 eqS a b.symbols) (Jo (O1 G5 c b.values) (if (false||false) then some (6,b) else if ((b.sounds.n:Int)==256) then some (4,b) else if (Qd 24 (b.sounds.n+(Sl.of [(⟨a,c⟩:G0)]:Sl G0).n))then some (0,(⟨b.feats,b.number,b.sounds.push (⟨a,c⟩:G0),GL eqS a (b.sounds.n:Int) b.symbols,GL G5 c (b.sounds.n:Int) b.values⟩:A5)) else none) λv2=>if (false||true) then some (6,b) else if ((b.sounds.n:Int)==256) then some (4,b) else if (Qd 24 (b.sounds.n+(Sl.of [(⟨a,c⟩:G0)]:Sl G0).n))then some (0,(⟨b.feats,b.number,b.sounds.push (⟨a,c⟩:G0),GL eqS a (b.sounds.n:Int) b.symbols,GL G5 c (b.sounds.n:Int) b.values⟩:A5)) else none) λv1=>Jo (O1 G5 c b.values) (if (true||false) then some (6,b) else if ((b.sounds.n:Int)==256) then some (4,b) else if (Qd 24 (b.sounds.n+(Sl.of [(⟨a,c⟩:G0)]:Sl G0).n))then some (0,(⟨b.feats,b.number,b.sounds.push (⟨a,c⟩:G0),GL eqS a (b.sounds.n:Int) b.symbols,GL G5 c (b.sounds.n:Int) b.values⟩:A5)) else none) λv3=>if (true||true) then some (6,b) else if ((b.sounds.n:Int)==256) then some (4,b) else if (Qd 24 (b.sounds.n+(Sl.of [(⟨a,c⟩:G0)]:Sl G0).n))then some (0,(⟨b.feats,b.number,b.sounds.push (⟨a,c⟩:G0),GL eqS a (b.sounds.n:Int) b.symbols,GL G5 c (b.sounds.n:Int) b.values⟩:A5)) else none
theorem Mw {c:A5}{b:Str}{d:Qb}{y:Int×A5}(h:P2 N c b d=some y) :Qi S FZ [.reg 0 0,.p (.str b),.p (.agg (A0 d))] (iO c 1 2 3 4) (pN y.1) ([.cells [.p (vSl 1 cS y.2.feats),.Sc 1,.vec 2,.Sc 3,.Sc 4],oM PV.str (pI .i64) y.2.number,oV D4 3 D3 y.2.sounds true,oM PV.str (pI .i64) y.2.symbols,oM (λx=>.agg (A0 x)) (pI .i64) y.2.values]) [true,true,false,true,true]:=by
 unfold P2 at h;refine A1 Z func137 ?_;refine D9 Z Jy 6 6000 [pI .u32 d.Plus,pI .u32 d.Minus] ?_;obtain⟨y1,e1,h⟩:=A7 h;refine A8 Z [0,1,2,3,4] Jy (BK Z Y e1) ?_;apply kI Z h<;>intro h
 .obtain rfl:=A6 h;exact kOi Z Jy [(0,0),(1,1),(3,3),(4,4),(990002,2)] [0,1,990002,3,4]
 refine kC Z h (Fh Z Y (λe=>JZ Z Y e)) (λy2 h=>?_);apply kI Z h<;>intro h
 .obtain rfl:=A6 h;exact kOi Z Jy [(0,0),(1,1),(3,3),(4,4),(990002,2)] [0,1,990002,3,4]
 obtain⟨y3,e3,h⟩:=A7 h;refine A8 Z [0,1,2,3,4] Mn (Ip Z Y e3) ?_;apply kI Z h<;>intro h
 .obtain rfl:=A6 h;exact kOi Z Jy [(0,0),(1,1),(3,3),(4,4),(990002,2)] [0,1,990002,3,4]
 rcases o1:O1 eqS b c.symbols with _|v1
 .replace h:=Ai4 o1 h;refine Am5 Z Jy J6 D2 PV.str (pI .i64) eqS o1 (pI .i64 0) Jy ?_;refine B5 Z Jy [4] ?_;rcases o2:O1 G5 d c.values with _|v2
  .replace h:=Ai4 o2 h;refine BB5 Mn B1 D2 (λx=>.agg (A0 x)) (pI .i64) G5 o2 (pI .i64 0) (by decide +kernel:QK Tryz.prog B1=true) ?_;refine C7 Jy ?_;refine kB Z (A3 Z) Jy Jy 2 (.o (.a false) (.a false)) ?_;apply kI Z h<;>intro h
   .obtain rfl:=A6 h;exact kOi Z Jy [(0,0),(1,1),(3,3),(4,4),(990002,2)] [0,1,990002,3,4]
   apply kI Z h<;>intro h
   .obtain rfl:=A6 h;exact kOi Z Jy [(0,0),(1,1),(3,3),(4,4),(990002,2)] [0,1,990002,3,4]
   refine FT Z Jy ?_;refine WY Jy J6 PV.str (pI .i64) eqS b (c.sounds.n:Int) c.symbols Jy ?_;refine C7 Jy ?_;refine B5 Z Jy [4] ?_;refine WY Mn B1 (λx=>.agg (A0 x)) (pI .i64) G5 d (c.sounds.n:Int) c.values (by decide +kernel:QK Tryz.prog B1=true) ?_;refine C7 Jy ?_;refine B5 Z Jy [6] ?_;refine O8 Mn (x:=.sl true 3 1 (H2 [.str [],pI .u32 0,pI .u32 0] [(0,D3 (⟨b,d⟩:G0))])) ?_;obtain⟨c6,h⟩:=B9 h;refine C7 c6 ?_;obtain rfl:=A6 h;exact kO Z Jy [0,1,79000,3,4] (hle:=kl1 1 (R7 D3 c.sounds (⟨b,d⟩:G0) [.str [],pI .u32 0,pI .u32 0]))
  replace h:=Zq o2 h;refine Bm5 Mn B1 D2 (λx=>.agg (A0 x)) (pI .i64) G5 o2 (by decide +kernel:QK Tryz.prog B1=true) ?_;refine C7 Jy ?_;refine kB Z (A3 Z) Jy Jy 2 (.o (.a false) (.a true)) ?_;apply kI Z h<;>intro h
  .obtain rfl:=A6 h;exact kOi Z Jy [(0,0),(1,1),(3,3),(4,4),(990002,2)] [0,1,990002,3,4]
  apply kI Z h<;>intro h
  .obtain rfl:=A6 h;exact kOi Z Jy [(0,0),(1,1),(3,3),(4,4),(990002,2)] [0,1,990002,3,4]
  refine FT Z Jy ?_;refine WY Jy J6 PV.str (pI .i64) eqS b (c.sounds.n:Int) c.symbols Jy ?_;refine C7 Jy ?_;refine B5 Z Jy [4] ?_;refine WY Mn B1 (λx=>.agg (A0 x)) (pI .i64) G5 d (c.sounds.n:Int) c.values (by decide +kernel:QK Tryz.prog B1=true) ?_;refine C7 Jy ?_;refine B5 Z Jy [6] ?_;refine O8 Mn (x:=.sl true 3 1 (H2 [.str [],pI .u32 0,pI .u32 0] [(0,D3 (⟨b,d⟩:G0))])) ?_;obtain⟨c9,h⟩:=B9 h;refine C7 c9 ?_;obtain rfl:=A6 h;exact kO Z Jy [0,1,79000,3,4] (hle:=kl1 1 (R7 D3 c.sounds (⟨b,d⟩:G0) [.str [],pI .u32 0,pI .u32 0]))
 replace h:=Zq o1 h;refine Am4 Z Jy J6 D2 PV.str (pI .i64) eqS o1 Jy ?_;refine B5 Z Jy [4] ?_;rcases o3:O1 G5 d c.values with _|v3
 .replace h:=Ai4 o3 h;refine BB5 Mn B1 D2 (λx=>.agg (A0 x)) (pI .i64) G5 o3 (pI .i64 0) (by decide +kernel:QK Tryz.prog B1=true) ?_;refine C7 Jy ?_;refine kB Z (A3 Z) Jy Jy 2 (.o (.a true) (.a false)) ?_;apply kI Z h<;>intro h
  .obtain rfl:=A6 h;exact kOi Z Jy [(0,0),(1,1),(3,3),(4,4),(990002,2)] [0,1,990002,3,4]
  apply kI Z h<;>intro h
  .obtain rfl:=A6 h;exact kOi Z Jy [(0,0),(1,1),(3,3),(4,4),(990002,2)] [0,1,990002,3,4]
  refine FT Z Jy ?_;refine WY Jy J6 PV.str (pI .i64) eqS b (c.sounds.n:Int) c.symbols Jy ?_;refine C7 Jy ?_;refine B5 Z Jy [4] ?_;refine WY Mn B1 (λx=>.agg (A0 x)) (pI .i64) G5 d (c.sounds.n:Int) c.values (by decide +kernel:QK Tryz.prog B1=true) ?_;refine C7 Jy ?_;refine B5 Z Jy [6] ?_;refine O8 Mn (x:=.sl true 3 1 (H2 [.str [],pI .u32 0,pI .u32 0] [(0,D3 (⟨b,d⟩:G0))])) ?_;obtain⟨c12,h⟩:=B9 h;refine C7 c12 ?_;obtain rfl:=A6 h;exact kO Z Jy [0,1,79000,3,4] (hle:=kl1 1 (R7 D3 c.sounds (⟨b,d⟩:G0) [.str [],pI .u32 0,pI .u32 0]))
 replace h:=Zq o3 h;refine Bm5 Mn B1 D2 (λx=>.agg (A0 x)) (pI .i64) G5 o3 (by decide +kernel:QK Tryz.prog B1=true) ?_;refine C7 Jy ?_;refine kB Z (A3 Z) Jy Jy 2 (.o (.a true) (.a true)) ?_;apply kI Z h<;>intro h
 .obtain rfl:=A6 h;exact kOi Z Jy [(0,0),(1,1),(3,3),(4,4),(990002,2)] [0,1,990002,3,4]
 apply kI Z h<;>intro h
 .obtain rfl:=A6 h;exact kOi Z Jy [(0,0),(1,1),(3,3),(4,4),(990002,2)] [0,1,990002,3,4]
 refine FT Z Jy ?_;refine WY Jy J6 PV.str (pI .i64) eqS b (c.sounds.n:Int) c.symbols Jy ?_;refine C7 Jy ?_;refine B5 Z Jy [4] ?_;refine WY Mn B1 (λx=>.agg (A0 x)) (pI .i64) G5 d (c.sounds.n:Int) c.values (by decide +kernel:QK Tryz.prog B1=true) ?_;refine C7 Jy ?_;refine B5 Z Jy [6] ?_;refine O8 Mn (x:=.sl true 3 1 (H2 [.str [],pI .u32 0,pI .u32 0] [(0,D3 (⟨b,d⟩:G0))])) ?_;obtain⟨c15,h⟩:=B9 h;refine C7 c15 ?_;obtain rfl:=A6 h;exact kO Z Jy [0,1,79000,3,4] (hle:=kl1 1 (R7 D3 c.sounds (⟨b,d⟩:G0) [.str [],pI .u32 0,pI .u32 0]))
def AX (N:Nat)(a:Sl Str):Option ((Option A5)×Int):= if (decide (24<(a.n:Int))) then some (none,12) else O7 N (λb (x1:Int)=>if (decide (x1<(a.n:Int))) then if ((0:Int)<=x1/\x1<(a.n:Int))then (J4 N (a.g x1.toNat) 16 (λ(u3:Int)=>T6 N u3)).bind λy3=>if ((!y3)=false->((0:Int)<=0/\0<((a.g x1.toNat).length:Int)))then if ((!y3)||(decide ((F0 (a.g x1.toNat) 0)<=57))) then some (none,15) else b (wrap .i64 (x1+1)) else none else none else Y4 N (λc (x2:List (Str×Int)) (x3:Int)=>if (decide (x3<(a.n:Int))) then if ((0:Int)<=x3/\x3<(a.n:Int))then Jo (O1 eqS (a.g x3.toNat) x2) (c (GL eqS (a.g x3.toNat) x3 x2) (wrap .i64 (x3+1))) λv3=>some (none,6) else none else (D5 N a).bind λy4=>some (some (⟨y4,x2,(Sl.nil:Sl G0),[],[]⟩:A5),0)) [] 0) 0
theorem Ka {c:Sl Str}{y:(Option A5)×Int}(h:AX N c=some y) :Qi S JG [.p (vSl 1 cS c)] [] (.tup [Jo y.1 (.p BH2) λ_=>.reg 0 0,pN y.2]) (Jo y.1 [] λo=>iO o 1 2 3 4) []:=by
 unfold AX at h;refine A1 Z func136 ?_;apply kI Z h<;>intro h
 .obtain rfl:=A6 h;exact kO Z Jy []
 refine F1 Z Jy h (λx1=>⟨[(21,pN x1),(20,pN (c.n:Int)),(19,.p (vSl 1 cS c)),(4,.reg 19000 0),(0,.p (vSl 1 cS c))],[(19000,.cells [.p I3,.Sc 15000,.p I3,.Sc 16000,.Sc 17000]),(17000,oM (λx=>.agg (A0 x)) (pI .i64) []),(16000,oM PV.str (pI .i64) []),(15000,oM PV.str (pI .i64) [])]⟩) (ids:=(Qc [15000,16000,17000,19000])) (λ_ _ _ _ _ d x1 f h=>?_);apply kI Z h<;>intro h
 .obtain⟨c11,h⟩:=B9 h;obtain⟨y3,e3,h⟩:=A7 h;refine A8 Z [] c11 (Fh Z Y (λe=>HE Z Y e) e3) ?_;obtain⟨c12,h⟩:=B9 h;refine kB Z (A3 Z) Jy c12 4 (.o (.a (!y3)) (.a (decide ((F0 (c.g x1.toNat) 0)<=57)))) ?_;apply kI Z h<;>intro h
  .obtain rfl:=A6 h;exact kO Z Jy []
  exact f _ (Qc [15000,16000,17000,19000]) _ _ Jy h
 refine G2 Z Jy h (λx2 x3=>⟨[(36,pN x3),(35,pN (c.n:Int)),(34,.p (vSl 1 cS c)),(4,.reg 19000 0),(0,.p (vSl 1 cS c))],[(19000,.cells [.p I3,.Sc 15000,.p I3,.Sc 16000,.Sc 17000]),(17000,oM (λx=>.agg (A0 x)) (pI .i64) []),(16000,oM PV.str (pI .i64) []),(15000,oM PV.str (pI .i64) x2)]⟩) (ids:=(Qc [15000,16000,17000,19000])) (λ_ _ _ _ _ i x2 x3 j h=>?_);apply kI Z h<;>intro h
 .obtain⟨c23,h⟩:=B9 h;rcases o3:O1 eqS (c.g x3.toNat) x2 with _|v3
  .replace h:=Ai4 o3 h;refine Am5 Z c23 J6 D2 PV.str (pI .i64) eqS o3 (pI .i64 0) Jy ?_;refine C6 Z Jy (b:=false) (λc24=>?_) (λc24=>?_)
   .exact Bool.noConfusion ((rfl:false=false).symm.trans c24)
   refine AH8 Z Jy J6 PV.str (pI .i64) eqS (c.g x3.toNat) x3 x2 Jy ?_;exact j _ (Qc [15000,16000,17000,19000]) _ _ _ Jy h
  replace h:=Zq o3 h;refine Am4 Z c23 J6 D2 PV.str (pI .i64) eqS o3 Jy ?_;refine C6 Z Jy (b:=true) (λc25=>?_) (λc25=>?_)
  .obtain rfl:=A6 h;exact kO Z Jy []
  exact Bool.noConfusion (Ow.symm.trans c25)
 refine kC Z h (P1 Z Y) (λy4 h=>?_);obtain rfl:=A6 h;exact kO Z Jy [19000,15000,3802,16000,17000]
def Q4 (N:Nat)(a:A5):Option (Sl Str):= (J3 N a).bind λy1=>if (!y1) then some (Sl.nil:Sl Str) else (D5 N a.feats).bind λy2=>some y2
theorem Kb {a:A5}{y:Sl Str}(h:Q4 N a=some y) :Qi S Ez [.reg 0 0] (iO a 1 2 3 4) (.vec 5) ([.cells [.p (vSl 1 cS a.feats),.Sc 1,.vec 2,.Sc 3,.Sc 4],oM PV.str (pI .i64) a.number,oV D4 3 D3 a.sounds true,oM PV.str (pI .i64) a.symbols,oM (λx=>.agg (A0 x)) (pI .i64) a.values,oV J6 1 cS y true]) [true,true,true,true,true]:=by
 unfold Q4 at h;refine A1 Z func139 ?_;obtain⟨y1,e1,h⟩:=A7 h;refine A8 Z [0,1,2,3,4] Jy (BK Z Y e1) ?_;apply kI Z h<;>intro h
 .obtain rfl:=A6 h;exact kO Z Jy [0,1,2,3,4,3700]
 refine kC Z h (P1 Z Y) (λy2 h=>?_);obtain rfl:=A6 h;exact kO Z Jy [0,1,2,3,4,11000]
end Go.AM
namespace Go.AM
open IntKind (wrap)
open Go.Proofs
set_option maxRecDepth 10000
set_option maxHeartbeats 4000000
def CM {κ ν : Type}(kP : κ -> PV)(vP : ν -> PV):∀l:List (κ × ν),(DH kP vP l).length=l.length
 |[]=>rfl
 |_::l=>congrArg (· + 1) (CM kP vP l)
variable {S:W9}(Z:H6 S Tryz.prog) (Y:KY S)
include Z Y
def S5 (N:Nat)(a:A5):Option (Option A5):= (J3 N a).bind λy1=>if (!y1) then some none else (D5 N a.feats).bind λy2=>(J2 N a.sounds).bind λy3=>Y4 N (λb (x1:List (Str×Int)) (x2:Int)=>if (decide (x2<(y2.n:Int))) then if (((0:Int)<=x2/\x2<(y2.n:Int))/\x2.toNat<y2.n)then b (GL eqS (y2.g x2.toNat) x2 x1) (wrap .i64 (x2+1)) else none else AT6 N (λc (x3:List (Str×Int)) (x4:List (Qb×Int)) (x5:Int)=>if (decide (x5<(y3.n:Int))) then if (((0:Int)<=x5/\x5<(y3.n:Int))/\x5.toNat<y3.n)then c (GL eqS (y3.g x5.toNat).Uc x5 x3) (GL G5 (y3.g x5.toNat).S x5 x4) (wrap .i64 (x5+1)) else none else some (some (⟨y2,x1,y3,x3,x4⟩:A5))) [] [] 0) [] 0
theorem Fi {N:Nat}{b:A5}{y:Option A5}(h:S5 N b=some y) :Qi S Fd [.reg 0 0] (iO b 1 2 3 4) (Jo y (.p BH2) λ_=>.reg 5 0) ((iO b 1 2 3 4)++(Jo y [] λo=>iO o 6 7 8 9)) [true,true,true,true,true]:=by
 unfold S5 at h;refine A1 Z Tryz.func138 ?_;obtain⟨y1,e1,h⟩:=A7 h;refine A8 Z [0,1,2,3,4] Jy (BK Z Y e1) ?_;apply kI Z h<;>intro h
 .obtain rfl:=A6 h;exact kO Z Jy [0,1,2,3,4]
 refine I0 Z Jy [(3,.l [0]),(4,.a [16000]),(8,.l [0]),(9,.a [2,21000]),(10,.a [22000]),(11,.a [23000]),(12,.a [24000])] ?_;obtain⟨y2,e2,h⟩:=A7 h;refine IM [] Jy (P1 Z Y e2) ?_;obtain⟨y3,e3,h⟩:=A7 h;refine IM [] Jy (BJ Z Y e3) ?_;refine C7 Jy ?_;refine G2 Z Jy h (λx1 x2=>⟨[(31,pN x2),(30,pN (y2.n:Int)),(29,.vec 16000),(3,.reg 26000 0)],[(26000,.cells [.vec 16000,.Sc 22000,.vec 21000,.Sc 23000,.Sc 24000]),(24000,oM (λx=>.agg (A0 x)) (pI .i64) []),(23000,oM PV.str (pI .i64) []),(22000,oM PV.str (pI .i64) x1),(21000,oV D4 3 D3 y3 true),(16000,oV J6 1 cS y2 true),(4,oM (λx=>.agg (A0 x)) (pI .i64) b.values),(3,oM PV.str (pI .i64) b.symbols),(2,oV D4 3 D3 b.sounds true),(1,oM PV.str (pI .i64) b.number),(0,.cells [.p (vSl 1 cS b.feats),.Sc 1,.vec 2,.Sc 3,.Sc 4])]⟩) (ids:=(Qc [0,1,2,3,4,16000,21000,22000,23000,24000,26000])) (λ_ _ _ _ _ c x1 x2 d h=>?_);apply kI Z h<;>intro h
 .obtain⟨c7,h⟩:=B9 h;refine AH8 Z c7 J6 PV.str (pI .i64) eqS (y2.g x2.toNat) x2 x1 Jy ?_;exact d _ (Qc [0,1,2,3,4,16000,21000,22000,23000,24000,26000]) _ _ _ Jy h
 refine Nb Z Jy h (λx3 x4 x5=>⟨[(48,pN x5),(47,pN (y3.n:Int)),(46,.vec 21000),(3,.reg 26000 0)],[(26000,.cells [.vec 16000,.Sc 22000,.vec 21000,.Sc 23000,.Sc 24000]),(24000,oM (λx=>.agg (A0 x)) (pI .i64) x4),(23000,oM PV.str (pI .i64) x3),(22000,oM PV.str (pI .i64) x1),(21000,oV D4 3 D3 y3 true),(16000,oV J6 1 cS y2 true),(4,oM (λx=>.agg (A0 x)) (pI .i64) b.values),(3,oM PV.str (pI .i64) b.symbols),(2,oV D4 3 D3 b.sounds true),(1,oM PV.str (pI .i64) b.number),(0,.cells [.p (vSl 1 cS b.feats),.Sc 1,.vec 2,.Sc 3,.Sc 4])]⟩) (ids:=(Qc [0,1,2,3,4,16000,21000,22000,23000,24000,26000])) (λ_ _ _ _ _ f x3 x4 x5 j h=>?_);apply kI Z h<;>intro h
 .obtain⟨c13,h⟩:=B9 h;refine ZC Z (Qe (Qe c13.1 Mo) c13.2) 8000 (D3 (y3.g x5.toNat)) ?_;refine B5 Z Jy [5,11] ?_;refine AV4 Mn (kt:=J6) (key:=PV.str (y3.g x5.toNat).Uc) (z:=pI .i64 0) (y:=pI .i64 (Ju eqS (y3.g x5.toNat).Uc (0:Int) x3).2.1) (es:=DH PV.str (pI .i64) x3) (es':=DH PV.str (pI .i64) (Ju eqS (y3.g x5.toNat).Uc (0:Int) x3).2.2) (i:=(Ju eqS (y3.g x5.toNat).Uc (0:Int) x3).1) (QD (kP:=PV.str) (vP:=pI .i64) (eq:=eqS) (λ_ _=>by kernel_rfl) (y3.g x5.toNat).Uc 0 x3) Jy ?_;refine WV Jy (i:=(Ju eqS (y3.g x5.toNat).Uc (0:Int) x3).1) (y:=pI .i64 x5) (es:=DH PV.str (pI .i64) (Ju eqS (y3.g x5.toNat).Uc (0:Int) x3).2.2) (es':=DH PV.str (pI .i64) (GL eqS (y3.g x5.toNat).Uc x5 x3)) (by rw[CM];exact Mk eqS (y3.g x5.toNat).Uc 0 x3) ((Nd (Ju eqS (y3.g x5.toNat).Uc (0:Int) x3).2.2 (Ju eqS (y3.g x5.toNat).Uc (0:Int) x3).1 x5 (Mk eqS (y3.g x5.toNat).Uc 0 x3)).trans (congrArg (DH PV.str (pI .i64)) (Nf eqS (y3.g x5.toNat).Uc 0 x5 x3))) ?_;refine AV4 Jy (kt:=B1) (key:=(λx=>.agg (A0 x)) (y3.g x5.toNat).S) (z:=pI .i64 0) (y:=pI .i64 (Ju G5 (y3.g x5.toNat).S (0:Int) x4).2.1) (es:=DH (λx=>.agg (A0 x)) (pI .i64) x4) (es':=DH (λx=>.agg (A0 x)) (pI .i64) (Ju G5 (y3.g x5.toNat).S (0:Int) x4).2.2) (i:=(Ju G5 (y3.g x5.toNat).S (0:Int) x4).1) (QD (kP:=λx=>.agg (A0 x)) (vP:=pI .i64) (eq:=G5) (λ_ _=>by kernel_rfl) (y3.g x5.toNat).S 0 x4) (by decide +kernel:QK Tryz.prog B1=true) ?_;refine WV Jy (i:=(Ju G5 (y3.g x5.toNat).S (0:Int) x4).1) (y:=pI .i64 x5) (es:=DH (λx=>.agg (A0 x)) (pI .i64) (Ju G5 (y3.g x5.toNat).S (0:Int) x4).2.2) (es':=DH (λx=>.agg (A0 x)) (pI .i64) (GL G5 (y3.g x5.toNat).S x5 x4)) (by rw[CM];exact Mk G5 (y3.g x5.toNat).S 0 x4) ((Nd (Ju G5 (y3.g x5.toNat).S (0:Int) x4).2.2 (Ju G5 (y3.g x5.toNat).S (0:Int) x4).1 x5 (Mk G5 (y3.g x5.toNat).S 0 x4)).trans (congrArg (DH (λx=>.agg (A0 x)) (pI .i64)) (Nf G5 (y3.g x5.toNat).S 0 x5 x4))) ?_;refine C7 Jy ?_;exact j _ (Qc [0,1,2,3,4,16000,21000,22000,23000,24000,26000]) _ _ _ _ Jy h
 obtain rfl:=A6 h;exact kO Z Jy [0,1,2,3,4,26000,22000,21000,23000,24000]
end Go.AM
namespace Go.AM
open Go.Proofs.Tryz
variable {N:Nat}
open IntKind (wrap)
open Go.Proofs
set_option maxRecDepth 10000
set_option maxHeartbeats 2000000
variable {S:W9}(Z:H6 S Tryz.prog) (Y:KY S)
include Z Y
def Ai (N:Nat)(a:B4):Option ((Option A5)×Int):= (AX N a.Feats).bind λy1=>Jo y1.1 (if (y1.2 != 0) then some (none,y1.2) else none) λz1=>if (y1.2 != 0) then some (none,y1.2) else fix6 N (λb (x2:Sl Str) (x3:List (Str×Int)) (x4:Sl G0) (x5:List (Str×Int)) (x6:List (Qb×Int)) (x7:Int)=>if (decide (x7<(a.Sounds.n:Int))) then if ((0:Int)<=x7/\x7<(a.Sounds.n:Int))then (P2 N (⟨x2,x3,x4,x5,x6⟩:A5) (a.Sounds.g x7.toNat).Uc (a.Sounds.g x7.toNat).S).bind λy7=>if (y7.1 != 0) then some (none,y7.1) else b y7.2.feats y7.2.number y7.2.sounds y7.2.symbols y7.2.values (wrap .i64 (x7+1)) else none else some (some (⟨x2,x3,x4,x5,x6⟩:A5),0)) z1.feats z1.number z1.sounds z1.symbols z1.values 0
theorem Ja {a:B4}{y:(Option A5)×Int}(h:Ai N a=some y) :Qi S IQ [.p (.agg (A9 a))] [] (.tup [Jo y.1 (.p BH2) λ_=>.reg 0 0,pN y.2]) (Jo y.1 [] λo=>iO o 1 2 3 4) []:=by
 unfold Ai at h;refine A1 Z func99 ?_;obtain⟨y1,e1,h⟩:=A7 h;rcases o1:y1.1 with _|z1
 .replace h:=Ai4 o1 h;have w1:=(Ka Z Y e1);simp only[o1,M9,N0,BV8,BU1,BY6]at w1;refine A8 Z [] Jy w1 ?_;apply kI Z h<;>intro h
  .obtain rfl:=A6 h;exact kO Z Jy []
  cases h
 replace h:=Zq o1 h;have w2:=(Ka Z Y e1);simp only[o1,M9,N0,BV8,BU1,BY6]at w2;refine A8 Z [] Jy w2 ?_;apply kI Z h<;>intro h
 .obtain rfl:=A6 h;exact kO Z Jy []
 refine BL6 Z Jy h (λx2 x3 x4 x5 x6 x7=>⟨[(21,pN x7),(20,pN (a.Sounds.n:Int)),(19,.p (vSl 3 D3 a.Sounds)),(4,.reg 13000 0)],[(13004,oM (λx=>.agg (A0 x)) (pI .i64) x6),(13003,oM PV.str (pI .i64) x5),(13001,oM PV.str (pI .i64) x3),(13000,.cells [.p (vSl 1 cS x2),.Sc 13001,.vec 5500,.Sc 13003,.Sc 13004]),(5500,oV D4 3 D3 x4 true)]⟩) (ids:=[(5500,13002),(13000,13000),(13001,13001),(13003,13003),(13004,13004)]) (λ_ _ _ _ _ b x2 x3 x4 x5 x6 x7 c h=>?_);apply kI Z h<;>intro h
 .obtain⟨c19,h⟩:=B9 h;obtain⟨y7,e7,h⟩:=A7 h;refine A8 Z [13000,13001,5500,13003,13004] (Qe c19 Mo) (Mw Z Y e7) ?_;apply kI Z h<;>intro h
  .obtain rfl:=A6 h;exact kO Z Jy []
  exact c _ [(5500,31002),(13000,13000),(13001,13001),(13003,13003),(13004,13004)] _ _ _ _ _ _ _ Jy h
 obtain rfl:=A6 h;exact kO Z Jy [13000,13001,5500,13003,13004]
def Aj (N:Nat)(a:GI)(q0:GI):Option Bool:= some ((a.Text==q0.Text) != false)
theorem Qq {a:GI}{q0:GI}{y:Bool}(h:Aj N a q0=some y) :Qi S IU [.p (.agg (R8 a)),.p (.ptr (R8 q0))] [] (pB y) ([]) []:=by unfold Aj at h;refine A1 Z func143 ?_;cases h;exact kR Z
def E4 (N:Nat)(a:Sl GI)(c:GI->Option Bool):Option Int:= O7 N (λb (x1:Int)=>if (decide (x1<(a.n:Int))) then if ((0:Int)<=x1/\x1<(a.n:Int))then (c (a.g x1.toNat)).bind λy3=>if y3 then some x1 else b (wrap .i64 (x1+1)) else none else some (-1)) 0
theorem AY {a:Sl GI}{c:GI->Option Bool}{kp_f:Nat}{cp_f_0:List PV}(d:∀{a0:GI}{b:Bool},c a0=some b->Qi S kp_f [.p (.agg (R8 a0)),.p (.ptr cp_f_0)] [] (pB b) [] []){y:Int}(h:E4 N a c=some y) :Qi S Q0 [.p (vSl 4 R8 a),.clo kp_f [] [.p (.ptr cp_f_0)]] [] (pN y) ([]) []:=by
 unfold E4 at h;refine A1 Z func191 ?_;refine F1 Z Jy h (λx1=>⟨[(8,pN x1),(7,pN (a.n:Int)),(1,.clo kp_f [] [.p (.ptr cp_f_0)]),(0,.p (vSl 4 R8 a))],[]⟩) (ids:=[]) (λ_ _ _ _ _ f x1 g h=>?_);apply kI Z h<;>intro h
 .obtain⟨c8,h⟩:=B9 h;obtain⟨y3,e3,h⟩:=A7 h;refine A8 Z [] (Qe c8 Mq) (d e3) ?_;refine Ug Z h fun h=>?_;exact g _ [] _ _ Jy h
 cases h;exact kR Z
def D0 (N:Nat)(a:Sl GI)(b:GI->Option Bool):Option Bool:= (E4 N a b).bind λy1=>some (decide (0<=y1))
theorem Ak {a:Sl GI}{c:GI->Option Bool}{kp_f:Nat}{cp_f_0:List PV}(d:∀{a0:GI}{b:Bool},c a0=some b->Qi S kp_f [.p (.agg (R8 a0)),.p (.ptr cp_f_0)] [] (pB b) [] []){y:Bool}(h:D0 N a c=some y) :Qi S O3 [.p (vSl 4 R8 a),.clo kp_f [] [.p (.ptr cp_f_0)]] [] (pB y) ([]) []:=by unfold D0 at h;refine A1 Z func142 ?_;refine kC Z h (AY Z Y (λe=>d e)) (λy1 h=>?_);cases h;exact kR Z
def Cm (N:Nat)(c:A5)(a:Sl GI):Option Int:= (S5 N c).bind λy1=>Jo y1 (some 1) λz1=>if (decide (32<(a.n:Int))) then some 12 else (Q4 N z1).bind λy2=>if (0:Int)<=(y2.n:Int)then O7 N (λb (x3:Int)=>if (decide (x3<(a.n:Int))) then if ((0:Int)<=x3/\x3<(a.n:Int))then lt (λ(z6:Bool)=>if z6 then some 15 else lt (λ(z7:Bool)=>if z7 then some 2 else if ((0:Int)<=x3/\x3<=(a.n:Int))then (D0 N (a.take x3.toNat) (λ(u3:GI)=>Aj N u3 (a.g x3.toNat))).bind λd=>if d then some 6 else b (wrap .i64 (x3+1)) else none) λk6=>if ((E6 .and .u32 (E6 .or .u32 (a.g x3.toNat).Clear (E6 .or .u32 (a.g x3.toNat).Set.Plus (a.g x3.toNat).Set.Minus)) (E6 .xor .u32 4294967295 (wrap .u32 ((shI .shl .u32 1 (y2.n:Int))-1)))) != 0) then k6 true else if ((E6 .and .u32 (a.g x3.toNat).Clear (E6 .or .u32 (a.g x3.toNat).Set.Plus (a.g x3.toNat).Set.Minus)) != 0) then k6 true else (H4 N (a.g x3.toNat).Set).bind λf=>k6 (!f)) λk5=>if (((a.g x3.toNat).Text==[]) != false) then k5 true else if (decide (3<((a.g x3.toNat).Text.length:Int))) then k5 true else (Am N (a.g x3.toNat).Text [58,39,34,126,94,95,61,96]).bind λi=>k5 ((i==[]) != true) else none else (H5 N a).bind λj=>some 0) 0 else none
theorem Ux {b:A5}{a:Sl GI}{y:Int}(h:Cm N b a=some y) :Qi S Lz [.reg 0 0,.p (vSl 4 R8 a)] (iO b 1 2 3 4) (.tup [.top,pN y]) (iO b 1 2 3 4) [true,true,true,true,true]:=by
 unfold Cm at h;refine A1 Z func100 ?_;obtain⟨y1,e1,h⟩:=A7 h;rcases o1:y1 with _|z1
 .replace h:=Ai4 o1 h;have w1:=(Fi Z Y e1);simp only[o1,M9,N0,BV8,BU1,BY6]at w1;refine A8 Z [0,1,2,3,4] Jy w1 ?_;obtain rfl:=A6 h;exact kO Z Jy [0,1,2,3,4]
 replace h:=Zq o1 h;have w2:=(Fi Z Y e1);simp only[o1,M9,N0,BV8,BU1,BY6]at w2;refine A8 Z [0,1,2,3,4] Jy w2 ?_;apply kI Z h<;>intro h
 .obtain rfl:=A6 h;exact kO Z Jy [0,1,2,3,4]
 obtain⟨y2,e2,h⟩:=A7 h;refine A8 Z [13005,13006,13007,13008,13009] Jy (Kb Z Y e2) ?_;obtain⟨c2,h⟩:=B9 h;refine F1 Z c2 h (λx3=>⟨[(26,pN x3),(25,pN (a.n:Int)),(24,.p (vSl 4 R8 a)),(7,pU (E6 .xor .u32 4294967295 (wrap .u32 ((shI .shl .u32 1 (y2.n:Int))-1)))),(6,.reg 13005 0),(1,.p (vSl 4 R8 a))],[(13009,oM (λx=>.agg (A0 x)) (pI .i64) z1.values),(13008,oM PV.str (pI .i64) z1.symbols),(13007,oV D4 3 D3 z1.sounds true),(13006,oM PV.str (pI .i64) z1.number),(13005,.cells [.p (vSl 1 cS z1.feats),.Sc 13006,.vec 13007,.Sc 13008,.Sc 13009]),(4,oM (λx=>.agg (A0 x)) (pI .i64) b.values),(3,oM PV.str (pI .i64) b.symbols),(2,oV D4 3 D3 b.sounds true),(1,oM PV.str (pI .i64) b.number),(0,.cells [.p (vSl 1 cS b.feats),.Sc 1,.vec 2,.Sc 3,.Sc 4])]⟩) (ids:=(Qc [0,1,2,3,4,13005,13006,13007,13008,13009])) (λ_ _ _ _ _ f x3 i h=>?_);apply kI Z h<;>intro h
 .obtain⟨c40,h⟩:=B9 h;refine GN Z (Qe c40 Mq) (A3 Z) h 0 (λz6=>⟨[(38,pB z6),(26,pN x3),(25,pN (a.n:Int)),(24,.p (vSl 4 R8 a)),(10,pU (E6 .or .u32 (a.g x3.toNat).Set.Plus (a.g x3.toNat).Set.Minus)),(9,.reg 10000 0),(8,pN x3),(7,pU (E6 .xor .u32 4294967295 (wrap .u32 ((shI .shl .u32 1 (y2.n:Int))-1)))),(6,.reg 13005 0),(1,.p (vSl 4 R8 a))],[(13009,oM (λx=>.agg (A0 x)) (pI .i64) z1.values),(13008,oM PV.str (pI .i64) z1.symbols),(13007,oV D4 3 D3 z1.sounds true),(13006,oM PV.str (pI .i64) z1.number),(13005,.cells [.p (vSl 1 cS z1.feats),.Sc 13006,.vec 13007,.Sc 13008,.Sc 13009]),(10000,.cells ((R8 (a.g x3.toNat)).map .p)),(4,oM (λx=>.agg (A0 x)) (pI .i64) b.values),(3,oM PV.str (pI .i64) b.symbols),(2,oV D4 3 D3 b.sounds true),(1,oM PV.str (pI .i64) b.number),(0,.cells [.p (vSl 1 cS b.feats),.Sc 1,.vec 2,.Sc 3,.Sc 4])]⟩) (λM5 k5 c h=>?_) (λz6 h=>?_)
  .refine kG Z h (λh=>?_) (λh=>?_)
   .exact c _ (Qc [0,1,2,3,4,10000,13005,13006,13007,13008,13009]) _ _ Jy h
   refine kG Z h (λh=>?_) (λh=>?_)
   .exact c _ (Qc [0,1,2,3,4,10000,13005,13006,13007,13008,13009]) _ _ Jy h
   refine kC Z h (LN Z Y) (λj h=>?_);exact c _ (Qc [0,1,2,3,4,10000,13005,13006,13007,13008,13009]) _ _ Jy h
  apply kI Z h<;>intro h
  .obtain rfl:=A6 h;exact kO Z Jy [0,1,2,3,4]
  refine GN Z Jy (A3 Z) h 0 (λz7=>⟨[(54,pB z7),(26,pN x3),(25,pN (a.n:Int)),(24,.p (vSl 4 R8 a)),(9,.reg 10000 0),(8,pN x3),(7,pU (E6 .xor .u32 4294967295 (wrap .u32 ((shI .shl .u32 1 (y2.n:Int))-1)))),(6,.reg 13005 0),(1,.p (vSl 4 R8 a))],[(13009,oM (λx=>.agg (A0 x)) (pI .i64) z1.values),(13008,oM PV.str (pI .i64) z1.symbols),(13007,oV D4 3 D3 z1.sounds true),(13006,oM PV.str (pI .i64) z1.number),(13005,.cells [.p (vSl 1 cS z1.feats),.Sc 13006,.vec 13007,.Sc 13008,.Sc 13009]),(10000,.cells ((R8 (a.g x3.toNat)).map .p)),(4,oM (λx=>.agg (A0 x)) (pI .i64) b.values),(3,oM PV.str (pI .i64) b.symbols),(2,oV D4 3 D3 b.sounds true),(1,oM PV.str (pI .i64) b.number),(0,.cells [.p (vSl 1 cS b.feats),.Sc 1,.vec 2,.Sc 3,.Sc 4])]⟩) (λM6 k6 d h=>?_) (λz7 h=>?_)
  .refine kG Z h (λh=>?_) (λh=>?_)
   .exact d _ (Qc [0,1,2,3,4,10000,13005,13006,13007,13008,13009]) _ _ Jy h
   refine kG Z h (λh=>?_) (λh=>?_)
   .exact d _ (Qc [0,1,2,3,4,10000,13005,13006,13007,13008,13009]) _ _ Jy h
   refine kC Z h (S8 Z Y) (λl h=>?_);exact d _ (Qc [0,1,2,3,4,10000,13005,13006,13007,13008,13009]) _ _ Jy h
  apply kI Z h<;>intro h
  .obtain rfl:=A6 h;exact kO Z Jy [0,1,2,3,4]
  obtain⟨c55,h⟩:=B9 h;refine D9 Z c55 79 10000 (R8 (a.g x3.toNat)) ?_;refine kC Z h (Ak Z Y (λe=>Qq Z Y e)) (λm h=>?_);apply kI Z h<;>intro h
  .obtain rfl:=A6 h;exact kO Z Jy [0,1,2,3,4]
  exact i _ (Qc [0,1,2,3,4,13005,13006,13007,13008,13009]) _ _ Jy h
 refine kC Z h (CL Z Y) (λo h=>?_);obtain rfl:=A6 h;exact kO Z Jy [0,1,2,3,4]
def GV (N:Nat)(a:B4):Option Int:= (Ai N a).bind λy1=>Jo y1.1 (if (y1.2 != 0) then some y1.2 else none) λz1=>if (y1.2 != 0) then some y1.2 else (Cm N z1 a.Marks).bind λy3=>if (y3 != 0) then some y3 else some 0
theorem Ad8 {a:B4}{y:Int}(h:GV N a=some y) :Qi S Pq [.p (.agg (A9 a))] [] (.tup [.top,.top,pN y]) ([]) []:=by
 unfold GV at h;refine A1 Z func69 ?_;obtain⟨y1,e1,h⟩:=A7 h;rcases o1:y1.1 with _|z1
 .replace h:=Ai4 o1 h;have w1:=(Ja Z Y e1);simp only[o1,M9,N0,BV8,BU1,BY6]at w1;refine A8 Z [] Jy w1 ?_;apply kI Z h<;>intro h
  .obtain rfl:=A6 h;exact kO Z Jy []
  cases h
 replace h:=Zq o1 h;have w2:=(Ja Z Y e1);simp only[o1,M9,N0,BV8,BU1,BY6]at w2;refine A8 Z [] Jy w2 ?_;apply kI Z h<;>intro h
 .obtain rfl:=A6 h;exact kO Z Jy []
 obtain⟨y3,e3,h⟩:=A7 h;refine A8 Z [11000,11001,11002,11003,11004] Jy (Ux Z Y e3) ?_;apply kI Z h<;>intro h
 .obtain rfl:=A6 h;exact kO Z Jy []
 obtain rfl:=A6 h;exact kO Z Jy []
def Y9 (N:Nat)(a:B4):Option Int:= (GV N a).bind λy1=>if (y1 != 0) then some y1 else (Ar N a.Sv a.Sg a.Sz).bind λy2=>some y2
theorem GW {a:B4}{y:Int}(h:Y9 N a=some y) :Qi S Pn [.p (.agg (A9 a))] [] (pN y) ([]) []:=by
 unfold Y9 at h;refine A1 Z func39 ?_;refine kC Z h (Ad8 Z Y) (λy1 h=>?_);refine Ug Z h fun h=>?_;refine kC Z h (LS Z Y) (λy2 h=>?_);cases h;exact kR Z
omit Z Y
def BO7 {T:Type}{e:TypeId}{k:Nat}{c:T->List PV}{X:Sl (Sl T)}{z:Sl T}:∀q,q<X.n+1->(λq=>if q=X.n then Gj e k c z else Gj e k c (X.g q)) q=(λq=>Gj e k c ((X.push z).g q)) q:=λq a=>by
 show (if q=X.n then Gj e k c z else Gj e k c (X.g q))=Gj e k c (if q<X.n then X.g q else z);by_cases h:q=X.n
 .rw[Fg h,Dm]
 rw[Gb h,Fg (by omega)]
def BC2 {T:Type}{e:TypeId}{k n i:Nat}{c:T->List PV}{X:Sl (Sl T)}{z:Sl T}:∀q,q<n->(YA (if q=i then Gj e k c z else if q=i then Obj.dead else Gj e k c (X.g q))).isSome=true:=λq _=>by
 by_cases h:q=i
 .rw[Fg h];rfl
 rw[Gb h,Gb h];rfl
def BO8 {T:Type}{e:TypeId}{k n i:Nat}{c:T->List PV}{X:Sl (Sl T)}{z:Sl T}:∀q,q<n->[(YA (if q=i then Gj e k c z else if q=i then Obj.dead else Gj e k c (X.g q))).getD default]=cL k c ((X.upd i z).g q):=λq _=>by
 show _=cL k c (if q=i then z else X.g q);by_cases h:q=i
 .rw[Fg h,Fg h];rfl
 rw[Gb h,Gb h,Gb h];rfl
include Z Y
def L0 (N:Nat)(s:Sl Node):Option (Sl Node):=if (0+s.n)*24<=140737488355328/\0+s.n<=140737488355328 then some s else none
theorem CN {s y:Sl Node}(h:L0 N s=some y):Qi S U2 [.p (vSl 2 F4 s)] [] (.vec 0) [.vec X8 2 y.n (λi=>F4 (y.g i)) true] []:=by
 unfold L0 at h;obtain⟨c1,h⟩:=B9 h;obtain rfl:=A6 h;refine A1 Z func110 ?_;refine ZB Z Jy 3 (k:=2) (n:=s.n) (f:=λi=>F4 (s.g i)) (λa=>?_) ?_
 .obtain⟨n,g⟩:=s;obtain rfl:n=0:=a;exact kO Z Jy [3700]
 exact kO Z (Qe Ow c1) [8000]
  (hle:=kl1 0 (Bu3 F4 s [pI .i64 0,.str []]))
def W6 (N:Nat)(s:Sl Int):Option (Sl Int):=if (0+s.n)*8<=140737488355328/\0+s.n<=140737488355328 then some s else none
theorem Hg {s y:Sl Int}(h:W6 N s=some y):Qi S BS [.p (vSl 1 (cI .i64) s)] [] (.vec 0) [.vec D2 1 y.n (λi=>cI .i64 (y.g i)) false] []:=by
 unfold W6 at h;obtain⟨c1,h⟩:=B9 h;obtain rfl:=A6 h;refine A1 Z func112 ?_;refine ZB Z Jy 3 (k:=1) (n:=s.n) (f:=λi=>cI .i64 (s.g i)) (λa=>?_) ?_
 .obtain⟨n,g⟩:=s;obtain rfl:n=0:=a;exact kO Z Jy [3700]
 exact kO Z (Qe Ow c1) [8000]
  (hle:=kl1 0 (Bu3 (cI .i64) s [pI .i64 0]))
def En (N:Nat)(c:Sv)(b:Int)(a:Int):Option (Sv×Int):= (Q2 N c).bind λy1=>if (y1 != 0) then some ((⟨(Sl.nil:Sl Node),(Sl.nil:Sl Law),(Sl.nil:Sl (Sl Int))⟩:Sv),y1) else (Cf N c b).bind λy2=>if ((!y2)=false->((decide (a<0))=false->((0:Int)<=b/\b<(c.On.n:Int))))then if (((!y2)||(decide (a<0)))||(decide ((wrap .i64 (((c.On.g b.toNat).n:Int)-1))<=a))) then some ((⟨(Sl.nil:Sl Node),(Sl.nil:Sl Law),(Sl.nil:Sl (Sl Int))⟩:Sv),3) else (L0 N c.Tree).bind λy3=>Y4 N (λd (x1:Sl Law) (x2:Int)=>if (decide (x2<(c.Laws.n:Int))) then if ((0:Int)<=x2/\x2<(c.Laws.n:Int))then (V6 N (c.Laws.g x2.toNat)).bind λy6=>if (Qd 200 (x1.n+(Sl.of [y6]:Sl Law).n))then d (x1.push y6) (wrap .i64 (x2+1)) else none else none else Y4 N (λf (x3:Sl (Sl Int)) (x4:Int)=>if (decide (x4<(c.On.n:Int))) then if ((0:Int)<=x4/\x4<(c.On.n:Int))then (W6 N (c.On.g x4.toNat)).bind λy9=>if (Qd 24 (x3.n+(Sl.of [y9]:Sl (Sl Int)).n))then f (x3.push y9) (wrap .i64 (x4+1)) else none else none else if b.toNat<x3.n then if (((0:Int)<=b/\b<(x3.n:Int))/\((0:Int)<=a/\a<((x3.g b.toNat).n:Int))/\((0:Int)<=(wrap .i64 (a+1))/\(wrap .i64 (a+1))<((x3.g b.toNat).n:Int)))then some ((⟨y3,x1,x3.upd b.toNat (((x3.g b.toNat).upd a.toNat ((x3.g b.toNat).g (wrap .i64 (a+1)).toNat)).upd (wrap .i64 (a+1)).toNat ((x3.g b.toNat).g a.toNat))⟩:Sv),0) else none else none) (Sl.nil:Sl (Sl Int)) 0) (Sl.nil:Sl Law) 0 else none
theorem LT {j:Sv}{f:Int}{d:Int}{y:Sv×Int}(h:En N j f d=some y) :Qi S Lr [.p (.agg (B0 j)),pN f,pN d] [] (.tup [.p (.agg (B0 y.1)),pN y.2]) ([]) []:=by
 unfold En at h;refine A1 Z func75 ?_;refine D9 Z Jy 6 4000 (B0 j) ?_;obtain⟨y1,e1,h⟩:=A7 h;refine A8 Z [] Mo (Gi Z Y e1) ?_;apply kI Z h<;>intro h
 .obtain rfl:=A6 h;exact P3 Z Jy ⟨[(7,pN y1),(6,.reg 7000 0)],[(7000,.cells [.p (vSl 2 F4 (Sl.nil:Sl Node)),.p (vSl 18 B3 (Sl.nil:Sl Law)),.p (vSl 1 (cL 1 (cI .i64)) (Sl.nil:Sl (Sl Int)))])]⟩ [] (ids:=[(7000,7000)]) ⟨rfl,rfl,rfl⟩
 obtain⟨y2,e2,h⟩:=A7 h;refine A8 Z [] Mo (LP Z Y e2) ?_;obtain⟨c2,h⟩:=B9 h;refine kB Z (A3 Z) Jy c2 14 (.o (.o (.a (!y2)) (.a (decide (d<0)))) (.a (decide ((wrap .i64 (((j.On.g f.toNat).n:Int)-1))<=d)))) ?_;apply kI Z h<;>intro h
 .obtain rfl:=A6 h;exact P3 Z Jy ⟨[(7,pN 3),(6,.reg 7000 0)],[(7000,.cells [.p (vSl 2 F4 (Sl.nil:Sl Node)),.p (vSl 18 B3 (Sl.nil:Sl Law)),.p (vSl 1 (cL 1 (cI .i64)) (Sl.nil:Sl (Sl Int)))])]⟩ [] (ids:=[(7000,7000)]) ⟨rfl,rfl,rfl⟩
 refine kC Z h (CN Z Y) (λy3 h=>?_);refine G2 Z Jy h (λx1 x2=>⟨[(48,pN x2),(47,pN (j.Laws.n:Int)),(46,.p (vSl 18 B3 j.Laws)),(9,.reg 10000 0),(6,.reg 7000 0),(3,.p (.ptr (B0 j))),(2,pN d),(1,pN f)],[(44000,oV X8 2 F4 y3 true),(10500,oV I9 18 B3 x1 false),(10000,.cells [.vec 44000,.vec 10500,.p I3]),(7000,.cells [.p I3,.p I3,.p I3])]⟩) (ids:=(Qc [7000,10000,44000])) (λ_ _ _ _ _ m x1 x2 r h=>?_);apply kI Z h<;>intro h
 .obtain⟨c11,h⟩:=B9 h;refine ZC Z (Qe c11 Ov) 12000 (B3 (j.Laws.g x2.toNat)) ?_;refine B5 Z Jy [2,3] ?_;obtain⟨y6,e6,h⟩:=A7 h;refine F7 Ov (IZ Z Y e6) ?_;refine O8 Jy (x:=.sl true 18 1 (H2 [.str [],pI .i64 0,pI .u32 0,pI .u32 0,.v (.bool false),pI .i64 0,pI .i64 0,I3,pI .i64 0,pI .u32 0,pI .u32 0,.v (.bool false),pI .i64 0,pI .i64 0,I3,I3,I3,pI .i64 0] [(0,B3 y6)])) ?_;obtain⟨c12,h⟩:=B9 h;refine C7 c12 ?_;exact r _ [(7000,7000),(10000,10000),(10500,58000),(44000,44000)] _ _ _ Jy h (hle:=kl1 7 (R7 B3 x1 y6 [.str [],pI .i64 0,pI .u32 0,pI .u32 0,.v (.bool false),pI .i64 0,pI .i64 0,I3,pI .i64 0,pI .u32 0,pI .u32 0,.v (.bool false),pI .i64 0,pI .i64 0,I3,I3,I3,pI .i64 0]))
 refine I7 Z Jy 60 ⟨[(9,.reg 10000 0),(6,.reg 7000 0),(3,.p (.ptr (B0 j))),(2,pN d),(1,pN f)],[(44000,oV X8 2 F4 y3 true),(10501,.vec KI 1 0 (λ_=>[]) false),(10500,oV I9 18 B3 x1 false),(10000,.cells [.vec 44000,.vec 10500,.vec 10501]),(7000,.cells [.p I3,.p I3,.p I3])]⟩ (ids:=(Qc [7000,10000,10500,44000])) ?_;refine FU Z Jy 60 (.fam 10501 10901 λi=>Gj D2 1 (cI .i64) ((Sl.nil:Sl (Sl Int)).g i)) (⟨by decide,λi u=>Hc u (Cf9 i)⟩:1000<=10901/\∀i,i<0->UH ((λ_=>[]) i) (Gj D2 1 (cI .i64) ((Sl.nil:Sl (Sl Int)).g i))) ?_;refine G2 Z Jy h (λx3 x4=>⟨[(63,pN x4),(62,pN (j.On.n:Int)),(61,.p (vSl 1 (cL 1 (cI .i64)) j.On)),(9,.reg 10000 0),(6,.reg 7000 0),(2,pN d),(1,pN f)],[(44000,oV X8 2 F4 y3 true),(10901,.rows x3.n λi=>Gj D2 1 (cI .i64) (x3.g i)),(10501,.fam KI x3.n 10901 none),(10500,oV I9 18 B3 x1 false),(10000,.cells [.vec 44000,.vec 10500,.vec 10501]),(7000,.cells [.p I3,.p I3,.p I3])]⟩) (ids:=(Qc [7000,10000,10500,10501,10901,44000])) (λ_ _ _ _ _ s x3 x4 t h=>?_);apply kI Z h<;>intro h
 .obtain⟨c20,h⟩:=B9 h;refine I0 Z c20 [(1,.l [10000]),(3,.b [71000]),(4,.b [72000,71000])] ?_;obtain⟨y9,e9,h⟩:=A7 h;refine IM [] Jy (Hg Z Y e9) ?_;obtain⟨c21,h⟩:=B9 h;refine C7 c21 ?_;refine FU Z Jy 74 (.psh 73000 10902) (⟨by decide,rfl,rfl⟩:1000<=10902/\x3.n+1=x3.n+1/\x3.n=x3.n) ?_;exact t _ [(7000,7000),(10000,10000),(10500,10500),(10501,73000),(10901,10902),(44000,44000)] _ _ _ Jy h (hle:=klR [(7,.ob (x3.n+1) (λq=>if q=x3.n then Gj D2 1 (cI .i64) y9 else Gj D2 1 (cI .i64) (x3.g q)) (λi=>Gj D2 1 (cI .i64) ((x3.push y9).g i)))] (al1 BO7 al0))
 obtain⟨cT,h⟩:=B9 h;obtain⟨⟨c30,c31,c32⟩,h⟩:=B9 h;refine FU Z Jy 75 (.take 10501 f.toNat 10801) (⟨⟨by decide,rfl⟩,cT⟩:(1000<=10801/\x3.n=x3.n)/\f.toNat<x3.n) ?_;refine I0 Z (Qe c30 (Qe cT (rfl:f.toNat=f.toNat))) [(8,.l [10801]),(9,.l [10801]),(12,.l [10801]),(13,.l [10801]),(14,.l [10801]),(15,.a [10801]),(16,.l [10801]),(17,.a [10801])] ?_;have l1:(wrap .i64 (d+1)).toNat<(x3.g f.toNat).n:=by omega
 have l2:d.toNat<(x3.g f.toNat).n:=by omega
 refine C7 (Qe (Qe (Qe (Qe (Qe (Qe (Qe c32 l1) c31) l2) c31) (Qe (rfl:(1:Nat)=1) (Qe l2 Mm))) c32) (Qe (rfl:(1:Nat)=1) (Qe l1 Mm))) ?_;refine I7 Z Jy 96 ⟨[(9,.reg 10000 0),(6,.reg 7000 0)],[(44000,oV X8 2 F4 y3 true),(10901,(.rows x3.n λl=>if l=f.toNat then .dead else Gj D2 1 (cI .i64) (x3.g l))),(10801,Gj D2 1 (cI .i64) (((x3.g f.toNat).upd d.toNat ((x3.g f.toNat).g (wrap .i64 (d+1)).toNat)).upd (wrap .i64 (d+1)).toNat ((x3.g f.toNat).g d.toNat))),(10501,.fam KI x3.n 10901 (some (f.toNat,.vec 10801))),(10500,oV I9 18 B3 x1 false),(10000,.cells [.vec 44000,.vec 10500,.vec 10501]),(7000,.cells [.p I3,.p I3,.p I3])]⟩ (ids:=(Qc [7000,10000,10500,10501,10801,10901,44000])) ?_ (hle:=klR [(3,.fn (x3.g f.toNat).n (((x3.g f.toNat).upd d.toNat ((x3.g f.toNat).g (wrap .i64 (d+1)).toNat)).upd (wrap .i64 (d+1)).toNat ((x3.g f.toNat).g d.toNat)).n (λl=>if l=(wrap .i64 (d+1)).toNat then splice ((λl=>if l=d.toNat then splice ((λi=>cI .i64 ((x3.g f.toNat).g i)) l) 0 [pI .i64 ((x3.g f.toNat).g (wrap .i64 (d+1)).toNat)]else (λi=>cI .i64 ((x3.g f.toNat).g i)) l) l) 0 [pI .i64 ((x3.g f.toNat).g d.toNat)]else (λl=>if l=d.toNat then splice ((λi=>cI .i64 ((x3.g f.toNat).g i)) l) 0 [pI .i64 ((x3.g f.toNat).g (wrap .i64 (d+1)).toNat)]else (λi=>cI .i64 ((x3.g f.toNat).g i)) l) l) (λi=>cI .i64 ((((x3.g f.toNat).upd d.toNat ((x3.g f.toNat).g (wrap .i64 (d+1)).toNat)).upd (wrap .i64 (d+1)).toNat ((x3.g f.toNat).g d.toNat)).g i)))] (al1 ⟨rfl,Az6 (c:=cI .i64) (v:=(x3.g f.toNat).upd d.toNat ((x3.g f.toNat).g (wrap .i64 (d+1)).toNat)) (x:=(x3.g f.toNat).g d.toNat) (Az6 (c:=cI .i64) (v:=x3.g f.toNat) (x:=(x3.g f.toNat).g (wrap .i64 (d+1)).toNat) same (λ_=>by first|rfl|(dsimp only;split<;>rfl))) (λ_=>by first|rfl|(dsimp only;split<;>rfl))⟩ al0));refine FU Z Jy 96 (.put 10501 10902) (⟨⟨by decide,rfl⟩,cT⟩:(1000<=10902/\x3.n=x3.n)/\f.toNat<x3.n) ?_;refine FU Z Jy 96 (.pub 10501) (⟨rfl,BC2⟩:x3.n=x3.n/\∀q,q<x3.n->(YA (if q=f.toNat then Gj D2 1 (cI .i64) (((x3.g f.toNat).upd d.toNat ((x3.g f.toNat).g (wrap .i64 (d+1)).toNat)).upd (wrap .i64 (d+1)).toNat ((x3.g f.toNat).g d.toNat))else if q=f.toNat then Obj.dead else Gj D2 1 (cI .i64) (x3.g q))).isSome=true) ?_;obtain rfl:=A6 h;exact P3 Z Jy ⟨[(7,pN 0),(6,.reg 7000 0)],[(7000,.cells [.p (vSl 2 F4 y3),.p (vSl 18 B3 x1),.p (vSl 1 (cL 1 (cI .i64)) (x3.upd f.toNat (((x3.g f.toNat).upd d.toNat ((x3.g f.toNat).g (wrap .i64 (d+1)).toNat)).upd (wrap .i64 (d+1)).toNat ((x3.g f.toNat).g d.toNat))))])]⟩ [] (ids:=[(7000,7000)]) ⟨rfl,rfl,rfl⟩ (hle:=klR [(3,.fn x3.n (x3.upd f.toNat (((x3.g f.toNat).upd d.toNat ((x3.g f.toNat).g (wrap .i64 (d+1)).toNat)).upd (wrap .i64 (d+1)).toNat ((x3.g f.toNat).g d.toNat))).n (λq=>[(YA (if q=f.toNat then Gj D2 1 (cI .i64) (((x3.g f.toNat).upd d.toNat ((x3.g f.toNat).g (wrap .i64 (d+1)).toNat)).upd (wrap .i64 (d+1)).toNat ((x3.g f.toNat).g d.toNat))else if q=f.toNat then Obj.dead else Gj D2 1 (cI .i64) (x3.g q))).getD default]) (λi=>cL 1 (cI .i64) ((x3.upd f.toNat (((x3.g f.toNat).upd d.toNat ((x3.g f.toNat).g (wrap .i64 (d+1)).toNat)).upd (wrap .i64 (d+1)).toNat ((x3.g f.toNat).g d.toNat))).g i)))] (al1 ⟨rfl,BO8⟩ al0))
def Dw (N:Nat)(b:B4)(a:Int):Option Int:= (Y9 N b).bind λy1=>if (y1 != 0) then some y1 else if ((decide (a<0))||(decide (1073741824<a))) then some 2 else some 0
theorem NP {c:B4}{b:Int}{y:Int}(h:Dw N c b=some y) :Qi S Nl [.p (.agg (A9 c)),pN b] [] (pN y) ([]) []:=by
 unfold Dw at h;refine A1 Z func20 ?_;refine kC Z h (GW Z Y) (λy1 h=>?_);refine Ug Z h fun h=>?_;refine kB Z (A3 Z) Jy Jy 3 (.o (.a (decide (b<0))) (.a (decide (1073741824<b)))) ?_;refine Ug Z h fun h=>?_;cases h;exact kR Z
def I5 (N:Nat)(b:Sl Law)(a:K0)(c:K0):Option Bool:= if ((!a.Has)||(!c.Has)) then some false else (U6 N b a.W).bind λy1=>lt (λ(z1:Bool)=>some z1) λk1=>if (y1.2==0) then (AK N y1.1 c.W).bind λy3=>k1 y3 else k1 false
theorem AZ {c:Sl Law}{b:K0}{d:K0}{y:Bool}(h:I5 N c b d=some y) :Qi S Jw [.p (vSl 18 B3 c),.p (.agg (F2 b)),.p (.agg (F2 d))] [] (pB y) ([]) []:=by
 unfold I5 at h;refine A1 Z func23 ?_;refine kB Z (A3 Z) Jy Jy 4 (.o (.a (!b.Has)) (.a (!d.Has))) ?_;refine Ug Z h fun h=>?_;refine kC Z h (JT Z Y) (λy1 h=>?_);refine GN Z Jy (A3 Z) h 0 (λz1=>⟨[(6,pB z1)],[]⟩) (λM1 k1 f h=>?_) (λz1 h=>?_)
 .refine kG Z h (λh=>?_) (λh=>?_)
  .refine kC Z h (PI Z Y) (λy3 h=>?_);exact f _ [] _ y3 Jy h
  exact f _ [] _ _ Jy h
 cases h;exact kR Z
def T0 (N:Nat)(b:Sv):Option (Sl (Sl Law)):= (S9 N b.Tree).bind λy1=>Y4 N (λa (x1:Sl (Sl Law)) (x2:Int)=>if (decide (x2<(y1.1.n:Int))) then if (((0:Int)<=x2/\x2<(y1.1.n:Int))/\x2.toNat<y1.1.n)then (Cj N b (y1.1.g x2.toNat)).bind λy4=>if (Qd 24 (x1.n+(Sl.of [y4.1]:Sl (Sl Law)).n))then a (x1.push y4.1) (wrap .i64 (x2+1)) else none else none else some x1) (Sl.nil:Sl (Sl Law)) 0
theorem Dx {a:Sv}{y:Sl (Sl Law)}(h:T0 N a=some y) :Qi S Nm [.p (.agg (B0 a))] [] (.p (vSl 1 (cL 18 B3) y)) ([]) []:=by
 unfold T0 at h;refine A1 Z func22 ?_;refine kC Z h (Fp Z Y) (λy1 h=>?_);refine G2 Z Jy h (λx1 x2=>⟨[(18,pN x2),(17,pN (y1.1.n:Int)),(16,.vec 14000),(5,.vec 6500),(1,.reg 2000 0)],[(14000,oV D2 1 (cI .i64) y1.1 true),(6500,oV EC 1 (cL 18 B3) x1 false),(2000,.cells ((B0 a).map .p))]⟩) (ids:=(Qc [2000,14000])) (λ_ _ _ _ _ b x1 x2 c h=>?_);apply kI Z h<;>intro h
 .obtain⟨c6,h⟩:=B9 h;obtain⟨y4,e4,h⟩:=A7 h;refine A8 Z [] c6 (Ut Z Y e4) ?_;obtain⟨c7,h⟩:=B9 h;exact c _ [(2000,2000),(6500,32000),(14000,14000)] _ (x1.push y4.1) (wrap .i64 (x2+1)) (Qe Ow c7) h (hle:=kl1 3 (R7 (cL 18 B3) x1 y4.1 [I3]))
 obtain rfl:=A6 h;exact kO Z Jy []
def Iq (N:Nat)(c:B4)(a:Int)(b:Int):Option Bool:= if ((decide (0<=a))=true->((decide (a<(c.Sz.n:Int)))=true->((decide (0<=b))=true->((0:Int)<=a/\a<(c.Sz.n:Int)))))then some ((((decide (0<=a))&&(decide (a<(c.Sz.n:Int))))&&(decide (0<=b)))&&(decide (b<((c.Sz.g a.toNat).Ua.n:Int)))) else none
theorem SQ {d:B4}{b:Int}{c:Int}{y:Bool}(h:Iq N d b c=some y) :Qi S RH [.p (.agg (A9 d)),pN b,pN c] [] (pB y) ([]) []:=by unfold Iq at h;refine A1 Z func44 ?_;obtain⟨c1,h⟩:=B9 h;refine kB Z (A3 Z) Jy c1 21 (.n (.n (.n (.a (decide (0<=b))) (.a (decide (b<(d.Sz.n:Int))))) (.a (decide (0<=c)))) (.a (decide (c<((d.Sz.g b.toNat).Ua.n:Int))))) ?_;cases h;exact kR Z
def Dy (N:Nat)(a:B4)(p_x:Lm):Option (Sv×Int):= (En N a.Sv p_x.Node p_x.Place).bind λy1=>lt (λ(z1:Bool)=>if z1 then some ((⟨(Sl.nil:Sl Node),(Sl.nil:Sl Law),(Sl.nil:Sl (Sl Int))⟩:Sv),3) else some (y1.1,0)) λk1=>if (y1.2 != 0) then k1 true else (Iq N a p_x.Ub p_x.Sd).bind λy3=>k1 (!y3)
theorem Kc {a:B4}{p_x:Lm}{y:Sv×Int}(h:Dy N a p_x=some y) :Qi S Jx [.p (.agg (A9 a)),.p (.agg (Z9 p_x))] [] (.tup [.p (.agg (B0 y.1)),pN y.2]) ([]) []:=by
 unfold Dy at h;refine A1 Z func46 ?_;refine kC Z h (LT Z Y) (λy1 h=>?_);refine GN Z Jy (A3 Z) h 0 (λz1=>⟨[(28,pB z1),(6,.reg 7000 0),(4,.reg 5000 0)],[(7000,.cells ((B0 y1.1).map .p)),(5000,.cells [.p I3,.p I3,.p I3])]⟩) (λM1 k1 b h=>?_) (λz1 h=>?_)
 .refine kG Z h (λh=>?_) (λh=>?_)
  .exact b _ (Qc [5000,7000]) _ _ Jy h
  refine kC Z h (SQ Z Y) (λy3 h=>?_);exact b _ (Qc [5000,7000]) _ _ Jy h
 apply kI Z h<;>intro h
 .obtain rfl:=A6 h;exact P3 Z Jy ⟨[(5,pN 3),(4,.reg 5000 0)],[(5000,.cells [.p (vSl 2 F4 (Sl.nil:Sl Node)),.p (vSl 18 B3 (Sl.nil:Sl Law)),.p (vSl 1 (cL 1 (cI .i64)) (Sl.nil:Sl (Sl Int)))])]⟩ [] (ids:=[(5000,5000)]) ⟨rfl,rfl,rfl⟩
 cases h;exact kR Z
def Kd (N:Nat)(a:B4)(p_x:Lm):Option (Bool×Int):= (Y9 N a).bind λy1=>if (y1 != 0) then some (false,y1) else (Dy N a p_x).bind λy2=>if (y2.2 != 0) then some (false,y2.2) else if ((((0:Int)<=p_x.Ub/\p_x.Ub<(a.Sg.n:Int))/\((0:Int)<=p_x.Ub/\p_x.Ub<(a.Sz.n:Int)))/\((0:Int)<=p_x.Sd/\p_x.Sd<((a.Sz.g p_x.Ub.toNat).Ua.n:Int)))then (T0 N a.Sv).bind λy3=>if ((0:Int)<=p_x.Sd/\p_x.Sd<(y3.n:Int))then (I5 N (y3.g p_x.Sd.toNat) (a.Sg.g p_x.Ub.toNat) ((a.Sz.g p_x.Ub.toNat).Ua.g p_x.Sd.toNat)).bind λy4=>if y4 then (T0 N y2.1).bind λy5=>if ((0:Int)<=p_x.Sd/\p_x.Sd<(y5.n:Int))then (I5 N (y5.g p_x.Sd.toNat) (a.Sg.g p_x.Ub.toNat) ((a.Sz.g p_x.Ub.toNat).Ua.g p_x.Sd.toNat)).bind λy6=>some (!y6,0) else none else some (false,0) else none else none
theorem Ad9 {c:B4}{p_x:Lm}{y:Bool×Int}(h:Kd N c p_x=some y) :Qi S Pk [.p (.agg (A9 c)),.p (.agg (Z9 p_x))] [] (.tup [pB y.1,pN y.2]) ([]) []:=by
 unfold Kd at h;refine A1 Z func17 ?_;refine D9 Z Jy 3 3000 (A9 c) ?_;refine D9 Z Jy 4 4000 (Z9 p_x) ?_;obtain⟨y1,e1,h⟩:=A7 h;refine A8 Z [] (by decide:(8:Nat)<=8) (GW Z Y e1) ?_;refine Ug Z h fun h=>?_;obtain⟨y2,e2,h⟩:=A7 h;refine A8 Z [] (Qe (by decide:(8:Nat)<=8) Mq) (Kc Z Y e2) ?_;refine D9 Z Jy 8 8000 (B0 y2.1) ?_;refine Ug Z h fun h=>?_;refine I0 Z Jy [(1,.n),(3,.n),(4,.n),(5,.n),(7,.n),(9,.n),(10,.n),(12,.n),(14,.n),(15,.n),(16,.n),(17,.a [10000]),(18,.a [11000]),(19,.a [10000]),(20,.a [11000])] ?_;obtain⟨c3,h⟩:=B9 h;refine C7 (Qe (Qe (Qe (Qe c3.1.1 Mn) c3.1.2) c3.2) Mn) ?_;refine ZC Z Jy 10000 [.bb (c.Sg.g p_x.Ub.toNat).Has,vSl 2 A0 (c.Sg.g p_x.Ub.toNat).W] ?_;refine ZC Z Jy 11000 [.bb ((c.Sz.g p_x.Ub.toNat).Ua.g p_x.Sd.toNat).Has,vSl 2 A0 ((c.Sz.g p_x.Ub.toNat).Ua.g p_x.Sd.toNat).W] ?_;refine B5 Z Jy [1,2,4,5,6,7,8,9,11,12,14,15,16,17,18,19] ?_;obtain⟨y3,e3,h⟩:=A7 h;refine F7 (by decide:(3:Nat)<=5) (Dx Z Y e3) ?_;obtain⟨c4,h⟩:=B9 h;obtain⟨y4,e4,h⟩:=A7 h;refine F7 (Qe (Qe c4 Mn) Mn) (AZ Z Y e4) ?_;refine S7 Jy (b:=y4) (λc5=>?_) (λc5=>?_)
 .replace h:=itT c5 h;obtain⟨y5,e5,h⟩:=A7 h;refine F7 Mo (Dx Z Y e5) ?_;obtain⟨c6,h⟩:=B9 h;obtain⟨y6,e6,h⟩:=A7 h;refine F7 (Qe (Qe c6 Mn) Mn) (AZ Z Y e6) ?_;refine C7 Jy ?_;cases h;exact kR Z
 replace h:=itF c5 h;refine C7 Jy ?_;cases h;exact kR Z
def N4 (N:Nat)(a:List (G3)):Option (Sl G3):= T9 a (λb (x1:G3) (z1:Sl G3)=>if (Qd 16 (z1.n+(Sl.of [x1]:Sl G3).n))then b (z1.push x1) else none) (λ(z1:Sl G3)=>some z1) (Sl.nil:Sl G3)
theorem De {c:List (G3)}{a:B4}{b:(Sl (Sl Law))}{kp_seq:Nat}(fp_seq:∃fn,BS8[kp_seq]? = some fn/\fn.body.isSome=true/\(fn.name == "runtime.NumGoroutine")=false)(d:FQ S kp_seq [] [.reg 0 0,.reg 1 0] [(.cells ((A9 a).map .p)),(.cells [(.p (vSl 1 (cL 18 B3) b))])] (c.map (λ(x:G3)=>[(λx=>.agg (D8 x)) x]))){y:(Sl G3)}(h:N4 N c=some y) :Qi S V8 [(.p I3),(.clo kp_seq [] [(.reg 0 0),(.reg 1 0)])] [(.cells ((A9 a).map .p)),(.cells [(.p (vSl 1 (cL 18 B3) b))])] (.vec 0) ([(oV BF 2 D8 y false)]) [false,false]:=by
 unfold N4 at h;refine A1 Z func96 ?_;refine QA Z Jy fp_seq [0,1] [2] 901 (λz1=>⟨[(2,(.reg 3000 0))],[(3500,(oV BF 2 D8 z1 false)),(3000,(.cells [(.vec 3500)]))]⟩) (idl:=[(3000,3000)]) h d (λ_=>by kernel_rfl) (λ_=>by kernel_rfl) (λ_=>by kernel_rfl) (λ_=>by kernel_rfl) (λx1 _ f z1 g h=>?_) (λz1 h=>?_)
 .refine Nc Z Jy ?_;obtain⟨c1,h⟩:=B9 h;exact g _ [(901,901),(3000,3000),(3500,12000)] _ (z1.push x1) (Qe Ow c1) h (hle:=kl1 0 (R7 D8 z1 x1 [(pI .i64 0),(pI .i64 0)]))
 obtain rfl:=A6 h;exact kO Z Jy [3500]
def Z5 (N:Nat)(a:List (G3)):Option (Sl G3):= (N4 N a).bind λy1=>some y1
theorem Ir {c:List (G3)}{a:B4}{b:(Sl (Sl Law))}{kp_seq:Nat}(fp_seq:∃fn,BS8[kp_seq]? = some fn/\fn.body.isSome=true/\(fn.name == "runtime.NumGoroutine")=false)(d:FQ S kp_seq [] [.reg 0 0,.reg 1 0] [(.cells ((A9 a).map .p)),(.cells [(.p (vSl 1 (cL 18 B3) b))])] (c.map (λ(x:G3)=>[(λx=>.agg (D8 x)) x]))){y:(Sl G3)}(h:Z5 N c=some y) :Qi S DI [(.clo kp_seq [] [(.reg 0 0),(.reg 1 0)])] [(.cells ((A9 a).map .p)),(.cells [(.p (vSl 1 (cL 18 B3) b))])] (.vec 0) ([(oV BF 2 D8 y false)]) [false,false]:=by unfold Z5 at h;refine A1 Z func66 ?_;obtain⟨y1,e1,h⟩:=A7 h;refine A8 Z [0,1] Jy (De Z Y fp_seq d e1) ?_;obtain rfl:=A6 h;exact kO Z Jy [5000]
def CO (N:Nat)(q0:B4):Option (List (G3×Sv)):= O7 N (λa (x2:Int)=>if (decide (x2<(q0.Sv.On.n:Int))) then if ((0:Int)<=x2/\x2<(q0.Sv.On.n:Int))then O7 N (λb (x4:Int)=>if (decide (x4<(wrap .i64 (((q0.Sv.On.g x2.toNat).n:Int)-1)))) then (En N q0.Sv x2 x4).bind λy9=>Dk ((⟨x2,x4⟩:G3),y9.1) (b (wrap .i64 (x4+1))) else a (wrap .i64 (x2+1))) 0 else none else some []) 0
theorem Mx {q0:B4}{L:List (G3×Sv)}(h:CO N q0=some L) :FQ S CD [] [.reg 0 0] [.cells ((A9 q0).map .p)] (L.map (λ(x:G3×Sv)=>[(λx=>.agg (D8 x)) x.1,(λx=>.agg (B0 x)) x.2])):=by
 unfold CO at h;refine Fm Z func98 ?_;refine DQ Z Jy h (λx2 L1=>⟨[(12,pN x2),(11,pN (q0.Sv.On.n:Int)),(10,.p (vSl 1 (cL 1 (cI .i64)) q0.Sv.On)),(1,.reg 0 0),(0,.yf 1)],[(1,.yld (L1.map (λ(x:G3×Sv)=>[(λx=>.agg (D8 x)) x.1,(λx=>.agg (B0 x)) x.2])) true),(0,.cells ((A9 q0).map .p))]⟩) (ids:=(Qc [0,1])) (λ_ _ _ _ _ d x2 L1 f h=>?_);apply kI Z h<;>intro h
 .obtain⟨c24,h⟩:=B9 h;refine DQ Z c24 h (λx4 L10=>⟨[(20,pN x4),(19,pN (wrap .i64 (((q0.Sv.On.g x2.toNat).n:Int)-1))),(12,pN x2),(11,pN (q0.Sv.On.n:Int)),(10,.p (vSl 1 (cL 1 (cI .i64)) q0.Sv.On)),(3,pN x2),(1,.reg 0 0),(0,.yf 1)],[(1,.yld (L10.map (λ(x:G3×Sv)=>[(λx=>.agg (D8 x)) x.1,(λx=>.agg (B0 x)) x.2])) true),(0,.cells ((A9 q0).map .p))]⟩) (ids:=(Qc [0,1])) (λ_ _ _ _ _ i x4 L10 j h=>?_);apply kI Z h<;>intro h
  .refine kC Z h (LT Z Y) (λy9 h=>?_);obtain⟨L13,rfl,c⟩:=Ou h;replace h:=c;refine DP Z Jy (ys:=(λ(x:G3×Sv)=>[(λx=>.agg (D8 x)) x.1,(λx=>.agg (B0 x)) x.2]) ((⟨x2,x4⟩:G3),y9.1)) (rest:=L13.map (λ(x:G3×Sv)=>[(λx=>.agg (D8 x)) x.1,(λx=>.agg (B0 x)) x.2])) ?_ ?_
   .refine C6 Z Jy (b:=false) (λc32=>?_) (λc32=>?_)
    .exact Bool.noConfusion ((rfl:false=false).symm.trans c32)
    exact j _ (Qc [0,1]) _ _ L13 Jy h
   refine C6 Z Jy (b:=true) (λc33=>?_) (λc33=>?_)
   .exact kO Z Jy (a:=.tup []) (objs:=[(.cells ((A9 q0).map .p)),.yld [] false]) [0,1] ⟨false,rfl,rfl,_,rfl⟩
   exact Bool.noConfusion (Ow.symm.trans c33)
  exact f _ (Qc [0,1]) _ _ L10 Jy h
 obtain rfl:=A6 h;exact kO Z Jy (a:=.tup []) (objs:=[(.cells ((A9 q0).map .p)),.yld [] true]) [0,1] ⟨true,rfl,rfl,_,rfl⟩
def DY (N:Nat)(a:B4):Option (B4):= some a
theorem OH {a:B4}{y:B4}(h:DY N a=some y) :Qi S Hw [.p (.agg (A9 a))] [] (.clo CD [] [.reg 0 0]) ([.cells ((A9 y).map .p)]) []:=by unfold DY at h;refine A1 Z func68 ?_;obtain rfl:=A6 h;exact kO Z Jy [2000]
def G8 (N:Nat)(a:Sl C9)(b:Sl C9):Option Bool:= if ((a.n:Int) != (b.n:Int)) then some false else O7 N (λc (x1:Int)=>if (decide (x1<(a.n:Int))) then if (((0:Int)<=x1/\x1<(a.n:Int))/\((0:Int)<=x1/\x1<(b.n:Int)))then if ((((a.g x1.toNat).Ub==(b.g x1.toNat).Ub)&&(((a.g x1.toNat).Sd==(b.g x1.toNat).Sd)&&(((a.g x1.toNat).Kind==(b.g x1.toNat).Kind)&&((a.g x1.toNat).Cost==(b.g x1.toNat).Cost)))) != true) then some false else c (wrap .i64 (x1+1)) else none else some true) 0
theorem Y1 {a:Sl C9}{b:Sl C9}{y:Bool}(h:G8 N a b=some y) :Qi S N1 [.p (vSl 4 D1 a),.p (vSl 4 D1 b)] [] (pB y) ([]) []:=by
 unfold G8 at h;refine A1 Z func37 ?_;refine Ug Z h fun h=>?_;refine F1 Z Jy h (λx1=>⟨[(13,pN x1),(12,pN (a.n:Int)),(1,.p (vSl 4 D1 b)),(0,.p (vSl 4 D1 a))],[]⟩) (ids:=[]) (λ_ _ _ _ _ c x1 d h=>?_);apply kI Z h<;>intro h
 .refine B5 Z Jy [2,3,6,7] ?_;obtain⟨c9,h⟩:=B9 h;refine C7 (Qe (Qe (Qe (Qe c9.1 Mq) c9.2) Mq) (by decide +kernel:QK Tryz.prog AJ=true)) ?_;refine Ug Z h fun h=>?_;exact d _ [] _ _ Jy h
 cases h;exact kR Z
def L7 (N:Nat)(a:Sl Lm)(b:Sl Lm):Option Bool:= if ((a.n:Int) != (b.n:Int)) then some false else O7 N (λc (x1:Int)=>if (decide (x1<(a.n:Int))) then if (((0:Int)<=x1/\x1<(a.n:Int))/\((0:Int)<=x1/\x1<(b.n:Int)))then if ((((a.g x1.toNat).Node==(b.g x1.toNat).Node)&&(((a.g x1.toNat).Place==(b.g x1.toNat).Place)&&(((a.g x1.toNat).Ub==(b.g x1.toNat).Ub)&&((a.g x1.toNat).Sd==(b.g x1.toNat).Sd)))) != true) then some false else c (wrap .i64 (x1+1)) else none else some true) 0
theorem CP {a:Sl Lm}{b:Sl Lm}{y:Bool}(h:L7 N a b=some y) :Qi S U0 [.p (vSl 4 Z9 a),.p (vSl 4 Z9 b)] [] (pB y) ([]) []:=by
 unfold L7 at h;refine A1 Z func38 ?_;refine Ug Z h fun h=>?_;refine F1 Z Jy h (λx1=>⟨[(13,pN x1),(12,pN (a.n:Int)),(1,.p (vSl 4 Z9 b)),(0,.p (vSl 4 Z9 a))],[]⟩) (ids:=[]) (λ_ _ _ _ _ c x1 d h=>?_);apply kI Z h<;>intro h
 .refine B5 Z Jy [2,3,6,7] ?_;obtain⟨c9,h⟩:=B9 h;refine C7 (Qe (Qe (Qe (Qe c9.1 Mq) c9.2) Mq) (by decide +kernel:QK Tryz.prog HA=true)) ?_;refine Ug Z h fun h=>?_;exact d _ [] _ _ Jy h
 cases h;exact kR Z
def Bt (N:Nat)(d:B4)(a:Sl (Sl Qb))(b:Int)(f:Int):Option (Int×Int):= (Dw N d f).bind λy1=>if (y1 != 0) then some (0,y1) else if (decide (256<(a.n:Int))) then some (0,12) else O7 N (λo (x1:Int)=>if (decide (x1<(a.n:Int))) then if ((0:Int)<=x1/\x1<(a.n:Int))then (W0 N (a.g x1.toNat)).bind λy4=>if (y4 != 0) then some (0,y4) else o (wrap .i64 (x1+1)) else none else if ((decide (b<0))||(decide ((d.Sz.n:Int)<=b))) then some (0,3) else if ((a.n:Int)==0) then some (0,5) else (T0 N d.Sv).bind λy5=>AT6 N (λl (x8:Int) (x9:Int) (i:Int)=>if (decide (i<(a.n:Int))) then if (((0:Int)<=i/\i<(a.n:Int))/\((0:Int)<=b/\b<(d.Sz.n:Int)))then Y4 N (λj (m:Int) (c:Int)=>if (decide (c<((d.Sz.g b.toNat).Ua.n:Int))) then if ((0:Int)<=c/\c<((d.Sz.g b.toNat).Ua.n:Int))then if ((d.Sz.g b.toNat).Ua.g c.toNat).Has then if ((0:Int)<=c/\c<(y5.n:Int))then (I5 N (y5.g c.toNat) (⟨true,a.g i.toNat⟩:K0) ((d.Sz.g b.toNat).Ua.g c.toNat)).bind λq=>if (!q) then j (wrap .i64 (m+f)) (wrap .i64 (c+1)) else j m (wrap .i64 (c+1)) else none else j m (wrap .i64 (c+1)) else none else if ((i==0)||(decide (m<x9))) then l i m (wrap .i64 (i+1)) else l x8 x9 (wrap .i64 (i+1))) 0 0 else none else some (x8,0)) 0 0 0) 0
theorem NQ {i:B4}{d:Sl (Sl Qb)}{c:Int}{f:Int}{y:Int×Int}(h:Bt N i d c f=some y) :Qi S Ni [.p (.agg (A9 i)),.p (vSl 1 (cL 2 A0) d),pN c,pN f] [] (.tup [pN y.1,pN y.2]) ([]) []:=by
 unfold Bt at h;refine A1 Z func6 ?_;refine D9 Z Jy 8 5000 (A9 i) ?_;obtain⟨y1,e1,h⟩:=A7 h;refine A8 Z [] (by decide:(8:Nat)<=8) (NP Z Y e1) ?_;refine Ug Z h fun h=>?_;refine Ug Z h fun h=>?_;refine F1 Z Jy h (λx1=>⟨[(33,pN x1),(32,pN (d.n:Int)),(31,.p (vSl 1 (cL 2 A0) d)),(4,.p (.ptr (A9 i))),(3,pN f),(2,pN c),(1,.p (vSl 1 (cL 2 A0) d))],[]⟩) (ids:=[]) (λ_ _ _ _ _ s x1 t h=>?_);apply kI Z h<;>intro h
 .obtain⟨c10,h⟩:=B9 h;obtain⟨y4,e4,h⟩:=A7 h;refine A8 Z [] c10 (GR Z Y e4) ?_;refine Ug Z h fun h=>?_;exact t _ [] _ _ Jy h
 refine kB Z (A3 Z) Jy Jy 6 (.o (.a (decide (c<0))) (.a (decide ((i.Sz.n:Int)<=c)))) ?_;refine Ug Z h fun h=>?_;refine Ug Z h fun h=>?_;obtain⟨y5,e5,h⟩:=A7 h;refine A8 Z [] (by decide:(3:Nat)<=5) (Dx Z Y e5) ?_;refine Nb Z Jy h (λx8 x9 j=>⟨[(62,pN j),(61,pN (d.n:Int)),(60,.p (vSl 1 (cL 2 A0) d)),(16,pN x9),(15,pN x8),(14,.p (vSl 1 (cL 18 B3) y5)),(4,.p (.ptr (A9 i))),(3,pN f),(2,pN c)],[]⟩) (ids:=[]) (λ_ _ _ _ _ u x8 x9 j r h=>?_);apply kI Z h<;>intro h
 .obtain⟨c69,h⟩:=B9 h;refine G2 Z c69 h (λl m=>⟨[(74,pN m),(73,pN ((i.Sz.g c.toNat).Ua.n:Int)),(72,.p (vSl 2 F2 (i.Sz.g c.toNat).Ua)),(62,pN j),(61,pN (d.n:Int)),(60,.p (vSl 1 (cL 2 A0) d)),(19,pN l),(18,.p (vSl 2 A0 (d.g j.toNat))),(17,pN j),(16,pN x9),(15,pN x8),(14,.p (vSl 1 (cL 18 B3) y5)),(4,.p (.ptr (A9 i))),(3,pN f),(2,pN c)],[]⟩) (ids:=[]) (λ_ _ _ _ _ v l m q h=>?_);apply kI Z h<;>intro h
  .obtain⟨c81,h⟩:=B9 h;refine ZC Z (Qe c81 Mn) 22000 [.bb ((i.Sz.g c.toNat).Ua.g m.toNat).Has,vSl 2 A0 ((i.Sz.g c.toNat).Ua.g m.toNat).W] ?_;refine B5 Z Jy [1,5,6,9,10] ?_;refine S7 Jy (b:=((i.Sz.g c.toNat).Ua.g m.toNat).Has) (λc82=>?_) (λc82=>?_)
   .replace h:=itT c82 h;obtain⟨c83,h⟩:=B9 h;obtain⟨w,e17,h⟩:=A7 h;refine F7 (Qe c83 Mn) (AZ Z Y e17) ?_;refine C7 Jy ?_;apply kI Z h<;>intro h
    .exact q _ [] _ _ _ Jy h
    exact q _ [] _ l _ Jy h
   replace h:=itF c82 h;refine C7 Jy ?_;exact q _ [] _ l _ Jy h
  refine kB Z (A3 Z) Jy Jy 4 (.o (.a (j==0)) (.a (decide (l<x9)))) ?_;apply kI Z h<;>intro h
  .exact r _ [] _ j l _ Jy h
  exact r _ [] _ x8 x9 _ Jy h
 cases h;exact kR Z
def Gm (N:Nat)(q0:B4)(q1:Sl (Sl Law)):Option (List (G3)):= O7 N (λb (x2:Int)=>if (decide (x2<(q0.Sz.n:Int))) then if ((0:Int)<=x2/\x2<(q0.Sz.n:Int))then O7 N (λa (x4:Int)=>if (decide (x4<((q0.Sz.g x2.toNat).Ua.n:Int))) then if ((0:Int)<=x4/\x4<((q0.Sz.g x2.toNat).Ua.n:Int))then if (((0:Int)<=x4/\x4<(q1.n:Int))/\((0:Int)<=x2/\x2<(q0.Sg.n:Int)))then (I5 N (q1.g x4.toNat) (q0.Sg.g x2.toNat) ((q0.Sz.g x2.toNat).Ua.g x4.toNat)).bind λy9=>if y9 then Dk (⟨x2,x4⟩:G3) (a (wrap .i64 (x4+1))) else a (wrap .i64 (x4+1)) else none else none else b (wrap .i64 (x2+1))) 0 else none else some []) 0
theorem SR {q0:B4}{q1:Sl (Sl Law)}{L:List (G3)}(h:Gm N q0 q1=some L) :FQ S FX [] [.reg 0 0,.reg 1 0] [.cells ((A9 q0).map .p),.cells [.p (vSl 1 (cL 18 B3) q1)]] (L.map (λ(x:G3)=>[(λx=>.agg (D8 x)) x])):=by
 unfold Gm at h;refine Fm Z func97 ?_;refine DQ Z Jy h (λx2 L1=>⟨[(11,pN x2),(10,pN (q0.Sz.n:Int)),(9,.p (vSl 2 H0 q0.Sz)),(2,.reg 1 0),(1,.reg 0 0),(0,.yf 2)],[(2,.yld (L1.map (λ(x:G3)=>[(λx=>.agg (D8 x)) x])) true),(1,.cells [.p (vSl 1 (cL 18 B3) q1)]),(0,.cells ((A9 q0).map .p))]⟩) (ids:=(Qc [0,1,2])) (λ_ _ _ _ _ f x2 L1 i h=>?_);apply kI Z h<;>intro h
 .obtain⟨c78,h⟩:=B9 h;refine DQ Z (Qe c78 Mn) h (λx4 L16=>⟨[(19,pN x4),(18,pN ((q0.Sz.g x2.toNat).Ua.n:Int)),(17,.p (vSl 2 F2 (q0.Sz.g x2.toNat).Ua)),(11,pN x2),(10,pN (q0.Sz.n:Int)),(9,.p (vSl 2 H0 q0.Sz)),(4,pN x2),(2,.reg 1 0),(1,.reg 0 0),(0,.yf 2)],[(2,.yld (L16.map (λ(x:G3)=>[(λx=>.agg (D8 x)) x])) true),(1,.cells [.p (vSl 1 (cL 18 B3) q1)]),(0,.cells ((A9 q0).map .p))]⟩) (ids:=(Qc [0,1,2])) (λ_ _ _ _ _ j x4 L16 d h=>?_);apply kI Z h<;>intro h
  .obtain⟨c104,h⟩:=B9 h;refine ZC Z (Qe c104 Mn) 8000 [.bb ((q0.Sz.g x2.toNat).Ua.g x4.toNat).Has,vSl 2 A0 ((q0.Sz.g x2.toNat).Ua.g x4.toNat).W] ?_;refine Bl9 Z Jy 16 [(0,.l [1]),(2,.n),(3,.n),(5,.l [0]),(7,.n),(8,.n),(9,.n),(10,.n)] ?_;obtain⟨c105,h⟩:=B9 h;obtain⟨y9,e9,h⟩:=A7 h;refine F7 (Qe (Qe (Qe c105.1 c105.2) Mn) Mn) (AZ Z Y e9) ?_;refine S7 Jy (b:=y9) (λc106=>?_) (λc106=>?_)
   .replace h:=itT c106 h;refine C7 Jy ?_;refine FS Z Jy (b:=true) (λc109=>?_) (λc109=>?_)
    .obtain⟨L22,rfl,c⟩:=Ou h;replace h:=c;refine DP Z Jy (ys:=(λ(x:G3)=>[(λx=>.agg (D8 x)) x]) (⟨x2,x4⟩:G3)) (rest:=L22.map (λ(x:G3)=>[(λx=>.agg (D8 x)) x])) ?_ ?_
     .refine C6 Z Jy (b:=false) (λc110=>?_) (λc110=>?_)
      .exact Bool.noConfusion ((rfl:false=false).symm.trans c110)
      exact d _ (Qc [0,1,2]) _ _ L22 Jy h
     refine C6 Z Jy (b:=true) (λc111=>?_) (λc111=>?_)
     .exact kO Z Jy (a:=.tup []) (objs:=[(.cells ((A9 q0).map .p)),.cells [.p (vSl 1 (cL 18 B3) q1)],.yld [] false]) [0,1,2] ⟨false,rfl,rfl,_,rfl⟩
     exact Bool.noConfusion (Ow.symm.trans c111)
    exact Bool.noConfusion (Ow.symm.trans c109)
   replace h:=itF c106 h;refine C7 Jy ?_;refine FS Z Jy (b:=false) (λc114=>?_) (λc114=>?_)
   .exact Bool.noConfusion ((rfl:false=false).symm.trans c114)
   exact d _ (Qc [0,1,2]) _ _ L16 Jy h
  exact i _ (Qc [0,1,2]) _ _ L16 Jy h
 obtain rfl:=A6 h;exact kO Z Jy (a:=.tup []) (objs:=[(.cells ((A9 q0).map .p)),.cells [.p (vSl 1 (cL 18 B3) q1)],.yld [] true]) [0,1,2] ⟨true,rfl,rfl,_,rfl⟩
def Iu (N:Nat)(b:B4)(a:Sl (Sl Law)):Option (B4×(Sl (Sl Law))):= some (b,a)
theorem XP {b:B4}{a:Sl (Sl Law)}{y:B4×(Sl (Sl Law))}(h:Iu N b a=some y) :Qi S Nr [.p (.agg (A9 b)),.p (vSl 1 (cL 18 B3) a)] [] (.clo FX [] [.reg 0 0,.reg 1 0]) ([.cells ((A9 y.1).map .p),.cells [.p (vSl 1 (cL 18 B3) y.2)]]) []:=by unfold Iu at h;refine A1 Z func67 ?_;obtain rfl:=A6 h;exact kO Z Jy [3000,4000]
def Iv (N:Nat)(a:B4):Option ((Sl Lm)×Int):= (Y9 N a).bind λy1=>if (y1 != 0) then some ((Sl.nil:Sl Lm),y1) else (T0 N a.Sv).bind λy2=>(Iu N a y2).bind λy3=>(Gm N y3.1 y3.2).bind λL1=>(Z5 N L1).bind λy4=>(DY N a).bind λy5=>(CO N y5).bind λL2=>T9 L2 (λb (x1:G3×Sv) (z1:Sl Lm)=>(T0 N x1.2).bind λd=>O7 N (λc (x5:Int)=>if (decide (x5<(y4.n:Int))) then if (((0:Int)<=x5/\x5<(y4.n:Int))/\x5.toNat<y4.n)then if (((((0:Int)<=(y4.g x5.toNat).a1/\(y4.g x5.toNat).a1<(d.n:Int))/\((0:Int)<=(y4.g x5.toNat).a0/\(y4.g x5.toNat).a0<(a.Sg.n:Int)))/\((0:Int)<=(y4.g x5.toNat).a0/\(y4.g x5.toNat).a0<(a.Sz.n:Int)))/\((0:Int)<=(y4.g x5.toNat).a1/\(y4.g x5.toNat).a1<((a.Sz.g (y4.g x5.toNat).a0.toNat).Ua.n:Int)))then (I5 N (d.g (y4.g x5.toNat).a1.toNat) (a.Sg.g (y4.g x5.toNat).a0.toNat) ((a.Sz.g (y4.g x5.toNat).a0.toNat).Ua.g (y4.g x5.toNat).a1.toNat)).bind λf=>if (!f) then if (Qd 32 (z1.n+(Sl.of [(⟨x1.1.a0,x1.1.a1,(y4.g x5.toNat).a0,(y4.g x5.toNat).a1⟩:Lm)]:Sl Lm).n))then b (z1.push (⟨x1.1.a0,x1.1.a1,(y4.g x5.toNat).a0,(y4.g x5.toNat).a1⟩:Lm)) else none else c (wrap .i64 (x5+1)) else none else none else b z1) 0) (λ(z1:Sl Lm)=>some (z1,0)) (Sl.nil:Sl Lm)
theorem XQ {b:B4}{y:(Sl Lm)×Int}(h:Iv N b=some y) :Qi S No [.p (.agg (A9 b))] [] (.tup [.vec 0,pN y.2]) ([oV HA 4 Z9 y.1 true]) []:=by
 unfold Iv at h;refine A1 Z func36 ?_;refine D9 Z Jy 2 2000 (A9 b) ?_;obtain⟨y1,e1,h⟩:=A7 h;refine A8 Z [] (by decide:(8:Nat)<=8) (GW Z Y e1) ?_;apply kI Z h<;>intro h
 .obtain rfl:=A6 h;exact kO Z Jy [3700]
 refine I0 Z Jy [(0,.n),(2,.n),(3,.n),(4,.a [22000,22001]),(5,.a [22000,22001,23000,23001,23002]),(6,.a [6000]),(7,.a [6000,23000])] ?_;obtain⟨y2,e2,h⟩:=A7 h;refine F7 (Qe (by decide:(8:Nat)<=8) (by decide:(3:Nat)<=5)) (Dx Z Y e2) ?_;obtain⟨y3,e3,h⟩:=A7 h;refine IM [] Jy (XP Z Y e3) ?_;obtain⟨L1,e4,h⟩:=A7 h;obtain⟨y4,e5,h⟩:=A7 h;refine WX [22000,22001] Jy (Ir Z Y ⟨_,func97,by decide +kernel,by decide +kernel⟩ (SR Z Y e4) e5) ?_;refine C7 Jy ?_;obtain⟨y5,e6,h⟩:=A7 h;refine A8 Z [] (by decide:(8:Nat)<=8) (OH Z Y e6) ?_;obtain⟨L2,e7,h⟩:=A7 h;refine Js Z Jy [25000] [6,5,1] 901 (λz1=>⟨[(6,.reg 7000 0),(5,.reg 6000 0),(1,.p (.ptr (A9 b)))],[(23000,oV BF 2 D8 y4 false),(7500,oV HA 4 Z9 z1 false),(7000,.cells [.vec 7500]),(6000,.cells [.vec 23000])]⟩) (idl:=(Qc [6000,7000,23000])) h (Mx Z Y e7) (λ_=>by kernel_rfl) (λ_=>by kernel_rfl) (λ_=>by kernel_rfl) (λ_=>by kernel_rfl) (λx1 _ d z1 c h=>?_) (λz1 h=>?_)
 .refine D9 Z Jy 8 8000 [pI .i64 x1.1.a0,pI .i64 x1.1.a1] ?_;refine Nc Z Jy ?_;refine D9 Z Jy 27 9000 (B0 x1.2) ?_;obtain⟨f,e16,h⟩:=A7 h;refine A8 Z [] Mo (Dx Z Y e16) ?_;refine F1 Z Jy h (λx5=>⟨[(31,pN x5),(30,pN (y4.n:Int)),(29,.vec 23000),(9,.p (vSl 1 (cL 18 B3) f)),(7,.p (.ptr [pI .i64 x1.1.a0,pI .i64 x1.1.a1])),(6,.reg 7000 0),(1,.p (.ptr (A9 b)))],[(23000,oV BF 2 D8 y4 false),(7500,oV HA 4 Z9 z1 false),(7000,.cells [.vec 7500]),(6000,.cells [.vec 23000]),(901,.ghost [.reg 7000 0,.reg 6000 0,.p (.ptr (A9 b))])]⟩) (ids:=(Qc [901,6000,7000,7500,23000])) (λ_ _ _ _ _ i x5 j h=>?_);apply kI Z h<;>intro h
  .obtain⟨c35,h⟩:=B9 h;refine I0 Z (Qe (Qe c35.1 Mn) c35.2) [(1,.l [12000]),(2,.l [12000]),(3,.n),(4,.n),(6,.n),(7,.l [12000]),(8,.l [12000]),(9,.n),(10,.n),(12,.n),(13,.l [12000]),(14,.l [12000]),(15,.n),(17,.n),(18,.l [12000]),(19,.l [12000]),(20,.n),(21,.n),(22,.n)] ?_;obtain⟨c36,h⟩:=B9 h;obtain⟨m,e19,h⟩:=A7 h;refine F7 (Qe (Qe (Qe (Qe (Qe (Qe (Qe (Qe (Qe (by decide:(0:Int)<=1/\(1:Int)<2) c36.1.1.1) (by decide:(0:Int)<=0/\(0:Int)<2)) c36.1.1.2) Mn) (by decide:(0:Int)<=0/\(0:Int)<2)) c36.1.2) (by decide:(0:Int)<=1/\(1:Int)<2)) c36.2) Mn) (AZ Z Y e19) ?_;refine C7 Jy ?_;apply kI Z h<;>intro h
   .refine D9 Z Jy 59 12000 [pI .i64 (y4.g x5.toNat).a0,pI .i64 (y4.g x5.toNat).a1] ?_;obtain⟨c38,h⟩:=B9 h;exact c _ [(901,901),(6000,6000),(7000,7000),(7500,71000),(23000,23000)] _ (z1.push (⟨x1.1.a0,x1.1.a1,(y4.g x5.toNat).a0,(y4.g x5.toNat).a1⟩:Lm)) (Qe (Qe (Qe (Qe (Qe (by decide:(0:Int)<=0/\(0:Int)<2) (by decide:(0:Int)<=1/\(1:Int)<2)) (by decide:(0:Int)<=0/\(0:Int)<2)) (by decide:(0:Int)<=1/\(1:Int)<2)) Ow) c38) h (hle:=kl1 1 (R7 Z9 z1 (⟨x1.1.a0,x1.1.a1,(y4.g x5.toNat).a0,(y4.g x5.toNat).a1⟩:Lm) [pI .i64 0,pI .i64 0,pI .i64 0,pI .i64 0]))
   refine D9 Z Jy 71 12000 [pI .i64 (y4.g x5.toNat).a0,pI .i64 (y4.g x5.toNat).a1] ?_;exact j _ (Qc [901,6000,7000,7500,23000]) _ _ Jy h
  exact c _ (Qc [901,6000,7000,7500,23000]) _ z1 Jy h
 obtain rfl:=A6 h;exact kO Z Jy [7500]
def EH (N:Nat)(b:B4)(a:Int):Option (Nh×Int):= (Dw N b a).bind λy1=>if (y1 != 0) then some ((⟨(Sl.nil:Sl C9),(Sl.nil:Sl Lm)⟩:Nh),y1) else (JY N b.Sv b.Sg b.Sz a).bind λy2=>(Iv N b).bind λy3=>some ((⟨y2.1,y3.1⟩:Nh),0)
theorem Ke {b:B4}{a:Int}{y:Nh×Int}(h:EH N b a=some y) :Qi S Ph [.p (.agg (A9 b)),pN a] [] (.tup [.p (.agg (Rr y.1)),pN y.2]) ([]) []:=by
 unfold EH at h;refine A1 Z func13 ?_;refine kC Z h (NP Z Y) (λy1 h=>?_);apply kI Z h<;>intro h
 .obtain rfl:=A6 h;exact P3 Z Jy ⟨[(5,pN y1),(4,.reg 5000 0)],[(5000,.cells [.p (vSl 4 D1 (Sl.nil:Sl C9)),.p (vSl 4 Z9 (Sl.nil:Sl Lm))])]⟩ [] (ids:=[(5000,5000)]) ⟨rfl,rfl,rfl⟩
 refine kC Z h (Ad7 Z Y) (λy2 h=>?_);refine kC Z h (XQ Z Y) (λy3 h=>?_);obtain rfl:=A6 h;exact P3 Z Jy ⟨[(5,pN 0),(4,.reg 5000 0)],[(5000,.cells [.p (vSl 4 D1 y2.1),.p (vSl 4 Z9 y3.1)])]⟩ [] (ids:=[(5000,5000)]) ⟨rfl,rfl,rfl⟩
def Eo (N:Nat)(c:B4)(a:Int)(b:Nh):Option (Bool×Int):= (EH N c a).bind λy1=>if (y1.2 != 0) then some (false,y1.2) else (G8 N y1.1.Bad b.Bad).bind λy2=>lt (λ(z1:Bool)=>some (z1,0)) λk1=>if y2 then (L7 N y1.1.Sw b.Sw).bind λy4=>k1 y4 else k1 false
theorem LU {b:B4}{a:Int}{c:Nh}{y:Bool×Int}(h:Eo N b a c=some y) :Qi S Lo [.p (.agg (A9 b)),pN a,.p (.agg (Rr c))] [] (.tup [pB y.1,pN y.2]) ([]) []:=by
 unfold Eo at h;refine A1 Z func14 ?_;refine kC Z h (Ke Z Y) (λy1 h=>?_);refine Ug Z h fun h=>?_;refine kC Z h (Y1 Z Y) (λy2 h=>?_);refine GN Z Jy (A3 Z) h 0 (λz1=>⟨[(7,pN 0),(6,pB z1)],[]⟩) (λM1 k1 d h=>?_) (λz1 h=>?_)
 .refine kG Z h (λh=>?_) (λh=>?_)
  .refine kC Z h (CP Z Y) (λy4 h=>?_);exact d _ [] _ y4 Jy h
  exact d _ [] _ _ Jy h
 cases h;exact kR Z
abbrev PM (s:Str):Nat->List PV:=λi=>[.v (.int .u8 ((s.getD i 0).toNat:Nat))]
theorem XR {s:Str}{u n:Nat}{f:Nat->List PV}(hc:(n+s.length)*1<=140737488355328/\n+s.length<=140737488355328) :Qi S Aa [.reg 0 0,.p (.str s)] [.blk [0,109,u] 1,.vec H8 1 n f false] (.tup [pN (s.length:Int),.p (.v .nilIface)]) [.blk [0,109,1] 1,.vec H8 1 (n+s.length) (DF n f (PM s)) false] [true,false]:=by refine A1 Z func42 ?_;refine A8 Z [0,1] Jy (Y.copyCheck 109 u n f rfl) ?_;exact kO Z hc [0,15000]
theorem w_Len {u n:Nat}{f:Nat->List PV}:Qi S Ey [.reg 0 0] [.blk [0,109,u] 1,.vec H8 1 n f false] (pN (n:Int)) [.blk [0,109,u] 1,.vec H8 1 n f false] [true,true]:=by refine A1 Z func47 ?_;exact kO Z Jy [0,1]
theorem Bn3 {N:Nat}{ws:Sl Str}{j:Str}{u n:Nat}{f:Nat->List PV}(b:W5 N ws [32]=some j)(hc:(n+(j++[10]).length)*1<=140737488355328/\n+(j++[10]).length<=140737488355328) :Qi S BR [.p (vSl 1 cS ws),.reg 0 0] [.blk [0,109,u] 1,.vec H8 1 n f false] (.tup []) [.blk [0,109,1] 1,.vec H8 1 (n+(j++[10]).length) (DF n f (PM (j++[10]))) false] [true,false]:=by
 have a:((j.length+([10]:Str).length:Nat):Int)<=9223372036854775807:=by have h1:=hc.2;rw[BW7]at h1;have c:([10]:Str).length=1:=rfl;omega
 refine A1 Z func41 ?_;refine A8 Z [] Jy (Uw Z Y b) ?_;refine A8 Z [0,1] a (XR Z Y (u:=u) (f:=f) hc) ?_;exact kO Z Jy [0,7001]
end Go.AM
namespace Go.AM
open IntKind (wrap)
open Go.Proofs
set_option maxRecDepth 10000
set_option maxHeartbeats 4000000
abbrev J0 (a b:G3):Bool:=(a.a0==b.a0&&a.a1==b.a1)
def Bn4 (a b:G3)(h:J0 a b=true):a=b:=by cases a;cases b;simpa[J0]using h
def SS {κ ν : Type}{kP : κ -> PV}{vP : ν -> PV}[Inhabited κ][Inhabited ν]:∀(l:List (κ × ν)) (i:Nat),i<l.length->(DH kP vP l).getD i default=(kP (l.getD i default).1,vP (l.getD i default).2)
 |p::l,0,_=>rfl
 |p::l,i+1,h=>SS l i (Nat.lt_of_succ_lt_succ h)
variable {S:W9}(Z:H6 S Tryz.prog) (Y:KY S)
include Z Y
def Iw (N:Nat)(d:B4)(a:Nh):Option (Bool×Int):= (EH N d 0).bind λy1=>if (y1.2 != 0) then some (false,y1.2) else Y4 N (λc (x1:List (G3×Int)) (x2:Int)=>if (decide (x2<(y1.1.Bad.n:Int))) then if ((0:Int)<=x2/\x2<(y1.1.Bad.n:Int))then c (GL J0 (⟨(y1.1.Bad.g x2.toNat).Ub,(y1.1.Bad.g x2.toNat).Sd⟩:G3) 0 x1) (wrap .i64 (x2+1)) else none else Y4 N (λb (x3:List (G3×Int)) (x4:Int)=>if (decide (x4<(a.Bad.n:Int))) then if ((0:Int)<=x4/\x4<(a.Bad.n:Int))then Jo (O1 J0 (⟨(a.Bad.g x4.toNat).Ub,(a.Bad.g x4.toNat).Sd⟩:G3) x3) (some (false,0)) λv5=>Jo (O1 J0 (⟨(a.Bad.g x4.toNat).Ub,(a.Bad.g x4.toNat).Sd⟩:G3) x3) (b (GL J0 (⟨(a.Bad.g x4.toNat).Ub,(a.Bad.g x4.toNat).Sd⟩:G3) (wrap .i64 (0+1)) x3) (wrap .i64 (x4+1))) λv6=>b (GL J0 (⟨(a.Bad.g x4.toNat).Ub,(a.Bad.g x4.toNat).Sd⟩:G3) (wrap .i64 (v6+1)) x3) (wrap .i64 (x4+1)) else none else some (!(x3.any λe=>e.2==0),0)) x1 0) [] 0
theorem XS {N:Nat}{j:B4}{d:Nh}{y:Bool×Int}(h:Iw N j d=some y) :Qi S Nk [.p (.agg (A9 j)),.p (.agg (Rr d))] [] (.tup [pB y.1,pN y.2]) ([]) []:=by
 unfold Iw at h;refine A1 Z Tryz.func18 ?_;refine D9 Z Jy 3 3000 (A9 j) ?_;refine D9 Z Jy 4 4000 [vSl 4 D1 d.Bad,vSl 4 Z9 d.Sw] ?_;obtain⟨y1,e1,h⟩:=A7 h;refine A8 Z [] (by decide:(8:Nat)<=8) (Ke Z Y e1) ?_;refine D9 Z Jy 7 7000 [vSl 4 D1 y1.1.Bad,vSl 4 Z9 y1.1.Sw] ?_;refine Ug Z h fun h=>?_;refine G2 Z Jy h (λx1 x2=>⟨[(30,pN x2),(29,pN (y1.1.Bad.n:Int)),(28,.p (vSl 4 D1 y1.1.Bad)),(8,.Sc 27000),(3,.p (.ptr [vSl 4 D1 d.Bad,vSl 4 Z9 d.Sw]))],[(27000,oM (λx=>.agg (D8 x)) (pI .i64) x1)]⟩) (ids:=[(27000,27000)]) (λ_ _ _ _ _ v x1 x2 w h=>?_);apply kI Z h<;>intro h
 .obtain⟨c7,h⟩:=B9 h;refine D9 Z (Qe c7 Mq) 34 11000 (D1 (y1.1.Bad.g x2.toNat)) ?_;refine AH8 Z Jy BF (λx=>.agg (D8 x)) (pI .i64) J0 (⟨(y1.1.Bad.g x2.toNat).Ub,(y1.1.Bad.g x2.toNat).Sd⟩:G3) 0 x1 (by decide +kernel:(!Tryz.prog.eqGuardType Tryz.prog.depth BF)=true) ?_;exact w _ [(27000,27000)] _ _ _ Jy h
 refine G2 Z Jy h (λx3 x4=>⟨[(44,pN x4),(43,pN (d.Bad.n:Int)),(42,.p (vSl 4 D1 d.Bad)),(8,.Sc 27000)],[(27000,oM (λx=>.agg (D8 x)) (pI .i64) x3)]⟩) (ids:=[(27000,27000)]) (λ_ _ _ _ _ a0 x3 x4 a1 h=>?_);apply kI Z h<;>intro h
 .obtain⟨c17,h⟩:=B9 h;refine D9 Z (Qe c17 Mq) 48 13000 (D1 (d.Bad.g x4.toNat)) ?_;refine D9 Z Jy 54 14000 [pI .i64 (d.Bad.g x4.toNat).Ub,pI .i64 (d.Bad.g x4.toNat).Sd] ?_;rcases o5:O1 J0 (⟨(d.Bad.g x4.toNat).Ub,(d.Bad.g x4.toNat).Sd⟩:G3) x3 with _|v5
  .replace h:=Ai4 o5 h;refine Am5 Z Mn BF D2 (λx=>.agg (D8 x)) (pI .i64) J0 o5 (pI .i64 0) (by decide +kernel:(!Tryz.prog.eqGuardType Tryz.prog.depth BF)=true) ?_;refine C6 Z Jy (b:=true) (λc18=>?_) (λc18=>?_)
   .cases h;exact kR Z
   exact Bool.noConfusion (Ow.symm.trans c18)
  replace h:=Zq o5 h;refine Am4 Z Mn BF D2 (λx=>.agg (D8 x)) (pI .i64) J0 o5 (by decide +kernel:(!Tryz.prog.eqGuardType Tryz.prog.depth BF)=true) ?_;refine C6 Z Jy (b:=false) (λc19=>?_) (λc19=>?_)
  .exact Bool.noConfusion ((rfl:false=false).symm.trans c19)
  refine I0 Z Jy [(1,.n),(2,.l [27000]),(4,.l [27000]),(6,.a [27000])] ?_;rcases o6:O1 J0 (⟨(d.Bad.g x4.toNat).Ub,(d.Bad.g x4.toNat).Sd⟩:G3) x3 with _|v6
  .exact Hc (o5.symm.trans o6) (by simp)
  replace h:=Zq o6 h;refine Bm5 Mn BF D2 (λx=>.agg (D8 x)) (pI .i64) J0 o6 (by decide +kernel:(!Tryz.prog.eqGuardType Tryz.prog.depth BF)=true) ?_;have ha:=ZG Bn4 (z:=(0:Int)) o6;refine Bm2 Jy (kt:=BF) (key:=(λx=>.agg (D8 x)) (⟨(d.Bad.g x4.toNat).Ub,(d.Bad.g x4.toNat).Sd⟩:G3)) (z:=pI .i64 0) (y:=pI .i64 v6) (es:=DH (λx=>.agg (D8 x)) (pI .i64) x3) (i:=(Ju J0 (⟨(d.Bad.g x4.toNat).Ub,(d.Bad.g x4.toNat).Sd⟩:G3) (0:Int) x3).1) (by have:=QD (kP:=λx=>.agg (D8 x)) (vP:=pI .i64) (cmp:=KP Tryz.prog BF) (eq:=J0) (λ_ _=>by kernel_rfl) (⟨(d.Bad.g x4.toNat).Ub,(d.Bad.g x4.toNat).Sd⟩:G3) 0 x3;rw[ha]at this;exact this) (by decide +kernel:(!Tryz.prog.eqGuardType Tryz.prog.depth BF)=true) ?_;refine WV Jy (i:=(Ju J0 (⟨(d.Bad.g x4.toNat).Ub,(d.Bad.g x4.toNat).Sd⟩:G3) (0:Int) x3).1) (y:=pI .i64 (wrap .i64 (v6+1))) (es:=DH (λx=>.agg (D8 x)) (pI .i64) x3) (es':=DH (λx=>.agg (D8 x)) (pI .i64) (GL J0 (⟨(d.Bad.g x4.toNat).Ub,(d.Bad.g x4.toNat).Sd⟩:G3) (wrap .i64 (v6+1)) x3)) (by have:=Mk J0 (⟨(d.Bad.g x4.toNat).Ub,(d.Bad.g x4.toNat).Sd⟩:G3) 0 x3;rw[ha]at this;rw[CM];exact this) (by have:=(Nd (Ju J0 (⟨(d.Bad.g x4.toNat).Ub,(d.Bad.g x4.toNat).Sd⟩:G3) (0:Int) x3).2.2 (Ju J0 (⟨(d.Bad.g x4.toNat).Ub,(d.Bad.g x4.toNat).Sd⟩:G3) (0:Int) x3).1 (wrap .i64 (v6+1)) (Mk J0 (⟨(d.Bad.g x4.toNat).Ub,(d.Bad.g x4.toNat).Sd⟩:G3) 0 x3)).trans (congrArg (DH (λx=>.agg (D8 x)) (pI .i64)) (Nf J0 (⟨(d.Bad.g x4.toNat).Ub,(d.Bad.g x4.toNat).Sd⟩:G3) 0 (wrap .i64 (v6+1)) x3));rw[ha]at this;exact this) ?_;refine C7 Jy ?_;exact a1 _ [(27000,27000)] _ _ _ Jy h
 refine BN5 Z Jy (DH (λx=>.agg (D8 x)) (pI .i64) x3).length (λi=>(x3.getD i default).2≠0) (λs=>⟨[(69,.reg 70000 0)],[(70000,.blk (1::(DH (λx=>.agg (D8 x)) (pI .i64) x3).length::(DH (λx=>.agg (D8 x)) (pI .i64) x3).length::s) 27000),(27000,oM (λx=>.agg (D8 x)) (pI .i64) x3)]⟩) (ids:=(Qc [27000,70000])) (λX s' J m k seen o a2=>?_);refine BN1 Z Jy (cl:=(DH (λx=>.agg (D8 x)) (pI .i64) x3).length) (last:=(DH (λx=>.agg (D8 x)) (pI .i64) x3).length) (seen:=seen) (es:=DH (λx=>.agg (D8 x)) (pI .i64) x3) rfl (BT8 _) (ky:=λi=>.agg (D8 (x3.getD i default).1)) (vl:=λi=>pI .i64 (x3.getD i default).2) (λi f=>SS x3 i (by rw[CM]at f;exact f)) (λr=>?_) (λi f a3=>?_)
 .have a4:(x3.any λe=>e.2==0)=false:=by rw[List.any_eq_false];intro e he h0;obtain⟨i,f,rfl⟩:=Ca0 he;have h1:=(o i (r i (by rw[CM];exact f))).2;rw[BT0,BT4 f]at h1;exact h1 (by simpa using h0)
  rw[a4]at h;refine C6 Z Jy (b:=false) (λc18=>Bool.noConfusion c18) (λc18=>?_);cases h;exact kR Z
 have q : i<x3.length:=by rw[CM]at f;exact f
 have t:((DH (λx=>.agg (D8 x)) (pI .i64) x3).getD i default)=((λx=>PV.agg (D8 x)) (x3.getD i default).1,pI .i64 (x3.getD i default).2):=SS x3 i q;refine C6 Z Jy (b:=true) (λ_=>?_) (λc=>Bool.noConfusion c);refine BN4 Z Jy 72 (last:=(DH (λx=>.agg (D8 x)) (pI .i64) x3).length) (i:=i) (es:=DH (λx=>.agg (D8 x)) (pI .i64) x3) rfl f (.agg (D8 (x3.getD i default).1)) (pI .i64 (x3.getD i default).2) t ?_;refine C6 Z Jy (b:=(x3.getD i default).2==0) (λc=>?_) (λc=>?_)
 .have u:(x3.any λe=>e.2==0)=true:=by refine List.any_eq_true.2 ⟨x3.getD i default,?_,c⟩;rw[BT0,BT4 q];exact Ci3 q
  rw[u]at h;cases h;exact kR Z
 exact a2 _ (Qc [27000,70000]) _ i Jy f a3 (λh0=>by rw[h0]at c;cases c)
end Go.AM
