/- Part 9. -/
import Derived.Test.YtnpnbnncocgaeaaGreatDoorZH
set_option linter.unusedSimpArgs false
set_option linter.unusedVariables false
set_option linter.unusedSectionVars false
namespace Go.AM
open Go.Proofs.Tryz
variable {N:Nat}
open IntKind (wrap)
open Go.Proofs
set_option maxRecDepth 10000
set_option maxHeartbeats 2000000
variable {S:W9}(Z:H6 S Tryz.prog) (Y:KY S)
include Z Y
def Fq (N:Nat)(c:B4)(d:Sv)(a:Int)(b:Int):Option Bool:= if ((((0:Int)<=a/\a<(c.Sz.n:Int))/\((0:Int)<=b/\b<((c.Sz.g a.toNat).Ua.n:Int)))/\((0:Int)<=a/\a<(c.Sg.n:Int)))then if ((!((c.Sz.g a.toNat).Ua.g b.toNat).Has)||(!(c.Sg.g a.toNat).Has)) then some false else (AT N d.Tree).bind λy1=>if (((0:Int)<=b/\b<(y1.1.n:Int))/\b.toNat<y1.1.n)then (KL N d (c.Sg.g a.toNat).W (y1.1.g b.toNat)).bind λy2=>lt (λ(z1:Bool)=>some z1) λk1=>if (y2.2==0) then (Gu N y2.1 ((c.Sz.g a.toNat).Ua.g b.toNat).W).bind λy4=>k1 y4 else k1 false else none else none
theorem XX {d:B4}{f:Sv}{b:Int}{c:Int}{y:Bool}(h:Fq N d f b c=some y) :Qi S Nq [.p (.agg (A9 d)),.p (.agg (B0 f)),pN b,pN c] [] (pB y) ([]) []:=by
 unfold Fq at h;refine A1 Z func55 ?_;refine D9 Z Jy 5 5000 (A9 d) ?_;refine D9 Z Jy 8 6000 (B0 f) ?_;refine I0 Z Jy [(1,.n),(3,.n),(5,.n),(7,.n),(8,.n),(10,.n),(12,.n),(13,.n),(14,.a [10000]),(15,.a [11000]),(16,.a [10000]),(17,.a [11000])] ?_;obtain⟨c1,h⟩:=B9 h;refine C7 (Qe (Qe (Qe (Qe c1.1.1 c1.1.2) Mn) c1.2) Mn) ?_;refine D9 Z Jy 29 10000 [.bb ((d.Sz.g b.toNat).Ua.g c.toNat).Has,vSl 2 A0 ((d.Sz.g b.toNat).Ua.g c.toNat).W] ?_;refine D9 Z Jy 29 11000 [.bb (d.Sg.g b.toNat).Has,vSl 2 A0 (d.Sg.g b.toNat).W] ?_;refine kB Z (A3 Z) Jy Jy 4 (.o (.a (!((d.Sz.g b.toNat).Ua.g c.toNat).Has)) (.a (!(d.Sg.g b.toNat).Has))) ?_;refine Ug Z h fun h=>?_;refine kC Z h (PK Z Y) (λy1 h=>?_);refine I0 Z Jy [(0,.n),(2,.n),(5,.l [41000]),(6,.l [41000]),(7,.n)] ?_;obtain⟨c3,h⟩:=B9 h;obtain⟨y2,e2,h⟩:=A7 h;refine F7 (Qe (Qe Mo c3.1) c3.2) (Bn8 Z Y e2) ?_;refine C7 Jy ?_;refine GN Z Jy (A3 Z) h 0 (λz1=>⟨[(8,pB z1)],[]⟩) (λM1 k1 i h=>?_) (λz1 h=>?_)
 .refine kG Z h (λh=>?_) (λh=>?_)
  .refine kC Z h (As6 Z Y) (λy4 h=>?_);exact i _ [] _ y4 Jy h
  exact i _ [] _ _ Jy h
 cases h;exact kR Z
def IC (N:Nat)(b:B4)(a:Int):Option Int:= (Gt N b).bind λy1=>if (y1 != 0) then some y1 else if ((decide (a<0))||(decide (1073741824<a))) then some 2 else some 0
theorem At4 {c:B4}{b:Int}{y:Int}(h:IC N c b=some y) :Qi S RB [.p (.agg (A9 c)),pN b] [] (pN y) ([]) []:=by
 unfold IC at h;refine A1 Z func24 ?_;refine kC Z h (As5 Z Y) (λy1 h=>?_);refine Ug Z h fun h=>?_;refine kB Z (A3 Z) Jy Jy 3 (.o (.a (decide (b<0))) (.a (decide (1073741824<b)))) ?_;refine Ug Z h fun h=>?_;cases h;exact kR Z
def Ef (N:Nat)(b:B4)(a:Int)(d:Sl Qb):Option Int:= if (Qd 32 ((Sl.of []:Sl K0).n+b.Sg.n))then if (((0:Int)<=a/\a<(((Sl.of []:Sl K0).app b.Sg).n:Int))/\a.toNat<((Sl.of []:Sl K0).app b.Sg).n)then Y4 N (λc (x2:Int) (x3:Int)=>if ((0:Int)<=a/\a<(b.Sz.n:Int))then if (decide (x3<((b.Sz.g a.toNat).Ua.n:Int))) then if (((0:Int)<=a/\a<(b.Sz.n:Int))/\((0:Int)<=x3/\x3<((b.Sz.g a.toNat).Ua.n:Int)))then lt (λ(z3:Bool)=>if z3 then c (wrap .i64 (x2+1)) (wrap .i64 (x3+1)) else c x2 (wrap .i64 (x3+1))) λk3=>if ((b.Sz.g a.toNat).Ua.g x3.toNat).Has then (Fq N (⟨b.Feats,b.Sounds,b.Marks,b.Sv,((Sl.of []:Sl K0).app b.Sg).upd a.toNat (⟨true,d⟩:K0),b.Sz⟩:B4) b.Sv a x3).bind λy6=>k3 (!y6) else k3 false else none else some x2 else none) 0 0 else none else none
theorem Tb {d:B4}{a:Int}{f:Sl Qb}{y:Int}(h:Ef N d a f=some y) :Qi S RD [.p (.agg (A9 d)),pN a,.p (vSl 2 A0 f)] [] (pN y) ([]) []:=by
 unfold Ef at h;refine A1 Z func26 ?_;obtain⟨c1,h⟩:=B9 h;refine I7 Z (Qe Ow c1) 18 ⟨[(17,.p (.agg [.bb true,vSl 2 A0 f])),(15,pN a),(14,.vec 14000),(7,.vec 14000),(3,.reg 4000 0),(1,pN a)],[(14000,oV Fv 2 F2 ((Sl.of []:Sl K0).app d.Sg) false),(4000,.cells ((A9 d).map .p))]⟩ (ids:=(Qc [4000,14000])) ?_ (hle:=klR [(3,.fn (0+d.Sg.n) ((Sl.of []:Sl K0).app d.Sg).n (DF 0 (H2 [.v (.bool false),I3] []) (λi=>F2 (d.Sg.g i))) (λi=>F2 (((Sl.of []:Sl K0).app d.Sg).g i)))] (al1 ⟨rfl,Zo (c:=F2) (v:=(Sl.of []:Sl K0)) (w:=d.Sg) (λi q=>Hc q (by omega)) rfl same rfl⟩ al0));obtain⟨c2,h⟩:=B9 h;refine I7 Z (Qe c2.1 (Qe (rfl:(2:Nat)=2) (Qe c2.2 Mn))) 19 ⟨[(7,.p (vSl 2 F2 (((Sl.of []:Sl K0).app d.Sg).upd a.toNat (⟨true,f⟩:K0)))),(3,.reg 4000 0),(1,pN a)],[(4000,.cells ((A9 d).map .p))]⟩ (ids:=[(4000,4000)]) ?_ (hle:=klR [(0,.fn ((Sl.of []:Sl K0).app d.Sg).n (((Sl.of []:Sl K0).app d.Sg).upd a.toNat (⟨true,f⟩:K0)).n (λl=>if l=a.toNat then splice ((λi=>F2 (((Sl.of []:Sl K0).app d.Sg).g i)) l) 0 [.bb true,vSl 2 A0 f]else (λi=>F2 (((Sl.of []:Sl K0).app d.Sg).g i)) l) (λi=>F2 ((((Sl.of []:Sl K0).app d.Sg).upd a.toNat (⟨true,f⟩:K0)).g i)))] (al1 ⟨rfl,Az6 (c:=F2) (v:=(Sl.of []:Sl K0).app d.Sg) (x:=(⟨true,f⟩:K0)) same (λ_=>by first|rfl|(dsimp only;split<;>rfl))⟩ al0));refine G2 Z Jy h (λx2 x3=>⟨[(9,pN x3),(8,pN x2),(3,.reg 4000 0),(1,pN a)],[(4000,.cells [.p (vSl 1 cS d.Feats),.p (vSl 3 D3 d.Sounds),.p (vSl 4 R8 d.Marks),.p (vSl 2 F4 d.Sv.Tree),.p (vSl 18 B3 d.Sv.Laws),.p (vSl 1 (cL 1 (cI .i64)) d.Sv.On),.p (vSl 2 F2 (((Sl.of []:Sl K0).app d.Sg).upd a.toNat (⟨true,f⟩:K0))),.p (vSl 2 H0 d.Sz)])]⟩) (ids:=[(4000,4000)]) (λ_ _ _ _ _ o x2 x3 j h=>?_);obtain⟨c17,h⟩:=B9 h;refine C6 Z c17 (b:=decide (x3<((d.Sz.g a.toNat).Ua.n:Int))) (λc18=>?_) (λc18=>?_)
 .replace h:=itT c18 h;obtain⟨c19,h⟩:=B9 h;refine GN Z c19 (A3 Z) h 0 (λz3=>⟨[(50,pB z3),(9,pN x3),(8,pN x2),(3,.reg 4000 0),(1,pN a)],[(4000,.cells [.p (vSl 1 cS d.Feats),.p (vSl 3 D3 d.Sounds),.p (vSl 4 R8 d.Marks),.p (vSl 2 F4 d.Sv.Tree),.p (vSl 18 B3 d.Sv.Laws),.p (vSl 1 (cL 1 (cI .i64)) d.Sv.On),.p (vSl 2 F2 (((Sl.of []:Sl K0).app d.Sg).upd a.toNat (⟨true,f⟩:K0))),.p (vSl 2 H0 d.Sz)])]⟩) (λM3 k3 m h=>?_) (λz3 h=>?_)
  .refine kG Z h (λh=>?_) (λh=>?_)
   .refine kC Z h (XX Z Y) (λy6 h=>?_);exact m _ [(4000,4000)] _ _ Jy h
   exact m _ [(4000,4000)] _ _ Jy h
  apply kI Z h<;>intro h
  .exact j _ [(4000,4000)] _ _ _ Jy h
  exact j _ [(4000,4000)] _ x2 _ Jy h
 replace h:=itF c18 h;cases h;exact kR Z
def GB (N:Nat)(f:B4)(a:Sl (Sl Qb))(b:Int)(c:Int):Option (Int×Int):= (IC N f c).bind λy1=>if (y1 != 0) then some (0,y1) else if (decide (256<(a.n:Int))) then some (0,12) else O7 N (λi (x1:Int)=>if (decide (x1<(a.n:Int))) then if ((0:Int)<=x1/\x1<(a.n:Int))then (W8 N (a.g x1.toNat)).bind λy4=>if (y4 != 0) then some (0,y4) else i (wrap .i64 (x1+1)) else none else if ((decide (b<0))||(decide ((f.Sz.n:Int)<=b))) then some (0,3) else if ((a.n:Int)==0) then some (0,5) else Y4 N (λd (x3:Int) (x4:Int)=>if (decide (x4<(a.n:Int))) then if ((0:Int)<=x4/\x4<(a.n:Int))then (Ef N f b (a.g x4.toNat)).bind λj=>if ((0:Int)<=x3/\x3<(a.n:Int))then (Ef N f b (a.g x3.toNat)).bind λl=>if (decide ((wrap .i64 (j*c))<(wrap .i64 (l*c)))) then d x4 (wrap .i64 (x4+1)) else d x3 (wrap .i64 (x4+1)) else none else none else some (x3,0)) 0 0) 0
theorem At5 {f:B4}{c:Sl (Sl Qb)}{b:Int}{d:Int}{y:Int×Int}(h:GB N f c b d=some y) :Qi S Rv [.p (.agg (A9 f)),.p (vSl 1 (cL 2 A0) c),pN b,pN d] [] (.tup [pN y.1,pN y.2]) ([]) []:=by
 unfold GB at h;refine A1 Z func7 ?_;refine D9 Z Jy 8 5000 (A9 f) ?_;obtain⟨y1,e1,h⟩:=A7 h;refine A8 Z [] (by decide:(8:Nat)<=8) (At4 Z Y e1) ?_;refine Ug Z h fun h=>?_;refine Ug Z h fun h=>?_;refine F1 Z Jy h (λx1=>⟨[(11,pN x1),(4,.p (.ptr (A9 f))),(3,pN d),(2,pN b),(1,.p (vSl 1 (cL 2 A0) c))],[]⟩) (ids:=[]) (λ_ _ _ _ _ i x1 j h=>?_);apply kI Z h<;>intro h
 .obtain⟨c10,h⟩:=B9 h;obtain⟨y4,e4,h⟩:=A7 h;refine A8 Z [] c10 (Eb Z Y e4) ?_;refine Ug Z h fun h=>?_;exact j _ [] _ _ Jy h
 refine kB Z (A3 Z) Jy Jy 6 (.o (.a (decide (b<0))) (.a (decide ((f.Sz.n:Int)<=b)))) ?_;refine Ug Z h fun h=>?_;refine Ug Z h fun h=>?_;refine G2 Z Jy h (λx3 x4=>⟨[(14,pN x4),(13,pN x3),(4,.p (.ptr (A9 f))),(3,pN d),(2,pN b),(1,.p (vSl 1 (cL 2 A0) c))],[]⟩) (ids:=[]) (λ_ _ _ _ _ l x3 x4 g h=>?_);apply kI Z h<;>intro h
 .refine B5 Z Jy [0,4,5,6,9,13,14,15] ?_;obtain⟨c27,h⟩:=B9 h;obtain⟨m,e11,h⟩:=A7 h;refine F7 (Qe (by decide:(8:Nat)<=8) c27) (Tb Z Y e11) ?_;obtain⟨c28,h⟩:=B9 h;obtain⟨q,e12,h⟩:=A7 h;refine F7 (Qe (by decide:(8:Nat)<=8) c28) (Tb Z Y e12) ?_;refine C7 Jy ?_;apply kI Z h<;>intro h
  .exact g _ [] _ x4 _ Jy h
  exact g _ [] _ x3 _ Jy h
 cases h;exact kR Z
def Cw (N:Nat)(b:B4)(a:Sl (Sl Qb))(c:Int)(d:Int):Option Bool:= (Gs N b).bind λy1=>if (((!y1)||((decide (6<(a.n:Int)))&&(decide ((a.n:Int)<=256))))||(decide (300<(a.n:Int)))) then (Ba N ).bind λy2=>some y2 else O7 N (λf (x1:Int)=>if (decide (x1<(a.n:Int))) then if ((0:Int)<=x1/\x1<(a.n:Int))then if (decide (40<((a.g x1.toNat).n:Int))) then (Ba N ).bind λy5=>some y5 else f (wrap .i64 (x1+1)) else none else if (Qd 32 ((Sl.of []:Sl K0).n+b.Sg.n))then (Bt N b a c d).bind λy6=>(GB N b a c d).bind λy7=>O7 N (λi (x2:Int)=>if (decide (x2<(((Sl.of []:Sl K0).app b.Sg).n:Int))) then if ((((0:Int)<=x2/\x2<(b.Sg.n:Int))/\((0:Int)<=x2/\x2<(((Sl.of []:Sl K0).app b.Sg).n:Int)))/\x2.toNat<((Sl.of []:Sl K0).app b.Sg).n)then if (((b.Sg.g x2.toNat).Has==(((Sl.of []:Sl K0).app b.Sg).g x2.toNat).Has) != true) then some false else if ((((0:Int)<=x2/\x2<(b.Sg.n:Int))/\((0:Int)<=x2/\x2<(((Sl.of []:Sl K0).app b.Sg).n:Int)))/\x2.toNat<((Sl.of []:Sl K0).app b.Sg).n)then if (((b.Sg.g x2.toNat).W.n:Int) != ((((Sl.of []:Sl K0).app b.Sg).g x2.toNat).W.n:Int)) then some false else i (wrap .i64 (x2+1)) else none else none else lt (λ(z1:Bool)=>some z1) λk1=>if (y6.1==y7.1) then if (y6.2==y7.2) then (Ba N ).bind λy9=>k1 y9 else k1 false else k1 false) 0 else none) 0
theorem PW {N:Nat}{f:B4}{d:Sl (Sl Qb)}{j:Int}{l:Int}{y:Bool}(h:Cw N f d j l=some y) :Qi S ER [.p (.agg (A9 f)),.p (vSl 1 (cL 2 A0) d),pN j,pN l] [] (pB y) ([]) []:=by
 unfold Cw at h;refine A1 Z Tryz.func3 ?_;refine D9 Z Jy 8 5000 (A9 f) ?_;obtain⟨y1,e1,h⟩:=A7 h;refine A8 Z [] (by decide:(8:Nat)<=8) (As4 Z Y e1) ?_;refine kB Z (A3 Z) Jy Jy 14 (.o (.o (.a (!y1)) (.n (.a (decide (6<(d.n:Int)))) (.a (decide ((d.n:Int)<=256))))) (.a (decide (300<(d.n:Int))))) ?_;apply kI Z h<;>intro h
 .refine kC Z h (Mz Z Y) (λy2 h=>?_);cases h;exact kR Z
 refine F1 Z Jy h (λx1=>⟨[(9,pN x1),(4,.p (.ptr (A9 f))),(3,pN l),(2,pN j),(1,.p (vSl 1 (cL 2 A0) d))],[]⟩) (ids:=[]) (λ_ _ _ _ _ q x1 r h=>?_);apply kI Z h<;>intro h
 .obtain⟨c9,h⟩:=B9 h;refine C6 Z c9 (b:=decide (40<((d.g x1.toNat).n:Int))) (λc10=>?_) (λc10=>?_)
  .replace h:=itT c10 h;refine kC Z h (Mz Z Y) (λy5 h=>?_);cases h;exact kR Z
  replace h:=itF c10 h;exact r _ [] _ _ Jy h
 obtain⟨c11,h⟩:=B9 h;obtain⟨y6,e6,h⟩:=A7 h;refine A8 Z [] (Qe (Qe Ow c11) (by decide:(8:Nat)<=8)) (NQ Z Y e6) ?_;obtain⟨y7,e7,h⟩:=A7 h;refine A8 Z [] (by decide:(8:Nat)<=8) (At5 Z Y e7) ?_;refine F1 Z Jy h (λx2=>⟨[(15,pN x2),(14,pN y7.2),(13,pN y7.1),(12,pN y6.2),(11,pN y6.1),(10,.vec 52000),(4,.p (.ptr (A9 f)))],[(52000,oV Fv 2 F2 ((Sl.of []:Sl K0).app f.Sg) false)]⟩) (ids:=[(52000,52000)]) (λ_ _ _ _ _ s x2 t h=>?_) (hle:=klR [(6,.fn (0+f.Sg.n) ((Sl.of []:Sl K0).app f.Sg).n (DF 0 (H2 [.v (.bool false),I3] []) (λi=>F2 (f.Sg.g i))) (λi=>F2 (((Sl.of []:Sl K0).app f.Sg).g i)))] (al1 ⟨rfl,Zo (c:=F2) (v:=(Sl.of []:Sl K0)) (w:=f.Sg) (λi u=>Hc u (by omega)) rfl same rfl⟩ al0));apply kI Z h<;>intro h
 .refine B5 Z Jy [1,3,5,14,16,18] ?_;obtain⟨c23,h⟩:=B9 h;refine S7 c23 (b:=((f.Sg.g x2.toNat).Has==(((Sl.of []:Sl K0).app f.Sg).g x2.toNat).Has) != true) (λc24=>?_) (λc24=>?_)
  .replace h:=itT c24 h;refine C7 Jy ?_;cases h;exact kR Z
  replace h:=itF c24 h;obtain⟨c25,h⟩:=B9 h;refine C7 c25 ?_;refine Ug Z h fun h=>?_;exact t _ [(52000,52000)] _ _ Jy h
 refine GN Z Jy (A3 Z) h 0 (λz1=>⟨[(8,pB z1)],[]⟩) (λM1 k1 m h=>?_) (λz1 h=>?_)
 .refine kG Z h (λh=>?_) (λh=>?_)
  .refine kG Z h (λh=>?_) (λh=>?_)
   .refine kC Z h (Mz Z Y) (λy9 h=>?_);exact m _ [] _ y9 Jy h
   exact m _ [] _ _ Jy h
  exact m _ [] _ _ Jy h
 cases h;exact kR Z
end Go.AM
