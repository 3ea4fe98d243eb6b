/- Part 5. -/
import Derived.Test.YtpnbhddgjlobmaaGreatDoorJD
import Derived.Test.YtpnbhddgjlobmaaGreatDoorJC
set_option linter.defProp false
set_option linter.unusedSimpArgs false
set_option linter.unusedVariables false
set_option linter.unusedSectionVars false
namespace Go.AM
def Vc:=@Int.toNat_natCast
open Go.Proofs.Tryz
abbrev Tq:Sl (Sl Tr):=Sl.nil
abbrev Tp:Sl Tr:=Sl.of []
abbrev Tn:Sl Tr:=Sl.nil
variable {N:Nat}
open IntKind (wrap)
def Cp1:=@List.reverse_append
def Ct7:=@Nat.not_lt_zero
def Cx8:=@Bool.not_eq_true
def Cy1:=@Nat.testBit_lt_two_pow
def Cy2:=@List.reverse_singleton
def Cy6:=@List.singleton_append
def Cy7:=@List.mem_append
def Cz3:=@Nat.div_eq_zero_iff
open Go.Proofs
set_option maxRecDepth 10000
set_option maxHeartbeats 2000000
variable {S:X0}(Z:H4 S Tryz.prog) (Y:Km S)
def BI3 {T:Type}{e:TypeId}{k:Nat}{c:T->List PV}{X:Sl (Sl T)}{z:Sl T}:∀q,q<X.n+1->(λq=>ite (q=X.n) (DW e k c z) (DW e k c (X.g q))) q=(λq=>DW e k c ((X.push z).g q)) q:=by grind
def Bj3 {T:Type}{e:TypeId}{k n i:Nat}{c:T->List PV}{X:Sl (Sl T)}{z:Sl T}:∀q,q<n->(Xy (ite (q=i) (DW e k c z) (ite (q=i) Obj.dead (DW e k c (X.g q))))).isSome=true:=λq _=>by
 by_cases h:q=i
 .rw[Kb h];rfl
 rw[Kd h,Kd h];rfl
def BI4 {T:Type}{e:TypeId}{k n i:Nat}{c:T->List PV}{X:Sl (Sl T)}{z:Sl T}:∀q,q<n->[(Xy (ite (q=i) (DW e k c z) (ite (q=i) Obj.dead (DW e k c (X.g q))))).getD default]=cL k c ((X.upd i z).g q):=λq _=>by
 show _=cL k c (ite (q=i) z (X.g q));by_cases h:q=i
 .rw[Kb h,Kb h];rfl
 rw[Kd h,Kd h,Kd h];rfl
include Z Y
def M2 (N:Nat)(s:Sl Node):Option (Sl Node):=ite ((0+s.n)*24<=140737488355328/\0+s.n<=140737488355328) (some s) none
theorem CV {s y:Sl Node}(h:M2 N s=some y):Yo S U5 [.p (vSl 2 F1 s)] [] (.vec 0) [.vec Y4 2 y.n (λi=>F1 (y.g i)) true] []:=by
 unfold M2 at h;obtain⟨c1,h⟩:=C0 h;obtain rfl:=A6 h;refine A1 Z func97 ?_;refine Ae4 Z Ly 3 (k:=2) (n:=s.n) (f:=λi=>F1 (s.g i)) (λa=>?_) ?_
 .obtain⟨n,g⟩:=s;obtain rfl:n=0:=a;exact kO Z Ly [3700]
 exact kO Z (Vb Sr c1) [8000]
  (hle:=kl1 0 (Br8 F1 s [pI .i64 0,.str []]))
def X2 (N:Nat)(s:Sl Int):Option (Sl Int):=ite ((0+s.n)*8<=140737488355328/\0+s.n<=140737488355328) (some s) none
theorem Hv {s y:Sl Int}(h:X2 N s=some y):Yo S Cf [.p (vSl 1 (cI .i64) s)] [] (.vec 0) [.vec C9 1 y.n (λi=>cI .i64 (y.g i)) false] []:=by
 unfold X2 at h;obtain⟨c1,h⟩:=C0 h;obtain rfl:=A6 h;refine A1 Z func99 ?_;refine Ae4 Z Ly 3 (k:=1) (n:=s.n) (f:=λi=>cI .i64 (s.g i)) (λa=>?_) ?_
 .obtain⟨n,g⟩:=s;obtain rfl:n=0:=a;exact kO Z Ly [3700]
 exact kO Z (Vb Sr c1) [8000]
  (hle:=kl1 0 (Br8 (cI .i64) s [pI .i64 0]))
def T9 (N:Nat)(c:Yv)(b:Int)(a:Int):Option (Yv×Int):= (Q5 N c).bind λy1=>ite (y1 != 0) (some ((⟨(Sl.nil:Sl Node),(Sl.nil:Sl Law),(Sl.nil:Sl (Sl Int))⟩:Yv),y1)) ((Cs N c b).bind λy2=>ite ((!y2)=false->((decide (a<0))=false->((0:Int)<=b/\b<(c.On.n:Int)))) (ite (((!y2)||(decide (a<0)))||(decide ((wrap .i64 (((c.On.g b.toNat).n:Int)-1))<=a))) (some ((⟨(Sl.nil:Sl Node),(Sl.nil:Sl Law),(Sl.nil:Sl (Sl Int))⟩:Yv),3)) ((M2 N c.Tree).bind λy3=>V7 N (λd (x1:Sl Law) (x2:Int)=>ite (decide (x2<(c.Laws.n:Int))) (ite ((0:Int)<=x2/\x2<(c.Laws.n:Int)) ((V9 N (c.Laws.g x2.toNat)).bind λy6=>ite (Va 200 (x1.n+(Sl.of [y6]:Sl Law).n)) (d (x1.push y6) (wrap .i64 (x2+1))) none) none) (V7 N (λf (x3:Sl (Sl Int)) (x4:Int)=>ite (decide (x4<(c.On.n:Int))) (ite ((0:Int)<=x4/\x4<(c.On.n:Int)) ((X2 N (c.On.g x4.toNat)).bind λy9=>ite (Va 24 (x3.n+(Sl.of [y9]:Sl (Sl Int)).n)) (f (x3.push y9) (wrap .i64 (x4+1))) none) none) (ite (b.toNat<x3.n) (ite (((0:Int)<=b/\b<(x3.n:Int))/\((0:Int)<=a/\a<((x3.g b.toNat).n:Int))/\((0:Int)<=(wrap .i64 (a+1))/\(wrap .i64 (a+1))<((x3.g b.toNat).n:Int))) (some ((⟨y3,x1,x3.upd b.toNat (((x3.g b.toNat).upd a.toNat ((x3.g b.toNat).g (wrap .i64 (a+1)).toNat)).upd (wrap .i64 (a+1)).toNat ((x3.g b.toNat).g a.toNat))⟩:Yv),0)) none) none)) (Sl.nil:Sl (Sl Int)) 0)) (Sl.nil:Sl Law) 0)) none)
theorem Mq {j:Yv}{f:Int}{d:Int}{y:Yv×Int}(h:T9 N j f d=some y) :Yo S LN [.p (.agg (B0 j)),pN f,pN d] [] (.tup [.p (.agg (B0 y.1)),pN y.2]) ([]) []:=by
 unfold T9 at h;refine A1 Z func60 ?_;refine C6 Z Ly 6 4000 (B0 j) ?_;refine kD Z h Pc (Gv Z Y) (λy1 h=>?_);apply kI Z h<;>intro h
 .obtain rfl:=A6 h;exact J8 Z Ly ⟨[(7,pN y1),(6,.reg 7000 0)],[(7000,.cells [.p (vSl 2 F1 (Sl.nil:Sl Node)),.p (vSl 18 B7 (Sl.nil:Sl Law)),.p (vSl 1 (cL 1 (cI .i64)) (Sl.nil:Sl (Sl Int)))])]⟩ [] ⟨rfl,rfl,rfl⟩
 refine kD Z h Pc (Mm Z Y) (λy2 h=>?_);obtain⟨c2,h⟩:=C0 h;refine kB Z (A3 Z) Ly c2 14 (.o (.o (.a (!y2)) (.a (decide (d<0)))) (.a (decide ((wrap .i64 (((j.On.g f.toNat).n:Int)-1))<=d)))) ?_;apply kI Z h<;>intro h
 .obtain rfl:=A6 h;exact J8 Z Ly ⟨[(7,pN 3),(6,.reg 7000 0)],[(7000,.cells [.p (vSl 2 F1 (Sl.nil:Sl Node)),.p (vSl 18 B7 (Sl.nil:Sl Law)),.p (vSl 1 (cL 1 (cI .i64)) (Sl.nil:Sl (Sl Int)))])]⟩ [] ⟨rfl,rfl,rfl⟩
 refine kC Z h (CV Z Y) (λy3 h=>?_);refine F5 Z Ly h (λx1 x2=>kps [(48,pN x2)] [47,46,9,6,3,2,1] [(44000,oV Y4 2 F1 y3 true),(10500,oV H7 18 B7 x1 false),(10000,.cells [.vec 44000,.vec 10500,.p I4]),(7000,.cells [.p I4,.p I4,.p I4])] []) (λm x1 x2 r h=>?_);apply kI Z h<;>intro h
 .obtain⟨c11,h⟩:=C0 h;refine Yd Z (Vb c11 Sq) 12000 (B7 (j.Laws.g x2.toNat)) ?_;refine B5 Z Ly [2,3] ?_;refine dP h Sq (Js Z Y) (λy6 h=>?_);refine O6 Ly (x:=.sl true 18 1 (G7 Ag2 [(0,B7 y6)])) ?_;refine dE h (λh=>?_);exact r Ly h (hle:=kl1 7 (P0 B7 x1 y6 Ag2))
 refine I7 Z Ly 60 (kps [] [9,6,3,2,1] [(44000,oV Y4 2 F1 y3 true),(10501,.vec EC 1 0 (λ_=>[]) false),(10500,oV H7 18 B7 x1 false),(10000,.cells [.vec 44000,.vec 10500,.vec 10501]),(7000,.cells [.p I4,.p I4,.p I4])] []) ?_;refine Di Z Ly 60 (.fam 10501 10901 λi=>DW C9 1 (cI .i64) ((Sl.nil:Sl (Sl Int)).g i)) (⟨by decide,λi u=>Kf u (Ct7 i)⟩:1000<=10901/\∀i,i<0->RB ((λ_=>[]) i) (DW C9 1 (cI .i64) ((Sl.nil:Sl (Sl Int)).g i))) ?_;refine F5 Z Ly h (λx3 x4=>kps [(63,pN x4)] [62,61,9,6,2,1] [(10901,.rows x3.n λi=>DW C9 1 (cI .i64) (x3.g i)),(10501,.fam EC x3.n 10901 none)] [44000,10500,10000,7000]) (λs x3 x4 t h=>?_);apply kI Z h<;>intro h
 .obtain⟨c20,h⟩:=C0 h;refine G6 Z c20 [(1,.l [10000]),(3,.b [71000]),(4,.b [72000,71000])] ?_;obtain⟨y9,e9,h⟩:=E7 h;refine Ha [] Ly (Hv Z Y e9) ?_;refine dE h (λh=>?_);refine Di Z Ly 74 (.psh 73000 10902) (⟨by decide,rfl,rfl⟩:1000<=10902/\x3.n+1=x3.n+1/\x3.n=x3.n) ?_;exact t Ly h (hle:=klR [(7,.ob (x3.n+1) (λq=>ite (q=x3.n) (DW C9 1 (cI .i64) y9) (DW C9 1 (cI .i64) (x3.g q))) (λi=>DW C9 1 (cI .i64) ((x3.push y9).g i)))] (al1 BI3 al0))
 obtain⟨cT,h⟩:=C0 h;obtain⟨⟨c30,c31,c32⟩,h⟩:=C0 h;refine Di Z Ly 75 (.take 10501 f.toNat 10801) (⟨⟨by decide,rfl⟩,cT⟩:(1000<=10801/\x3.n=x3.n)/\f.toNat<x3.n) ?_;refine G6 Z (Vb c30 (Vb cT (rfl:f.toNat=f.toNat))) [(8,.l [10801]),(9,.l [10801]),(12,.l [10801]),(13,.l [10801]),(14,.l [10801]),(15,.a [10801]),(16,.l [10801]),(17,.a [10801])] ?_;have l1:(wrap .i64 (d+1)).toNat<(x3.g f.toNat).n:=by omega
 have l2:d.toNat<(x3.g f.toNat).n:=by omega
 refine D1 (Vb (Vb (Vb (Vb (Vb (Vb (Vb c32 l1) c31) l2) c31) (Vb (rfl:(1:Nat)=1) (Vb l2 Pa))) c32) (Vb (rfl:(1:Nat)=1) (Vb l1 Pa))) ?_;refine I7 Z Ly 96 (kps [] [9,6] [(44000,oV Y4 2 F1 y3 true),(10901,(.rows x3.n λl=>ite (l=f.toNat) (.dead) (DW C9 1 (cI .i64) (x3.g l)))),(10801,DW C9 1 (cI .i64) (((x3.g f.toNat).upd d.toNat ((x3.g f.toNat).g (wrap .i64 (d+1)).toNat)).upd (wrap .i64 (d+1)).toNat ((x3.g f.toNat).g d.toNat))),(10501,.fam EC x3.n 10901 (some (f.toNat,.vec 10801))),(10500,oV H7 18 B7 x1 false),(10000,.cells [.vec 44000,.vec 10500,.vec 10501]),(7000,.cells [.p I4,.p I4,.p I4])] []) ?_ (hle:=klR [(3,.fn (x3.g f.toNat).n (((x3.g f.toNat).upd d.toNat ((x3.g f.toNat).g (wrap .i64 (d+1)).toNat)).upd (wrap .i64 (d+1)).toNat ((x3.g f.toNat).g d.toNat)).n (λl=>ite (l=(wrap .i64 (d+1)).toNat) (splice ((λl=>ite (l=d.toNat) (splice ((λi=>cI .i64 ((x3.g f.toNat).g i)) l) 0 [pI .i64 ((x3.g f.toNat).g (wrap .i64 (d+1)).toNat)]) ((λi=>cI .i64 ((x3.g f.toNat).g i)) l)) l) 0 [pI .i64 ((x3.g f.toNat).g d.toNat)]) ((λl=>ite (l=d.toNat) (splice ((λi=>cI .i64 ((x3.g f.toNat).g i)) l) 0 [pI .i64 ((x3.g f.toNat).g (wrap .i64 (d+1)).toNat)]) ((λi=>cI .i64 ((x3.g f.toNat).g i)) l)) l)) (λi=>cI .i64 ((((x3.g f.toNat).upd d.toNat ((x3.g f.toNat).g (wrap .i64 (d+1)).toNat)).upd (wrap .i64 (d+1)).toNat ((x3.g f.toNat).g d.toNat)).g i)))] (al1 ⟨rfl,At1 (c:=cI .i64) (v:=(x3.g f.toNat).upd d.toNat ((x3.g f.toNat).g (wrap .i64 (d+1)).toNat)) (x:=(x3.g f.toNat).g d.toNat) (At1 (c:=cI .i64) (v:=x3.g f.toNat) (x:=(x3.g f.toNat).g (wrap .i64 (d+1)).toNat) same (λ_=>by first|rfl|(dsimp only;split<;>rfl))) (λ_=>by first|rfl|(dsimp only;split<;>rfl))⟩ al0));refine Di Z Ly 96 (.put 10501 10902) (⟨⟨by decide,rfl⟩,cT⟩:(1000<=10902/\x3.n=x3.n)/\f.toNat<x3.n) ?_;refine Di Z Ly 96 (.pub 10501) (⟨rfl,Bj3⟩:x3.n=x3.n/\∀q,q<x3.n->(Xy (ite (q=f.toNat) (DW C9 1 (cI .i64) (((x3.g f.toNat).upd d.toNat ((x3.g f.toNat).g (wrap .i64 (d+1)).toNat)).upd (wrap .i64 (d+1)).toNat ((x3.g f.toNat).g d.toNat))) (ite (q=f.toNat) Obj.dead (DW C9 1 (cI .i64) (x3.g q))))).isSome=true) ?_;obtain rfl:=A6 h;exact J8 Z Ly ⟨[(7,pN 0),(6,.reg 7000 0)],[(7000,.cells [.p (vSl 2 F1 y3),.p (vSl 18 B7 x1),.p (vSl 1 (cL 1 (cI .i64)) (x3.upd f.toNat (((x3.g f.toNat).upd d.toNat ((x3.g f.toNat).g (wrap .i64 (d+1)).toNat)).upd (wrap .i64 (d+1)).toNat ((x3.g f.toNat).g d.toNat))))])]⟩ [] ⟨rfl,rfl,rfl⟩ (hle:=klR [(3,.fn x3.n (x3.upd f.toNat (((x3.g f.toNat).upd d.toNat ((x3.g f.toNat).g (wrap .i64 (d+1)).toNat)).upd (wrap .i64 (d+1)).toNat ((x3.g f.toNat).g d.toNat))).n (λq=>[(Xy (ite (q=f.toNat) (DW C9 1 (cI .i64) (((x3.g f.toNat).upd d.toNat ((x3.g f.toNat).g (wrap .i64 (d+1)).toNat)).upd (wrap .i64 (d+1)).toNat ((x3.g f.toNat).g d.toNat))) (ite (q=f.toNat) Obj.dead (DW C9 1 (cI .i64) (x3.g q))))).getD default]) (λi=>cL 1 (cI .i64) ((x3.upd f.toNat (((x3.g f.toNat).upd d.toNat ((x3.g f.toNat).g (wrap .i64 (d+1)).toNat)).upd (wrap .i64 (d+1)).toNat ((x3.g f.toNat).g d.toNat))).g i)))] (al1 ⟨rfl,BI4⟩ al0))
def DN (N:Nat)(b:A8)(a:Int):Option Int:= (Z5 N b).bind λy1=>ite (y1 != 0) (some y1) (ite ((decide (a<0))||(decide (1073741824<a))) (some 2) (some 0))
theorem Or {c:A8}{b:Int}{y:Int}(h:DN N c b=some y) :Yo S NI [.p (.agg (B2 c)),pN b] [] (pN y) ([]) []:=by
 unfold DN at h;refine A1 Z func43 ?_;refine kC Z h (Hi Z Y) (λy1 h=>?_);refine Af6 Z h fun h=>?_;refine kB Z (A3 Z) Ly Ly 3 (.o (.a (decide (b<0))) (.a (decide (1073741824<b)))) ?_;refine Af6 Z h fun h=>?_;cases h;exact kR Z
def F6 (N:Nat)(b:Sl Law)(a:N0)(c:N0):Option Bool:= ite ((!a.Has)||(!c.Has)) (some false) ((O0 N b a.W).bind λy1=>lt (λ(z1:Bool)=>some z1) λk1=>ite (y1.2==0) ((Z3 N y1.1 c.W).bind λy3=>k1 y3) (k1 false))
theorem Bg {c:Sl Law}{b:N0}{d:N0}{y:Bool}(h:F6 N c b d=some y) :Yo S JT [.p (vSl 18 B7 c),.p (.agg (I5 b)),.p (.agg (I5 d))] [] (pB y) ([]) []:=by
 unfold F6 at h;refine A1 Z func28 ?_;refine kB Z (A3 Z) Ly Ly 4 (.o (.a (!b.Has)) (.a (!d.Has))) ?_;refine Af6 Z h fun h=>?_;refine kC Z h (Kr Z Y) (λy1 h=>?_);refine GT Z Ly (A3 Z) h 0 (λz1 _=>⟨[(6,pB z1)],[]⟩) (λk1 f h=>?_) (λz1 h=>?_)
 .refine kG Z h (λh=>?_) (λh=>?_)
  .refine kC Z h (Qt Z Y) (λy3 h=>?_);exact f Ly h
  exact f Ly h
 cases h;exact kR Z
def Q1 (N:Nat)(b:Yv):Option (Sl (Sl Law)):= (T4 N b.Tree).bind λy1=>V7 N (λa (x1:Sl (Sl Law)) (x2:Int)=>ite (decide (x2<(y1.1.n:Int))) (ite (((0:Int)<=x2/\x2<(y1.1.n:Int))/\x2.toNat<y1.1.n) ((Cv N b (y1.1.g x2.toNat)).bind λy4=>ite (Va 24 (x1.n+(Sl.of [y4.1]:Sl (Sl Law)).n)) (a (x1.push y4.1) (wrap .i64 (x2+1))) none) none) (some x1)) (Sl.nil:Sl (Sl Law)) 0
theorem DO {a:Yv}{y:Sl (Sl Law)}(h:Q1 N a=some y) :Yo S NF [.p (.agg (B0 a))] [] (.p (vSl 1 (cL 18 B7) y)) ([]) []:=by
 unfold Q1 at h;refine A1 Z func29 ?_;refine kC Z h (FH Z Y) (λy1 h=>?_);refine F5 Z Ly h (λx1 x2=>kps [(18,pN x2),(17,pN (y1.1.n:Int)),(16,.vec 14000),(5,.vec 6500),(1,.reg 2000 0)] [] [(6500,oV ES 1 (cL 18 B7) x1 false)] [14000,2000]) (λb x1 x2 c h=>?_);apply kI Z h<;>intro h
 .obtain⟨c6,h⟩:=C0 h;refine kD Z h c6 (Vn Z Y) (λy4 h=>?_);obtain⟨c7,h⟩:=C0 h;exact c (Vb Sr c7) h (hle:=kl1 3 (P0 (cL 18 B7) x1 y4.1 [I4]))
 obtain rfl:=A6 h;exact kO Z Ly []
def GA (N:Nat)(c:A8)(a:Int)(b:Int):Option Bool:= ite ((decide (0<=a))=true->((decide (a<(c.Yy.n:Int)))=true->((decide (0<=b))=true->((0:Int)<=a/\a<(c.Yy.n:Int))))) (some ((((decide (0<=a))&&(decide (a<(c.Yy.n:Int))))&&(decide (0<=b)))&&(decide (b<((c.Yy.g a.toNat).Yz.n:Int))))) none
theorem TC {d:A8}{b:Int}{c:Int}{y:Bool}(h:GA N d b c=some y) :Yo S Sy [.p (.agg (B2 d)),pN b,pN c] [] (pB y) ([]) []:=by unfold GA at h;refine A1 Z func50 ?_;obtain⟨c1,h⟩:=C0 h;refine kB Z (A3 Z) Ly c1 21 (.n (.n (.n (.a (decide (0<=b))) (.a (decide (b<(d.Yy.n:Int))))) (.a (decide (0<=c)))) (.a (decide (c<((d.Yy.g b.toNat).Yz.n:Int))))) ?_;cases h;exact kR Z
def Bh (N:Nat)(a:A8)(p_x:Br):Option (Yv×Int):= (T9 N a.Yv p_x.Node p_x.Place).bind λy1=>lt (λ(z1:Bool)=>ite z1 (some ((⟨(Sl.nil:Sl Node),(Sl.nil:Sl Law),(Sl.nil:Sl (Sl Int))⟩:Yv),3)) (some (y1.1,0))) λk1=>ite (y1.2 != 0) (k1 true) ((GA N a p_x.Z1 p_x.Ys).bind λy3=>k1 (!y3))
theorem Ky {a:A8}{p_x:Br}{y:Yv×Int}(h:Bh N a p_x=some y) :Yo S JS [.p (.agg (B2 a)),.p (.agg (N1 p_x))] [] (.tup [.p (.agg (B0 y.1)),pN y.2]) ([]) []:=by
 unfold Bh at h;refine A1 Z func27 ?_;refine kC Z h (Mq Z Y) (λy1 h=>?_);refine GT Z Ly (A3 Z) h 0 (λz1=>kps [(28,pB z1)] [6,4] [] [7000,5000]) (λk1 b h=>?_) (λz1 h=>?_)
 .refine kG Z h (λh=>?_) (λh=>?_)
  .exact b Ly h
  refine kC Z h (TC Z Y) (λy3 h=>?_);exact b Ly h
 apply kI Z h<;>intro h
 .obtain rfl:=A6 h;exact J8 Z Ly ⟨[(5,pN 3),(4,.reg 5000 0)],[(5000,.cells [.p (vSl 2 F1 (Sl.nil:Sl Node)),.p (vSl 18 B7 (Sl.nil:Sl Law)),.p (vSl 1 (cL 1 (cI .i64)) (Sl.nil:Sl (Sl Int)))])]⟩ [] ⟨rfl,rfl,rfl⟩
 cases h;exact kR Z
def Dl (N:Nat)(a:A8)(p_x:Br):Option (Bool×Int):= (Z5 N a).bind λy1=>ite (y1 != 0) (some (false,y1)) ((Bh N a p_x).bind λy2=>ite (y2.2 != 0) (some (false,y2.2)) (ite ((((0:Int)<=p_x.Z1/\p_x.Z1<(a.Yu.n:Int))/\((0:Int)<=p_x.Z1/\p_x.Z1<(a.Yy.n:Int)))/\((0:Int)<=p_x.Ys/\p_x.Ys<((a.Yy.g p_x.Z1.toNat).Yz.n:Int))) ((Q1 N a.Yv).bind λy3=>ite ((0:Int)<=p_x.Ys/\p_x.Ys<(y3.n:Int)) ((F6 N (y3.g p_x.Ys.toNat) (a.Yu.g p_x.Z1.toNat) ((a.Yy.g p_x.Z1.toNat).Yz.g p_x.Ys.toNat)).bind λy4=>ite y4 ((Q1 N y2.1).bind λy5=>ite ((0:Int)<=p_x.Ys/\p_x.Ys<(y5.n:Int)) ((F6 N (y5.g p_x.Ys.toNat) (a.Yu.g p_x.Z1.toNat) ((a.Yy.g p_x.Z1.toNat).Yz.g p_x.Ys.toNat)).bind λy6=>some (!y6,0)) none) (some (false,0))) none) none))
theorem Qw {b:A8}{p_x:Br}{y:Bool×Int}(h:Dl N b p_x=some y) :Yo S PS [.p (.agg (B2 b)),.p (.agg (N1 p_x))] [] (.tup [pB y.1,pN y.2]) ([]) []:=by
 unfold Dl at h;refine A1 Z func8 ?_;refine C6 Z Ly 3 3000 (B2 b) ?_;refine C6 Z Ly 4 4000 (N1 p_x) ?_;refine kD Z h (by decide:(8:Nat)<=8) (Hi Z Y) (λy1 h=>?_);refine Af6 Z h fun h=>?_;refine kD Z h (Vb (by decide:(8:Nat)<=8) Pd) (Ky Z Y) (λy2 h=>?_);refine C6 Z Ly 8 8000 (B0 y2.1) ?_;refine Af6 Z h fun h=>?_;refine G6 Z Ly [(1,.n),(3,.n),(4,.n),(5,.n),(7,.n),(9,.n),(10,.n),(12,.n),(14,.n),(15,.n),(16,.n),(17,.a [10000]),(18,.a [11000]),(19,.a [10000]),(20,.a [11000])] ?_;obtain⟨c3,h⟩:=C0 h;refine D1 (Vb (Vb (Vb (Vb c3.1.1 Pb) c3.1.2) c3.2) Pb) ?_;refine Yd Z Ly 10000 [.bb (b.Yu.g p_x.Z1.toNat).Has,vSl 2 A0 (b.Yu.g p_x.Z1.toNat).W] ?_;refine Yd Z Ly 11000 [.bb ((b.Yy.g p_x.Z1.toNat).Yz.g p_x.Ys.toNat).Has,vSl 2 A0 ((b.Yy.g p_x.Z1.toNat).Yz.g p_x.Ys.toNat).W] ?_;refine B5 Z Ly [1,2,4,5,6,7,8,9,11,12,14,15,16,17,18,19] ?_;refine dP h (by decide:(3:Nat)<=5) (DO Z Y) (λy3 h=>?_);obtain⟨c4,h⟩:=C0 h;refine dP h (Vb (Vb c4 Pb) Pb) (Bg Z Y) (λy4 h=>?_);refine dG Ly h (λh=>?_) (λh=>?_)
 .refine dP h Pc (DO Z Y) (λy5 h=>?_);obtain⟨c6,h⟩:=C0 h;refine dP h (Vb (Vb c6 Pb) Pb) (Bg Z Y) (λy6 h=>?_);refine D1 Ly ?_;cases h;exact kR Z
 refine D1 Ly ?_;cases h;exact kR Z
def H8 (N:Nat)(a:List (C8)):Option (Sl C8):= T2 a (λb (x1:C8) (z1:Sl C8)=>ite (Va 16 (z1.n+(Sl.of [x1]:Sl C8).n)) (b (z1.push x1)) none) (λ(z1:Sl C8)=>some z1) (Sl.nil:Sl C8)
theorem Dt {c:List (C8)}{a:A8}{b:(Sl (Sl Law))}{kp_seq:Nat}(fp_seq:∃fn,Ci1[kp_seq]? = some fn/\fn.body.isSome=true/\(fn.name == "runtime.NumGoroutine")=false)(d:Gf S kp_seq [] [.reg 0 0,.reg 1 0] [(.cells ((B2 a).map .p)),(.cells [(.p (vSl 1 (cL 18 B7) b))])] (c.map (λ(x:C8)=>[(λx=>.agg (E1 x)) x]))){y:(Sl C8)}(h:H8 N c=some y) :Yo S W1 [(.p I4),(.clo kp_seq [] [(.reg 0 0),(.reg 1 0)])] [(.cells ((B2 a).map .p)),(.cells [(.p (vSl 1 (cL 18 B7) b))])] (.vec 0) ([(oV CQ 2 E1 y false)]) [false,false]:=by
 unfold H8 at h;refine A1 Z func118 ?_;refine Rj Z Ly fp_seq [0,1] [2] 901 (λz1=>⟨[(2,(.reg 3000 0))],[(3500,(oV CQ 2 E1 z1 false)),(3000,(.cells [(.vec 3500)]))]⟩) h d (λ_=>by kernel_rfl) (λ_=>by kernel_rfl) (λ_=>by kernel_rfl) (λ_=>by kernel_rfl) (λx1 f z1 g h=>?_) (λz1 h=>?_)
 .refine Ny Z Ly ?_;obtain⟨c1,h⟩:=C0 h;exact g (Vb Sr c1) h (hle:=kl1 0 (P0 E1 z1 x1 [(pI .i64 0),(pI .i64 0)]))
 obtain rfl:=A6 h;exact kO Z Ly [3500]
def O2 (N:Nat)(a:List (C8)):Option (Sl C8):= (H8 N a).bind λy1=>some y1
theorem IP {c:List (C8)}{a:A8}{b:(Sl (Sl Law))}{kp_seq:Nat}(fp_seq:∃fn,Ci1[kp_seq]? = some fn/\fn.body.isSome=true/\(fn.name == "runtime.NumGoroutine")=false)(d:Gf S kp_seq [] [.reg 0 0,.reg 1 0] [(.cells ((B2 a).map .p)),(.cells [(.p (vSl 1 (cL 18 B7) b))])] (c.map (λ(x:C8)=>[(λx=>.agg (E1 x)) x]))){y:(Sl C8)}(h:O2 N c=some y) :Yo S DY [(.clo kp_seq [] [(.reg 0 0),(.reg 1 0)])] [(.cells ((B2 a).map .p)),(.cells [(.p (vSl 1 (cL 18 B7) b))])] (.vec 0) ([(oV CQ 2 E1 y false)]) [false,false]:=by unfold O2 at h;refine A1 Z func78 ?_;obtain⟨y1,e1,h⟩:=E7 h;refine E2 Z [0,1] Ly (Dt Z Y fp_seq d e1) ?_;obtain rfl:=A6 h;exact kO Z Ly [5000]
def V4 (N:Nat)(q0:A8):Option (List (C8×Yv)):= N3 N (λa (x2:Int)=>ite (decide (x2<(q0.Yv.On.n:Int))) (ite ((0:Int)<=x2/\x2<(q0.Yv.On.n:Int)) (N3 N (λb (x4:Int)=>ite (decide (x4<(wrap .i64 (((q0.Yv.On.g x2.toNat).n:Int)-1)))) ((T9 N q0.Yv x2 x4).bind λy9=>BN ((⟨x2,x4⟩:C8),y9.1) (b (wrap .i64 (x4+1)))) (a (wrap .i64 (x2+1)))) 0) none) (some [])) 0
theorem MP {q0:A8}{L:List (C8×Yv)}(h:V4 N q0=some L) :Gf S CN [] [.reg 0 0] [.cells ((B2 q0).map .p)] (L.map (λ(x:C8×Yv)=>[(λx=>.agg (E1 x)) x.1,(λx=>.agg (B0 x)) x.2])):=by
 unfold V4 at h;refine FE Z func120 ?_;refine Eg Z Ly h (λx2 L1=>⟨[(12,pN x2),(11,pN (q0.Yv.On.n:Int)),(10,.p (vSl 1 (cL 1 (cI .i64)) q0.Yv.On)),(1,.reg 0 0),(0,.yf 1)],[(1,.yld (L1.map (λ(x:C8×Yv)=>[(λx=>.agg (E1 x)) x.1,(λx=>.agg (B0 x)) x.2])) true),(0,.cells ((B2 q0).map .p))]⟩) (λc x2 L1 d h=>?_);apply kI Z h<;>intro h
 .obtain⟨c24,h⟩:=C0 h;refine Eg Z c24 h (λx4 L10=>⟨[(20,pN x4),(19,pN (wrap .i64 (((q0.Yv.On.g x2.toNat).n:Int)-1))),(12,pN x2),(11,pN (q0.Yv.On.n:Int)),(10,.p (vSl 1 (cL 1 (cI .i64)) q0.Yv.On)),(3,pN x2),(1,.reg 0 0),(0,.yf 1)],[(1,.yld (L10.map (λ(x:C8×Yv)=>[(λx=>.agg (E1 x)) x.1,(λx=>.agg (B0 x)) x.2])) true),(0,.cells ((B2 q0).map .p))]⟩) (λf x4 L10 i h=>?_);apply kI Z h<;>intro h
  .refine kC Z h (Mq Z Y) (λy9 h=>?_);obtain⟨L13,rfl,b⟩:=OX h;replace h:=b;refine Ef Z Ly (ys:=(λ(x:C8×Yv)=>[(λx=>.agg (E1 x)) x.1,(λx=>.agg (B0 x)) x.2]) ((⟨x2,x4⟩:C8),y9.1)) (rest:=L13.map (λ(x:C8×Yv)=>[(λx=>.agg (E1 x)) x.1,(λx=>.agg (B0 x)) x.2])) ?_ ?_
   .refine kF Z ?_;exact i Ly h
   refine kT Z ?_;exact kO Z Ly (a:=.tup []) (objs:=[(.cells ((B2 q0).map .p)),.yld [] false]) [0,1] ⟨false,rfl,rfl,_,rfl⟩
  exact d Ly h
 obtain rfl:=A6 h;exact kO Z Ly (a:=.tup []) (objs:=[(.cells ((B2 q0).map .p)),.yld [] true]) [0,1] ⟨true,rfl,rfl,_,rfl⟩
def BG (N:Nat)(a:A8):Option (A8):= some a
theorem Pl {a:A8}{y:A8}(h:BG N a=some y) :Yo S HM [.p (.agg (B2 a))] [] (.clo CN [] [.reg 0 0]) ([.cells ((B2 y).map .p)]) []:=by unfold BG at h;refine A1 Z func80 ?_;obtain rfl:=A6 h;exact kO Z Ly [2000]
def E4 (N:Nat)(a:Sl A5)(b:Sl A5):Option Bool:= ite ((a.n:Int) != (b.n:Int)) (some false) (N3 N (λc (x1:Int)=>ite (decide (x1<(a.n:Int))) (ite (((0:Int)<=x1/\x1<(a.n:Int))/\((0:Int)<=x1/\x1<(b.n:Int))) (ite ((((a.g x1.toNat).Z1==(b.g x1.toNat).Z1)&&(((a.g x1.toNat).Ys==(b.g x1.toNat).Ys)&&(((a.g x1.toNat).Kind==(b.g x1.toNat).Kind)&&((a.g x1.toNat).Cost==(b.g x1.toNat).Cost)))) != true) (some false) (c (wrap .i64 (x1+1)))) none) (some true)) 0)
theorem Y7 {a:Sl A5}{b:Sl A5}{y:Bool}(h:E4 N a b=some y) :Yo S M6 [.p (vSl 4 B9 a),.p (vSl 4 B9 b)] [] (pB y) ([]) []:=by
 unfold E4 at h;refine A1 Z func23 ?_;refine Af6 Z h fun h=>?_;refine D6 Z Ly h (λx1=>kps [(13,pN x1)] [12,1,0] [] []) (λc x1 d h=>?_);apply kI Z h<;>intro h
 .refine B5 Z Ly [2,3,6,7] ?_;obtain⟨c9,h⟩:=C0 h;refine D1 (Vb (Vb (Vb (Vb c9.1 Pd) c9.2) Pd) (by decide +kernel:QF Tryz.prog K7=true)) ?_;refine Af6 Z h fun h=>?_;exact d Ly h
 cases h;exact kR Z
def H3 (N:Nat)(a:Sl Br)(b:Sl Br):Option Bool:= ite ((a.n:Int) != (b.n:Int)) (some false) (N3 N (λc (x1:Int)=>ite (decide (x1<(a.n:Int))) (ite (((0:Int)<=x1/\x1<(a.n:Int))/\((0:Int)<=x1/\x1<(b.n:Int))) (ite ((((a.g x1.toNat).Node==(b.g x1.toNat).Node)&&(((a.g x1.toNat).Place==(b.g x1.toNat).Place)&&(((a.g x1.toNat).Z1==(b.g x1.toNat).Z1)&&((a.g x1.toNat).Ys==(b.g x1.toNat).Ys)))) != true) (some false) (c (wrap .i64 (x1+1)))) none) (some true)) 0)
theorem CW {a:Sl Br}{b:Sl Br}{y:Bool}(h:H3 N a b=some y) :Yo S U3 [.p (vSl 4 N1 a),.p (vSl 4 N1 b)] [] (pB y) ([]) []:=by
 unfold H3 at h;refine A1 Z func24 ?_;refine Af6 Z h fun h=>?_;refine D6 Z Ly h (λx1=>kps [(13,pN x1)] [12,1,0] [] []) (λc x1 d h=>?_);apply kI Z h<;>intro h
 .refine B5 Z Ly [2,3,6,7] ?_;obtain⟨c9,h⟩:=C0 h;refine D1 (Vb (Vb (Vb (Vb c9.1 Pd) c9.2) Pd) (by decide +kernel:QF Tryz.prog Bv=true)) ?_;refine Af6 Z h fun h=>?_;exact d Ly h
 cases h;exact kR Z
def IQ (N:Nat)(d:A8)(a:Sl (Sl Tr))(b:Int)(f:Int):Option (Int×Int):= (DN N d f).bind λy1=>ite (y1 != 0) (some (0,y1)) (ite (decide (256<(a.n:Int))) (some (0,12)) (N3 N (λo (x1:Int)=>ite (decide (x1<(a.n:Int))) (ite ((0:Int)<=x1/\x1<(a.n:Int)) ((W3 N (a.g x1.toNat)).bind λy4=>ite (y4 != 0) (some (0,y4)) (o (wrap .i64 (x1+1)))) none) (ite ((decide (b<0))||(decide ((d.Yy.n:Int)<=b))) (some (0,3)) (ite ((a.n:Int)==0) (some (0,5)) ((Q1 N d.Yv).bind λy5=>Bf3 N (λl (x8:Int) (x9:Int) (i:Int)=>ite (decide (i<(a.n:Int))) (ite (((0:Int)<=i/\i<(a.n:Int))/\((0:Int)<=b/\b<(d.Yy.n:Int))) (V7 N (λj (m:Int) (c:Int)=>ite (decide (c<((d.Yy.g b.toNat).Yz.n:Int))) (ite ((0:Int)<=c/\c<((d.Yy.g b.toNat).Yz.n:Int)) (ite (((d.Yy.g b.toNat).Yz.g c.toNat).Has) (ite ((0:Int)<=c/\c<(y5.n:Int)) ((F6 N (y5.g c.toNat) (⟨true,a.g i.toNat⟩:N0) ((d.Yy.g b.toNat).Yz.g c.toNat)).bind λq=>ite (!q) (j (wrap .i64 (m+f)) (wrap .i64 (c+1))) (j m (wrap .i64 (c+1)))) none) (j m (wrap .i64 (c+1)))) none) (ite ((i==0)||(decide (m<x9))) (l i m (wrap .i64 (i+1))) (l x8 x9 (wrap .i64 (i+1))))) 0 0) none) (some (x8,0))) 0 0 0)))) 0))
theorem Ze {f:A8}{c:Sl (Sl Tr)}{b:Int}{d:Int}{y:Int×Int}(h:IQ N f c b d=some y) :Yo S NE [.p (.agg (B2 f)),.p (vSl 1 (cL 2 A0) c),pN b,pN d] [] (.tup [pN y.1,pN y.2]) ([]) []:=by
 unfold IQ at h;refine A1 Z func21 ?_;refine C6 Z Ly 8 5000 (B2 f) ?_;refine kD Z h (by decide:(8:Nat)<=8) (Or Z Y) (λy1 h=>?_);refine Af6 Z h fun h=>?_;refine Af6 Z h fun h=>?_;refine D6 Z Ly h (λx1=>kps [(33,pN x1)] [32,31,4,3,2,1] [] []) (λr x1 s h=>?_);apply kI Z h<;>intro h
 .obtain⟨c10,h⟩:=C0 h;refine kD Z h c10 (Hd Z Y) (λy4 h=>?_);refine Af6 Z h fun h=>?_;exact s Ly h
 refine kB Z (A3 Z) Ly Ly 6 (.o (.a (decide (b<0))) (.a (decide ((f.Yy.n:Int)<=b)))) ?_;refine Af6 Z h fun h=>?_;refine Af6 Z h fun h=>?_;refine kD Z h (by decide:(3:Nat)<=5) (DO Z Y) (λy5 h=>?_);refine Nx Z Ly h (λx8 x9 j=>kps [(62,pN j),(16,pN x9),(15,pN x8)] [61,60,14,4,3,2] [] []) (λt x8 x9 j q h=>?_);apply kI Z h<;>intro h
 .obtain⟨c69,h⟩:=C0 h;refine F5 Z c69 h (λl i=>kps [(74,pN i),(19,pN l)] [73,72,62,61,60,18,17,16,15,14,4,3,2] [] []) (λu l i m h=>?_);apply kI Z h<;>intro h
  .obtain⟨c81,h⟩:=C0 h;refine Yd Z (Vb c81 Pb) 22000 [.bb ((f.Yy.g b.toNat).Yz.g i.toNat).Has,vSl 2 A0 ((f.Yy.g b.toNat).Yz.g i.toNat).W] ?_;refine B5 Z Ly [1,5,6,9,10] ?_;refine dG Ly h (λh=>?_) (λh=>?_)
   .obtain⟨c83,h⟩:=C0 h;refine dP h (Vb c83 Pb) (Bg Z Y) (λv h=>?_);refine D1 Ly ?_;apply kI Z h<;>intro h
    .exact m Ly h
    exact m Ly h
   refine D1 Ly ?_;exact m Ly h
  refine kB Z (A3 Z) Ly Ly 4 (.o (.a (j==0)) (.a (decide (l<x9)))) ?_;apply kI Z h<;>intro h
  .exact q Ly h
  exact q Ly h
 cases h;exact kR Z
def Bi (N:Nat)(q0:A8)(q1:Sl (Sl Law)):Option (List (C8)):= N3 N (λb (x2:Int)=>ite (decide (x2<(q0.Yy.n:Int))) (ite ((0:Int)<=x2/\x2<(q0.Yy.n:Int)) (N3 N (λa (x4:Int)=>ite (decide (x4<((q0.Yy.g x2.toNat).Yz.n:Int))) (ite ((0:Int)<=x4/\x4<((q0.Yy.g x2.toNat).Yz.n:Int)) (ite (((0:Int)<=x4/\x4<(q1.n:Int))/\((0:Int)<=x2/\x2<(q0.Yu.n:Int))) ((F6 N (q1.g x4.toNat) (q0.Yu.g x2.toNat) ((q0.Yy.g x2.toNat).Yz.g x4.toNat)).bind λy9=>ite y9 (BN (⟨x2,x4⟩:C8) (a (wrap .i64 (x4+1)))) (a (wrap .i64 (x4+1)))) none) none) (b (wrap .i64 (x2+1)))) 0) none) (some [])) 0
theorem TD {q0:A8}{q1:Sl (Sl Law)}{L:List (C8)}(h:Bi N q0 q1=some L) :Gf S Gj [] [.reg 0 0,.reg 1 0] [.cells ((B2 q0).map .p),.cells [.p (vSl 1 (cL 18 B7) q1)]] (L.map (λ(x:C8)=>[(λx=>.agg (E1 x)) x])):=by
 unfold Bi at h;refine FE Z func119 ?_;refine Eg Z Ly h (λx2 L1=>⟨[(11,pN x2),(10,pN (q0.Yy.n:Int)),(9,.p (vSl 2 N8 q0.Yy)),(2,.reg 1 0),(1,.reg 0 0),(0,.yf 2)],[(2,.yld (L1.map (λ(x:C8)=>[(λx=>.agg (E1 x)) x])) true),(1,.cells [.p (vSl 1 (cL 18 B7) q1)]),(0,.cells ((B2 q0).map .p))]⟩) (λf x2 L1 i h=>?_);apply kI Z h<;>intro h
 .obtain⟨c78,h⟩:=C0 h;refine Eg Z (Vb c78 Pb) h (λx4 L16=>⟨[(19,pN x4),(18,pN ((q0.Yy.g x2.toNat).Yz.n:Int)),(17,.p (vSl 2 I5 (q0.Yy.g x2.toNat).Yz)),(11,pN x2),(10,pN (q0.Yy.n:Int)),(9,.p (vSl 2 N8 q0.Yy)),(4,pN x2),(2,.reg 1 0),(1,.reg 0 0),(0,.yf 2)],[(2,.yld (L16.map (λ(x:C8)=>[(λx=>.agg (E1 x)) x])) true),(1,.cells [.p (vSl 1 (cL 18 B7) q1)]),(0,.cells ((B2 q0).map .p))]⟩) (λj x4 L16 d h=>?_);apply kI Z h<;>intro h
  .obtain⟨c104,h⟩:=C0 h;refine Yd Z (Vb c104 Pb) 8000 [.bb ((q0.Yy.g x2.toNat).Yz.g x4.toNat).Has,vSl 2 A0 ((q0.Yy.g x2.toNat).Yz.g x4.toNat).W] ?_;refine Bz1 Z Ly 16 [(0,.l [1]),(2,.n),(3,.n),(5,.l [0]),(7,.n),(8,.n),(9,.n),(10,.n)] ?_;obtain⟨c105,h⟩:=C0 h;refine dP h (Vb (Vb (Vb c105.1 c105.2) Pb) Pb) (Bg Z Y) (λy9 h=>?_);refine dG Ly h (λh=>?_) (λh=>?_)
   .refine D1 Ly ?_;refine IB Z Ly (b:=true) (λc109=>?_) (λc109=>?_)
    .obtain⟨L22,rfl,c⟩:=OX h;replace h:=c;refine Ef Z Ly (ys:=(λ(x:C8)=>[(λx=>.agg (E1 x)) x]) (⟨x2,x4⟩:C8)) (rest:=L22.map (λ(x:C8)=>[(λx=>.agg (E1 x)) x])) ?_ ?_
     .refine kF Z ?_;exact d Ly h
     refine kT Z ?_;exact kO Z Ly (a:=.tup []) (objs:=[(.cells ((B2 q0).map .p)),.cells [.p (vSl 1 (cL 18 B7) q1)],.yld [] false]) [0,1,2] ⟨false,rfl,rfl,_,rfl⟩
    exact Bool.noConfusion (Sr.symm.trans c109)
   refine D1 Ly ?_;refine IB Z Ly (b:=false) (λc114=>?_) (λc114=>?_)
   .exact Bool.noConfusion ((rfl:false=false).symm.trans c114)
   exact d Ly h
  exact i Ly h
 obtain rfl:=A6 h;exact kO Z Ly (a:=.tup []) (objs:=[(.cells ((B2 q0).map .p)),.cells [.p (vSl 1 (cL 18 B7) q1)],.yld [] true]) [0,1,2] ⟨true,rfl,rfl,_,rfl⟩
def FI (N:Nat)(b:A8)(a:Sl (Sl Law)):Option (A8×(Sl (Sl Law))):= some (b,a)
theorem Zf {b:A8}{a:Sl (Sl Law)}{y:A8×(Sl (Sl Law))}(h:FI N b a=some y) :Yo S NM [.p (.agg (B2 b)),.p (vSl 1 (cL 18 B7) a)] [] (.clo Gj [] [.reg 0 0,.reg 1 0]) ([.cells ((B2 y.1).map .p),.cells [.p (vSl 1 (cL 18 B7) y.2)]]) []:=by unfold FI at h;refine A1 Z func79 ?_;obtain rfl:=A6 h;exact kO Z Ly [3000,4000]
def DP (N:Nat)(a:A8):Option ((Sl Br)×Int):= (Z5 N a).bind λy1=>ite (y1 != 0) (some ((Sl.nil:Sl Br),y1)) ((Q1 N a.Yv).bind λy2=>(FI N a y2).bind λy3=>(Bi N y3.1 y3.2).bind λL1=>(O2 N L1).bind λy4=>(BG N a).bind λy5=>(V4 N y5).bind λL2=>T2 L2 (λb (x1:C8×Yv) (z1:Sl Br)=>(Q1 N x1.2).bind λd=>N3 N (λc (x5:Int)=>ite (decide (x5<(y4.n:Int))) (ite (((0:Int)<=x5/\x5<(y4.n:Int))/\x5.toNat<y4.n) (ite (((((0:Int)<=(y4.g x5.toNat).a1/\(y4.g x5.toNat).a1<(d.n:Int))/\((0:Int)<=(y4.g x5.toNat).a0/\(y4.g x5.toNat).a0<(a.Yu.n:Int)))/\((0:Int)<=(y4.g x5.toNat).a0/\(y4.g x5.toNat).a0<(a.Yy.n:Int)))/\((0:Int)<=(y4.g x5.toNat).a1/\(y4.g x5.toNat).a1<((a.Yy.g (y4.g x5.toNat).a0.toNat).Yz.n:Int))) ((F6 N (d.g (y4.g x5.toNat).a1.toNat) (a.Yu.g (y4.g x5.toNat).a0.toNat) ((a.Yy.g (y4.g x5.toNat).a0.toNat).Yz.g (y4.g x5.toNat).a1.toNat)).bind λf=>ite (!f) (ite (Va 32 (z1.n+(Sl.of [(⟨x1.1.a0,x1.1.a1,(y4.g x5.toNat).a0,(y4.g x5.toNat).a1⟩:Br)]:Sl Br).n)) (b (z1.push (⟨x1.1.a0,x1.1.a1,(y4.g x5.toNat).a0,(y4.g x5.toNat).a1⟩:Br))) none) (c (wrap .i64 (x5+1)))) none) none) (b z1)) 0) (λ(z1:Sl Br)=>some (z1,0)) (Sl.nil:Sl Br))
theorem Zg {b:A8}{y:(Sl Br)×Int}(h:DP N b=some y) :Yo S NJ [.p (.agg (B2 b))] [] (.tup [.vec 0,pN y.2]) ([oV Bv 4 N1 y.1 true]) []:=by
 unfold DP at h;refine A1 Z func45 ?_;refine C6 Z Ly 2 2000 (B2 b) ?_;refine kD Z h (by decide:(8:Nat)<=8) (Hi Z Y) (λy1 h=>?_);apply kI Z h<;>intro h
 .obtain rfl:=A6 h;exact kO Z Ly [3700]
 refine G6 Z Ly [(0,.n),(2,.n),(3,.n),(4,.a [22000,22001]),(5,.a [22000,22001,23000,23001,23002]),(6,.a [6000]),(7,.a [6000,23000])] ?_;refine dP h (Vb (by decide:(8:Nat)<=8) (by decide:(3:Nat)<=5)) (DO Z Y) (λy2 h=>?_);obtain⟨y3,e3,h⟩:=E7 h;refine Ha [] Ly (Zf Z Y e3) ?_;obtain⟨L1,e4,h⟩:=E7 h;obtain⟨y4,e5,h⟩:=E7 h;refine Yk [22000,22001] Ly (IP Z Y ⟨_,func119,by decide +kernel,by decide +kernel⟩ (TD Z Y e4) e5) ?_;refine D1 Ly ?_;refine kD Z h (by decide:(8:Nat)<=8) (Pl Z Y) (λy5 h=>?_);obtain⟨L2,e7,h⟩:=E7 h;refine JO Z Ly [25000] [6,5,1] 901 (λz1=>⟨[(6,.reg 7000 0),(5,.reg 6000 0),(1,.p (.ptr (B2 b)))],[(23000,oV CQ 2 E1 y4 false),(7500,oV Bv 4 N1 z1 false),(7000,.cells [.vec 7500]),(6000,.cells [.vec 23000])]⟩) h (MP Z Y e7) (λ_=>by kernel_rfl) (λ_=>by kernel_rfl) (λ_=>by kernel_rfl) (λ_=>by kernel_rfl) (λx1 d z1 c h=>?_) (λz1 h=>?_)
 .refine C6 Z Ly 8 8000 [pI .i64 x1.1.a0,pI .i64 x1.1.a1] ?_;refine Ny Z Ly ?_;refine C6 Z Ly 27 9000 (B0 x1.2) ?_;refine kD Z h Pc (DO Z Y) (λj h=>?_);refine D6 Z Ly h (λx5=>kps [(31,pN x5)] [30,29,9,7,6,1] [] [23000,7500,7000,6000,901]) (λf x5 i h=>?_);apply kI Z h<;>intro h
  .obtain⟨c35,h⟩:=C0 h;refine G6 Z (Vb (Vb c35.1 Pb) c35.2) [(1,.l [12000]),(2,.l [12000]),(3,.n),(4,.n),(6,.n),(7,.l [12000]),(8,.l [12000]),(9,.n),(10,.n),(12,.n),(13,.l [12000]),(14,.l [12000]),(15,.n),(17,.n),(18,.l [12000]),(19,.l [12000]),(20,.n),(21,.n),(22,.n)] ?_;obtain⟨c36,h⟩:=C0 h;refine dP h (Vb (Vb (Vb (Vb (Vb (Vb (Vb (Vb (Vb (by decide:(0:Int)<=1/\(1:Int)<2) c36.1.1.1) (by decide:(0:Int)<=0/\(0:Int)<2)) c36.1.1.2) Pb) (by decide:(0:Int)<=0/\(0:Int)<2)) c36.1.2) (by decide:(0:Int)<=1/\(1:Int)<2)) c36.2) Pb) (Bg Z Y) (λm h=>?_);refine D1 Ly ?_;apply kI Z h<;>intro h
   .refine C6 Z Ly 59 12000 [pI .i64 (y4.g x5.toNat).a0,pI .i64 (y4.g x5.toNat).a1] ?_;obtain⟨c38,h⟩:=C0 h;exact c (Vb (Vb (Vb (Vb (Vb (by decide:(0:Int)<=0/\(0:Int)<2) (by decide:(0:Int)<=1/\(1:Int)<2)) (by decide:(0:Int)<=0/\(0:Int)<2)) (by decide:(0:Int)<=1/\(1:Int)<2)) Sr) c38) h (hle:=kl1 1 (P0 N1 z1 (⟨x1.1.a0,x1.1.a1,(y4.g x5.toNat).a0,(y4.g x5.toNat).a1⟩:Br) Ag4))
   refine C6 Z Ly 71 12000 [pI .i64 (y4.g x5.toNat).a0,pI .i64 (y4.g x5.toNat).a1] ?_;exact i Ly h
  exact c Ly h
 obtain rfl:=A6 h;exact kO Z Ly [7500]
def Z6 (N:Nat)(b:A8)(a:Int):Option (Z9×Int):= (DN N b a).bind λy1=>ite (y1 != 0) (some ((⟨(Sl.nil:Sl A5),(Sl.nil:Sl Br)⟩:Z9),y1)) ((EZ N b.Yv b.Yu b.Yy a).bind λy2=>(DP N b).bind λy3=>some ((⟨y2.1,y3.1⟩:Z9),0))
theorem Kz {b:A8}{a:Int}{y:Z9×Int}(h:Z6 N b a=some y) :Yo S PU [.p (.agg (B2 b)),pN a] [] (.tup [.p (.agg (Dv y.1)),pN y.2]) ([]) []:=by
 unfold Z6 at h;refine A1 Z func18 ?_;refine kC Z h (Or Z Y) (λy1 h=>?_);apply kI Z h<;>intro h
 .obtain rfl:=A6 h;exact J8 Z Ly ⟨[(5,pN y1),(4,.reg 5000 0)],[(5000,.cells [.p (vSl 4 B9 (Sl.nil:Sl A5)),.p (vSl 4 N1 (Sl.nil:Sl Br))])]⟩ [] ⟨rfl,rfl,rfl⟩
 refine kC Z h (Ak7 Z Y) (λy2 h=>?_);refine kC Z h (Zg Z Y) (λy3 h=>?_);obtain rfl:=A6 h;exact J8 Z Ly ⟨[(5,pN 0),(4,.reg 5000 0)],[(5000,.cells [.p (vSl 4 B9 y2.1),.p (vSl 4 N1 y3.1)])]⟩ [] ⟨rfl,rfl,rfl⟩
def X3 (N:Nat)(c:A8)(a:Int)(b:Z9):Option (Bool×Int):= (Z6 N c a).bind λy1=>ite (y1.2 != 0) (some (false,y1.2)) ((E4 N y1.1.Bad b.Bad).bind λy2=>lt (λ(z1:Bool)=>some (z1,0)) λk1=>ite y2 ((H3 N y1.1.Yw b.Yw).bind λy4=>k1 y4) (k1 false))
theorem Hw {b:A8}{a:Int}{c:Z9}{y:Bool×Int}(h:X3 N b a c=some y) :Yo S LL [.p (.agg (B2 b)),pN a,.p (.agg (Dv c))] [] (.tup [pB y.1,pN y.2]) ([]) []:=by
 unfold X3 at h;refine A1 Z func6 ?_;refine kC Z h (Kz Z Y) (λy1 h=>?_);refine Af6 Z h fun h=>?_;refine kC Z h (Y7 Z Y) (λy2 h=>?_);refine GT Z Ly (A3 Z) h 0 (λz1=>kps [(6,pB z1)] [7] [] []) (λk1 d h=>?_) (λz1 h=>?_)
 .refine kG Z h (λh=>?_) (λh=>?_)
  .refine kC Z h (CW Z Y) (λy4 h=>?_);exact d Ly h
  exact d Ly h
 cases h;exact kR Z
abbrev Qx (s:Str):Nat->List PV:=λi=>[.v (.int .u8 ((s.getD i 0).toNat:Nat))]
theorem Zh {s:Str}{u n:Nat}{f:Nat->List PV}(hc:(n+s.length)*1<=140737488355328/\n+s.length<=140737488355328) :Yo S Ah [.reg 0 0,.p (.str s)] [.blk [0,116,u] 1,.vec I2 1 n f false] (.tup [pN (s.length:Int),.p (.v .nilIface)]) [.blk [0,116,1] 1,.vec I2 1 (n+s.length) (Du n f (Qx s)) false] [true,false]:=by refine A1 Z func48 ?_;refine E2 Z [0,1] Ly (Y.copyCheck 116 u n f rfl) ?_;exact kO Z hc [0,15000]
theorem w_Len {u n:Nat}{f:Nat->List PV}:Yo S EO [.reg 0 0] [.blk [0,116,u] 1,.vec I2 1 n f false] (pN (n:Int)) [.blk [0,116,u] 1,.vec I2 1 n f false] [true,true]:=by refine A1 Z func52 ?_;exact kO Z Ly [0,1]
theorem BA6 {N:Nat}{ws:Sl Str}{j:Str}{u n:Nat}{f:Nat->List PV}(b:X1 N ws [32]=some j)(hc:(n+(j++[10]).length)*1<=140737488355328/\n+(j++[10]).length<=140737488355328) :Yo S Ho [.p (vSl 1 cS ws),.reg 0 0] [.blk [0,116,u] 1,.vec I2 1 n f false] (.tup []) [.blk [0,116,1] 1,.vec I2 1 (n+(j++[10]).length) (Du n f (Qx (j++[10]))) false] [true,false]:=by
 have a:((j.length+([10]:Str).length:Nat):Int)<=9223372036854775807:=by have h1:=hc.2;rw[Ck6]at h1;have c:([10]:Str).length=1:=rfl;omega
 refine A1 Z func47 ?_;refine E2 Z [] Ly (Vq Z Y b) ?_;refine E2 Z [0,1] a (Zh Z Y (u:=u) (f:=f) hc) ?_;exact kO Z Ly [0,7001]
end Go.AM
namespace Go.AM
open IntKind (wrap)
open Go.Proofs
set_option maxRecDepth 10000
set_option maxHeartbeats 4000000
abbrev G0 (a b:C8):Bool:=(a.a0==b.a0&&a.a1==b.a1)
def AJ8 (a b:C8)(h:G0 a b=true):a=b:=by cases a;cases b;simpa[G0]using h
def TE {κ ν : Type}{kP : κ -> PV}{vP : ν -> PV}[Inhabited κ][Inhabited ν]:∀(l:List (κ × ν)) (i:Nat),i<l.length->(DX kP vP l).getD i default=(kP (l.getD i default).1,vP (l.getD i default).2)
 |p::l,0,_=>rfl
 |p::l,i+1,h=>TE l i (Nat.lt_of_succ_lt_succ h)
variable {S:X0}(Z:H4 S Tryz.prog) (Y:Km S)
include Z Y
def W6 (N:Nat)(d:A8)(a:Z9):Option (Bool×Int):= (Z6 N d 0).bind λy1=>ite (y1.2 != 0) (some (false,y1.2)) (V7 N (λc (x1:List (C8×Int)) (x2:Int)=>ite (decide (x2<(y1.1.Bad.n:Int))) (ite ((0:Int)<=x2/\x2<(y1.1.Bad.n:Int)) (c (Fj G0 (⟨(y1.1.Bad.g x2.toNat).Z1,(y1.1.Bad.g x2.toNat).Ys⟩:C8) 0 x1) (wrap .i64 (x2+1))) none) (V7 N (λb (x3:List (C8×Int)) (x4:Int)=>ite (decide (x4<(a.Bad.n:Int))) (ite ((0:Int)<=x4/\x4<(a.Bad.n:Int)) (JA (K4 G0 (⟨(a.Bad.g x4.toNat).Z1,(a.Bad.g x4.toNat).Ys⟩:C8) x3) (some (false,0)) λv5=>JA (K4 G0 (⟨(a.Bad.g x4.toNat).Z1,(a.Bad.g x4.toNat).Ys⟩:C8) x3) (b (Fj G0 (⟨(a.Bad.g x4.toNat).Z1,(a.Bad.g x4.toNat).Ys⟩:C8) (wrap .i64 (0+1)) x3) (wrap .i64 (x4+1))) λv6=>b (Fj G0 (⟨(a.Bad.g x4.toNat).Z1,(a.Bad.g x4.toNat).Ys⟩:C8) (wrap .i64 (v6+1)) x3) (wrap .i64 (x4+1))) none) (some (!(x3.any λe=>e.2==0),0))) x1 0)) [] 0)
theorem Ot {N:Nat}{j:A8}{d:Z9}{y:Bool×Int}(h:W6 N j d=some y) :Yo S NC [.p (.agg (B2 j)),.p (.agg (Dv d))] [] (.tup [pB y.1,pN y.2]) ([]) []:=by
 unfold W6 at h;refine A1 Z Tryz.func10 ?_;refine C6 Z Ly 3 3000 (B2 j) ?_;refine C6 Z Ly 4 4000 [vSl 4 B9 d.Bad,vSl 4 N1 d.Yw] ?_;refine kD Z h (by decide:(8:Nat)<=8) (Kz Z Y) (λy1 h=>?_);refine C6 Z Ly 7 7000 [vSl 4 B9 y1.1.Bad,vSl 4 N1 y1.1.Yw] ?_;refine Af6 Z h fun h=>?_;refine F5 Z Ly h (λx1 x2=>kps [(30,pN x2)] [29,28,8,3] [(27000,oM (λx=>.agg (E1 x)) (pI .i64) x1)] []) (λu x1 x2 v h=>?_);apply kI Z h<;>intro h
 .obtain⟨c7,h⟩:=C0 h;refine C6 Z (Vb c7 Pd) 34 11000 (B9 (y1.1.Bad.g x2.toNat)) ?_;refine AR4 Z Ly CQ (λx=>.agg (E1 x)) (pI .i64) G0 (⟨(y1.1.Bad.g x2.toNat).Z1,(y1.1.Bad.g x2.toNat).Ys⟩:C8) 0 x1 (by decide +kernel:(!Tryz.prog.eqGuardType Tryz.prog.depth CQ)=true) ?_;exact v Ly h
 refine F5 Z Ly h (λx3 x4=>kps [(44,pN x4)] [43,42,8] [(27000,oM (λx=>.agg (E1 x)) (pI .i64) x3)] []) (λw x3 x4 a0 h=>?_);apply kI Z h<;>intro h
 .obtain⟨c17,h⟩:=C0 h;refine C6 Z (Vb c17 Pd) 48 13000 (B9 (d.Bad.g x4.toNat)) ?_;refine C6 Z Ly 54 14000 [pI .i64 (d.Bad.g x4.toNat).Z1,pI .i64 (d.Bad.g x4.toNat).Ys] ?_;rcases o5:K4 G0 (⟨(d.Bad.g x4.toNat).Z1,(d.Bad.g x4.toNat).Ys⟩:C8) x3 with _|v5
  .replace h:=Ap8 o5 h;refine Au0 Z Pb CQ C9 (λx=>.agg (E1 x)) (pI .i64) G0 o5 (pI .i64 0) (by decide +kernel:(!Tryz.prog.eqGuardType Tryz.prog.depth CQ)=true) ?_;refine kT Z ?_;cases h;exact kR Z
  replace h:=Ad5 o5 h;refine At9 Z Pb CQ C9 (λx=>.agg (E1 x)) (pI .i64) G0 o5 (by decide +kernel:(!Tryz.prog.eqGuardType Tryz.prog.depth CQ)=true) ?_;refine kF Z ?_;refine G6 Z Ly [(1,.n),(2,.l [27000]),(4,.l [27000]),(6,.a [27000])] ?_;rcases o6:K4 G0 (⟨(d.Bad.g x4.toNat).Z1,(d.Bad.g x4.toNat).Ys⟩:C8) x3 with _|v6
  .exact Kf (o5.symm.trans o6) (by simp)
  replace h:=Ad5 o6 h;refine Bz7 Pb CQ C9 (λx=>.agg (E1 x)) (pI .i64) G0 o6 (by decide +kernel:(!Tryz.prog.eqGuardType Tryz.prog.depth CQ)=true) ?_;have ha:=Ae8 AJ8 (z:=(0:Int)) o6;refine Bz4 Ly (kt:=CQ) (key:=(λx=>.agg (E1 x)) (⟨(d.Bad.g x4.toNat).Z1,(d.Bad.g x4.toNat).Ys⟩:C8)) (z:=pI .i64 0) (y:=pI .i64 v6) (es:=DX (λx=>.agg (E1 x)) (pI .i64) x3) (i:=(JQ G0 (⟨(d.Bad.g x4.toNat).Z1,(d.Bad.g x4.toNat).Ys⟩:C8) (0:Int) x3).1) (by have:=Rm (kP:=λx=>.agg (E1 x)) (vP:=pI .i64) (cmp:=Lq Tryz.prog CQ) (eq:=G0) (λ_ _=>by kernel_rfl) (⟨(d.Bad.g x4.toNat).Z1,(d.Bad.g x4.toNat).Ys⟩:C8) 0 x3;rw[ha]at this;exact this) (by decide +kernel:(!Tryz.prog.eqGuardType Tryz.prog.depth CQ)=true) ?_;refine Yi Ly (i:=(JQ G0 (⟨(d.Bad.g x4.toNat).Z1,(d.Bad.g x4.toNat).Ys⟩:C8) (0:Int) x3).1) (y:=pI .i64 (wrap .i64 (v6+1))) (es:=DX (λx=>.agg (E1 x)) (pI .i64) x3) (es':=DX (λx=>.agg (E1 x)) (pI .i64) (Fj G0 (⟨(d.Bad.g x4.toNat).Z1,(d.Bad.g x4.toNat).Ys⟩:C8) (wrap .i64 (v6+1)) x3)) (by have:=ME G0 (⟨(d.Bad.g x4.toNat).Z1,(d.Bad.g x4.toNat).Ys⟩:C8) 0 x3;rw[ha]at this;rw[CU];exact this) (by have:=(Nz (JQ G0 (⟨(d.Bad.g x4.toNat).Z1,(d.Bad.g x4.toNat).Ys⟩:C8) (0:Int) x3).2.2 (JQ G0 (⟨(d.Bad.g x4.toNat).Z1,(d.Bad.g x4.toNat).Ys⟩:C8) (0:Int) x3).1 (wrap .i64 (v6+1)) (ME G0 (⟨(d.Bad.g x4.toNat).Z1,(d.Bad.g x4.toNat).Ys⟩:C8) 0 x3)).trans (congrArg (DX (λx=>.agg (E1 x)) (pI .i64)) (NA G0 (⟨(d.Bad.g x4.toNat).Z1,(d.Bad.g x4.toNat).Ys⟩:C8) 0 (wrap .i64 (v6+1)) x3));rw[ha]at this;exact this) ?_;refine D1 Ly ?_;exact a0 Ly h
 refine Cc0 Z Ly (DX (λx=>.agg (E1 x)) (pI .i64) x3).length (λi=>(x3.getD i default).2≠0) (λs=>⟨[(69,.reg 70000 0)],[(70000,.blk (1::(DX (λx=>.agg (E1 x)) (pI .i64) x3).length::(DX (λx=>.agg (E1 x)) (pI .i64) x3).length::s) 27000),(27000,oM (λx=>.agg (E1 x)) (pI .i64) x3)]⟩) (λseen m a1=>?_);refine Cb6 Z Ly (cl:=(DX (λx=>.agg (E1 x)) (pI .i64) x3).length) (last:=(DX (λx=>.agg (E1 x)) (pI .i64) x3).length) (seen:=seen) (es:=DX (λx=>.agg (E1 x)) (pI .i64) x3) rfl (Ci9 _) (ky:=λi=>.agg (E1 (x3.getD i default).1)) (vl:=λi=>pI .i64 (x3.getD i default).2) (λi f=>TE x3 i (by rw[CU]at f;exact f)) (λq=>?_) (λi f a2=>?_)
 .have a3:(x3.any λe=>e.2==0)=false:=by rw[List.any_eq_false];intro e he h0;obtain⟨i,f,rfl⟩:=Cp0 he;have h1:=(m i (q i (by rw[CU];exact f))).2;rw[Ci4,Ci7 f]at h1;exact h1 (by simpa using h0)
  rw[a3]at h;refine O3 Z Ly (b:=false) (λc18=>Bool.noConfusion c18) (λc18=>?_);cases h;exact kR Z
 have o : i<x3.length:=by rw[CU]at f;exact f
 have r:((DX (λx=>.agg (E1 x)) (pI .i64) x3).getD i default)=((λx=>PV.agg (E1 x)) (x3.getD i default).1,pI .i64 (x3.getD i default).2):=TE x3 i o;refine O3 Z Ly (b:=true) (λ_=>?_) (λc=>Bool.noConfusion c);refine Cb9 Z Ly 72 (last:=(DX (λx=>.agg (E1 x)) (pI .i64) x3).length) (i:=i) (es:=DX (λx=>.agg (E1 x)) (pI .i64) x3) rfl f (.agg (E1 (x3.getD i default).1)) (pI .i64 (x3.getD i default).2) r ?_;refine O3 Z Ly (b:=(x3.getD i default).2==0) (λc=>?_) (λc=>?_)
 .have t:(x3.any λe=>e.2==0)=true:=by refine List.any_eq_true.2 ⟨x3.getD i default,?_,c⟩;rw[Ci4,Ci7 o];exact Cx5 o
  rw[t]at h;cases h;exact kR Z
 exact a1 Ly f a2 (λh0=>by rw[h0]at c;cases c)
end Go.AM
namespace Go.AM
variable {N:Nat}
open IntKind (wrap)
open Go.Proofs
set_option maxRecDepth 10000
set_option maxHeartbeats 4000000
def bu:Str->Nat
 |[]=>0
 |_::_=>1
def Ba7:Str->Nat->List PV
 |[]=>λ_=>[]
 |a::s=>Qx (a::s)
def BA7 (s:Str)(i:Nat)(h:i<s.length):Ba7 s i=[.v (.int .u8 (s.getD i 0).toNat)]:=by
 cases s with
 |nil=>exact Kf h (Ct7 _)
 |cons a s=>rfl
def AV3 (s t:Str):Du s.length (Qx s) (Qx t)=Qx (s++t):=by
 funext i;unfold Du Qx;split
 .rename_i h;rw[Ci4,Ci4,Cn9 h]
 rename_i h;rw[Ci4,Ci4,Cw0 (by omega)]
def BA8 (s j:Str):Ba7 (s++(j++[10]))=Du s.length (Ba7 s) (Qx (j++[10])):=by
 cases s with
 |nil=>
  show Ba7 (j++[10])=_;cases j with
  |nil=>funext i;simp[Du,Ba7]
  |cons a j=>funext i;simp[Du,Ba7]
 |cons a s=>exact (AV3 (a::s) (j++[10])).symm
def Cd1 (s j:Str):bu (s++(j++[10]))=1:=by
 cases s with
 |cons a s=>rfl
 |nil=>cases j<;>rfl
def Ac (N:Nat)(n b:Int):Option Str:=ite ((-9223372036854775808<=n/\n<=9223372036854775807)/\b=10) (some (Lib.itoa n)) none
variable {S:X0}(Z:H4 S Tryz.prog) (Y:Km S)
include Z Y
theorem GB {n b:Int}{y:Str}(h:Ac N n b=some y):ZZ S Aa [.p (pI .i64 n),.p (pI .i64 b)] (.p (.str y)):=by unfold Ac at h;obtain⟨c,h⟩:=C0 h;obtain rfl:=A6 h;obtain⟨⟨c1,c2⟩,rfl⟩:=c;exact Y.fmtInt n c1 c2
theorem Bj4 {ws:Sl Str}{j s:Str}(a:X1 N ws [32]=some j)(hc:(s++(j++[10])).length<=140737488355328) :Yo S Ho [.p (vSl 1 cS ws),.reg 0 0] [.blk [0,116,bu s] 1,.vec I2 1 s.length (Ba7 s) false] (.tup []) [.blk [0,116,bu (s++(j++[10]))] 1,.vec I2 1 (s++(j++[10])).length (Ba7 (s++(j++[10]))) false] [true,false]:=by rw[Cd1,BA8,Ck6];rw[Ck6]at hc;exact BA6 Z Y a ⟨by omega,hc⟩
def KA (N:Nat)(b:A8)(a:Z9):Option (Str×Int):= (Z5 N b).bind λy1=>ite (y1 != 0) (some ([],y1)) (N3 N (λd (x1:Int)=>ite (decide (x1<(a.Bad.n:Int))) (ite ((0:Int)<=x1/\x1<(a.Bad.n:Int)) (JA (K4 eqI (a.Bad.g x1.toNat).Kind ([(1,0),(2,1)]:List (Int×Int))) (some ([],2)) λv3=>d (wrap .i64 (x1+1))) none) ((T4 N b.Yv.Tree).bind λy2=>V7 N (λc (x2:Str) (x3:Int)=>ite (decide (x3<(a.Bad.n:Int))) (ite ((0:Int)<=x3/\x3<(a.Bad.n:Int)) ((GA N b (a.Bad.g x3.toNat).Z1 (a.Bad.g x3.toNat).Ys).bind λo=>ite (!o) (some ([],3)) (JA (K4 eqI (a.Bad.g x3.toNat).Kind ([(1,0),(2,1)]:List (Int×Int))) (ite (((((0:Int)<=(a.Bad.g x3.toNat).Z1/\(a.Bad.g x3.toNat).Z1<(b.Yy.n:Int))/\((0:Int)<=(a.Bad.g x3.toNat).Ys/\(a.Bad.g x3.toNat).Ys<(y2.1.n:Int)))/\(a.Bad.g x3.toNat).Ys.toNat<y2.1.n)/\((0:Int)<=(y2.1.g (a.Bad.g x3.toNat).Ys.toNat)/\(y2.1.g (a.Bad.g x3.toNat).Ys.toNat)<(b.Yv.Tree.n:Int))) ((Ac N (a.Bad.g x3.toNat).Cost 10).bind λq=>(X1 N (Sl.of [[98,97,100],(b.Yy.g (a.Bad.g x3.toNat).Z1.toNat).Gloss,(b.Yv.Tree.g (y2.1.g (a.Bad.g x3.toNat).Ys.toNat).toNat).Name,[111,116,104,101,114],q]:Sl Str) [32]).bind λi=>ite ((x2++(i++[10])).length<=140737488355328) (c (x2++(i++[10])) (wrap .i64 (x3+1))) none) none) λv6=>ite ((0:Int)<=v6/\v6<2) (ite (((((0:Int)<=(a.Bad.g x3.toNat).Z1/\(a.Bad.g x3.toNat).Z1<(b.Yy.n:Int))/\((0:Int)<=(a.Bad.g x3.toNat).Ys/\(a.Bad.g x3.toNat).Ys<(y2.1.n:Int)))/\(a.Bad.g x3.toNat).Ys.toNat<y2.1.n)/\((0:Int)<=(y2.1.g (a.Bad.g x3.toNat).Ys.toNat)/\(y2.1.g (a.Bad.g x3.toNat).Ys.toNat)<(b.Yv.Tree.n:Int))) ((Ac N (a.Bad.g x3.toNat).Cost 10).bind λr=>(X1 N (Sl.of [[98,97,100],(b.Yy.g (a.Bad.g x3.toNat).Z1.toNat).Gloss,(b.Yv.Tree.g (y2.1.g (a.Bad.g x3.toNat).Ys.toNat).toNat).Name,[([111,116,104,101,114]:Str),([110,111,110,101]:Str)].getD v6.toNat [],r]:Sl Str) [32]).bind λj=>ite ((x2++(j++[10])).length<=140737488355328) (c (x2++(j++[10])) (wrap .i64 (x3+1))) none) none) none)) none) (V7 N (λf (x4:Str) (x5:Int)=>ite (decide (x5<(a.Yw.n:Int))) (ite ((0:Int)<=x5/\x5<(a.Yw.n:Int)) ((Bh N b (a.Yw.g x5.toNat)).bind λl=>ite (l.2 != 0) (some ([],l.2)) (ite ((0:Int)<=(a.Yw.g x5.toNat).Node/\(a.Yw.g x5.toNat).Node<(b.Yv.On.n:Int)) (ite ((((((((((0:Int)<=(a.Yw.g x5.toNat).Node/\(a.Yw.g x5.toNat).Node<(b.Yv.Tree.n:Int))/\((0:Int)<=(a.Yw.g x5.toNat).Place/\(a.Yw.g x5.toNat).Place<((b.Yv.On.g (a.Yw.g x5.toNat).Node.toNat).n:Int)))/\((0:Int)<=((b.Yv.On.g (a.Yw.g x5.toNat).Node.toNat).g (a.Yw.g x5.toNat).Place.toNat)/\((b.Yv.On.g (a.Yw.g x5.toNat).Node.toNat).g (a.Yw.g x5.toNat).Place.toNat)<(b.Yv.Laws.n:Int)))/\((0:Int)<=(wrap .i64 ((a.Yw.g x5.toNat).Place+1))/\(wrap .i64 ((a.Yw.g x5.toNat).Place+1))<((b.Yv.On.g (a.Yw.g x5.toNat).Node.toNat).n:Int)))/\((0:Int)<=((b.Yv.On.g (a.Yw.g x5.toNat).Node.toNat).g (wrap .i64 ((a.Yw.g x5.toNat).Place+1)).toNat)/\((b.Yv.On.g (a.Yw.g x5.toNat).Node.toNat).g (wrap .i64 ((a.Yw.g x5.toNat).Place+1)).toNat)<(b.Yv.Laws.n:Int)))/\((0:Int)<=(a.Yw.g x5.toNat).Z1/\(a.Yw.g x5.toNat).Z1<(b.Yy.n:Int)))/\((0:Int)<=(a.Yw.g x5.toNat).Ys/\(a.Yw.g x5.toNat).Ys<(y2.1.n:Int)))/\(a.Yw.g x5.toNat).Ys.toNat<y2.1.n)/\((0:Int)<=(y2.1.g (a.Yw.g x5.toNat).Ys.toNat)/\(y2.1.g (a.Yw.g x5.toNat).Ys.toNat)<(b.Yv.Tree.n:Int))) ((X1 N (Sl.of [[115,119,97,112],(b.Yv.Tree.g (a.Yw.g x5.toNat).Node.toNat).Name,(b.Yv.Laws.g ((b.Yv.On.g (a.Yw.g x5.toNat).Node.toNat).g (a.Yw.g x5.toNat).Place.toNat).toNat).Name,(b.Yv.Laws.g ((b.Yv.On.g (a.Yw.g x5.toNat).Node.toNat).g (wrap .i64 ((a.Yw.g x5.toNat).Place+1)).toNat).toNat).Name,(b.Yy.g (a.Yw.g x5.toNat).Z1.toNat).Gloss,(b.Yv.Tree.g (y2.1.g (a.Yw.g x5.toNat).Ys.toNat).toNat).Name]:Sl Str) [32]).bind λm=>ite ((x4++(m++[10])).length<=140737488355328) (f (x4++(m++[10])) (wrap .i64 (x5+1))) none) none) none)) none) (ite (decide (65536<(x4.length:Int))) (some ([],11)) (some (x4,0)))) x2 0)) [] 0)) 0)
theorem Ak9 {c:A8}{b:Z9}{y:Str×Int}(h:KA N c b=some y) :Yo S PW [.p (.agg (B2 c)),.p (.agg (Dv b))] [] (.tup [.p (.str y.1),pN y.2]) ([]) []:=by
 unfold KA at h;refine A1 Z Tryz.func20 ?_;refine C6 Z Ly 3 3000 (B2 c) ?_;refine C6 Z Ly 4 4000 [vSl 4 B9 b.Bad,vSl 4 N1 b.Yw] ?_;refine kD Z h (by decide:(8:Nat)<=8) (Hi Z Y) (λy1 h=>?_);refine Af6 Z h fun h=>?_;refine D6 Z Ly h (λx1=>kps [(35,pN x1)] [34,33,7,3,2] [] [31000]) (λo x1 q h=>?_);apply kI Z h<;>intro h
 .obtain⟨c11,h⟩:=C0 h;refine C6 Z (Vb c11 Pd) 40 10000 (B9 (b.Bad.g x1.toNat)) ?_;rcases o3:K4 eqI (b.Bad.g x1.toNat).Kind ([(1,0),(2,1)]:List (Int×Int))with _|v3
  .replace h:=Ap8 o3 h;refine Au0 Z Ly C9 C9 (pI .i64) (pI .i64) eqI o3 (pI .i64 0) Ly ?_;refine kT Z ?_;cases h;exact kR Z
  replace h:=Ad5 o3 h;refine At9 Z Ly C9 C9 (pI .i64) (pI .i64) eqI o3 Ly ?_;refine kF Z ?_;exact q Ly h
 refine kC Z h (FH Z Y) (λy2 h=>?_);refine K_bld Z Ly 14 ?_;refine F5 Z Ly h (λx2 x3=>kps [(60,pN x3)] [59,58,15,14,12,7,3,2] [(15001,.vec I2 1 x2.length (Ba7 x2) false),(15000,.blk [0,116,bu x2] 15001)] [54000,31000]) (λr x2 x3 j h=>?_);apply kI Z h<;>intro h
 .obtain⟨c27,h⟩:=C0 h;refine C6 Z (Vb c27 Pd) 64 18000 (B9 (b.Bad.g x3.toNat)) ?_;refine kD Z h (by decide:(8:Nat)<=8) (TC Z Y) (λw h=>?_);refine Af6 Z h fun h=>?_;rcases o6:K4 eqI (b.Bad.g x3.toNat).Kind ([(1,0),(2,1)]:List (Int×Int))with _|v6
  .replace h:=Ap8 o6 h;refine Au0 Z Ly C9 C9 (pI .i64) (pI .i64) eqI o6 (pI .i64 0) Ly ?_;refine G6 Z (by decide:(0:Int)<=0/\(0:Int)<2) [(2,.n),(4,.n),(5,.n),(7,.n),(10,.n),(13,.n),(16,.n),(18,.n),(21,.n),(22,.n),(24,.a [15000,15001,102000,102001])] ?_;obtain⟨c29,h⟩:=C0 h;refine dP h c29 (GB Z Y) (λl h=>?_);refine O6 Ly (x:=.sl true 1 5 (G7 [.str []] [(0,cS [98,97,100]),(1,cS (c.Yy.g (b.Bad.g x3.toNat).Z1.toNat).Gloss),(2,cS (c.Yv.Tree.g (y2.1.g (b.Bad.g x3.toNat).Ys.toNat).toNat).Name),(3,cS [111,116,104,101,114]),(4,cS l)])) ?_;obtain⟨z,e15,h⟩:=E7 h;obtain⟨c30,h⟩:=C0 h;refine Yk [15000,15001] Ly (Yo.le Z (args:=[.p (.sl true 1 5 (G7 [.str []] [(0,cS [98,97,100]),(1,cS (c.Yy.g (b.Bad.g x3.toNat).Z1.toNat).Gloss),(2,cS (c.Yv.Tree.g (y2.1.g (b.Bad.g x3.toNat).Ys.toNat).toNat).Name),(3,cS [111,116,104,101,114]),(4,cS l)])),.reg 0 0]) (by exact⟨Ni rfl (λi d=>match i,d with|0,_=>rfl|1,_=>rfl|2,_=>rfl|3,_=>rfl|4,_=>rfl|_+5,d=>Kf d (by omega)),⟨.inl rfl,trivial⟩⟩) (Bj4 Z Y e15 c30)) ?_;refine D1 Ly ?_;exact j Ly h
  replace h:=Ad5 o6 h;refine At9 Z Ly C9 C9 (pI .i64) (pI .i64) eqI o6 Ly ?_;obtain⟨c31,h⟩:=C0 h;refine G6 Z c31 [(2,.n),(4,.n),(5,.n),(7,.n),(10,.n),(13,.n),(16,.n),(18,.n),(21,.n),(22,.n),(24,.a [15000,15001,102000,102001])] ?_;obtain⟨c32,h⟩:=C0 h;refine dP h c32 (GB Z Y) (λm h=>?_);refine O6 Ly (x:=.sl true 1 5 (G7 [.str []] [(0,cS [98,97,100]),(1,cS (c.Yy.g (b.Bad.g x3.toNat).Z1.toNat).Gloss),(2,cS (c.Yv.Tree.g (y2.1.g (b.Bad.g x3.toNat).Ys.toNat).toNat).Name),(3,cS ([([111,116,104,101,114]:Str),([110,111,110,101]:Str)].getD v6.toNat [])),(4,cS m)])) ?_;obtain⟨a0,e17,h⟩:=E7 h;obtain⟨c33,h⟩:=C0 h;refine Yk [15000,15001] Ly (Yo.le Z (args:=[.p (.sl true 1 5 (G7 [.str []] [(0,cS [98,97,100]),(1,cS (c.Yy.g (b.Bad.g x3.toNat).Z1.toNat).Gloss),(2,cS (c.Yv.Tree.g (y2.1.g (b.Bad.g x3.toNat).Ys.toNat).toNat).Name),(3,cS ([([111,116,104,101,114]:Str),([110,111,110,101]:Str)].getD v6.toNat [])),(4,cS m)])),.reg 0 0]) (by exact⟨Ni rfl (λi d=>match i,d with|0,_=>rfl|1,_=>rfl|2,_=>rfl|3,_=>rfl|4,_=>rfl|_+5,d=>Kf d (by omega)),⟨.inl rfl,trivial⟩⟩) (Bj4 Z Y e17 c33)) ?_;refine D1 Ly ?_;exact j Ly h
 refine F5 Z Ly h (λx4 x5=>kps [(106,pN x5)] [105,104,15,14,12,2] [(15001,.vec I2 1 x4.length (Ba7 x4) false),(15000,.blk [0,116,bu x4] 15001)] [54000]) (λs x4 x5 t h=>?_);apply kI Z h<;>intro h
 .obtain⟨c45,h⟩:=C0 h;refine C6 Z (Vb c45 Pd) 111 21000 (N1 (b.Yw.g x5.toNat)) ?_;refine kD Z h (Vb (by decide:(8:Nat)<=8) Pd) (Ky Z Y) (λv h=>?_);refine C6 Z Ly 22 22000 (B0 v.1) ?_;refine Af6 Z h fun h=>?_;refine B5 Z Ly [2,4,5,6,9] ?_;refine dE h (λh=>?_);refine G6 Z Ly [(3,.n),(5,.n),(6,.n),(8,.n),(12,.n),(13,.n),(14,.n),(15,.n),(17,.n),(21,.n),(23,.n),(24,.n),(25,.n),(27,.n),(29,.n),(31,.n),(32,.n),(34,.n),(37,.n),(40,.n),(43,.n),(45,.n),(47,.a [15000,15001,177000,177001])] ?_;obtain⟨c48,h⟩:=C0 h;refine O6 c48 (x:=.sl true 1 6 (G7 [.str []] [(0,cS [115,119,97,112]),(1,cS (c.Yv.Tree.g (b.Yw.g x5.toNat).Node.toNat).Name),(2,cS (c.Yv.Laws.g ((c.Yv.On.g (b.Yw.g x5.toNat).Node.toNat).g (b.Yw.g x5.toNat).Place.toNat).toNat).Name),(3,cS (c.Yv.Laws.g ((c.Yv.On.g (b.Yw.g x5.toNat).Node.toNat).g (wrap .i64 ((b.Yw.g x5.toNat).Place+1)).toNat).toNat).Name),(4,cS (c.Yy.g (b.Yw.g x5.toNat).Z1.toNat).Gloss),(5,cS (c.Yv.Tree.g (y2.1.g (b.Yw.g x5.toNat).Ys.toNat).toNat).Name)])) ?_;obtain⟨a1,e23,h⟩:=E7 h;obtain⟨c49,h⟩:=C0 h;refine Yk [15000,15001] Ly (Yo.le Z (args:=[.p (.sl true 1 6 (G7 [.str []] [(0,cS [115,119,97,112]),(1,cS (c.Yv.Tree.g (b.Yw.g x5.toNat).Node.toNat).Name),(2,cS (c.Yv.Laws.g ((c.Yv.On.g (b.Yw.g x5.toNat).Node.toNat).g (b.Yw.g x5.toNat).Place.toNat).toNat).Name),(3,cS (c.Yv.Laws.g ((c.Yv.On.g (b.Yw.g x5.toNat).Node.toNat).g (wrap .i64 ((b.Yw.g x5.toNat).Place+1)).toNat).toNat).Name),(4,cS (c.Yy.g (b.Yw.g x5.toNat).Z1.toNat).Gloss),(5,cS (c.Yv.Tree.g (y2.1.g (b.Yw.g x5.toNat).Ys.toNat).toNat).Name)])),.reg 0 0]) (by exact⟨Ni rfl (λi d=>match i,d with|0,_=>rfl|1,_=>rfl|2,_=>rfl|3,_=>rfl|4,_=>rfl|5,_=>rfl|_+6,d=>Kf d (by omega)),⟨.inl rfl,trivial⟩⟩) (Bj4 Z Y e23 c49)) ?_;refine D1 Ly ?_;exact t Ly h
 refine E2 Z [15000,15001] Ly (w_Len Z Y (u:=bu x4) (n:=x4.length) (f:=Ba7 x4)) ?_;refine Af6 Z h fun h=>?_;refine E2 Z [15000,15001] Ly (Y.bstr 116 (bu x4) x4.length (Ba7 x4) x4 rfl rfl (BA7 x4)) ?_;cases h;exact kR Z
end Go.AM
namespace Go.AM
open Go.Proofs.Tryz
variable {N:Nat}
open IntKind (wrap)
open Go.Proofs
set_option maxRecDepth 10000
set_option maxHeartbeats 2000000
variable {S:X0}(Z:H4 S Tryz.prog) (Y:Km S)
include Z Y
def BH (N:Nat)(b:Str):Option (Sl Tr):= V7 N (λa (x1:Sl Tr) (x2:Int)=>ite (decide (x2<(b.length:Int))) (ite ((0:Int)<=x2/\x2<(b.length:Int)) (ite ((E8 b x2)==112) (ite (Va 8 (x1.n+(Sl.of [(⟨2,5⟩:Tr)]:Sl Tr).n)) (a (x1.push (⟨2,5⟩:Tr)) (wrap .i64 (x2+1))) none) (ite ((E8 b x2)==98) (ite (Va 8 (x1.n+(Sl.of [(⟨3,4⟩:Tr)]:Sl Tr).n)) (a (x1.push (⟨3,4⟩:Tr)) (wrap .i64 (x2+1))) none) (ite (Va 8 (x1.n+(Sl.of [(⟨5,2⟩:Tr)]:Sl Tr).n)) (a (x1.push (⟨5,2⟩:Tr)) (wrap .i64 (x2+1))) none))) none) (some x1)) Tn 0
theorem En {a:Str}{y:Sl Tr}(h:BH N a=some y) :Yo S Wo [.p (.str a)] [] (.p (vSl 2 A0 y)) ([]) []:=by
 unfold BH at h;refine A1 Z func22 ?_;refine F5 Z Ly h (λx1 x2 _=>⟨[(4,pN x2),(3,.vec 4500),(0,.p (.str a))],[(4500,oV A9 2 A0 x1 false)]⟩) (λc x1 x2 b h=>?_);apply kI Z h<;>intro h
 .refine kJ Z h (λh=>?_) (λh=>?_)
  .obtain⟨c12,h⟩:=C0 h;exact b (Vb Sr c12) h (hle:=kl1 2 (P0 A0 x1 (⟨2,5⟩:Tr) Ag7))
  apply kI Z h<;>intro h
  .obtain⟨c14,h⟩:=C0 h;exact b (Vb Sr c14) h (hle:=kl1 2 (P0 A0 x1 (⟨3,4⟩:Tr) Ag7))
  obtain⟨c15,h⟩:=C0 h;exact b (Vb Sr c15) h (hle:=kl1 2 (P0 A0 x1 (⟨5,2⟩:Tr) Ag7))
 obtain rfl:=A6 h;exact kO Z Ly []
def FO (N:Nat)(a:Str):Option N0:= ite ((a==[63]) != false) (some (⟨false,Tn⟩:N0)) ((BH N a).bind λy1=>some (⟨true,y1⟩:N0))
theorem Lh {a:Str}{y:N0}(h:FO N a=some y) :Yo S Wu [.p (.str a)] [] (.p (.agg (I5 y))) ([]) []:=by
 unfold FO at h;refine A1 Z func41 ?_;apply kI Z h<;>intro h
 .obtain rfl:=A6 h;exact J8 Z Ly ⟨[(2,.reg 3000 0)],[(3000,.cells [pB false,.p (vSl 2 A0 Tn)])]⟩ [] ⟨rfl,rfl,rfl⟩
 refine kC Z h (En Z Y) (λy1 h=>?_);cases h;exact kR Z
def GC (N:Nat)(a:Str)(b:Sl Str):Option Z1:= V7 N (λc (x1:Sl N0) (x2:Int)=>ite (decide (x2<(b.n:Int))) (ite ((0:Int)<=x2/\x2<(b.n:Int)) ((FO N (b.g x2.toNat)).bind λy3=>ite (Va 32 (x1.n+(Sl.of [y3]:Sl N0).n)) (c (x1.push y3) (wrap .i64 (x2+1))) none) none) (some (⟨a,x1⟩:Z1))) (Sl.nil:Sl N0) 0
theorem MQ {a:Str}{b:Sl Str}{y:Z1}(h:GC N a b=some y) :Yo S Sx [.p (.str a),.p (vSl 1 cS b)] [] (.p (.agg (N8 y))) ([]) []:=by
 unfold GC at h;refine A1 Z func42 ?_;refine F5 Z Ly h (λx1 x2=>kps [(12,pN x2)] [11,10,5,4] [(6500,oV Lf 2 I5 x1 false),(6000,.cells [.p (.str a),.vec 6500]),(5000,.cells [.p (.str []),.p I4])] []) (λc x1 x2 d h=>?_);apply kI Z h<;>intro h
 .obtain⟨c8,h⟩:=C0 h;refine B5 Z c8 [3] ?_;refine dP h Ly (Lh Z Y) (λy3 h=>?_);refine O6 Ly (x:=.sl true 2 1 (G7 Ag8 [(0,I5 y3)])) ?_;refine dE h (λh=>?_);exact d Ly h (hle:=kl1 3 (P0 I5 x1 y3 Ag8))
 obtain rfl:=A6 h;exact J8 Z Ly ⟨[(4,.reg 5000 0)],[(5000,.cells [.p (.str a),.p (vSl 2 I5 x1)])]⟩ [] ⟨rfl,rfl,rfl⟩
abbrev Ag1:Sl EM:=Sl.of [(⟨0,0,(⟨1,0⟩:Tr),0,0⟩:EM)]
abbrev Af7:Sl Law:=Sl.of [(⟨[118,111,105,99,105,110,103],Pat.mk 1 (⟨4,0⟩:Tr) false 0 0 (Sl.nil:Sl Pat).n (Sl.nil:Sl Pat).g,Pat.mk 1 (⟨4,0⟩:Tr) false 0 0 (Sl.nil:Sl Pat).n (Sl.nil:Sl Pat).g,(Sl.of [(⟨2,0⟩:Tr)]:Sl Tr),Ag1,1⟩:Law),(⟨[97,112,111,99,111,112,101],Pat.mk 0 (⟨0,0⟩:Tr) false 0 0 (Sl.nil:Sl Pat).n (Sl.nil:Sl Pat).g,Pat.mk 6 (⟨0,0⟩:Tr) false 0 0 (Sl.nil:Sl Pat).n (Sl.nil:Sl Pat).g,(Sl.of [(⟨4,0⟩:Tr)]:Sl Tr),(Sl.nil:Sl EM),1⟩:Law)]
abbrev Af8:Sl Node:=Sl.of [(⟨-1,[112,114,111,116,111]⟩:Node),(⟨0,[119,101,115,116]⟩:Node),(⟨0,[101,97,115,116]⟩:Node),(⟨1,[110,111,114,116,104]⟩:Node),(⟨1,[115,111,117,116,104]⟩:Node)]
def IR (N:Nat)  : Option Yv:= some (⟨Af8,Af7,(Sl.of [Tj,(Sl.of [0]:Sl Int),(Sl.of [1,0]:Sl Int),(Sl.of [1]:Sl Int),Tj]:Sl (Sl Int))⟩:Yv)
theorem Zi    {y:Yv}(h:IR N  = some y) :Yo S NH [] [] (.p (.agg (B0 y))) ([]) []:=by unfold IR at h;refine A1 Z func40 ?_;refine I7 Z Sr 10 (kps [] [9,1,0] [(10000,.vec Y4 2 Af8.n (λi=>F1 (Af8.g i)) false),(2000,.cells [pN 1,pU 4,pU 0,pB false,pN 0,pN 0,.p (vSl 7 C5 (Sl.nil:Sl Pat))]),(1000,.cells [.p I4,.p I4,.p I4])] []) ?_ (hle:=kl1 0 (AR3 F1 ([(⟨-1,[112,114,111,116,111]⟩:Node),(⟨0,[119,101,115,116]⟩:Node),(⟨0,[101,97,115,116]⟩:Node),(⟨1,[110,111,114,116,104]⟩:Node),(⟨1,[115,111,117,116,104]⟩:Node)]:List Node) [pI .i64 0,.str []]));refine I7 Z (Vb Sr Sr) 17 (kps [(16,.p (vSl 6 Dj Ag1)),(13,.p (vSl 2 A0 (Sl.of [(⟨2,0⟩:Tr)]:Sl Tr))),(11,.p (.agg [pI .i64 1,pI .u32 4,pI .u32 0,.bb false,pI .i64 0,pI .i64 0,vSl 7 C5 (Sl.nil:Sl Pat)])),(10,.p (.agg [pI .i64 1,pI .u32 4,pI .u32 0,.bb false,pI .i64 0,pI .i64 0,vSl 7 C5 (Sl.nil:Sl Pat)]))] [9,0] [(10000,.vec Y4 2 Af8.n (λi=>F1 (Af8.g i)) false),(1000,.cells [.p I4,.p I4,.p I4])] []) ?_ (hle:=kl2 0 1 (AR3 Dj ([(⟨0,0,(⟨1,0⟩:Tr),0,0⟩:EM)]:List EM) [pI .i64 0,pI .u32 0,pI .u32 0,pI .u32 0,pI .u32 0,pI .i64 0]) (AR3 A0 ([(⟨2,0⟩:Tr)]:List Tr) Ag7));refine I7 Z Sr 21 (kps [(20,.p (vSl 2 A0 (Sl.of [(⟨4,0⟩:Tr)]:Sl Tr))),(18,.p (.agg [pI .i64 6,pI .u32 0,pI .u32 0,.v (.bool false),pI .i64 0,pI .i64 0,I4])),(17,.p (.agg [.str [118,111,105,99,105,110,103],pI .i64 1,pI .u32 4,pI .u32 0,.bb false,pI .i64 0,pI .i64 0,vSl 7 C5 (Sl.nil:Sl Pat),pI .i64 1,pI .u32 4,pI .u32 0,.bb false,pI .i64 0,pI .i64 0,vSl 7 C5 (Sl.nil:Sl Pat),vSl 2 A0 (Sl.of [(⟨2,0⟩:Tr)]:Sl Tr),vSl 6 Dj Ag1,pI .i64 1]))] [9,0] [(10000,.vec Y4 2 Af8.n (λi=>F1 (Af8.g i)) false),(1000,.cells [.p I4,.p I4,.p I4])] []) ?_ (hle:=kl1 0 (AR3 A0 ([(⟨4,0⟩:Tr)]:List Tr) Ag7));refine Bg5 Z Sr 23 23000 (k:=18) (n:=2) (e:=H7) (vw:=false) (G7 Ag2 [(0,[.str [118,111,105,99,105,110,103],pI .i64 1,pI .u32 4,pI .u32 0,.bb false,pI .i64 0,pI .i64 0,vSl 7 C5 (Sl.nil:Sl Pat),pI .i64 1,pI .u32 4,pI .u32 0,.bb false,pI .i64 0,pI .i64 0,vSl 7 C5 (Sl.nil:Sl Pat),vSl 2 A0 (Sl.of [(⟨2,0⟩:Tr)]:Sl Tr),vSl 6 Dj Ag1,pI .i64 1]),(1,[.str [97,112,111,99,111,112,101],pI .i64 0,pI .u32 0,pI .u32 0,.v (.bool false),pI .i64 0,pI .i64 0,I4,pI .i64 6,pI .u32 0,pI .u32 0,.v (.bool false),pI .i64 0,pI .i64 0,I4,vSl 2 A0 (Sl.of [(⟨4,0⟩:Tr)]:Sl Tr),I4,pI .i64 1])]) (λi=>B7 (Af7.g i)) (λi a=>match i,a with|0,_=>(Jx (.inl rfl) (Jx (.inl rfl) (Jx (.inl rfl) (Jx (.inl rfl) (Jx (.inl rfl) (Jx (.inl rfl) (Jx (.inl rfl) (Jx (.inl rfl) (Jx (.inl rfl) (Jx (.inl rfl) (Jx (.inl rfl) (Jx (.inl rfl) (Jx (.inl rfl) (Jx (.inl rfl) (Jx (.inl rfl) (Jx (.inl rfl) (Jx (.inl rfl) (Jx (.inl rfl) leC0))))))))))))))))))|1,_=>(Jx (.inl rfl) (Jx (.inl rfl) (Jx (.inl rfl) (Jx (.inl rfl) (Jx lePT (Jx (.inl rfl) (Jx (.inl rfl) (Jx Cg5 (Jx (.inl rfl) (Jx (.inl rfl) (Jx (.inl rfl) (Jx lePT (Jx (.inl rfl) (Jx (.inl rfl) (Jx Cg5 (Jx (.inl rfl) (Jx Cg5 (Jx (.inl rfl) leC0))))))))))))))))))|_+2,a=>Kf a (by omega)) ?_;refine I7 Z (Vb (Vb Sr Sr) Sr) 26 (kps [] [25,24,23,22,9,0] [(26000,oV C9 1 (cI .i64) (Sl.of [1]:Sl Int) true),(25000,oV C9 1 (cI .i64) (Sl.of [1,0]:Sl Int) true),(24000,oV C9 1 (cI .i64) (Sl.of [0]:Sl Int) true),(23000,.vec H7 18 Af7.n (λi=>B7 (Af7.g i)) false),(10000,.vec Y4 2 Af8.n (λi=>F1 (Af8.g i)) false),(1000,.cells [.p I4,.p I4,.p I4])] []) ?_ (hle:=klR [(0,.fn 1 (Sl.of [1]:Sl Int).n (G7 [pI .i64 0] [(0,cI .i64 1)]) (λi=>cI .i64 ((Sl.of [1]:Sl Int).g i))),(1,.fn 2 (Sl.of [1,0]:Sl Int).n (G7 [pI .i64 0] [(0,cI .i64 1),(1,cI .i64 0)]) (λi=>cI .i64 ((Sl.of [1,0]:Sl Int).g i))),(2,.fn 1 (Sl.of [0]:Sl Int).n (G7 [pI .i64 0] [(0,cI .i64 0)]) (λi=>cI .i64 ((Sl.of [0]:Sl Int).g i)))] (al1 ⟨rfl,(λi a=>match i,a with|0,_=>rfl|_+1,a=>Kf a (by omega))⟩ (al1 ⟨rfl,(λi a=>match i,a with|0,_=>rfl|1,_=>rfl|_+2,a=>Kf a (by omega))⟩ (al1 ⟨rfl,(λi a=>match i,a with|0,_=>rfl|_+1,a=>Kf a (by omega))⟩ al0))));refine Bg5 Z Sr 27 27000 (k:=1) (n:=5) (e:=EC) (vw:=false) (G7 [I4] [(0,[I4]),(1,cL 1 (cI .i64) (Sl.of [0]:Sl Int)),(2,cL 1 (cI .i64) (Sl.of [1,0]:Sl Int)),(3,cL 1 (cI .i64) (Sl.of [1]:Sl Int)),(4,[I4])]) (λi=>cL 1 (cI .i64) ((Sl.of [Tj,(Sl.of [0]:Sl Int),(Sl.of [1,0]:Sl Int),(Sl.of [1]:Sl Int),Tj]:Sl (Sl Int)).g i)) (λi a=>match i,a with|0,_=>leCn|1,_=>leCr _|2,_=>leCr _|3,_=>leCr _|4,_=>leCn|_+5,a=>Kf a (by omega)) ?_;refine I7 Z Ly 27 (kps [(26,.p (vSl 1 (cL 1 (cI .i64)) (Sl.of [Tj,(Sl.of [0]:Sl Int),(Sl.of [1,0]:Sl Int),(Sl.of [1]:Sl Int),Tj]:Sl (Sl Int)))),(22,.p (vSl 18 B7 Af7)),(9,.p (vSl 2 F1 Af8))] [0] [(1000,.cells [.p I4,.p I4,.p I4])] []) ?_;cases h;exact kR Z
abbrev Af9:Sl Str:=Sl.of [[118,111,105,99,101],[115,116,111,112],[118,111,119,101,108]]
def IS (N:Nat)  : Option A8:= (BH N [112]).bind λy1=>ite ((0:Int)<=0/\0<(y1.n:Int)) ((BH N [98]).bind λy2=>ite ((0:Int)<=0/\0<(y2.n:Int)) ((BH N [97]).bind λy3=>ite ((0:Int)<=0/\0<(y3.n:Int)) ((IR N ).bind λy4=>(FO N [97,112,97]).bind λy5=>(FO N [112,97]).bind λy6=>(FO N [63]).bind λy7=>(GC N [111,110,101] (Sl.of [[97,112],[97,98],[97,98,97]]:Sl Str)).bind λy8=>(GC N [116,119,111] (Sl.of [[112],[112,97],[63]]:Sl Str)).bind λy9=>(GC N [116,104,114,101,101] (Sl.of [[63],[63],[98]]:Sl Str)).bind λa=>some (⟨Af9,(Sl.of [(⟨[112],y1.g 0⟩:F9),(⟨[98],y2.g 0⟩:F9),(⟨[97],y3.g 0⟩:F9)]:Sl F9),(Sl.nil:Sl GW),y4,(Sl.of [y5,y6,y7]:Sl N0),(Sl.of [y8,y9,a]:Sl Z1)⟩:A8)) none) none) none
theorem Zj    {y:A8}(h:IS N  = some y) :Yo S ND [] [] (.p (.agg (B2 y))) ([]) []:=by unfold IS at h;refine A1 Z func17 ?_;refine B5 Z Ly [1,2,3,5,6,7,9,10,11,14,15,16,17,20,22,24] ?_;refine O6 Ly (x:=.sl true 1 3 (G7 [.str []] [(0,cS [118,111,105,99,101]),(1,cS [115,116,111,112]),(2,cS [118,111,119,101,108])])) ?_;refine dP h Ly (En Z Y) (λy1 h=>?_);obtain⟨c1,h⟩:=C0 h;refine dP h (Vb c1 Pb) (En Z Y) (λy2 h=>?_);obtain⟨c2,h⟩:=C0 h;refine dP h (Vb c2 Pb) (En Z Y) (λy3 h=>?_);obtain⟨c3,h⟩:=C0 h;refine O6 (Vb c3 Pb) (x:=.sl true 3 3 (G7 Ag6 [(0,H6 (⟨[112],y1.g 0⟩:F9)),(1,H6 (⟨[98],y2.g 0⟩:F9)),(2,H6 (⟨[97],y3.g 0⟩:F9))])) ?_;refine dP h Ly (Zi Z Y) (λy4 h=>?_);refine dP h Ly (Lh Z Y) (λy5 h=>?_);refine dP h Ly (Lh Z Y) (λy6 h=>?_);refine dP h Ly (Lh Z Y) (λy7 h=>?_);refine O6 Ly (x:=.sl true 2 3 (G7 Ag8 [(0,I5 y5),(1,I5 y6),(2,I5 y7)])) ?_;refine O6 Ly (x:=.sl true 1 3 (G7 [.str []] [(0,cS [97,112]),(1,cS [97,98]),(2,cS [97,98,97])])) ?_;obtain⟨y8,e8,h⟩:=E7 h;refine PO Ly (Yo.le Z (args:=[(.p (.str [111,110,101])),.p (.sl true 1 3 (G7 [.str []] [(0,cS [97,112]),(1,cS [97,98]),(2,cS [97,98,97])]))]) (by exact⟨.inl rfl,⟨Ni rfl (λi a=>match i,a with|0,_=>rfl|1,_=>rfl|2,_=>rfl|_+3,a=>Kf a (by omega)),trivial⟩⟩) (MQ Z Y e8)) ?_;refine O6 Ly (x:=.sl true 1 3 (G7 [.str []] [(0,cS [112]),(1,cS [112,97]),(2,cS [63])])) ?_;obtain⟨y9,e9,h⟩:=E7 h;refine PO Ly (Yo.le Z (args:=[(.p (.str [116,119,111])),.p (.sl true 1 3 (G7 [.str []] [(0,cS [112]),(1,cS [112,97]),(2,cS [63])]))]) (by exact⟨.inl rfl,⟨Ni rfl (λi a=>match i,a with|0,_=>rfl|1,_=>rfl|2,_=>rfl|_+3,a=>Kf a (by omega)),trivial⟩⟩) (MQ Z Y e9)) ?_;refine O6 Ly (x:=.sl true 1 3 (G7 [.str []] [(0,cS [63]),(1,cS [63]),(2,cS [98])])) ?_;obtain⟨b,e10,h⟩:=E7 h;refine PO Ly (Yo.le Z (args:=[(.p (.str [116,104,114,101,101])),.p (.sl true 1 3 (G7 [.str []] [(0,cS [63]),(1,cS [63]),(2,cS [98])]))]) (by exact⟨.inl rfl,⟨Ni rfl (λi a=>match i,a with|0,_=>rfl|1,_=>rfl|2,_=>rfl|_+3,a=>Kf a (by omega)),trivial⟩⟩) (MQ Z Y e10)) ?_;refine O6 Ly (x:=.sl true 2 3 (G7 [.str [],I4] [(0,N8 y8),(1,N8 y9),(2,N8 b)])) ?_;refine D1 Ly ?_;obtain rfl:=A6 h;exact J8 Z Ly ⟨[(0,.reg 1000 0)],[(1000,.cells [.p (vSl 1 cS Af9),.p (vSl 3 H6 (Sl.of [(⟨[112],y1.g 0⟩:F9),(⟨[98],y2.g 0⟩:F9),(⟨[97],y3.g 0⟩:F9)]:Sl F9)),.p (vSl 4 EN (Sl.nil:Sl GW)),.p (vSl 2 F1 y4.Tree),.p (vSl 18 B7 y4.Laws),.p (vSl 1 (cL 1 (cI .i64)) y4.On),.p (vSl 2 I5 (Sl.of [y5,y6,y7]:Sl N0)),.p (vSl 2 N8 (Sl.of [y8,y9,b]:Sl Z1))])]⟩ [] ⟨rfl,rfl,rfl⟩ (hle:=klR [(0,.fn 3 Af9.n (G7 [.str []] [(0,cS [118,111,105,99,101]),(1,cS [115,116,111,112]),(2,cS [118,111,119,101,108])]) (λi=>cS (Af9.g i))),(1,.fn 3 (Sl.of [(⟨[112],y1.g 0⟩:F9),(⟨[98],y2.g 0⟩:F9),(⟨[97],y3.g 0⟩:F9)]:Sl F9).n (G7 Ag6 [(0,H6 (⟨[112],y1.g 0⟩:F9)),(1,H6 (⟨[98],y2.g 0⟩:F9)),(2,H6 (⟨[97],y3.g 0⟩:F9))]) (λi=>H6 ((Sl.of [(⟨[112],y1.g 0⟩:F9),(⟨[98],y2.g 0⟩:F9),(⟨[97],y3.g 0⟩:F9)]:Sl F9).g i))),(6,.fn 3 (Sl.of [y5,y6,y7]:Sl N0).n (G7 Ag8 [(0,I5 y5),(1,I5 y6),(2,I5 y7)]) (λi=>I5 ((Sl.of [y5,y6,y7]:Sl N0).g i))),(7,.fn 3 (Sl.of [y8,y9,b]:Sl Z1).n (G7 [.str [],I4] [(0,N8 y8),(1,N8 y9),(2,N8 b)]) (λi=>N8 ((Sl.of [y8,y9,b]:Sl Z1).g i)))] (al1 ⟨rfl,(λi a=>match i,a with|0,_=>rfl|1,_=>rfl|2,_=>rfl|_+3,a=>Kf a (by omega))⟩ (al1 ⟨rfl,(λi a=>match i,a with|0,_=>rfl|1,_=>rfl|2,_=>rfl|_+3,a=>Kf a (by omega))⟩ (al1 ⟨rfl,(λi a=>match i,a with|0,_=>rfl|1,_=>rfl|2,_=>rfl|_+3,a=>Kf a (by omega))⟩ (al1 ⟨rfl,(λi a=>match i,a with|0,_=>rfl|1,_=>rfl|2,_=>rfl|_+3,a=>Kf a (by omega))⟩ al0)))))
def BI (N:Nat)  : Option Z9:= some (⟨(Sl.of [(⟨1,1,1,5⟩:A5),(⟨2,2,2,5⟩:A5)]:Sl A5),(Sl.of [(⟨2,0,0,0⟩:Br)]:Sl Br)⟩:Z9)
theorem Eo    {y:Z9}(h:BI N  = some y) :Yo S Wn [] [] (.p (.agg (Dv y))) ([]) []:=by unfold BI at h;refine A1 Z func19 ?_;obtain rfl:=A6 h;exact J8 Z (Vb Sr Sr) ⟨[(0,.reg 1000 0)],[(1000,.cells [.p (vSl 4 B9 (Sl.of [(⟨1,1,1,5⟩:A5),(⟨2,2,2,5⟩:A5)]:Sl A5)),.p (vSl 4 N1 (Sl.of [(⟨2,0,0,0⟩:Br)]:Sl Br))])]⟩ [] ⟨rfl,rfl,rfl⟩ (hle:=kl2 0 1 (AR3 B9 ([(⟨1,1,1,5⟩:A5),(⟨2,2,2,5⟩:A5)]:List A5) Ag4) (AR3 N1 ([(⟨2,0,0,0⟩:Br)]:List Br) Ag4))
def CX (N:Nat)  : Option Bool:= (IS N ).bind λy1=>(Z6 N y1 5).bind λy2=>(BI N ).bind λy3=>(X3 N y1 5 y3).bind λy4=>(BI N ).bind λy5=>(X3 N y1 4 y5).bind λy6=>(BI N ).bind λy7=>(KA N y1 y7).bind λy8=>(Dl N y1 (⟨2,0,1,0⟩:Br)).bind λy9=>(BI N ).bind λi=>(W6 N y1 i).bind λd=>(BH N [97,112,97]).bind λj=>(BH N [112,97]).bind λl=>(BH N [112,97,97]).bind λm=>(IQ N y1 (Sl.of [j,l,m]:Sl (Sl Tr)) 1 5).bind λf=>ite (y2.2==0) (ite (y4.2==0) (ite (y6.2==0) (ite (y8.2==0) (ite (y9.2==0) (ite (d.2==0) (ite (f.2==0) (ite ((y2.1.Bad.n:Int)==2) (ite ((y2.1.Yw.n:Int)==1) (ite ((0:Int)<=0/\0<(y2.1.Bad.n:Int)) ((BI N ).bind λa=>ite ((0:Int)<=0/\0<(a.Bad.n:Int)) (ite ((((y2.1.Bad.g 0).Z1==(a.Bad.g 0).Z1)&&(((y2.1.Bad.g 0).Ys==(a.Bad.g 0).Ys)&&(((y2.1.Bad.g 0).Kind==(a.Bad.g 0).Kind)&&((y2.1.Bad.g 0).Cost==(a.Bad.g 0).Cost)))) != false) (ite ((0:Int)<=1/\1<(y2.1.Bad.n:Int)) ((BI N ).bind λb=>ite ((0:Int)<=1/\1<(b.Bad.n:Int)) (ite ((((y2.1.Bad.g 1).Z1==(b.Bad.g 1).Z1)&&(((y2.1.Bad.g 1).Ys==(b.Bad.g 1).Ys)&&(((y2.1.Bad.g 1).Kind==(b.Bad.g 1).Kind)&&((y2.1.Bad.g 1).Cost==(b.Bad.g 1).Cost)))) != false) (ite ((0:Int)<=0/\0<(y2.1.Yw.n:Int)) ((BI N ).bind λc=>ite ((0:Int)<=0/\0<(c.Yw.n:Int)) (ite ((((y2.1.Yw.g 0).Node==(c.Yw.g 0).Node)&&(((y2.1.Yw.g 0).Place==(c.Yw.g 0).Place)&&(((y2.1.Yw.g 0).Z1==(c.Yw.g 0).Z1)&&((y2.1.Yw.g 0).Ys==(c.Yw.g 0).Ys)))) != false) (ite y4.1 (ite (!y6.1) (ite ((y8.1==[98,97,100,32,116,119,111,32,110,111,114,116,104,32,111,116,104,101,114,32,53,10,98,97,100,32,116,104,114,101,101,32,115,111,117,116,104,32,110,111,110,101,32,53,10,115,119,97,112,32,101,97,115,116,32,97,112,111,99,111,112,101,32,118,111,105,99,105,110,103,32,111,110,101,32,101,97,115,116,10]) != false) (ite (!y9.1) (ite d.1 (some (f.1==1)) (some false)) (some false)) (some false)) (some false)) (some false)) (some false)) none) none) (some false)) none) none) (some false)) none) none) (some false)) (some false)) (some false)) (some false)) (some false)) (some false)) (some false)) (some false)) (some false)
theorem TF    {y:Bool}(h:CX N  = some y) :Yo S Sm [] [] (pB y) ([]) []:=by
 unfold CX at h;refine A1 Z func5 ?_;refine kC Z h (Zj Z Y) (λy1 h=>?_);refine C6 Z Ly 18 2000 (B2 y1) ?_;refine kD Z h (by decide:(8:Nat)<=8) (Kz Z Y) (λy2 h=>?_);refine C6 Z Ly 3 3000 [vSl 4 B9 y2.1.Bad,vSl 4 N1 y2.1.Yw] ?_;refine B5 Z Ly [0,1,2] ?_;refine dP h (by decide:(8:Nat)<=8) (Eo Z Y) (λy3 h=>?_);refine dP h Ly (Hw Z Y) (λy4 h=>?_);refine D1 Ly ?_;refine B5 Z Ly [0,1,2] ?_;refine dP h (by decide:(8:Nat)<=8) (Eo Z Y) (λy5 h=>?_);refine dP h Ly (Hw Z Y) (λy6 h=>?_);refine D1 Ly ?_;refine B5 Z Ly [0,1,2] ?_;refine dP h (by decide:(8:Nat)<=8) (Eo Z Y) (λy7 h=>?_);refine dP h Ly (Ak9 Z Y) (λy8 h=>?_);refine D1 Ly ?_;refine kD Z h (by decide:(8:Nat)<=8) (Qw Z Y) (λy9 h=>?_);refine B5 Z Ly [0,1,2] ?_;refine dP h (by decide:(8:Nat)<=8) (Eo Z Y) (λn h=>?_);refine dP h Ly (Ot Z Y) (λo h=>?_);refine D1 Ly ?_;refine B5 Z Ly [0,1,2,3,5] ?_;refine dP h (by decide:(8:Nat)<=8) (En Z Y) (λf h=>?_);refine dP h Ly (En Z Y) (λj h=>?_);refine dP h Ly (En Z Y) (λl h=>?_);refine O6 Ly (x:=.sl true 1 3 (G7 [I4] [(0,cL 2 A0 f),(1,cL 2 A0 j),(2,cL 2 A0 l)])) ?_;obtain⟨q,e15,h⟩:=E7 h;refine PO Ly (Yo.le Z (args:=[(.p (.agg (B2 y1))),.p (.sl true 1 3 (G7 [I4] [(0,cL 2 A0 f),(1,cL 2 A0 j),(2,cL 2 A0 l)])),pN 1,pN 5]) (by exact⟨.inl rfl,⟨Ni rfl (λi m=>match i,m with|0,_=>rfl|1,_=>rfl|2,_=>rfl|_+3,m=>Kf m (by omega)),⟨.inl rfl,⟨.inl rfl,trivial⟩⟩⟩⟩) (Ze Z Y e15)) ?_;refine D1 Ly ?_;refine B5 Z Ly [28,34,40,41,42,43,45,46,51,52,53,54,56,57,62,63,64,65,67,68] ?_;refine dG Ly h (λh=>?_) (λh=>?_)
 .refine dG Ly h (λh=>?_) (λh=>?_)
  .refine dG Ly h (λh=>?_) (λh=>?_)
   .refine dG Ly h (λh=>?_) (λh=>?_)
    .refine dG Ly h (λh=>?_) (λh=>?_)
     .refine dG Ly h (λh=>?_) (λh=>?_)
      .refine dG Ly h (λh=>?_) (λh=>?_)
       .refine dG Ly h (λh=>?_) (λh=>?_)
        .refine dG Ly h (λh=>?_) (λh=>?_)
         .obtain⟨c10,h⟩:=C0 h;refine dP h (Vb c10 Pd) (Eo Z Y) (λa h=>?_);obtain⟨c11,h⟩:=C0 h;refine Yb (Vb (Vb c11 Pd) (by decide +kernel:QF Tryz.prog K7=true)) (b:=(((y2.1.Bad.g 0).Z1==(a.Bad.g 0).Z1)&&(((y2.1.Bad.g 0).Ys==(a.Bad.g 0).Ys)&&(((y2.1.Bad.g 0).Kind==(a.Bad.g 0).Kind)&&((y2.1.Bad.g 0).Cost==(a.Bad.g 0).Cost)))) != false) (λc12=>?_) (λc12=>?_)
          .replace h:=itT c12 h;obtain⟨c13,h⟩:=C0 h;refine dP h (Vb c13 Pd) (Eo Z Y) (λc h=>?_);obtain⟨c14,h⟩:=C0 h;refine Yb (Vb (Vb c14 Pd) (by decide +kernel:QF Tryz.prog K7=true)) (b:=(((y2.1.Bad.g 1).Z1==(c.Bad.g 1).Z1)&&(((y2.1.Bad.g 1).Ys==(c.Bad.g 1).Ys)&&(((y2.1.Bad.g 1).Kind==(c.Bad.g 1).Kind)&&((y2.1.Bad.g 1).Cost==(c.Bad.g 1).Cost)))) != false) (λc15=>?_) (λc15=>?_)
           .replace h:=itT c15 h;obtain⟨c16,h⟩:=C0 h;refine dP h (Vb c16 Pd) (Eo Z Y) (λd h=>?_);obtain⟨c17,h⟩:=C0 h;refine Yb (Vb (Vb c17 Pd) (by decide +kernel:QF Tryz.prog Bv=true)) (b:=(((y2.1.Yw.g 0).Node==(d.Yw.g 0).Node)&&(((y2.1.Yw.g 0).Place==(d.Yw.g 0).Place)&&(((y2.1.Yw.g 0).Z1==(d.Yw.g 0).Z1)&&((y2.1.Yw.g 0).Ys==(d.Yw.g 0).Ys)))) != false) (λc18=>?_) (λc18=>?_)
            .replace h:=itT c18 h;refine dG Ly h (λh=>?_) (λh=>?_)
             .refine dG Ly h (λh=>?_) (λh=>?_)
              .refine dG Ly h (λh=>?_) (λh=>?_)
               .refine dG Ly h (λh=>?_) (λh=>?_)
                .refine dG Ly h (λh=>?_) (λh=>?_)
                 .refine D1 Ly ?_;cases h;exact kR Z
                 refine D1 Ly ?_;cases h;exact kR Z
                refine D1 Ly ?_;cases h;exact kR Z
               refine D1 Ly ?_;cases h;exact kR Z
              refine D1 Ly ?_;cases h;exact kR Z
             refine D1 Ly ?_;cases h;exact kR Z
            replace h:=itF c18 h;refine D1 Ly ?_;cases h;exact kR Z
           replace h:=itF c15 h;refine D1 Ly ?_;cases h;exact kR Z
          replace h:=itF c12 h;refine D1 Ly ?_;cases h;exact kR Z
         refine D1 Ly ?_;cases h;exact kR Z
        refine D1 Ly ?_;cases h;exact kR Z
       refine D1 Ly ?_;cases h;exact kR Z
      refine D1 Ly ?_;cases h;exact kR Z
     refine D1 Ly ?_;cases h;exact kR Z
    refine D1 Ly ?_;cases h;exact kR Z
   refine D1 Ly ?_;cases h;exact kR Z
  refine D1 Ly ?_;cases h;exact kR Z
 refine D1 Ly ?_;cases h;exact kR Z
def G5 (N:Nat)(a:Tr):Option Bool:= N3 N (λb (x1:Int)=>ite (decide (x1<32)) (ite ((0:Int)<=x1/\(0:Int)<=x1) (ite ((((F3 .and .u32 (shI .shr .u32 a.Plus x1) 1)==1)&&((F3 .and .u32 (shI .shr .u32 a.Minus x1) 1)==1))||((((F3 .and .u32 (shI .shr .u32 a.Plus x1) 1)==1)||((F3 .and .u32 (shI .shr .u32 a.Minus x1) 1)==1))&&(decide (24<=x1)))) (some false) (b (wrap .i64 (x1+1)))) none) (some true)) 0
theorem V5 {b:Tr}{y:Bool}(h:G5 N b=some y) :Yo S SH [.p (.agg (A0 b))] [] (pB y) ([]) []:=by
 unfold G5 at h;refine A1 Z func74 ?_;refine D6 Z Ly h (λx1=>kps [(3,pN x1)] [1] [] [2000]) (λc x1 d h=>?_);apply kI Z h<;>intro h
 .obtain⟨c7,h⟩:=C0 h;refine kB Z (A3 Z) c7 Ly 12 (.o (.n (.a ((F3 .and .u32 (shI .shr .u32 b.Plus x1) 1)==1)) (.a ((F3 .and .u32 (shI .shr .u32 b.Minus x1) 1)==1))) (.n (.o (.a ((F3 .and .u32 (shI .shr .u32 b.Plus x1) 1)==1)) (.a ((F3 .and .u32 (shI .shr .u32 b.Minus x1) 1)==1))) (.a (decide (24<=x1))))) ?_;refine Af6 Z h fun h=>?_;exact d Ly h
 cases h;exact kR Z
def DQ (N:Nat)(a:Int):Option Bool:= some ((decide (0<=a))&&(decide (a<24)))
theorem Zk {b:Int}{y:Bool}(h:DQ N b=some y) :Yo S NY [pN b] [] (pB y) ([]) []:=by unfold DQ at h;refine A1 Z func245 ?_;refine kB Z (A3 Z) Ly Ly 3 (.n (.a (decide (0<=b))) (.a (decide (b<24)))) ?_;cases h;exact kR Z
def W7 (N:Nat)(b:Tr)(a:Int):Option Int:= (G5 N b).bind λy1=>lt (λ(z1:Bool)=>ite z1 (some 0) (ite ((0:Int)<=a) (ite ((F3 .and .u32 (shI .shr .u32 b.Plus a) 1)==1) (some 1) (ite ((0:Int)<=a) (ite ((F3 .and .u32 (shI .shr .u32 b.Minus a) 1)==1) (some (-1)) (some 0)) none)) none)) λk1=>ite (!y1) (k1 true) ((DQ N a).bind λy3=>k1 (!y3))
theorem Fa {a:Tr}{b:Int}{y:Int}(h:W7 N a b=some y) :Yo S Ah8 [.p (.agg (A0 a)),pN b] [] (pN y) ([]) []:=by
 unfold W7 at h;refine A1 Z func235 ?_;refine kC Z h (V5 Z Y) (λy1 h=>?_);refine GT Z Ly (A3 Z) h 0 (λz1=>kps [(12,pB z1)] [2,1] [] [3000]) (λk1 c h=>?_) (λz1 h=>?_)
 .refine kG Z h (λh=>?_) (λh=>?_)
  .exact c Ly h
  refine kC Z h (Zk Z Y) (λy3 h=>?_);exact c Ly h
 refine Af6 Z h fun h=>?_;refine kJ Z h (λh=>?_) (λh=>?_)
 .cases h;exact kR Z
 refine kJ Z h (λh=>?_) (λh=>?_)
 .cases h;exact kR Z
 cases h;exact kR Z
def X4 (N:Nat)(a:Tr):Option Bool:= some ((((F3 .and .u32 a.Plus a.Minus)==0)&&(decide (a.Plus<16777216)))&&(decide (a.Minus<16777216)))
theorem TG {b:Tr}{y:Bool}(h:X4 N b=some y) :Yo S SY [.p (.agg (A0 b))] [] (pB y) ([]) []:=by unfold X4 at h;refine A1 Z func210 ?_;refine kB Z (A3 Z) Ly Ly 9 (.n (.n (.a ((F3 .and .u32 b.Plus b.Minus)==0)) (.a (decide (b.Plus<16777216)))) (.a (decide (b.Minus<16777216)))) ?_;cases h;exact kR Z
def Ad (N:Nat)(a:Sl Tr):Option Int:= ite (decide (32<(a.n:Int))) (some 11) (N3 N (λb (x1:Int)=>ite (decide (x1<(a.n:Int))) (ite ((0:Int)<=x1/\x1<(a.n:Int)) ((X4 N (a.g x1.toNat)).bind λy3=>ite (!y3) (some 14) (b (wrap .i64 (x1+1)))) none) (some 0)) 0)
theorem GD {a:Sl Tr}{y:Int}(h:Ad N a=some y) :Yo S SU [.p (vSl 2 A0 a)] [] (pN y) ([]) []:=by
 unfold Ad at h;refine A1 Z func159 ?_;refine Af6 Z h fun h=>?_;refine D6 Z Ly h (λx1=>kps [(3,pN x1)] [0] [] []) (λb x1 c h=>?_);apply kI Z h<;>intro h
 .obtain⟨c9,h⟩:=C0 h;refine kD Z h (Vb c9 Pb) (TG Z Y) (λy3 h=>?_);refine Af6 Z h fun h=>?_;exact c Ly h
 cases h;exact kR Z
def HU (N:Nat)(a:Pat):Option Int:= ite ((decide (a.Kind<0))||(decide (6<a.Kind))) (some 2) (ite ((a.Kind != 1)&&((((a.Is.Plus==0)&&(a.Is.Minus==0)) != true)||a.Not)) (some 2) (lt (λ(z1:Bool)=>ite z1 (some 2) (ite ((a.Kind != 5)&&((a.Min != 0)||(a.Max != 0))) (some 2) (lt (λ(z2:Bool)=>ite z2 (some 2) ((X4 N a.Is).bind λy1=>ite (!y1) (some 14) (some 0))) λk2=>ite (a.Kind==5) (ite ((a.L.n:Int) != 1) (k2 true) (ite (decide (a.Min<0)) (k2 true) (ite (decide (32<a.Min)) (k2 true) (ite (a.Max != (-1)) (ite (decide (a.Max<a.Min)) (k2 true) (k2 (decide (32<a.Max)))) (k2 false))))) (k2 false)))) λk1=>ite (a.Kind != 3) (ite (a.Kind != 4) (ite (a.Kind != 5) (k1 (decide (0<(a.L.n:Int)))) (k1 false)) (k1 false)) (k1 false)))
theorem AV4 {c:Pat}{y:Int}(h:HU N c=some y) :Yo S WC [.p (.agg (C5 c))] [] (pN y) ([]) []:=by
 unfold HU at h;refine A1 Z func162 ?_;refine kB Z (A3 Z) Ly Ly 4 (.o (.a (decide (c.Kind<0))) (.a (decide (6<c.Kind)))) ?_;refine Af6 Z h fun h=>?_;obtain⟨t1,f⟩:∃x:Bool,x=((c.Kind != 1)&&((((c.Is.Plus==0)&&(c.Is.Minus==0)) != true)||c.Not)):=⟨_,rfl⟩;refine Ad7 Z Ly (A3 Z) 0 (λ_=>⟨[(23,pB t1),(1,.reg 2000 0)],[(2000,.cells ((C5 c).map .p))]⟩) (λl=>?_) ?_
 .refine IB Z Ly (b:=c.Kind != 1) (λc4=>?_) (λc4=>?_)
  .refine IB Z (by decide +kernel:QF Tryz.prog A9=true) (b:=((c.Is.Plus==0)&&(c.Is.Minus==0)) != true) (λc5=>?_) (λc5=>?_)
   .exact l Ly (hle:=klR [(0,.eq (.bb true) (.bb t1))] (al1 (by simp only[f,c4,c5,Ys.ok,pm,Kk,Lw]) al0))
   exact l Ly (hle:=klR [(0,.eq (.bb c.Not) (.bb t1))] (al1 (by simp only[f,c4,c5,Ys.ok,pm,Kk,Lw]) al0))
  exact l Ly (hle:=klR [(0,.eq (.bb false) (.bb t1))] (al1 (by simp only[f,c4,Ys.ok,pm,Kk,Lw]) al0))
 subst f;refine Af6 Z h fun h=>?_;refine GT Z Ly (A3 Z) h 0 (λz1=>kps [(42,pB z1)] [1] [] [2000]) (λk1 j h=>?_) (λz1 h=>?_)
 .refine kG Z h (λh=>?_) (λh=>?_)
  .refine kG Z h (λh=>?_) (λh=>?_)
   .refine kG Z h (λh=>?_) (λh=>?_)
    .refine I7 Z Ly 40 (kps [(39,.p (vSl 7 C5 c.L))] [37,1] [(2000,.cells ((C5 c).map .p))] []) ?_ (hle:=klR [(0,.fn c.L.n c.L.n (CJ c) (λi=>C5 (c.L.g i)))] (al1 ⟨rfl,Q0 c⟩ al0));exact j Ly h
    exact j Ly h
   exact j Ly h
  exact j Ly h
 refine Af6 Z h fun h=>?_;refine kB Z (A3 Z) Ly Ly 9 (.n (.a (c.Kind != 5)) (.o (.a (c.Min != 0)) (.a (c.Max != 0)))) ?_;refine Af6 Z h fun h=>?_;refine GT Z Ly (A3 Z) h 0 (λz2=>kps [(91,pB z2)] [1] [] [2000]) (λk2 d h=>?_) (λz2 h=>?_)
 .refine kG Z h (λh=>?_) (λh=>?_)
  .refine I7 Z Ly 62 (kps [(61,.p (vSl 7 C5 c.L))] [59,1] [(2000,.cells ((C5 c).map .p))] []) ?_ (hle:=klR [(0,.fn c.L.n c.L.n (CJ c) (λi=>C5 (c.L.g i)))] (al1 ⟨rfl,Q0 c⟩ al0));refine kG Z h (λh=>?_) (λh=>?_)
   .exact d Ly h
   refine kG Z h (λh=>?_) (λh=>?_)
   .exact d Ly h
   refine kG Z h (λh=>?_) (λh=>?_)
   .exact d Ly h
   refine kG Z h (λh=>?_) (λh=>?_)
   .refine kG Z h (λh=>?_) (λh=>?_)
    .exact d Ly h
    exact d Ly h
   exact d Ly h
  exact d Ly h
 refine Af6 Z h fun h=>?_;refine kC Z h (TG Z Y) (λy1 h=>?_);refine Af6 Z h fun h=>?_;cases h;exact kR Z
def Bj (rec:Pat->Int->Option (Int×Int))(N:Nat)(b:Pat)(a:Int):Option (Int×Int):= ite (a==40) (some (a,12)) ((HU N b).bind λy1=>ite (y1 != 0) (some (a,y1)) (V7 N (λc (x1:Int) (x2:Int)=>ite (decide (x2<(b.L.n:Int))) (ite ((0:Int)<=x2/\x2<(b.L.n:Int)) ((rec (b.L.g x2.toNat) x1).bind λy4=>ite (y4.2 != 0) (some (y4.1,y4.2)) (c y4.1 (wrap .i64 (x2+1)))) none) (some (x1,0))) (wrap .i64 (a+1)) 0))
def FP:Nat->Pat->Int->Option (Int×Int)
 |0=>λ_ _=>none
 |N+1=>Bj (FP N) N
theorem Az8 {rec:Pat->Int->Option (Int×Int)}(c:∀{b:Pat}{a:Int}{y:Int×Int},rec b a=some y->Yo S Lc [.p (.agg (C5 b)),pN a] [] (.tup [pN y.1,pN y.2]) ([]) []){b:Pat}{a:Int}{y:Int×Int}(h:Bj rec N b a=some y) :Yo S Lc [.p (.agg (C5 b)),pN a] [] (.tup [pN y.1,pN y.2]) ([]) []:=by
 unfold Bj at h;refine A1 Z func113 ?_;refine Af6 Z h fun h=>?_;refine kC Z h (AV4 Z Y) (λy1 h=>?_);refine Af6 Z h fun h=>?_;refine F5 Z Ly h (λx1 x2=>kps [(8,pN x2),(7,pN x1)] [2] [] [3000]) (λd x1 x2 f h=>?_);refine I7 Z Ly 23 (kps [(22,.p (vSl 7 C5 b.L))] [20,8,7,2] [(3000,.cells ((C5 b).map .p))] []) ?_ (hle:=klR [(0,.fn b.L.n b.L.n (CJ b) (λi=>C5 (b.L.g i)))] (al1 ⟨rfl,Q0 b⟩ al0));apply kI Z h<;>intro h
 .refine I7 Z Ly 31 (kps [(29,.p (vSl 7 C5 b.L))] [30,8,7,2] [(3000,.cells ((C5 b).map .p))] []) ?_ (hle:=klR [(1,.fn b.L.n b.L.n (CJ b) (λi=>C5 (b.L.g i)))] (al1 ⟨rfl,Q0 b⟩ al0));obtain⟨c10,h⟩:=C0 h;obtain⟨y4,e4,h⟩:=E7 h;refine E2 Z [] (Vb c10 S5) (c e4) ?_;refine Af6 Z h fun h=>?_;exact f Ly h
 cases h;exact kR Z
theorem AV5 {b:Pat}{a:Int}{y:Int×Int}(h:FP N b a=some y) :Yo S Lc [.p (.agg (C5 b)),pN a] [] (.tup [pN y.1,pN y.2]) ([]) []:=by
 induction N generalizing b a y with
 |zero=>cases (show (none:Option (Int×Int))=some y from h)
 |succ N ih=>exact Az8 Z Y (λe=>ih e) h
def CY (N:Nat)(a:Pat):Option Int:= (FP N a 0).bind λy1=>some y1.2
theorem MR {a:Pat}{y:Int}(h:CY N a=some y) :Yo S SF [.p (.agg (C5 a))] [] (pN y) ([]) []:=by unfold CY at h;refine A1 Z func73 ?_;refine kC Z h (AV5 Z Y) (λy1 h=>?_);cases h;exact kR Z
def Ep (N:Nat)(a:Str):Option Bool:= N3 N (λb (x1:Int)=>ite (decide (x1<(a.length:Int))) (ite ((0:Int)<=x1/\x1<(a.length:Int)) (ite (!(((((decide (97<=(E8 a x1)))&&(decide ((E8 a x1)<=122)))||((decide (65<=(E8 a x1)))&&(decide ((E8 a x1)<=90))))||((decide (48<=(E8 a x1)))&&(decide ((E8 a x1)<=57))))||((E8 a x1)==45))) (some false) (b (wrap .i64 (x1+1)))) none) (some ((decide (1<=(a.length:Int)))&&(decide ((a.length:Int)<=24))))) 0
theorem AV6 {b:Str}{y:Bool}(h:Ep N b=some y) :Yo S Wy [.p (.str b)] [] (pB y) ([]) []:=by
 unfold Ep at h;refine A1 Z func72 ?_;refine D6 Z Ly h (λx1=>kps [(3,pN x1)] [0] [] []) (λc x1 d h=>?_);apply kI Z h<;>intro h
 .obtain⟨c8,h⟩:=C0 h;refine kB Z (A3 Z) c8 Ly 23 (.o (.o (.o (.n (.a (decide (97<=(E8 b x1)))) (.a (decide ((E8 b x1)<=122)))) (.n (.a (decide (65<=(E8 b x1)))) (.a (decide ((E8 b x1)<=90))))) (.n (.a (decide (48<=(E8 b x1)))) (.a (decide ((E8 b x1)<=57))))) (.a ((E8 b x1)==45))) ?_;refine Af6 Z h fun h=>?_;exact d Ly h
 refine kB Z (A3 Z) Ly Ly 4 (.n (.a (decide (1<=(b.length:Int)))) (.a (decide ((b.length:Int)<=24)))) ?_;cases h;exact kR Z
def HV (N:Nat)(p_x:EM)(a:Int):Option Bool:= lt (λ(z1:Bool)=>ite z1 (some false) (ite ((((F3 .and .u32 p_x.Clear (F3 .or .u32 p_x.Set.Plus p_x.Set.Minus)) != 0)||((F3 .and .u32 p_x.Take (F3 .or .u32 p_x.Set.Plus p_x.Set.Minus)) != 0))||((F3 .and .u32 p_x.Take p_x.Clear) != 0)) (some false) (ite (p_x.Take==0) (some (p_x.Of==0)) (some ((decide (0<=p_x.Of))&&(decide (p_x.Of<a))))))) λk1=>ite (decide (p_x.From<(-1))) (k1 true) (ite (decide (a<=p_x.From)) (k1 true) ((G5 N p_x.Set).bind λy2=>ite (!y2) (k1 true) (ite ((F3 .andNot .u32 p_x.Clear 16777215) != 0) (k1 true) (k1 ((F3 .andNot .u32 p_x.Take 16777215) != 0)))))
theorem AV7 {p_x:EM}{c:Int}{y:Bool}(h:HV N p_x c=some y) :Yo S Wz [.p (.agg (Dj p_x)),pN c] [] (pB y) ([]) []:=by
 unfold HV at h;refine A1 Z func75 ?_;refine GT Z Ly (A3 Z) h 0 (λz1=>kps [(32,pB z1)] [2,1] [] [3000]) (λk1 b h=>?_) (λz1 h=>?_)
 .refine kG Z h (λh=>?_) (λh=>?_)
  .exact b Ly h
  refine kG Z h (λh=>?_) (λh=>?_)
  .exact b Ly h
  refine kC Z h (V5 Z Y) (λy2 h=>?_);refine kG Z h (λh=>?_) (λh=>?_)
  .exact b Ly h
  refine kG Z h (λh=>?_) (λh=>?_)
  .exact b Ly h
  exact b Ly h
 refine Af6 Z h fun h=>?_;refine kB Z (A3 Z) Ly Ly 14 (.o (.o (.a ((F3 .and .u32 p_x.Clear (F3 .or .u32 p_x.Set.Plus p_x.Set.Minus)) != 0)) (.a ((F3 .and .u32 p_x.Take (F3 .or .u32 p_x.Set.Plus p_x.Set.Minus)) != 0))) (.a ((F3 .and .u32 p_x.Take p_x.Clear) != 0))) ?_;refine Af6 Z h fun h=>?_;refine Af6 Z h fun h=>?_;refine kB Z (A3 Z) Ly Ly 5 (.n (.a (decide (0<=p_x.Of))) (.a (decide (p_x.Of<c)))) ?_;cases h;exact kR Z
def Ae (N:Nat)(a:Law):Option Int:= (Ep N a.Name).bind λy1=>lt (λ(z1:Bool)=>ite z1 (some 17) (ite (((((decide (4<(a.If.n:Int)))||(decide (6<(a.Out.n:Int))))||((wrap .i64 ((a.If.n:Int)+(a.Out.n:Int)))==0))||(decide (a.Mode<1)))||(decide (3<a.Mode))) (some 17) (N3 N (λb (x2:Int)=>ite (decide (x2<(a.If.n:Int))) (ite ((0:Int)<=x2/\x2<(a.If.n:Int)) ((G5 N (a.If.g x2.toNat)).bind λy8=>ite (!y8) (some 17) (b (wrap .i64 (x2+1)))) none) (N3 N (λc (x3:Int)=>ite (decide (x3<(a.Out.n:Int))) (ite ((0:Int)<=x3/\x3<(a.Out.n:Int)) ((HV N (a.Out.g x3.toNat) (a.If.n:Int)).bind λd=>ite (!d) (some 17) (c (wrap .i64 (x3+1)))) none) (some 0)) 0)) 0))) λk1=>ite (!y1) (k1 true) ((CY N a.Left).bind λy4=>ite (y4 != 0) (k1 true) ((CY N a.Right).bind λy5=>k1 (y5 != 0)))
theorem MS {b:Law}{y:Int}(h:Ae N b=some y) :Yo S Sw [.p (.agg (B7 b))] [] (pN y) ([]) []:=by
 unfold Ae at h;refine A1 Z func38 ?_;refine C6 Z Ly 2 2000 (B7 b) ?_;refine kC Z h (AV6 Z Y) (λy1 h=>?_);refine GT Z Ly (A3 Z) h 0 (λz1=>kps [(20,pB z1)] [1] [] []) (λk1 c h=>?_) (λz1 h=>?_)
 .refine kG Z h (λh=>?_) (λh=>?_)
  .exact c Ly h
  refine kD Z h (by decide:(7:Nat)<=17) (MR Z Y) (λy4 h=>?_);refine kG Z h (λh=>?_) (λh=>?_)
  .exact c Ly h
  refine kD Z h (by decide:(7:Nat)<=10) (MR Z Y) (λy5 h=>?_);exact c Ly h
 refine Af6 Z h fun h=>?_;refine kB Z (A3 Z) Ly Ly 25 (.o (.o (.o (.o (.a (decide (4<(b.If.n:Int)))) (.a (decide (6<(b.Out.n:Int))))) (.a ((wrap .i64 ((b.If.n:Int)+(b.Out.n:Int)))==0))) (.a (decide (b.Mode<1)))) (.a (decide (3<b.Mode)))) ?_;refine Af6 Z h fun h=>?_;refine D6 Z Ly h (λx2=>kps [(3,pN x2)] [1] [] []) (λd x2 f h=>?_);apply kI Z h<;>intro h
 .obtain⟨c15,h⟩:=C0 h;refine kD Z h (Vb c15 Pb) (V5 Z Y) (λy8 h=>?_);refine Af6 Z h fun h=>?_;exact f Ly h
 refine D6 Z Ly h (λx3=>kps [(4,pN x3)] [1] [] []) (λg x3 i h=>?_);apply kI Z h<;>intro h
 .refine B5 Z Ly [1,3,4,6,8] ?_;obtain⟨c24,h⟩:=C0 h;refine dP h (Vb c24 (by decide:(6:Nat)<=6)) (AV7 Z Y) (λj h=>?_);refine D1 Ly ?_;refine Af6 Z h fun h=>?_;exact i Ly h
 cases h;exact kR Z
def Dm (rec:Yv->Int->Option (Sl Int))(N:Nat)(b:Yv)(a:Int):Option (Sl Int):= ite (decide (a<0)) (some Tj) (ite ((0:Int)<=a/\a<(b.Tree.n:Int)) ((rec b (b.Tree.g a.toNat).Yx).bind λy1=>ite (((0:Int)<=a/\a<(b.On.n:Int))/\(Va 8 (y1.n+(b.On.g a.toNat).n))) (some (y1.app (b.On.g a.toNat))) none) none)
def Dn:Nat->Yv->Int->Option (Sl Int)
 |0=>λ_ _=>none
 |N+1=>Dm (Dn N) N
theorem Az9 {rec:Yv->Int->Option (Sl Int)}(c:∀{a:Yv}{b:Int}{y:Sl Int},rec a b=some y->Yo S Lb [.p (.agg (B0 a)),pN b] [] (.vec 0) ([oV C9 1 (cI .i64) y true]) []){a:Yv}{b:Int}{y:Sl Int}(h:Dm rec N a b=some y) :Yo S Lb [.p (.agg (B0 a)),pN b] [] (.vec 0) ([oV C9 1 (cI .i64) y true]) []:=by
 unfold Dm at h;refine A1 Z func39 ?_;refine C6 Z Ly 4 3000 (B0 a) ?_;apply kI Z h<;>intro h
 .obtain rfl:=A6 h;exact kO Z Ly [5700]
 refine B5 Z Ly [0,2,4,6,9,11,12] ?_;obtain⟨c2,h⟩:=C0 h;obtain⟨y1,e1,h⟩:=E7 h;refine Ha [] (Vb Pc c2) (c e1) ?_;refine dE h (λh=>?_);obtain rfl:=A6 h;exact kO Z Ly [21000] (hle:=kl1 0 (appS (cI .i64) y1 (a.On.g b.toNat)))
theorem WV {a:Yv}{b:Int}{y:Sl Int}(h:Dn N a b=some y) :Yo S Lb [.p (.agg (B0 a)),pN b] [] (.vec 0) ([oV C9 1 (cI .i64) y true]) []:=by
 induction N generalizing a b y with
 |zero=>cases (show (none:Option (Sl Int))=some y from h)
 |succ N ih=>exact Az9 Z Y (λe=>ih e) h
def X5 (N:Nat)(a:Yv):Option Int:= (Ba N a.Tree).bind λy1=>ite (y1 != 0) (some 16) (ite (decide (64<(a.Laws.n:Int))) (some 12) (N3 N (λd (x1:Int)=>ite (decide (x1<(a.Laws.n:Int))) (ite ((0:Int)<=x1/\x1<(a.Laws.n:Int)) ((Ae N (a.Laws.g x1.toNat)).bind λy4=>ite (y4 != 0) (some 17) (d (wrap .i64 (x1+1)))) none) (N3 N (λf (x3:Int)=>ite (decide (x3<(a.Laws.n:Int))) (N3 N (λi (x5:Int)=>ite (decide (x5<x3)) (ite (((0:Int)<=x3/\x3<(a.Laws.n:Int))/\((0:Int)<=x5/\x5<(a.Laws.n:Int))) (ite (((a.Laws.g x3.toNat).Name==(a.Laws.g x5.toNat).Name) != false) (some 6) (i (wrap .i64 (x5+1)))) none) (f (wrap .i64 (x3+1)))) 0) (ite ((a.On.n:Int) != (a.Tree.n:Int)) (some 2) (N3 N (λj (x6:Int)=>ite (decide (x6<(a.On.n:Int))) ((Dn N a x6).bind λy7=>ite (decide (64<(y7.n:Int))) (some 2) (j (wrap .i64 (x6+1)))) (N3 N (λl (x8:Int)=>ite (decide (x8<(a.On.n:Int))) (N3 N (λc (b:Int)=>ite ((0:Int)<=x8/\x8<(a.On.n:Int)) (ite (decide (b<((a.On.g x8.toNat).n:Int))) (ite (((0:Int)<=x8/\x8<(a.On.n:Int))/\((0:Int)<=b/\b<((a.On.g x8.toNat).n:Int))) (ite (decide (((a.On.g x8.toNat).g b.toNat)<0)) (some 3) (ite (((0:Int)<=x8/\x8<(a.On.n:Int))/\((0:Int)<=b/\b<((a.On.g x8.toNat).n:Int))) (ite (decide ((a.Laws.n:Int)<=((a.On.g x8.toNat).g b.toNat))) (some 3) (c (wrap .i64 (b+1)))) none)) none) (l (wrap .i64 (x8+1)))) none) 0) (some 0)) 0)) 0))) 0)) 0))
theorem GE {a:Yv}{y:Int}(h:X5 N a=some y) :Yo S Sp [.p (.agg (B0 a))] [] (pN y) ([]) []:=by
 unfold X5 at h;refine A1 Z func16 ?_;refine C6 Z Ly 2 2000 (B0 a) ?_;refine kC Z h (MM Z Y) (λy1 h=>?_);refine Af6 Z h fun h=>?_;refine Af6 Z h fun h=>?_;refine D6 Z Ly h (λx1=>kps [(3,pN x1)] [1] [] []) (λf x1 g h=>?_);apply kI Z h<;>intro h
 .obtain⟨c10,h⟩:=C0 h;refine kD Z h (Vb c10 Sq) (MS Z Y) (λy4 h=>?_);refine Af6 Z h fun h=>?_;exact g Ly h
 refine D6 Z Ly h (λx3=>kps [(4,pN x3)] [1] [] []) (λi x3 j h=>?_);apply kI Z h<;>intro h
 .refine D6 Z Ly h (λx5=>kps [(5,pN x5)] [4,1] [] []) (λl x5 m h=>?_);apply kI Z h<;>intro h
  .refine B5 Z Ly [1,3,5,7,9,11] ?_;refine dE h (λh=>?_);refine Af6 Z h fun h=>?_;exact m Ly h
  exact j Ly h
 refine Af6 Z h fun h=>?_;refine D6 Z Ly h (λx6=>kps [(6,pN x6)] [1] [] []) (λn x6 o h=>?_);apply kI Z h<;>intro h
 .refine kD Z h Pc (WV Z Y) (λy7 h=>?_);refine Af6 Z h fun h=>?_;exact o Ly h
 refine D6 Z Ly h (λx8=>kps [(7,pN x8)] [1] [] []) (λq x8 r h=>?_);apply kI Z h<;>intro h
 .refine D6 Z Ly h (λb=>kps [(8,pN b)] [7,1] [] []) (λd b c h=>?_);refine kJ Z h (λh=>?_) (λh=>?_)
  .refine B5 Z Ly [1,3,4,6,7,11,13,14,16,17,19] ?_;obtain⟨c102,h⟩:=C0 h;refine dG c102 h (λh=>?_) (λh=>?_)
   .refine D1 Ly ?_;cases h;exact kR Z
   refine dE h (λh=>?_);refine Af6 Z h fun h=>?_;exact c Ly h
  exact r Ly h
 cases h;exact kR Z
def Eq (N:Nat)(b:Yv)(a:Int):Option Bool:= some ((decide (0<=a))&&(decide (a<(b.Tree.n:Int))))
theorem Pm {c:Yv}{b:Int}{y:Bool}(h:Eq N c b=some y) :Yo S Wv [.p (.agg (B0 c)),pN b] [] (pB y) ([]) []:=by unfold Eq at h;refine A1 Z func66 ?_;refine kB Z (A3 Z) Ly Ly 6 (.n (.a (decide (0<=b))) (.a (decide (b<(c.Tree.n:Int))))) ?_;cases h;exact kR Z
def CZ (N:Nat)(a:Sl N0):Option Bool:= N3 N (λb (x1:Int)=>ite (decide (x1<(a.n:Int))) (ite ((0:Int)<=x1/\x1<(a.n:Int)) (ite ((!(a.g x1.toNat).Has)=true->((0:Int)<=x1/\x1<(a.n:Int))) (ite ((!(a.g x1.toNat).Has)&&(decide (0<((a.g x1.toNat).W.n:Int)))) (some false) (b (wrap .i64 (x1+1)))) none) none) (some true)) 0
theorem TH {b:Sl N0}{y:Bool}(h:CZ N b=some y) :Yo S SL [.p (vSl 2 I5 b)] [] (pB y) ([]) []:=by
 unfold CZ at h;refine A1 Z func108 ?_;refine D6 Z Ly h (λx1=>kps [(3,pN x1)] [0] [] []) (λc x1 d h=>?_);apply kI Z h<;>intro h
 .obtain⟨c10,h⟩:=C0 h;obtain⟨c11,h⟩:=C0 h;refine kB Z (A3 Z) c10 c11 8 (.n (.a (!(b.g x1.toNat).Has)) (.a (decide (0<((b.g x1.toNat).W.n:Int))))) ?_;refine Af6 Z h fun h=>?_;exact d Ly h
 cases h;exact kR Z
def Bk (N:Nat)(a:Sl N0):Option Int:= N3 N (λb (x1:Int)=>ite (decide (x1<(a.n:Int))) (ite ((0:Int)<=x1/\x1<(a.n:Int)) ((Ad N (a.g x1.toNat).W).bind λy3=>ite (y3 != 0) (some y3) (b (wrap .i64 (x1+1)))) none) (some 0)) 0
theorem TI {a:Sl N0}{y:Int}(h:Bk N a=some y) :Yo S SM [.p (vSl 2 I5 a)] [] (pN y) ([]) []:=by
 unfold Bk at h;refine A1 Z func109 ?_;refine D6 Z Ly h (λx1=>kps [(3,pN x1)] [0] [] []) (λb x1 c h=>?_);apply kI Z h<;>intro h
 .obtain⟨c8,h⟩:=C0 h;refine kD Z h c8 (GD Z Y) (λy3 h=>?_);refine Af6 Z h fun h=>?_;exact c Ly h
 cases h;exact kR Z
def Er (N:Nat)(i:Yv)(a:Sl N0)(b:Sl Z1):Option Int:= (X5 N i).bind λy1=>ite (y1 != 0) (some y1) (ite (decide (256<(b.n:Int))) (some 12) ((Z4 N i.Tree).bind λy2=>lt (λ(z1:Bool)=>ite z1 (some 2) (N3 N (λc (x3:Int)=>ite (decide (x3<(b.n:Int))) (ite ((0:Int)<=x3/\x3<(b.n:Int)) (lt (λ(z4:Bool)=>ite z4 (some 2) (c (wrap .i64 (x3+1)))) λk4=>ite (((b.g x3.toNat).Yz.n:Int) != (y2.1.n:Int)) (k4 true) (ite ((0:Int)<=x3/\x3<(b.n:Int)) ((CZ N (b.g x3.toNat).Yz).bind λj=>k4 (!j)) none)) none) (N3 N (λd (x6:Int)=>ite (decide (x6<(b.n:Int))) (ite ((0:Int)<=x6/\x6<(b.n:Int)) ((Em N (b.g x6.toNat).Gloss).bind λl=>ite (!l) (some 15) (d (wrap .i64 (x6+1)))) none) ((Bk N a).bind λm=>V7 N (λf (x7:Int) (x8:Int)=>ite ((decide (x8<(b.n:Int)))&&(x7==0)) (ite ((0:Int)<=x8/\x8<(b.n:Int)) ((Bk N (b.g x8.toNat).Yz).bind λo=>f o (wrap .i64 (x8+1))) none) (some x7)) m 0)) 0)) 0)) λk1=>ite ((a.n:Int) != (b.n:Int)) (k1 true) ((CZ N a).bind λy4=>k1 (!y4))))
theorem TJ {d:Yv}{b:Sl N0}{c:Sl Z1}{y:Int}(h:Er N d b c=some y) :Yo S SD [.p (.agg (B0 d)),.p (vSl 2 I5 b),.p (vSl 2 N8 c)] [] (pN y) ([]) []:=by
 unfold Er at h;refine A1 Z func65 ?_;refine kC Z h (GE Z Y) (λy1 h=>?_);refine Af6 Z h fun h=>?_;refine Af6 Z h fun h=>?_;refine kC Z h (Kt Z Y) (λy2 h=>?_);refine GT Z Ly (A3 Z) h 0 (λz1=>kps [(36,pB z1)] [8,2,1] [] [25000]) (λk1 f h=>?_) (λz1 h=>?_)
 .refine kG Z h (λh=>?_) (λh=>?_)
  .exact f Ly h
  refine kC Z h (TH Z Y) (λy4 h=>?_);exact f Ly h
 refine Af6 Z h fun h=>?_;refine D6 Z Ly h (λx3=>kps [(10,pN x3)] [8,2,1] [] [25000]) (λi x3 j h=>?_);apply kI Z h<;>intro h
 .obtain⟨c24,h⟩:=C0 h;refine GT Z c24 (A3 Z) h 0 (λz4=>kps [(60,pB z4)] [10,8,2,1] [] [25000]) (λk4 g h=>?_) (λz4 h=>?_)
  .refine kG Z h (λh=>?_) (λh=>?_)
   .exact g Ly h
   obtain⟨c29,h⟩:=C0 h;refine kD Z h c29 (TH Z Y) (λr h=>?_);exact g Ly h
  refine Af6 Z h fun h=>?_;exact j Ly h
 refine D6 Z Ly h (λx6=>kps [(11,pN x6)] [2,1] [] []) (λl x6 m h=>?_);apply kI Z h<;>intro h
 .obtain⟨c38,h⟩:=C0 h;refine kD Z h c38 (Pj Z Y) (λs h=>?_);refine Af6 Z h fun h=>?_;exact m Ly h
 refine kC Z h (TI Z Y) (λt h=>?_);refine F5 Z Ly h (λx7 x8=>kps [(12,pN x8),(7,pN x7)] [2] [] []) (λo x7 x8 q h=>?_);refine kB Z (A3 Z) Ly Ly 3 (.n (.a (decide (x8<(c.n:Int)))) (.a (x7==0))) ?_;apply kI Z h<;>intro h
 .obtain⟨c45,h⟩:=C0 h;refine kD Z h c45 (TI Z Y) (λu h=>?_);exact q Ly h
 cases h;exact kR Z
def GF (N:Nat)(a:Yv):Option Bool:= ite (((decide (70<(a.Tree.n:Int)))||(decide (70<(a.Laws.n:Int))))||(decide (70<(a.On.n:Int)))) (some false) (N3 N (λb (x1:Int)=>ite (decide (x1<(a.On.n:Int))) (ite ((0:Int)<=x1/\x1<(a.On.n:Int)) (ite (decide (70<((a.On.g x1.toNat).n:Int))) (some false) (b (wrap .i64 (x1+1)))) none) (N3 N (λc (x3:Int)=>ite (decide (x3<(a.Laws.n:Int))) (ite (((0:Int)<=x3/\x3<(a.Laws.n:Int))/\((0:Int)<=x3/\x3<=(wrap .i64 (x3+1))/\(wrap .i64 (x3+1))<=(a.Laws.n:Int))) ((FN N (a.Laws.sub x3.toNat (wrap .i64 (x3+1)).toNat)).bind λd=>lt (λ(z3:Bool)=>ite z3 (some false) (c (wrap .i64 (x3+1)))) λk3=>ite (decide (4<d)) (k3 true) (ite (decide (20<((a.Laws.g x3.toNat).If.n:Int))) (k3 true) (ite (decide (20<((a.Laws.g x3.toNat).Out.n:Int))) (k3 true) ((Ej N (a.Laws.g x3.toNat).Left).bind λf=>ite (decide (41<f)) (k3 true) ((Ej N (a.Laws.g x3.toNat).Right).bind λi=>k3 (decide (41<i))))))) none) (some true)) 0)) 0)
theorem AA0 {b:Yv}{y:Bool}(h:GF N b=some y) :Yo S So [.p (.agg (B0 b))] [] (pB y) ([]) []:=by
 unfold GF at h;refine A1 Z func13 ?_;refine kB Z (A3 Z) Ly Ly 11 (.o (.o (.a (decide (70<(b.Tree.n:Int)))) (.a (decide (70<(b.Laws.n:Int))))) (.a (decide (70<(b.On.n:Int))))) ?_;refine Af6 Z h fun h=>?_;refine D6 Z Ly h (λx1=>kps [(3,pN x1)] [1] [] [2000]) (λd x1 f h=>?_);apply kI Z h<;>intro h
 .refine kJ Z h (λh=>?_) (λh=>?_)
  .cases h;exact kR Z
  exact f Ly h
 refine D6 Z Ly h (λx3=>kps [(4,pN x3)] [1] [] [2000]) (λg x3 i h=>?_);apply kI Z h<;>intro h
 .obtain⟨c40,h⟩:=C0 h;refine kD Z h (Vb (Vb c40.1 Sq) c40.2) (AV1 Z Y) (λj h=>?_);refine GT Z Ly (A3 Z) h 0 (λz3=>kps [(79,pB z3)] [4,1] [] [2000]) (λk3 c h=>?_) (λz3 h=>?_)
  .refine kG Z h (λh=>?_) (λh=>?_)
   .exact c Ly h
   refine kG Z h (λh=>?_) (λh=>?_)
   .exact c Ly h
   refine kG Z h (λh=>?_) (λh=>?_)
   .exact c Ly h
   refine kC Z h (Pf Z Y) (λl h=>?_);refine kG Z h (λh=>?_) (λh=>?_)
   .exact c Ly h
   refine kC Z h (Pf Z Y) (λm h=>?_);exact c Ly h
  refine Af6 Z h fun h=>?_;exact i Ly h
 cases h;exact kR Z
def HW (N:Nat)(a:Sl N0):Option Bool:= N3 N (λb (x1:Int)=>ite (decide (x1<(a.n:Int))) (ite ((0:Int)<=x1/\x1<(a.n:Int)) (ite (decide (40<((a.g x1.toNat).W.n:Int))) (some false) (b (wrap .i64 (x1+1)))) none) (some (decide ((a.n:Int)<=70)))) 0
theorem Al0 {a:Sl N0}{y:Bool}(h:HW N a=some y) :Yo S Af3 [.p (vSl 2 I5 a)] [] (pB y) ([]) []:=by
 unfold HW at h;refine A1 Z func14 ?_;refine D6 Z Ly h (λx1=>kps [(3,pN x1)] [0] [] []) (λb x1 c h=>?_);apply kI Z h<;>intro h
 .refine kJ Z h (λh=>?_) (λh=>?_)
  .cases h;exact kR Z
  exact c Ly h
 cases h;exact kR Z
def Fb (N:Nat)(a:Yv):Option Int:= V7 N (λb (x1:Int) (x2:Int)=>ite (decide (x2<(a.On.n:Int))) (ite ((0:Int)<=x2/\x2<(a.On.n:Int)) (b (wrap .i64 (x1+((a.On.g x2.toNat).n:Int))) (wrap .i64 (x2+1))) none) (some x1)) 0 0
theorem Al1 {a:Yv}{y:Int}(h:Fb N a=some y) :Yo S PT [.p (.agg (B0 a))] [] (pN y) ([]) []:=by
 unfold Fb at h;refine A1 Z func15 ?_;refine F5 Z Ly h (λx1 x2=>kps [(4,pN x2),(3,pN x1)] [1] [] [2000]) (λb x1 x2 c h=>?_);apply kI Z h<;>intro h
 .obtain⟨c4,h⟩:=C0 h;exact c c4 h
 cases h;exact kR Z
def GG (N:Nat)(a:A8):Option Bool:= (GF N a.Yv).bind λy1=>ite (((((((!y1)||((decide (12<(a.Yv.Tree.n:Int)))&&(decide ((a.Yv.Tree.n:Int)<=63))))||(decide (5<(a.Yy.n:Int))))||(decide (5<(a.Yu.n:Int))))||(decide (300<(a.Sounds.n:Int))))||(decide (40<(a.Feats.n:Int))))||(decide (40<(a.Marks.n:Int)))) (some false) ((HW N a.Yu).bind λy2=>lt (λ(z1:Bool)=>ite z1 (some false) (N3 N (λb (x2:Int)=>ite (decide (x2<(a.Yy.n:Int))) (ite ((0:Int)<=x2/\x2<(a.Yy.n:Int)) ((HW N (a.Yy.g x2.toNat).Yz).bind λy9=>ite (!y9) (some false) (b (wrap .i64 (x2+1)))) none) (some true)) 0)) λk1=>ite (!y2) (k1 true) ((Fb N a.Yv).bind λy5=>ite (decide (24<y5)) ((X5 N a.Yv).bind λy6=>k1 (y6==0)) (k1 false)))
theorem AA1 {b:A8}{y:Bool}(h:GG N b=some y) :Yo S Sk [.p (.agg (B2 b))] [] (pB y) ([]) []:=by
 unfold GG at h;refine A1 Z func4 ?_;refine kC Z h (AA0 Z Y) (λy1 h=>?_);refine kB Z (A3 Z) Ly Ly 43 (.o (.o (.o (.o (.o (.o (.a (!y1)) (.n (.a (decide (12<(b.Yv.Tree.n:Int)))) (.a (decide ((b.Yv.Tree.n:Int)<=63))))) (.a (decide (5<(b.Yy.n:Int))))) (.a (decide (5<(b.Yu.n:Int))))) (.a (decide (300<(b.Sounds.n:Int))))) (.a (decide (40<(b.Feats.n:Int))))) (.a (decide (40<(b.Marks.n:Int))))) ?_;refine Af6 Z h fun h=>?_;refine kC Z h (Al0 Z Y) (λy2 h=>?_);refine GT Z Ly (A3 Z) h 0 (λz1=>kps [(67,pB z1)] [1] [] [2000]) (λk1 c h=>?_) (λz1 h=>?_)
 .refine kG Z h (λh=>?_) (λh=>?_)
  .exact c Ly h
  refine kC Z h (Al1 Z Y) (λy5 h=>?_);refine kG Z h (λh=>?_) (λh=>?_)
  .refine kC Z h (GE Z Y) (λy6 h=>?_);exact c Ly h
  exact c Ly h
 refine Af6 Z h fun h=>?_;refine D6 Z Ly h (λx2=>kps [(3,pN x2)] [1] [] [2000]) (λd x2 f h=>?_);apply kI Z h<;>intro h
 .obtain⟨c15,h⟩:=C0 h;refine kD Z h c15 (Al0 Z Y) (λy9 h=>?_);refine Af6 Z h fun h=>?_;exact f Ly h
 cases h;exact kR Z
def Dp (N:Nat)(a:Int):Option Bool:= some (((decide (97<=a))&&(decide (a<=122)))||((decide (48<=a))&&(decide (a<=57))))
theorem Qy {b:Int}{y:Bool}(h:Dp N b=some y) :Yo S Qm [.p (pI .u8 b)] [] (pB y) ([]) []:=by unfold Dp at h;refine A1 Z func233 ?_;refine kB Z (A3 Z) Ly Ly 11 (.o (.n (.a (decide (97<=b))) (.a (decide (b<=122)))) (.n (.a (decide (48<=b))) (.a (decide (b<=57))))) ?_;cases h;exact kR Z
def KB (N:Nat)(a:Int):Option Bool:= some (((((((((decide (65<=a))&&(decide (a<=90)))||(a==64))||(a==63))||(a==33))||(a==38))||(a==42))||(a==36))||(a==37))
theorem Bj5 {b:Int}{y:Bool}(h:KB N b=some y) :Yo S Ah7 [.p (pI .u8 b)] [] (pB y) ([]) []:=by unfold KB at h;refine A1 Z func234 ?_;refine kB Z (A3 Z) Ly Ly 31 (.o (.o (.o (.o (.o (.o (.o (.n (.a (decide (65<=b))) (.a (decide (b<=90)))) (.a (b==64))) (.a (b==63))) (.a (b==33))) (.a (b==38))) (.a (b==42))) (.a (b==36))) (.a (b==37))) ?_;cases h;exact kR Z
def Fc (N:Nat)(a:Str):Option Bool:= ite (((decide ((a.length:Int)<1))=false->((decide (16<(a.length:Int)))=false->((0:Int)<=0/\0<(a.length:Int))))/\((decide ((a.length:Int)<1))=false->((decide (16<(a.length:Int)))=false->((decide ((E8 a 0)<97))=false->((0:Int)<=0/\0<(a.length:Int)))))) (ite ((((decide ((a.length:Int)<1))||(decide (16<(a.length:Int))))||(decide ((E8 a 0)<97)))||(decide (122<(E8 a 0)))) (some false) (N3 N (λb (x1:Int)=>ite (decide (x1<(a.length:Int))) (ite ((0:Int)<=x1/\x1<(a.length:Int)) ((Dp N (E8 a x1)).bind λy3=>ite (!y3) (some false) (b (wrap .i64 (x1+1)))) none) (some true)) 0)) none
theorem Al2 {b:Str}{y:Bool}(h:Fc N b=some y) :Yo S Ql [.p (.str b)] [] (pB y) ([]) []:=by
 unfold Fc at h;refine A1 Z func204 ?_;obtain⟨c1,h⟩:=C0 h;refine kB Z (A3 Z) Ly c1 14 (.o (.o (.o (.a (decide ((b.length:Int)<1))) (.a (decide (16<(b.length:Int))))) (.a (decide ((E8 b 0)<97)))) (.a (decide (122<(E8 b 0))))) ?_;refine Af6 Z h fun h=>?_;refine D6 Z Ly h (λx1=>kps [(3,pN x1)] [0] [] []) (λc x1 d h=>?_);apply kI Z h<;>intro h
 .obtain⟨c10,h⟩:=C0 h;refine kD Z h c10 (Qy Z Y) (λy3 h=>?_);refine Af6 Z h fun h=>?_;exact d Ly h
 cases h;exact kR Z
def Cz (N:Nat)(a:Str):Option Bool:= ite ((decide ((a.length:Int)<1))||(decide (4<(a.length:Int)))) (some false) (N3 N (λb (x2:Int)=>ite (decide (x2<(a.length:Int))) (ite ((0:Int)<=x2/\x2<(a.length:Int)) ((Dp N (E8 a x2)).bind λy7=>lt (λ(z3:Bool)=>ite z3 (some false) (b (wrap .i64 (x2+1)))) λk3=>ite (!y7) (ite ((0:Int)<=x2/\x2<(a.length:Int)) ((KB N (E8 a x2)).bind λy9=>k3 (!y9)) none) (k3 false)) none) (some true)) 0)
theorem Vs {b:Str}{y:Bool}(h:Cz N b=some y) :Yo S Mf [.p (.str b)] [] (pB y) ([]) []:=by
 unfold Cz at h;refine A1 Z func206 ?_;refine kB Z (A3 Z) Ly Ly 4 (.o (.a (decide ((b.length:Int)<1))) (.a (decide (4<(b.length:Int))))) ?_;refine Af6 Z h fun h=>?_;refine D6 Z Ly h (λx2=>kps [(3,pN x2)] [0] [] []) (λd x2 f h=>?_);apply kI Z h<;>intro h
 .obtain⟨c19,h⟩:=C0 h;refine kD Z h c19 (Qy Z Y) (λy7 h=>?_);refine GT Z Ly (A3 Z) h 0 (λz3=>kps [(29,pB z3)] [3,0] [] []) (λk3 c h=>?_) (λz3 h=>?_)
  .refine kG Z h (λh=>?_) (λh=>?_)
   .obtain⟨c24,h⟩:=C0 h;refine kD Z h c24 (Bj5 Z Y) (λy9 h=>?_);exact c Ly h
   exact c Ly h
  refine Af6 Z h fun h=>?_;exact f Ly h
 cases h;exact kR Z
abbrev rO (v:D7)(a:Nat):List Obj:=[(.cells [pB v.Made,.p (vSl 1 cS v.F),.vec a]),oV S1 3 H6 v.S true]
def N7 (N:Nat)(a:D7):Option Bool:= some a.Made
theorem EE {a:D7}{y:Bool}(h:N7 N a=some y) :Yo S Me [.reg 0 0] (rO a 1) (pB y) (rO a 1) [true,true]:=by unfold N7 at h;refine A1 Z func205 ?_;obtain rfl:=A6 h;exact kO Z Ly [0,1]
def Y8 (N:Nat)(c:D7)(b:Tr):Option Bool:= (G5 N b).bind λy1=>ite (!y1) (some false) (N3 N (λa (x1:Int)=>ite (decide (x1<24)) ((W7 N b x1).bind λy4=>ite (y4 != 0) (some false) (a (wrap .i64 (x1+1)))) (some true)) (c.F.n:Int))
theorem Pn {a:D7}{b:Tr}{y:Bool}(h:Y8 N a b=some y) :Yo S HO [.reg 0 0,.p (.agg (A0 b))] (rO a 1) (pB y) (rO a 1) [true,true]:=by
 unfold Y8 at h;refine A1 Z func207 ?_;refine kC Z h (V5 Z Y) (λy1 h=>?_);apply kI Z h<;>intro h
 .obtain rfl:=A6 h;exact kO Z Ly [0,1]
 refine D6 Z Ly h (λx1=>kps [(5,pN x1)] [3] [] [4000,1,0]) (λc x1 d h=>?_);apply kI Z h<;>intro h
 .refine kC Z h (Fa Z Y) (λy4 h=>?_);apply kI Z h<;>intro h
  .obtain rfl:=A6 h;exact kO Z Ly [0,1]
  exact d Ly h
 obtain rfl:=A6 h;exact kO Z Ly [0,1]
def Y9 (N:Nat)(a:D7):Option (Sl Str):= (N7 N a).bind λy1=>ite (!y1) (some (Sl.nil:Sl Str)) (ite (Va 16 ((Sl.of []:Sl Str).n+a.F.n)) (some ((Sl.of []:Sl Str).app a.F)) none)
theorem KC {a:D7}{y:Sl Str}(h:Y9 N a=some y) :Yo S Ke [.reg 0 0] (rO a 1) (.vec 2) ([.cells [pB a.Made,.p (vSl 1 cS a.F),.vec 1],oV S1 3 H6 a.S true,oV M9 1 cS y true]) [true,true]:=by
 unfold Y9 at h;refine A1 Z func155 ?_;obtain⟨y1,e1,h⟩:=E7 h;refine E2 Z [0,1] Ly (EE Z Y e1) ?_;apply kI Z h<;>intro h
 .obtain rfl:=A6 h;exact kO Z Ly [0,1,3700]
 obtain⟨c2,h⟩:=C0 h;obtain rfl:=A6 h;exact kO Z (Vb Sr c2) [0,1,12000] (hle:=klR [(0,.fn (0+a.F.n) ((Sl.of []:Sl Str).app a.F).n (Du 0 (G7 [.str []] []) (λi=>cS (a.F.g i))) (λi=>cS (((Sl.of []:Sl Str).app a.F).g i)))] (al1 ⟨rfl,Ad3 (c:=cS) (v:=(Sl.of []:Sl Str)) (w:=a.F) (λi b=>Kf b (by omega)) rfl same rfl⟩ al0))
def Au (N:Nat)(a:D7):Option (Sl F9):= (N7 N a).bind λy1=>ite (!y1) (some (Sl.nil:Sl F9)) (ite (Va 24 ((Sl.of []:Sl F9).n+a.S.n)) (some ((Sl.of []:Sl F9).app a.S)) none)
theorem Ra {a:D7}{y:Sl F9}(h:Au N a=some y) :Yo S Jp [.reg 0 0] (rO a 1) (.vec 2) ([.cells [pB a.Made,.p (vSl 1 cS a.F),.vec 1],oV S1 3 H6 a.S true,oV S1 3 H6 y true]) [true,true]:=by
 unfold Au at h;refine A1 Z func209 ?_;obtain⟨y1,e1,h⟩:=E7 h;refine E2 Z [0,1] Ly (EE Z Y e1) ?_;apply kI Z h<;>intro h
 .obtain rfl:=A6 h;exact kO Z Ly [0,1,3700]
 obtain⟨c2,h⟩:=C0 h;obtain rfl:=A6 h;exact kO Z (Vb Sr c2) [0,1,12000] (hle:=klR [(0,.fn (0+a.S.n) ((Sl.of []:Sl F9).app a.S).n (Du 0 (G7 Ag6 []) (λi=>H6 (a.S.g i))) (λi=>H6 (((Sl.of []:Sl F9).app a.S).g i)))] (al1 ⟨rfl,Ad3 (c:=H6) (v:=(Sl.of []:Sl F9)) (w:=a.S) (λi b=>Kf b (by omega)) rfl same rfl⟩ al0))
def DR (N:Nat)(a:D7)(b:Str)(c:Tr):Option (Int×D7):= (N7 N a).bind λy1=>ite (!y1) (some (1,a)) ((Cz N b).bind λy2=>ite (!y2) (some (15,a)) ((Y8 N a c).bind λy3=>ite (!y3) (some (14,a)) (N3 N (λd (x1:Int)=>ite (decide (x1<(a.S.n:Int))) (ite (((0:Int)<=x1/\x1<(a.S.n:Int))/\x1.toNat<a.S.n) (ite (((a.S.g x1.toNat).Af1==b) != false) (some (6,a)) (ite (((0:Int)<=x1/\x1<(a.S.n:Int))/\x1.toNat<a.S.n) (ite ((((a.S.g x1.toNat).S.Plus==c.Plus)&&((a.S.g x1.toNat).S.Minus==c.Minus)) != false) (some (6,a)) (d (wrap .i64 (x1+1)))) none)) none) (ite (decide (256<=(a.S.n:Int))) (some (4,a)) (ite (Va 24 (a.S.n+(Sl.of [(⟨b,c⟩:F9)]:Sl F9).n)) (some (0,(⟨a.Made,a.F,a.S.push (⟨b,c⟩:F9)⟩:D7))) none))) 0)))
theorem Zl {c:D7}{a:Str}{b:Tr}{y:Int×D7}(h:DR N c a b=some y) :Yo S NU [.reg 0 0,.p (.str a),.p (.agg (A0 b))] (rO c 1) (pN y.1) ([.cells [pB y.2.Made,.p (vSl 1 cS y.2.F),.vec 1],oV S1 3 H6 y.2.S true]) [true,false]:=by
 unfold DR at h;refine A1 Z func154 ?_;refine C6 Z Ly 6 6000 [pI .u32 b.Plus,pI .u32 b.Minus] ?_;obtain⟨y1,e1,h⟩:=E7 h;refine E2 Z [0,1] Ly (EE Z Y e1) ?_;apply kI Z h<;>intro h
 .obtain rfl:=A6 h;exact kO Z Ly [0,990001]
 refine kC Z h (Vs Z Y) (λy2 h=>?_);apply kI Z h<;>intro h
 .obtain rfl:=A6 h;exact kO Z Ly [0,990001]
 obtain⟨y3,e3,h⟩:=E7 h;refine E2 Z [0,1] Pb (Pn Z Y e3) ?_;apply kI Z h<;>intro h
 .obtain rfl:=A6 h;exact kO Z Ly [0,990001]
 refine D6 Z Ly h (λx1=>kps [(7,pN x1)] [5,1,0] [] [1,0]) (λd x1 f h=>?_);apply kI Z h<;>intro h
 .refine B5 Z Ly [19] ?_;obtain⟨c15,h⟩:=C0 h;refine dG c15 h (λh=>?_) (λh=>?_)
  .refine D1 Ly ?_;obtain rfl:=A6 h;exact kO Z Ly [0,990001]
  obtain⟨c17,h⟩:=C0 h;refine D1 (Vb (Vb (Vb (Vb c17.1 Pb) c17.2) Pb) (by decide +kernel:QF Tryz.prog A9=true)) ?_;apply kI Z h<;>intro h
  .obtain rfl:=A6 h;exact kO Z Ly [0,990001]
  exact f Ly h
 apply kI Z h<;>intro h
 .obtain rfl:=A6 h;exact kO Z Ly [0,990001]
 refine B5 Z Ly [6] ?_;refine O6 Pb (x:=.sl true 3 1 (G7 Ag6 [(0,H6 (⟨a,b⟩:F9))])) ?_;refine dE h (λh=>?_);obtain rfl:=A6 h;exact kO Z Ly [0,65000] (hle:=kl1 1 (P0 H6 c.S (⟨a,b⟩:F9) Ag6))
def KD (N:Nat)(a:Sl Str):Option ((Option D7)×Int):= ite (decide (24<(a.n:Int))) (some (none,12)) (N3 N (λb (x1:Int)=>ite (decide (x1<(a.n:Int))) (ite ((0:Int)<=x1/\x1<(a.n:Int)) ((Fc N (a.g x1.toNat)).bind λy3=>ite (!y3) (some (none,15)) (b (wrap .i64 (x1+1)))) none) (N3 N (λc (x3:Int)=>ite (decide (x3<(a.n:Int))) (N3 N (λd (x5:Int)=>ite (decide (x5<x3)) (ite (((0:Int)<=x3/\x3<(a.n:Int))/\((0:Int)<=x5/\x5<(a.n:Int))) (ite (((a.g x3.toNat)==(a.g x5.toNat)) != false) (some (none,6)) (d (wrap .i64 (x5+1)))) none) (c (wrap .i64 (x3+1)))) 0) (ite (Va 16 ((Sl.of []:Sl Str).n+a.n)) (some (some (⟨true,(Sl.of []:Sl Str).app a,(Sl.nil:Sl F9)⟩:D7),0)) none)) 0)) 0)
theorem Al3 {a:Sl Str}{y:(Option D7)×Int}(h:KD N a=some y) :Yo S Ah1 [.p (vSl 1 cS a)] [] (.tup [JA y.1 (.p BW1) λ_=>.reg 0 0,pN y.2]) (JA y.1 [] λo=>rO o 1) []:=by
 unfold KD at h;refine A1 Z func153 ?_;apply kI Z h<;>intro h
 .obtain rfl:=A6 h;exact kO Z Ly []
 refine D6 Z Ly h (λx1=>kps [(4,pN x1)] [0] [] []) (λb x1 d h=>?_);apply kI Z h<;>intro h
 .obtain⟨c9,h⟩:=C0 h;refine kD Z h c9 (Al2 Z Y) (λy3 h=>?_);apply kI Z h<;>intro h
  .obtain rfl:=A6 h;exact kO Z Ly []
  exact d Ly h
 refine D6 Z Ly h (λx3=>kps [(5,pN x3)] [0] [] []) (λf x3 j h=>?_);apply kI Z h<;>intro h
 .refine D6 Z Ly h (λx5=>kps [(6,pN x5)] [5,0] [] []) (λl x5 m h=>?_);apply kI Z h<;>intro h
  .refine B5 Z Ly [2,3,6,7] ?_;refine dE h (λh=>?_);apply kI Z h<;>intro h
   .obtain rfl:=A6 h;exact kO Z Ly []
   exact m Ly h
  exact j Ly h
 obtain⟨c41,h⟩:=C0 h;obtain rfl:=A6 h;exact kO Z (Vb Sr c41) [47000,3801] (hle:=klR [(2,.fn (0+a.n) ((Sl.of []:Sl Str).app a).n (Du 0 (G7 [.str []] []) (λi=>cS (a.g i))) (λi=>cS (((Sl.of []:Sl Str).app a).g i)))] (al1 ⟨rfl,Ad3 (c:=cS) (v:=(Sl.of []:Sl Str)) (w:=a) (λi q=>Kf q (by omega)) rfl same rfl⟩ al0))
def EF (N:Nat)(a:D7):Option (Option D7):= (N7 N a).bind λy1=>ite (!y1) (some none) ((Y9 N a).bind λy2=>(Au N a).bind λy3=>some (some (⟨true,y2,y3⟩:D7)))
theorem Mr {a:D7}{y:Option D7}(h:EF N a=some y) :Yo S Mb [.reg 0 0] (rO a 1) (JA y (.p BW1) λ_=>.reg 2 0) ((rO a 1)++(JA y [] λo=>rO o 3)) [true,true]:=by
 unfold EF at h;refine A1 Z func157 ?_;obtain⟨y1,e1,h⟩:=E7 h;refine E2 Z [0,1] Ly (EE Z Y e1) ?_;apply kI Z h<;>intro h
 .obtain rfl:=A6 h;exact kO Z Ly [0,1]
 obtain⟨y2,e2,h⟩:=E7 h;refine E2 Z [0,1] Ly (KC Z Y e2) ?_;obtain⟨y3,e3,h⟩:=E7 h;refine E2 Z [0,1] Ly (Ra Z Y e3) ?_;obtain rfl:=A6 h;exact kO Z Ly [0,1,12000,10002]
def HX (N:Nat)(a:Int):Option Bool:= some ((((((((a==58)||(a==39))||(a==34))||(a==126))||(a==94))||(a==95))||(a==61))||(a==96))
theorem AV8 {b:Int}{y:Bool}(h:HX N b=some y) :Yo S WF [.p (pI .u8 b)] [] (pB y) ([]) []:=by unfold HX at h;refine A1 Z func208 ?_;refine kB Z (A3 Z) Ly Ly 27 (.o (.o (.o (.o (.o (.o (.o (.a (b==58)) (.a (b==39))) (.a (b==34))) (.a (b==126))) (.a (b==94))) (.a (b==95))) (.a (b==61))) (.a (b==96))) ?_;cases h;exact kR Z
def CA (N:Nat)(a:Str):Option Bool:= N3 N (λb (x1:Int)=>ite (decide (x1<(a.length:Int))) (ite ((0:Int)<=x1/\x1<(a.length:Int)) ((HX N (E8 a x1)).bind λy3=>ite (!y3) (some false) (b (wrap .i64 (x1+1)))) none) (some ((decide (1<=(a.length:Int)))&&(decide ((a.length:Int)<=3))))) 0
theorem Vt {b:Str}{y:Bool}(h:CA N b=some y) :Yo S Ma [.p (.str b)] [] (pB y) ([]) []:=by
 unfold CA at h;refine A1 Z func156 ?_;refine D6 Z Ly h (λx1=>kps [(3,pN x1)] [0] [] []) (λc x1 d h=>?_);apply kI Z h<;>intro h
 .obtain⟨c8,h⟩:=C0 h;refine kD Z h c8 (AV8 Z Y) (λy3 h=>?_);refine Af6 Z h fun h=>?_;exact d Ly h
 refine kB Z (A3 Z) Ly Ly 4 (.n (.a (decide (1<=(b.length:Int)))) (.a (decide ((b.length:Int)<=3)))) ?_;cases h;exact kR Z
def KE (N:Nat)(b:D7)(a:Sl GW):Option Int:= ite (!b.Made) (some 1) (ite (decide (32<(a.n:Int))) (some 12) ((Y9 N b).bind λy1=>ite ((0:Int)<=(y1.n:Int)) (N3 N (λc (x3:Int)=>ite (decide (x3<(a.n:Int))) (ite ((0:Int)<=x3/\x3<(a.n:Int)) ((CA N (a.g x3.toNat).Text).bind λy8=>ite (!y8) (some 15) (lt (λ(z3:Bool)=>ite z3 (some 2) (N3 N (λd (x7:Int)=>ite (decide (x7<x3)) (ite ((0:Int)<=x7/\x7<(a.n:Int)) (ite (((a.g x7.toNat).Text==(a.g x3.toNat).Text) != false) (some 6) (d (wrap .i64 (x7+1)))) none) (c (wrap .i64 (x3+1)))) 0)) λk3=>ite ((F3 .andNot .u32 (a.g x3.toNat).Clear (wrap .u32 ((shI .shl .u32 1 (y1.n:Int))-1))) != 0) (k3 true) ((G5 N (a.g x3.toNat).Set).bind λf=>ite (!f) (k3 true) (ite ((F3 .andNot .u32 (F3 .or .u32 (a.g x3.toNat).Set.Plus (a.g x3.toNat).Set.Minus) (wrap .u32 ((shI .shl .u32 1 (y1.n:Int))-1))) != 0) (k3 true) (k3 ((F3 .and .u32 (a.g x3.toNat).Clear (F3 .or .u32 (a.g x3.toNat).Set.Plus (a.g x3.toNat).Set.Minus)) != 0)))))) none) ((EF N b).bind λi=>JA i (ite (Va 32 ((Sl.of []:Sl GW).n+a.n)) (some 0) none) λz4=>ite (Va 32 ((Sl.of []:Sl GW).n+a.n)) (some 0) none)) 0) none))
theorem Bj6 {c:D7}{a:Sl GW}{y:Int}(h:KE N c a=some y) :Yo S Ag5 [.reg 0 0,.p (vSl 4 EN a)] (rO c 1) (.tup [.top,pN y]) (rO c 1) [true,true]:=by
 unfold KE at h;refine A1 Z func106 ?_;apply kI Z h<;>intro h
 .obtain rfl:=A6 h;exact kO Z Ly [0,1]
 apply kI Z h<;>intro h
 .obtain rfl:=A6 h;exact kO Z Ly [0,1]
 obtain⟨y1,e1,h⟩:=E7 h;refine E2 Z [0,1] Ly (KC Z Y e1) ?_;obtain⟨c3,h⟩:=C0 h;refine D6 Z c3 h (λx3=>kps [(7,pN x3)] [6,1,0] [] [1,0]) (λd x3 f h=>?_);apply kI Z h<;>intro h
 .obtain⟨c45,h⟩:=C0 h;refine C6 Z (Vb c45 Pd) 38 9000 (EN (a.g x3.toNat)) ?_;refine kC Z h (Vt Z Y) (λy8 h=>?_);apply kI Z h<;>intro h
  .obtain rfl:=A6 h;exact kO Z Ly [0,1]
  refine GT Z Ly (A3 Z) h 0 (λz3=>kps [(72,pB z3)] [8,7,6,1,0] [] [1,0]) (λk3 b h=>?_) (λz3 h=>?_)
  .refine kG Z h (λh=>?_) (λh=>?_)
   .exact b Ly h
   refine kD Z h Pb (V5 Z Y) (λm h=>?_);refine kG Z h (λh=>?_) (λh=>?_)
   .exact b Ly h
   refine kG Z h (λh=>?_) (λh=>?_)
   .exact b Ly h
   exact b Ly h
  apply kI Z h<;>intro h
  .obtain rfl:=A6 h;exact kO Z Ly [0,1]
  refine D6 Z Ly h (λx7=>kps [(10,pN x7)] [8,7,6,1,0] [] [1,0]) (λi x7 j h=>?_);apply kI Z h<;>intro h
  .refine B5 Z Ly [2,4,6] ?_;refine dE h (λh=>?_);apply kI Z h<;>intro h
   .obtain rfl:=A6 h;exact kO Z Ly [0,1]
   exact j Ly h
  exact f Ly h
 obtain⟨l,e11,h⟩:=E7 h;rcases o1:l with _|z4
 .replace h:=Ap8 o1 h;have w1:=(Mr Z Y e11);simp only[o1,K5,M5,Ck9,Cj3,Cn4]at w1;refine E2 Z [0,1] Ly w1 ?_;obtain⟨c64,h⟩:=C0 h;obtain rfl:=A6 h;exact kO Z (Vb Sr c64) [0,1]
 replace h:=Ad5 o1 h;have w2:=(Mr Z Y e11);simp only[o1,K5,M5,Ck9,Cj3,Cn4]at w2;refine E2 Z [0,1] Ly w2 ?_;obtain⟨c65,h⟩:=C0 h;obtain rfl:=A6 h;exact kO Z (Vb Sr c65) [0,1]
def Bl (N:Nat)(a:A8):Option ((Option D7)×Int):= (KD N a.Feats).bind λy1=>JA y1.1 (ite (y1.2 != 0) (some (none,y1.2)) none) λz1=>ite (y1.2 != 0) (some (none,y1.2)) (Ba4 N (λb (x2:Bool) (x3:Sl Str) (x4:Sl F9) (x5:Int)=>ite (decide (x5<(a.Sounds.n:Int))) (ite (((0:Int)<=x5/\x5<(a.Sounds.n:Int))/\((0:Int)<=x5/\x5<(a.Sounds.n:Int))) ((DR N (⟨x2,x3,x4⟩:D7) (a.Sounds.g x5.toNat).Af1 (a.Sounds.g x5.toNat).S).bind λy7=>ite (y7.1 != 0) (some (none,y7.1)) (b y7.2.Made y7.2.F y7.2.S (wrap .i64 (x5+1)))) none) (some (some (⟨x2,x3,x4⟩:D7),0))) z1.Made z1.F z1.S 0)
theorem KF {a:A8}{y:(Option D7)×Int}(h:Bl N a=some y) :Yo S JX [.p (.agg (B2 a))] [] (.tup [JA y.1 (.p BW1) λ_=>.reg 0 0,pN y.2]) (JA y.1 [] λo=>rO o 1) []:=by
 unfold Bl at h;refine A1 Z func105 ?_;refine C6 Z Ly 2 2000 (B2 a) ?_;obtain⟨y1,e1,h⟩:=E7 h;rcases o1:y1.1 with _|z1
 .replace h:=Ap8 o1 h;have w1:=(Al3 Z Y e1);simp only[o1,K5,M5,Ck9,Cj3,Cn4]at w1;refine E2 Z [] Ly w1 ?_;apply kI Z h<;>intro h
  .obtain rfl:=A6 h;exact kO Z Ly []
  cases h
 replace h:=Ad5 o1 h;have w2:=(Al3 Z Y e1);simp only[o1,K5,M5,Ck9,Cj3,Cn4]at w2;refine E2 Z [] Ly w2 ?_;apply kI Z h<;>intro h
 .obtain rfl:=A6 h;exact kO Z Ly []
 refine AI6 Z Ly h (λx2 x3 x4 x5=>kps [(6,pN x5)] [4,1] [(11000,.cells [pB x2,.p (vSl 1 cS x3),.vec 5500]),(5500,oV S1 3 H6 x4 true)] []) (λb x2 x3 x4 x5 c h=>?_);apply kI Z h<;>intro h
 .refine B5 Z Ly [2,4,6,8,10,12] ?_;obtain⟨c19,h⟩:=C0 h;obtain⟨y7,e7,h⟩:=E7 h;refine Ha [11000,5500] (Vb (Vb c19.1 c19.2) Pb) (Zl Z Y e7) ?_;refine D1 Ly ?_;apply kI Z h<;>intro h
  .obtain rfl:=A6 h;exact kO Z Ly []
  exact c Ly h
 obtain rfl:=A6 h;exact kO Z Ly [11000,5500]
def EG (N:Nat)(a:A8):Option Int:= (Bl N a).bind λy1=>JA y1.1 (ite (y1.2 != 0) (some y1.2) none) λz1=>ite (y1.2 != 0) (some y1.2) ((KE N z1 a.Marks).bind λy3=>some y3)
theorem Vu {a:A8}{y:Int}(h:EG N a=some y) :Yo S LP [.p (.agg (B2 a))] [] (.tup [.top,pN y]) ([]) []:=by
 unfold EG at h;refine A1 Z func64 ?_;obtain⟨y1,e1,h⟩:=E7 h;rcases o1:y1.1 with _|z1
 .replace h:=Ap8 o1 h;have w1:=(KF Z Y e1);simp only[o1,K5,M5,Ck9,Cj3,Cn4]at w1;refine E2 Z [] Ly w1 ?_;apply kI Z h<;>intro h
  .obtain rfl:=A6 h;exact kO Z Ly []
  cases h
 replace h:=Ad5 o1 h;have w2:=(KF Z Y e1);simp only[o1,K5,M5,Ck9,Cj3,Cn4]at w2;refine E2 Z [] Ly w2 ?_;apply kI Z h<;>intro h
 .obtain rfl:=A6 h;exact kO Z Ly []
 obtain⟨y3,e3,h⟩:=E7 h;refine E2 Z [9000,9001] Ly (Bj6 Z Y e3) ?_;obtain rfl:=A6 h;exact kO Z Ly []
def Da (N:Nat)(a:A8):Option Int:= (EG N a).bind λy1=>ite (y1 != 0) (some y1) ((Er N a.Yv a.Yu a.Yy).bind λy2=>some y2)
theorem MT {a:A8}{y:Int}(h:Da N a=some y) :Yo S Ss [.p (.agg (B2 a))] [] (pN y) ([]) []:=by
 unfold Da at h;refine A1 Z func30 ?_;refine kC Z h (Vu Z Y) (λy1 h=>?_);refine Af6 Z h fun h=>?_;refine kC Z h (TJ Z Y) (λy2 h=>?_);cases h;exact kR Z
def V6 (N:Nat)(c:Tr)(a:Tr):Option Bool:= (G5 N c).bind λy1=>lt (λ(z1:Bool)=>ite z1 (some false) (N3 N (λb (x3:Int)=>ite (decide (x3<24)) ((W7 N a x3).bind λd=>lt (λ(z4:Bool)=>ite z4 (some false) (b (wrap .i64 (x3+1)))) λk4=>ite (d != 0) ((W7 N c x3).bind λf=>k4 (f != d)) (k4 false)) (some true)) 0)) λk1=>ite (!y1) (k1 true) ((G5 N a).bind λy3=>k1 (!y3))
theorem TL {b:Tr}{a:Tr}{y:Bool}(h:V6 N b a=some y) :Yo S Kg [.p (.agg (A0 b)),.p (.agg (A0 a))] [] (pB y) ([]) []:=by
 unfold V6 at h;refine A1 Z func264 ?_;refine kC Z h (V5 Z Y) (λy1 h=>?_);refine GT Z Ly (A3 Z) h 0 (λz1=>kps [(14,pB z1)] [3,2] [] [4000,3000]) (λk1 c h=>?_) (λz1 h=>?_)
 .refine kG Z h (λh=>?_) (λh=>?_)
  .exact c Ly h
  refine kC Z h (V5 Z Y) (λy3 h=>?_);exact c Ly h
 refine Af6 Z h fun h=>?_;refine D6 Z Ly h (λx3=>kps [(5,pN x3)] [3,2] [] [4000,3000]) (λf x3 g h=>?_);apply kI Z h<;>intro h
 .refine kC Z h (Fa Z Y) (λi h=>?_);refine GT Z Ly (A3 Z) h 0 (λz4=>kps [(30,pB z4)] [5,3,2] [] [4000,3000]) (λk4 d h=>?_) (λz4 h=>?_)
  .refine kG Z h (λh=>?_) (λh=>?_)
   .refine kC Z h (Fa Z Y) (λj h=>?_);exact d Ly h
   exact d Ly h
  refine Af6 Z h fun h=>?_;exact g Ly h
 cases h;exact kR Z
def Fd (N:Nat)(b:Tr)(a:Int)(c:Int):Option Tr:= ite ((0:Int)<=a) (ite (c==1) (ite (c==(-1)) (some (⟨F3 .or .u32 (F3 .andNot .u32 b.Plus (shI .shl .u32 1 a)) (shI .shl .u32 1 a),F3 .or .u32 (F3 .andNot .u32 b.Minus (shI .shl .u32 1 a)) (shI .shl .u32 1 a)⟩:Tr)) (some (⟨F3 .or .u32 (F3 .andNot .u32 b.Plus (shI .shl .u32 1 a)) (shI .shl .u32 1 a),F3 .andNot .u32 b.Minus (shI .shl .u32 1 a)⟩:Tr))) (ite (c==(-1)) (some (⟨F3 .andNot .u32 b.Plus (shI .shl .u32 1 a),F3 .or .u32 (F3 .andNot .u32 b.Minus (shI .shl .u32 1 a)) (shI .shl .u32 1 a)⟩:Tr)) (some (⟨F3 .andNot .u32 b.Plus (shI .shl .u32 1 a),F3 .andNot .u32 b.Minus (shI .shl .u32 1 a)⟩:Tr)))) none
theorem Ou {a:Tr}{b:Int}{c:Int}{y:Tr}(h:Fd N a b c=some y) :Yo S Aj1 [.p (.agg (A0 a)),pN b,pN c] [] (.p (.agg (A0 y))) ([]) []:=by
 unfold Fd at h;refine A1 Z func277 ?_;refine kJ Z h (λh=>?_) (λh=>?_)
 .refine Af6 Z h fun h=>?_;cases h;exact kR Z
 refine Af6 Z h fun h=>?_;cases h;exact kR Z
def W8 (N:Nat)(d:Tr)(b:Int)(a:Tr):Option (Tr×Int):= (G5 N d).bind λy1=>lt (λ(z1:Bool)=>ite z1 (some ((⟨0,0⟩:Tr),14)) (ite ((decide (16777215<b))||((F3 .and .u32 b (F3 .or .u32 a.Plus a.Minus)) != 0)) (some ((⟨0,0⟩:Tr),2)) (Bf3 N (λc (x2:Int) (x3:Int) (x4:Int)=>ite (decide (x4<24)) (ite ((0:Int)<=x4) (ite ((F3 .and .u32 (shI .shr .u32 b x4) 1)==1) ((Fd N (⟨x2,x3⟩:Tr) x4 0).bind λf=>(W7 N a x4).bind λj=>ite (j != 0) ((W7 N a x4).bind λl=>(Fd N f x4 l).bind λg=>c g.Plus g.Minus (wrap .i64 (x4+1))) (c f.Plus f.Minus (wrap .i64 (x4+1)))) ((W7 N a x4).bind λm=>ite (m != 0) ((W7 N a x4).bind λn=>(Fd N (⟨x2,x3⟩:Tr) x4 n).bind λi=>c i.Plus i.Minus (wrap .i64 (x4+1))) (c x2 x3 (wrap .i64 (x4+1))))) none) (some ((⟨x2,x3⟩:Tr),0))) d.Plus d.Minus 0))) λk1=>ite (!y1) (k1 true) ((G5 N a).bind λy3=>k1 (!y3))
theorem Al4 {d:Tr}{b:Int}{c:Tr}{y:Tr×Int}(h:W8 N d b c=some y) :Yo S Qp [.p (.agg (A0 d)),pU b,.p (.agg (A0 c))] [] (.tup [.p (.agg (A0 y.1)),pN y.2]) ([]) []:=by
 unfold W8 at h;refine A1 Z func267 ?_;refine C6 Z Ly 5 4000 [pI .u32 d.Plus,pI .u32 d.Minus] ?_;refine C6 Z Ly 6 6000 [pI .u32 c.Plus,pI .u32 c.Minus] ?_;refine kD Z h Pb (V5 Z Y) (λy1 h=>?_);refine GT Z Ly (A3 Z) h 0 (λz1=>kps [(17,pB z1)] [6,5,3,1] [] [7000]) (λk1 g h=>?_) (λz1 h=>?_)
 .refine kG Z h (λh=>?_) (λh=>?_)
  .exact g Ly h
  refine kD Z h Pb (V5 Z Y) (λy3 h=>?_);exact g Ly h
 refine Af6 Z h fun h=>?_;refine kB Z (A3 Z) Ly Ly 9 (.o (.a (decide (16777215<b))) (.a ((F3 .and .u32 b (F3 .or .u32 c.Plus c.Minus)) != 0))) ?_;refine Af6 Z h fun h=>?_;refine Nx Z Pb h (λx2 x3 x4=>kps [(9,pN x4)] [8,6,5,1] [(9000,.cells [pU x2,pU x3])] [7000]) (λi x2 x3 x4 f h=>?_);apply kI Z h<;>intro h
 .refine kJ Z h (λh=>?_) (λh=>?_)
  .refine kC Z h (Ou Z Y) (λj h=>?_);refine kD Z h Pb (Fa Z Y) (λl h=>?_);apply kI Z h<;>intro h
   .refine B5 Z Ly [2,4,5] ?_;refine dP h Pb (Fa Z Y) (λm h=>?_);refine dP h Ly (Ou Z Y) (λn h=>?_);refine D1 Ly ?_;exact f Ly h
   exact f Ly h
  refine kD Z h Pb (Fa Z Y) (λq h=>?_);apply kI Z h<;>intro h
  .refine B5 Z Ly [2,4,5] ?_;refine dP h Pb (Fa Z Y) (λr h=>?_);refine dP h Ly (Ou Z Y) (λs h=>?_);refine D1 Ly ?_;exact f Ly h
  exact f Ly h
 cases h;exact kR Z
def BJ (N:Nat)(d:Tr)(a:Tr)(b:Int):Option (Tr×Int):= (G5 N d).bind λy1=>lt (λ(z1:Bool)=>ite z1 (some ((⟨0,0⟩:Tr),14)) (ite (decide (16777215<b)) (some ((⟨0,0⟩:Tr),2)) (Bf3 N (λc (x2:Int) (x3:Int) (x4:Int)=>ite (decide (x4<24)) (ite ((0:Int)<=x4) (ite ((F3 .and .u32 (shI .shr .u32 b x4) 1)==1) ((W7 N a x4).bind λy8=>(Fd N (⟨x2,x3⟩:Tr) x4 y8).bind λy9=>c y9.Plus y9.Minus (wrap .i64 (x4+1))) (c x2 x3 (wrap .i64 (x4+1)))) none) (some ((⟨x2,x3⟩:Tr),0))) d.Plus d.Minus 0))) λk1=>ite (!y1) (k1 true) ((G5 N a).bind λy3=>k1 (!y3))
theorem AV9 {c:Tr}{a:Tr}{b:Int}{y:Tr×Int}(h:BJ N c a b=some y) :Yo S WN [.p (.agg (A0 c)),.p (.agg (A0 a)),pU b] [] (.tup [.p (.agg (A0 y.1)),pN y.2]) ([]) []:=by
 unfold BJ at h;refine A1 Z func268 ?_;refine C6 Z Ly 4 4000 [pI .u32 c.Plus,pI .u32 c.Minus] ?_;refine C6 Z Ly 6 5000 [pI .u32 a.Plus,pI .u32 a.Minus] ?_;refine kD Z h Pb (V5 Z Y) (λy1 h=>?_);refine GT Z Ly (A3 Z) h 0 (λz1=>kps [(17,pB z1)] [6,4,3,2] [] [7000]) (λk1 d h=>?_) (λz1 h=>?_)
 .refine kG Z h (λh=>?_) (λh=>?_)
  .exact d Ly h
  refine kD Z h Pb (V5 Z Y) (λy3 h=>?_);exact d Ly h
 refine Af6 Z h fun h=>?_;refine Af6 Z h fun h=>?_;refine Nx Z Pb h (λx2 x3 x4=>kps [(9,pN x4)] [8,6,4,2] [(9000,.cells [pU x2,pU x3])] [7000]) (λg x2 x3 x4 f h=>?_);apply kI Z h<;>intro h
 .refine kJ Z h (λh=>?_) (λh=>?_)
  .refine B5 Z Ly [2,4,5] ?_;refine dP h Pb (Fa Z Y) (λy8 h=>?_);refine dP h Ly (Ou Z Y) (λy9 h=>?_);refine D1 Ly ?_;exact f Ly h
  exact f Ly h
 cases h;exact kR Z
def FQ (N:Nat)(a:Sl Tr):Option (Sl Tr):= V7 N (λb (x1:Sl Tr) (x2:Int)=>ite (decide (x2<(a.n:Int))) (ite (((0:Int)<=x2/\x2<(a.n:Int))/\(Va 8 (x1.n+(Sl.of [a.g x2.toNat]:Sl Tr).n))) (b (x1.push (a.g x2.toNat)) (wrap .i64 (x2+1))) none) (some x1)) Tn 0
theorem AW0 {a:Sl Tr}{y:Sl Tr}(h:FQ N a=some y) :Yo S WH [.p (vSl 2 A0 a)] [] (.vec 0) ([oV A9 2 A0 y true]) []:=by
 unfold FQ at h;refine A1 Z func217 ?_;refine F5 Z Ly h (λx1 x2 _=>⟨[(4,pN x2),(3,.vec 4500),(0,.p (vSl 2 A0 a))],[(4500,oV A9 2 A0 x1 false)]⟩) (λb x1 x2 c h=>?_);apply kI Z h<;>intro h
 .obtain⟨c4,h⟩:=C0 h;exact c (Vb (Vb (Vb c4.1 Pb) Sr) c4.2) h (hle:=kl1 2 (P0 A0 x1 (a.g x2.toNat) Ag7))
 obtain rfl:=A6 h;exact kO Z Ly [4500]
def P5 (N:Nat)(a:Sl Tr)(b:Sl Tr):Option Bool:= ite ((a.n:Int) != (b.n:Int)) (some false) (N3 N (λc (x1:Int)=>ite (decide (x1<(a.n:Int))) (ite (((0:Int)<=x1/\x1<(a.n:Int))/\((0:Int)<=x1/\x1<(b.n:Int))) (ite ((((a.g x1.toNat).Plus==(b.g x1.toNat).Plus)&&((a.g x1.toNat).Minus==(b.g x1.toNat).Minus)) != true) (some false) (c (wrap .i64 (x1+1)))) none) (some true)) 0)
theorem TM {a:Sl Tr}{b:Sl Tr}{y:Bool}(h:P5 N a b=some y) :Yo S SN [.p (vSl 2 A0 a),.p (vSl 2 A0 b)] [] (pB y) ([]) []:=by
 unfold P5 at h;refine A1 Z func111 ?_;refine Af6 Z h fun h=>?_;refine D6 Z Ly h (λx1=>kps [(5,pN x1)] [1,0] [] []) (λc x1 d h=>?_);apply kI Z h<;>intro h
 .refine B5 Z Ly [2,3,6,7] ?_;obtain⟨c9,h⟩:=C0 h;refine D1 (Vb (Vb (Vb (Vb c9.1 Pb) c9.2) Pb) (by decide +kernel:QF Tryz.prog A9=true)) ?_;refine Af6 Z h fun h=>?_;exact d Ly h
 cases h;exact kR Z
def GH (N:Nat)(b:Tr)(a:Tr):Option Bool:= some (((F3 .and .u32 b.Plus a.Plus)==a.Plus)&&((F3 .and .u32 b.Minus a.Minus)==a.Minus))
theorem TN {c:Tr}{b:Tr}{y:Bool}(h:GH N c b=some y) :Yo S Ki [.p (.agg (A0 c)),.p (.agg (A0 b))] [] (pB y) ([]) []:=by unfold GH at h;refine A1 Z func283 ?_;refine kB Z (A3 Z) Ly Ly 9 (.n (.a ((F3 .and .u32 c.Plus b.Plus)==b.Plus)) (.a ((F3 .and .u32 c.Minus b.Minus)==b.Minus))) ?_;cases h;exact kR Z
def FR (N:Nat)(a:Int):Option (Sl Int):= ite ((0:Int)<=(wrap .i64 (a+1))/\(wrap .i64 (a+1))<=(wrap .i64 (a+1))/\(wrap .i64 (a+1))*8<=140737488355328/\(wrap .i64 (a+1))<=140737488355328) (V7 N (λb (x1:Sl Int) (x2:Int)=>ite (decide (x2<=a)) (ite (((0:Int)<=x2/\((0:Int)<=x2/\x2<(x1.n:Int)))/\x2.toNat<x1.n) (b (x1.upd x2.toNat (shI .shl .u64 1 x2)) (wrap .i64 (x2+1))) none) (some x1)) (Sl.rep (wrap .i64 (a+1)).toNat 0:Sl Int) 0) none
theorem WW {a:Int}{y:Sl Int}(h:FR N a=some y) :Yo S WQ [pN a] [] (.vec 0) ([oV R5 1 (cI .u64) y true]) []:=by
 unfold FR at h;refine A1 Z func284 ?_;obtain⟨c1,h⟩:=C0 h;refine F5 Z c1 h (λx1 x2=>kps [(4,pN x2)] [3,0] [(8000,oV R5 1 (cI .u64) x1 false)] []) (λb x1 x2 d h=>?_);apply kI Z h<;>intro h
 .obtain⟨c5,h⟩:=C0 h;exact d (Vb (Vb c5.1.1 c5.1.2) (Vb (rfl:(1:Nat)=1) (Vb c5.2 Pa))) h (hle:=klR [(2,.fn x1.n (x1.upd x2.toNat (shI .shl .u64 1 x2)).n (λl=>ite (l=x2.toNat) (splice ((λi=>cI .u64 (x1.g i)) l) 0 [pI .u64 (shI .shl .u64 1 x2)]) ((λi=>cI .u64 (x1.g i)) l)) (λi=>cI .u64 ((x1.upd x2.toNat (shI .shl .u64 1 x2)).g i)))] (al1 ⟨rfl,At1 (c:=cI .u64) (v:=x1) (x:=shI .shl .u64 1 x2) same (λ_=>by first|rfl|(dsimp only;split<;>rfl))⟩ al0))
 obtain rfl:=A6 h;exact kO Z Ly [8000]
def Bm (N:Nat)(p_x:Sl Int)(b:Sl Int):Option (Sl Int):= ite ((0:Int)<=(p_x.n:Int)/\(p_x.n:Int)<=(p_x.n:Int)/\(p_x.n:Int)*8<=140737488355328/\(p_x.n:Int)<=140737488355328) (V7 N (λc (x3:Sl Int) (x4:Int)=>ite (decide (x4<(p_x.n:Int))) (V7 N (λa (x7:Sl Int) (x8:Int)=>ite (decide (x8<(b.n:Int))) (ite (((0:Int)<=x4/\x4<(p_x.n:Int))/\(0:Int)<=x8) (ite ((F3 .and .u64 (shI .shr .u64 (p_x.g x4.toNat) x8) 1)==1) (ite ((((((0:Int)<=x4/\x4<(x7.n:Int))/\x4.toNat<x7.n)/\((0:Int)<=x8/\x8<(b.n:Int)))/\((0:Int)<=x4/\x4<(x7.n:Int)))/\x4.toNat<x7.n) (a (x7.upd x4.toNat (F3 .or .u64 (x7.g x4.toNat) (b.g x8.toNat))) (wrap .i64 (x8+1))) none) (a x7 (wrap .i64 (x8+1)))) none) (c x7 (wrap .i64 (x4+1)))) x3 0) (some x3)) (Sl.rep (p_x.n:Int).toNat 0:Sl Int) 0) none
theorem KH {p_x:Sl Int}{a:Sl Int}{y:Sl Int}(h:Bm N p_x a=some y) :Yo S Qs [.p (vSl 1 (cI .u64) p_x),.p (vSl 1 (cI .u64) a)] [] (.vec 0) ([oV R5 1 (cI .u64) y true]) []:=by
 unfold Bm at h;refine A1 Z func285 ?_;obtain⟨c1,h⟩:=C0 h;refine F5 Z c1 h (λx3 x4=>kps [(6,pN x4)] [5,1,0] [(11000,oV R5 1 (cI .u64) x3 false)] []) (λd x3 x4 f h=>?_);apply kI Z h<;>intro h
 .refine F5 Z Ly h (λx7 x8=>kps [(7,pN x8)] [6,5,1,0] [(11000,oV R5 1 (cI .u64) x7 false)] []) (λj x7 x8 b h=>?_);apply kI Z h<;>intro h
  .refine kJ Z h (λh=>?_) (λh=>?_)
   .refine B5 Z Ly [8,9] ?_;obtain⟨c40,h⟩:=C0 h;refine D1 (Vb (Vb (Vb (Vb c40.1.1.1.1 c40.1.1.1.2) c40.1.1.2) c40.1.2) (Vb (rfl:(1:Nat)=1) (Vb c40.2 Pa))) ?_;exact b Ly h (hle:=klR [(4,.fn x7.n (x7.upd x4.toNat (F3 .or .u64 (x7.g x4.toNat) (a.g x8.toNat))).n (λl=>ite (l=x4.toNat) (splice ((λi=>cI .u64 (x7.g i)) l) 0 [pI .u64 (F3 .or .u64 (x7.g x4.toNat) (a.g x8.toNat))]) ((λi=>cI .u64 (x7.g i)) l)) (λi=>cI .u64 ((x7.upd x4.toNat (F3 .or .u64 (x7.g x4.toNat) (a.g x8.toNat))).g i)))] (al1 ⟨rfl,At1 (c:=cI .u64) (v:=x7) (x:=F3 .or .u64 (x7.g x4.toNat) (a.g x8.toNat)) same (λ_=>by first|rfl|(dsimp only;split<;>rfl))⟩ al0))
   exact b Ly h
  exact f Ly h
 obtain rfl:=A6 h;exact kO Z Ly [11000]
def FS (N:Nat)(p_x:Sl Int)(b:Sl Int):Option (Sl Int):= ite ((0:Int)<=(p_x.n:Int)/\(p_x.n:Int)<=(p_x.n:Int)/\(p_x.n:Int)*8<=140737488355328/\(p_x.n:Int)<=140737488355328) (V7 N (λa (x1:Sl Int) (x2:Int)=>ite (decide (x2<(p_x.n:Int))) (ite (((((0:Int)<=x2/\x2<(p_x.n:Int))/\((0:Int)<=x2/\x2<(b.n:Int)))/\((0:Int)<=x2/\x2<(x1.n:Int)))/\x2.toNat<x1.n) (a (x1.upd x2.toNat (F3 .or .u64 (p_x.g x2.toNat) (b.g x2.toNat))) (wrap .i64 (x2+1))) none) (some x1)) (Sl.rep (p_x.n:Int).toNat 0:Sl Int) 0) none
theorem WX {p_x:Sl Int}{a:Sl Int}{y:Sl Int}(h:FS N p_x a=some y) :Yo S WR [.p (vSl 1 (cI .u64) p_x),.p (vSl 1 (cI .u64) a)] [] (.vec 0) ([oV R5 1 (cI .u64) y true]) []:=by
 unfold FS at h;refine A1 Z func286 ?_;obtain⟨c1,h⟩:=C0 h;refine F5 Z c1 h (λx1 x2=>kps [(6,pN x2)] [5,1,0] [(10000,oV R5 1 (cI .u64) x1 false)] []) (λb x1 x2 d h=>?_);apply kI Z h<;>intro h
 .refine B5 Z Ly [4,5,8,9] ?_;obtain⟨c7,h⟩:=C0 h;refine D1 (Vb (Vb (Vb c7.1.1.1 c7.1.1.2) c7.1.2) (Vb (rfl:(1:Nat)=1) (Vb c7.2 Pa))) ?_;exact d Ly h (hle:=klR [(3,.fn x1.n (x1.upd x2.toNat (F3 .or .u64 (p_x.g x2.toNat) (a.g x2.toNat))).n (λl=>ite (l=x2.toNat) (splice ((λi=>cI .u64 (x1.g i)) l) 0 [pI .u64 (F3 .or .u64 (p_x.g x2.toNat) (a.g x2.toNat))]) ((λi=>cI .u64 (x1.g i)) l)) (λi=>cI .u64 ((x1.upd x2.toNat (F3 .or .u64 (p_x.g x2.toNat) (a.g x2.toNat))).g i)))] (al1 ⟨rfl,At1 (c:=cI .u64) (v:=x1) (x:=F3 .or .u64 (p_x.g x2.toNat) (a.g x2.toNat)) same (λ_=>by first|rfl|(dsimp only;split<;>rfl))⟩ al0))
 obtain rfl:=A6 h;exact kO Z Ly [10000]
def GI (N:Nat)(p_x:Sl Int)(b:Sl Int):Option Bool:= N3 N (λa (x1:Int)=>ite (decide (x1<(p_x.n:Int))) (ite (((0:Int)<=x1/\x1<(p_x.n:Int))/\((0:Int)<=x1/\x1<(b.n:Int))) (ite ((p_x.g x1.toNat) != (b.g x1.toNat)) (some false) (a (wrap .i64 (x1+1)))) none) (some true)) 0
theorem AA2 {p_x:Sl Int}{a:Sl Int}{y:Bool}(h:GI N p_x a=some y) :Yo S To [.p (vSl 1 (cI .u64) p_x),.p (vSl 1 (cI .u64) a)] [] (pB y) ([]) []:=by
 unfold GI at h;refine A1 Z func287 ?_;refine D6 Z Ly h (λx1=>kps [(5,pN x1)] [1,0] [] []) (λb x1 c h=>?_);apply kI Z h<;>intro h
 .refine B5 Z Ly [2,3,6,7] ?_;refine dE h (λh=>?_);refine Af6 Z h fun h=>?_;exact c Ly h
 cases h;exact kR Z
def DS (rec:Pat->(Sl Tr)->Option (Sl Int))(N:Nat)(a:Pat)(c:Sl Tr):Option (Sl Int):= ite ((0:Int)<=(wrap .i64 ((c.n:Int)+1))/\(wrap .i64 ((c.n:Int)+1))<=(wrap .i64 ((c.n:Int)+1))/\(wrap .i64 ((c.n:Int)+1))*8<=140737488355328/\(wrap .i64 ((c.n:Int)+1))<=140737488355328) (V7 N (λb (x1:Sl Int) (x2:Int)=>ite (decide (x2<=(c.n:Int))) (ite (a.Kind==0) (ite (((0:Int)<=x2/\((0:Int)<=x2/\x2<(x1.n:Int)))/\x2.toNat<x1.n) (b (x1.upd x2.toNat (shI .shl .u64 1 x2)) (wrap .i64 (x2+1))) none) (ite (a.Kind==1) (ite (decide (x2<(c.n:Int))) (ite ((0:Int)<=x2/\x2<(c.n:Int)) ((GH N (c.g x2.toNat) a.Is).bind λy3=>ite ((y3==a.Not) != true) (ite (((0:Int)<=(wrap .i64 (x2+1))/\((0:Int)<=x2/\x2<(x1.n:Int)))/\x2.toNat<x1.n) (b (x1.upd x2.toNat (shI .shl .u64 1 (wrap .i64 (x2+1)))) (wrap .i64 (x2+1))) none) (b x1 (wrap .i64 (x2+1)))) none) (b x1 (wrap .i64 (x2+1)))) (ite (a.Kind==2) (ite (x2==0) (ite (((0:Int)<=x2/\x2<(x1.n:Int))/\x2.toNat<x1.n) (b (x1.upd x2.toNat 1) (wrap .i64 (x2+1))) none) (b x1 (wrap .i64 (x2+1)))) (ite (a.Kind==6) (ite (x2==(c.n:Int)) (ite (((0:Int)<=x2/\((0:Int)<=x2/\x2<(x1.n:Int)))/\x2.toNat<x1.n) (b (x1.upd x2.toNat (shI .shl .u64 1 x2)) (wrap .i64 (x2+1))) none) (b x1 (wrap .i64 (x2+1)))) (b x1 (wrap .i64 (x2+1))))))) (ite (a.Kind==3) ((FR N (c.n:Int)).bind λy4=>V7 N (λi (x3:Sl Int) (x4:Int)=>ite (decide (x4<(a.L.n:Int))) (ite ((0:Int)<=x4/\x4<(a.L.n:Int)) ((rec (a.L.g x4.toNat) c).bind λy9=>(Bm N x3 y9).bind λo=>i o (wrap .i64 (x4+1))) none) (some x3)) y4 0) (ite (a.Kind==4) (V7 N (λj (x5:Sl Int) (x6:Int)=>ite (decide (x6<(a.L.n:Int))) (ite ((0:Int)<=x6/\x6<(a.L.n:Int)) ((rec (a.L.g x6.toNat) c).bind λq=>(FS N x5 q).bind λr=>j r (wrap .i64 (x6+1))) none) (some x5)) x1 0) (ite (a.Kind==5) (ite ((0:Int)<=0/\0<(a.L.n:Int)) ((rec (a.L.g 0) c).bind λm=>(FR N (c.n:Int)).bind λs=>Bf3 N (λd (x8:Sl Int) (x9:Sl Int) (f:Int)=>ite (decide (a.Min<=f)) ((FS N x8 x9).bind λl=>lt (λ(z3:Bool)=>ite z3 (some l) ((Bm N x9 m).bind λt=>d l t (wrap .i64 (f+1)))) λk3=>ite (f==a.Max) (k3 true) (ite (decide (a.Min<f)) ((GI N x8 l).bind λu=>k3 u) (k3 false))) ((Bm N x9 m).bind λv=>d x8 v (wrap .i64 (f+1)))) x1 s 0) none) (some x1))))) (Sl.rep (wrap .i64 ((c.n:Int)+1)).toNat 0:Sl Int) 0) none
def Es:Nat->Pat->(Sl Tr)->Option (Sl Int)
 |0=>λ_ _=>none
 |N+1=>DS (Es N) N
theorem Al5 {rec:Pat->(Sl Tr)->Option (Sl Int)}(f:∀{a:Pat}{b:Sl Tr}{y:Sl Int},rec a b=some y->Yo S II [.p (.agg (C5 a)),.p (vSl 2 A0 b)] [] (.vec 0) ([oV R5 1 (cI .u64) y true]) []){a:Pat}{b:Sl Tr}{y:Sl Int}(h:DS rec N a b=some y) :Yo S II [.p (.agg (C5 a)),.p (vSl 2 A0 b)] [] (.vec 0) ([oV R5 1 (cI .u64) y true]) []:=by
 unfold DS at h;refine A1 Z func276 ?_;refine C6 Z Ly 4 3000 (C5 a) ?_;obtain⟨c1,h⟩:=C0 h;refine F5 Z c1 h (λx1 x2=>kps [(7,pN x2)] [6,5,2,1] [(19000,oV R5 1 (cI .u64) x1 false)] []) (λq x1 x2 d h=>?_);apply kI Z h<;>intro h
 .apply kI Z h<;>intro h
  .obtain⟨c24,h⟩:=C0 h;exact d (Vb (Vb c24.1.1 c24.1.2) (Vb (rfl:(1:Nat)=1) (Vb c24.2 Pa))) h (hle:=klR [(4,.fn x1.n (x1.upd x2.toNat (shI .shl .u64 1 x2)).n (λl=>ite (l=x2.toNat) (splice ((λi=>cI .u64 (x1.g i)) l) 0 [pI .u64 (shI .shl .u64 1 x2)]) ((λi=>cI .u64 (x1.g i)) l)) (λi=>cI .u64 ((x1.upd x2.toNat (shI .shl .u64 1 x2)).g i)))] (al1 ⟨rfl,At1 (c:=cI .u64) (v:=x1) (x:=shI .shl .u64 1 x2) same (λ_=>by first|rfl|(dsimp only;split<;>rfl))⟩ al0))
  apply kI Z h<;>intro h
  .refine B5 Z Ly [6,7,9,10,12] ?_;refine dG Ly h (λh=>?_) (λh=>?_)
   .obtain⟨c27,h⟩:=C0 h;refine dP h (Vb (Vb c27 Pb) (by decide:(2:Nat)<=6)) (TN Z Y) (λy3 h=>?_);refine D1 Ly ?_;apply kI Z h<;>intro h
    .obtain⟨c29,h⟩:=C0 h;exact d (Vb (Vb c29.1.1 c29.1.2) (Vb (rfl:(1:Nat)=1) (Vb c29.2 Pa))) h (hle:=klR [(4,.fn x1.n (x1.upd x2.toNat (shI .shl .u64 1 (wrap .i64 (x2+1)))).n (λl=>ite (l=x2.toNat) (splice ((λi=>cI .u64 (x1.g i)) l) 0 [pI .u64 (shI .shl .u64 1 (wrap .i64 (x2+1)))]) ((λi=>cI .u64 (x1.g i)) l)) (λi=>cI .u64 ((x1.upd x2.toNat (shI .shl .u64 1 (wrap .i64 (x2+1)))).g i)))] (al1 ⟨rfl,At1 (c:=cI .u64) (v:=x1) (x:=shI .shl .u64 1 (wrap .i64 (x2+1))) same (λ_=>by first|rfl|(dsimp only;split<;>rfl))⟩ al0))
    exact d Ly h
   refine D1 Ly ?_;exact d Ly h
  apply kI Z h<;>intro h
  .apply kI Z h<;>intro h
   .obtain⟨c32,h⟩:=C0 h;exact d (Vb c32.1 (Vb (rfl:(1:Nat)=1) (Vb c32.2 Pa))) h (hle:=klR [(4,.fn x1.n (x1.upd x2.toNat 1).n (λl=>ite (l=x2.toNat) (splice ((λi=>cI .u64 (x1.g i)) l) 0 [pI .u64 1]) ((λi=>cI .u64 (x1.g i)) l)) (λi=>cI .u64 ((x1.upd x2.toNat 1).g i)))] (al1 ⟨rfl,At1 (c:=cI .u64) (v:=x1) (x:=1) same (λ_=>by first|rfl|(dsimp only;split<;>rfl))⟩ al0))
   exact d Ly h
  apply kI Z h<;>intro h
  .apply kI Z h<;>intro h
   .obtain⟨c35,h⟩:=C0 h;exact d (Vb (Vb c35.1.1 c35.1.2) (Vb (rfl:(1:Nat)=1) (Vb c35.2 Pa))) h (hle:=klR [(4,.fn x1.n (x1.upd x2.toNat (shI .shl .u64 1 x2)).n (λl=>ite (l=x2.toNat) (splice ((λi=>cI .u64 (x1.g i)) l) 0 [pI .u64 (shI .shl .u64 1 x2)]) ((λi=>cI .u64 (x1.g i)) l)) (λi=>cI .u64 ((x1.upd x2.toNat (shI .shl .u64 1 x2)).g i)))] (al1 ⟨rfl,At1 (c:=cI .u64) (v:=x1) (x:=shI .shl .u64 1 x2) same (λ_=>by first|rfl|(dsimp only;split<;>rfl))⟩ al0))
   exact d Ly h
  exact d Ly h
 apply kI Z h<;>intro h
 .refine kC Z h (WW Z Y) (λy4 h=>?_);refine F5 Z Ly h (λx3 x4 _=>⟨[(8,pN x4),(6,.vec 7500),(2,.p (.ptr (C5 a))),(1,.p (vSl 2 A0 b))],[(7500,oV R5 1 (cI .u64) x3 true)]⟩) (λr x3 x4 s h=>?_);refine I7 Z Ly 82 (kps [(81,.p (vSl 7 C5 a.L)),(1,.p (vSl 2 A0 b))] [79,8,6,2] [(7500,oV R5 1 (cI .u64) x3 true)] []) ?_ (hle:=klR [(0,.fn a.L.n a.L.n (CJ a) (λi=>C5 (a.L.g i)))] (al1 ⟨rfl,Q0 a⟩ al0));apply kI Z h<;>intro h
  .refine I7 Z Ly 90 (kps [(88,.p (vSl 7 C5 a.L)),(1,.p (vSl 2 A0 b))] [89,86,8,2] [(7500,oV R5 1 (cI .u64) x3 true)] []) ?_ (hle:=klR [(1,.fn a.L.n a.L.n (CJ a) (λi=>C5 (a.L.g i)))] (al1 ⟨rfl,Q0 a⟩ al0));obtain⟨c42,h⟩:=C0 h;obtain⟨y9,e9,h⟩:=E7 h;refine E2 Z [] (Vb c42 S5) (f e9) ?_;refine kC Z h (KH Z Y) (λz h=>?_);exact s Ly h
  obtain rfl:=A6 h;exact kO Z Ly [7500]
 apply kI Z h<;>intro h
 .refine F5 Z Ly h (λx5 x6 _=>⟨[(9,pN x6),(6,.vec 7500),(2,.p (.ptr (C5 a))),(1,.p (vSl 2 A0 b))],[(7500,oV R5 1 (cI .u64) x5 true)]⟩) (λt x5 x6 u h=>?_);refine I7 Z Ly 100 (kps [(99,.p (vSl 7 C5 a.L)),(1,.p (vSl 2 A0 b))] [97,9,6,2] [(7500,oV R5 1 (cI .u64) x5 true)] []) ?_ (hle:=klR [(0,.fn a.L.n a.L.n (CJ a) (λi=>C5 (a.L.g i)))] (al1 ⟨rfl,Q0 a⟩ al0));apply kI Z h<;>intro h
  .refine I7 Z Ly 108 (kps [(106,.p (vSl 7 C5 a.L)),(1,.p (vSl 2 A0 b))] [107,104,9,2] [(7500,oV R5 1 (cI .u64) x5 true)] []) ?_ (hle:=klR [(1,.fn a.L.n a.L.n (CJ a) (λi=>C5 (a.L.g i)))] (al1 ⟨rfl,Q0 a⟩ al0));obtain⟨c49,h⟩:=C0 h;obtain⟨a0,e15,h⟩:=E7 h;refine E2 Z [] (Vb c49 S5) (f e15) ?_;refine kC Z h (WX Z Y) (λa1 h=>?_);exact u Ly h
  obtain rfl:=A6 h;exact kO Z Ly [7500]
 apply kI Z h<;>intro h
 .refine I7 Z Ly 117 (kps [(116,.p (vSl 7 C5 a.L)),(1,.p (vSl 2 A0 b))] [6,5,2] [(19000,oV R5 1 (cI .u64) x1 false)] []) ?_ (hle:=klR [(0,.fn a.L.n a.L.n (CJ a) (λi=>C5 (a.L.g i)))] (al1 ⟨rfl,Q0 a⟩ al0));obtain⟨c51,h⟩:=C0 h;obtain⟨a2,e17,h⟩:=E7 h;refine E2 Z [] (Vb c51 S5) (f e17) ?_;refine kC Z h (WW Z Y) (λa3 h=>?_);refine Nx Z Ly h (λx8 x9 m=>kps [(12,pN m),(11,.vec 12500),(10,.vec 121000),(6,.vec 7500),(2,.p (.ptr (C5 a)))] [] [(12500,oV R5 1 (cI .u64) x9 true),(7500,oV R5 1 (cI .u64) x8 true)] [121000]) (λw x8 x9 m o h=>?_);apply kI Z h<;>intro h
  .refine kC Z h (WX Z Y) (λa4 h=>?_);refine GT Z Ly (A3 Z) h 0 (λz3=>kps [(147,pB z3)] [12,11,10,6,2] [] [133000,121000,12500]) (λk3 j h=>?_) (λz3 h=>?_)
   .refine kG Z h (λh=>?_) (λh=>?_)
    .exact j Ly h
    refine kG Z h (λh=>?_) (λh=>?_)
    .refine kC Z h (AA2 Z Y) (λa5 h=>?_);exact j Ly h
    exact j Ly h
   apply kI Z h<;>intro h
   .obtain rfl:=A6 h;exact kO Z Ly [133000]
   refine kC Z h (KH Z Y) (λa6 h=>?_);exact o Ly h
  refine kC Z h (KH Z Y) (λa7 h=>?_);exact o Ly h
 obtain rfl:=A6 h;exact kO Z Ly [19000]
theorem TO {a:Pat}{b:Sl Tr}{y:Sl Int}(h:Es N a b=some y) :Yo S II [.p (.agg (C5 a)),.p (vSl 2 A0 b)] [] (.vec 0) ([oV R5 1 (cI .u64) y true]) []:=by
 induction N generalizing a b y with
 |zero=>cases (show (none:Option (Sl Int))=some y from h)
 |succ N ih=>exact Al5 Z Y (λe=>ih e) h
def FT (N:Nat)(a:Pat)(b:Sl Tr):Option Int:= (CY N a).bind λy1=>ite (y1==0) ((Ad N b).bind λy2=>some y2) (some y1)
theorem WY {a:Pat}{b:Sl Tr}{y:Int}(h:FT N a b=some y) :Yo S WO [.p (.agg (C5 a)),.p (vSl 2 A0 b)] [] (pN y) ([]) []:=by
 unfold FT at h;refine A1 Z func275 ?_;refine kC Z h (MR Z Y) (λy1 h=>?_);apply kI Z h<;>intro h
 .refine kC Z h (GD Z Y) (λy2 h=>?_);cases h;exact kR Z
 cases h;exact kR Z
def HY (N:Nat)(d:Pat)(c:Sl Tr)(a:Int):Option ((Sl Int)×Int):= (FT N d c).bind λy1=>ite (y1 != 0) (some (Tj,y1)) (ite ((decide (a<0))||(decide ((c.n:Int)<a))) (some (Tj,3)) ((Es N d c).bind λy2=>V7 N (λb (x1:Sl Int) (x2:Int)=>ite (decide (x2<=(c.n:Int))) (ite ((((0:Int)<=a/\a<(y2.n:Int))/\a.toNat<y2.n)/\(0:Int)<=x2) (ite ((F3 .and .u64 (shI .shr .u64 (y2.g a.toNat) x2) 1)==1) (ite (Va 8 (x1.n+(Sl.of [x2]:Sl Int).n)) (b (x1.push x2) (wrap .i64 (x2+1))) none) (b x1 (wrap .i64 (x2+1)))) none) (some (x1,0))) Tj 0))
theorem AW1 {d:Pat}{c:Sl Tr}{b:Int}{y:(Sl Int)×Int}(h:HY N d c b=some y) :Yo S WM [.p (.agg (C5 d)),.p (vSl 2 A0 c),pN b] [] (.tup [.vec 0,pN y.2]) ([oV C9 1 (cI .i64) y.1 true]) []:=by
 unfold HY at h;refine A1 Z func266 ?_;refine kC Z h (WY Z Y) (λy1 h=>?_);apply kI Z h<;>intro h
 .obtain rfl:=A6 h;exact kO Z Ly [7700]
 refine kB Z (A3 Z) Ly Ly 5 (.o (.a (decide (b<0))) (.a (decide ((c.n:Int)<b)))) ?_;apply kI Z h<;>intro h
 .obtain rfl:=A6 h;exact kO Z Ly [7700]
 refine kC Z h (TO Z Y) (λy2 h=>?_);refine F5 Z Ly h (λx1 x2=>kps [(11,pN x2),(10,.vec 11500),(9,.vec 29000),(2,pN b),(1,.p (vSl 2 A0 c))] [] [(11500,oV C9 1 (cI .i64) x1 false)] [29000]) (λg x1 x2 f h=>?_);apply kI Z h<;>intro h
 .refine kJ Z h (λh=>?_) (λh=>?_)
  .obtain⟨c12,h⟩:=C0 h;exact f (Vb Sr c12) h (hle:=kl1 4 (P0 (cI .i64) x1 x2 [pI .i64 0]))
  exact f Ly h
 obtain rfl:=A6 h;exact kO Z Ly [11500]
def Fe (N:Nat)(d:Pat)(c:Sl Tr)(a:Int):Option ((Sl Int)×Int):= (FT N d c).bind λy1=>ite (y1 != 0) (some (Tj,y1)) (ite ((decide (a<0))||(decide ((c.n:Int)<a))) (some (Tj,3)) ((Es N d c).bind λy2=>V7 N (λb (x1:Sl Int) (x2:Int)=>ite (decide (x2<=(c.n:Int))) (ite ((((0:Int)<=x2/\x2<(y2.n:Int))/\x2.toNat<y2.n)/\(0:Int)<=a) (ite ((F3 .and .u64 (shI .shr .u64 (y2.g x2.toNat) a) 1)==1) (ite (Va 8 (x1.n+(Sl.of [x2]:Sl Int).n)) (b (x1.push x2) (wrap .i64 (x2+1))) none) (b x1 (wrap .i64 (x2+1)))) none) (some (x1,0))) Tj 0))
theorem Al6 {d:Pat}{c:Sl Tr}{b:Int}{y:(Sl Int)×Int}(h:Fe N d c b=some y) :Yo S Qo [.p (.agg (C5 d)),.p (vSl 2 A0 c),pN b] [] (.tup [.vec 0,pN y.2]) ([oV C9 1 (cI .i64) y.1 true]) []:=by
 unfold Fe at h;refine A1 Z func265 ?_;refine kC Z h (WY Z Y) (λy1 h=>?_);apply kI Z h<;>intro h
 .obtain rfl:=A6 h;exact kO Z Ly [7700]
 refine kB Z (A3 Z) Ly Ly 5 (.o (.a (decide (b<0))) (.a (decide ((c.n:Int)<b)))) ?_;apply kI Z h<;>intro h
 .obtain rfl:=A6 h;exact kO Z Ly [7700]
 refine kC Z h (TO Z Y) (λy2 h=>?_);refine F5 Z Ly h (λx1 x2=>kps [(11,pN x2),(10,.vec 11500),(9,.vec 29000),(2,pN b),(1,.p (vSl 2 A0 c))] [] [(11500,oV C9 1 (cI .i64) x1 false)] [29000]) (λg x1 x2 f h=>?_);apply kI Z h<;>intro h
 .refine kJ Z h (λh=>?_) (λh=>?_)
  .obtain⟨c12,h⟩:=C0 h;exact f (Vb Sr c12) h (hle:=kl1 4 (P0 (cI .i64) x1 x2 [pI .i64 0]))
  exact f Ly h
 obtain rfl:=A6 h;exact kO Z Ly [11500]
def IT (N:Nat)(a:Law)(b:Sl Tr):Option Int:= (Ae N a).bind λy1=>ite (y1 != 0) (some y1) ((Ad N b).bind λy2=>some y2)
theorem AA3 {a:Law}{b:Sl Tr}{y:Int}(h:IT N a b=some y) :Yo S Tg [.p (.agg (B7 a)),.p (vSl 2 A0 b)] [] (pN y) ([]) []:=by
 unfold IT at h;refine A1 Z func246 ?_;refine kC Z h (MS Z Y) (λy1 h=>?_);refine Af6 Z h fun h=>?_;refine kC Z h (GD Z Y) (λy2 h=>?_);cases h;exact kR Z
def GJ (N:Nat)(a:Law)(c:Sl Tr)(b:Int):Option Bool:= ite ((decide (b<0))||(decide ((c.n:Int)<(wrap .i64 (b+(a.If.n:Int)))))) (some false) (N3 N (λd (x1:Int)=>ite (decide (x1<(a.If.n:Int))) (ite (((0:Int)<=(wrap .i64 (b+x1))/\(wrap .i64 (b+x1))<(c.n:Int))/\((0:Int)<=x1/\x1<(a.If.n:Int))) ((V6 N (c.g (wrap .i64 (b+x1)).toNat) (a.If.g x1.toNat)).bind λy3=>ite (!y3) (some false) (d (wrap .i64 (x1+1)))) none) ((Fe N a.Left c b).bind λy4=>(HY N a.Right c (wrap .i64 (b+(a.If.n:Int)))).bind λy5=>some ((decide (0<(y4.1.n:Int)))&&(decide (0<(y5.1.n:Int)))))) 0)
theorem TP {b:Law}{d:Sl Tr}{c:Int}{y:Bool}(h:GJ N b d c=some y) :Yo S Ai2 [.p (.agg (B7 b)),.p (vSl 2 A0 d),pN c] [] (pB y) ([]) []:=by
 unfold GJ at h;refine A1 Z func255 ?_;refine C6 Z Ly 6 4000 (B7 b) ?_;refine kB Z (A3 Z) Ly Ly 7 (.o (.a (decide (c<0))) (.a (decide ((d.n:Int)<(wrap .i64 (c+(b.If.n:Int))))))) ?_;refine Af6 Z h fun h=>?_;refine D6 Z Ly h (λx1=>kps [(8,pN x1)] [7,3,2,1] [] []) (λf x1 g h=>?_);apply kI Z h<;>intro h
 .refine B5 Z Ly [4,5,7,9,10,11] ?_;obtain⟨c9,h⟩:=C0 h;refine dP h (Vb (Vb (Vb c9.1 Pb) c9.2) Pb) (TL Z Y) (λy3 h=>?_);refine D1 Ly ?_;refine Af6 Z h fun h=>?_;exact g Ly h
 refine kD Z h (by decide:(7:Nat)<=17) (Al6 Z Y) (λy4 h=>?_);refine kD Z h (by decide:(7:Nat)<=10) (AW1 Z Y) (λy5 h=>?_);refine kB Z (A3 Z) Ly Ly 4 (.n (.a (decide (0<(y4.1.n:Int)))) (.a (decide (0<(y5.1.n:Int))))) ?_;cases h;exact kR Z
def Ff (N:Nat)(a:Law)(b:Sl Tr):Option (Sl Tr):= V7 N (λc (x1:Sl Tr) (x2:Int)=>ite (decide (x2<(a.Out.n:Int))) (ite ((0:Int)<=x2/\x2<(a.Out.n:Int)) (ite ((decide (0<=(a.Out.g x2.toNat).From))=true->((0:Int)<=(a.Out.g x2.toNat).From/\(a.Out.g x2.toNat).From<(b.n:Int))) ((W8 N (⟨(ite (decide (0<=(a.Out.g x2.toNat).From)) ((b.g (a.Out.g x2.toNat).From.toNat).Plus) 0),(ite (decide (0<=(a.Out.g x2.toNat).From)) ((b.g (a.Out.g x2.toNat).From.toNat).Minus) 0)⟩:Tr) (a.Out.g x2.toNat).Clear (a.Out.g x2.toNat).Set).bind λy5=>ite ((a.Out.g x2.toNat).Take != 0) (ite ((0:Int)<=(a.Out.g x2.toNat).Of/\(a.Out.g x2.toNat).Of<(b.n:Int)) ((BJ N y5.1 (b.g (a.Out.g x2.toNat).Of.toNat) (a.Out.g x2.toNat).Take).bind λy6=>ite (Va 8 (x1.n+(Sl.of [y6.1]:Sl Tr).n)) (c (x1.push y6.1) (wrap .i64 (x2+1))) none) none) (ite (Va 8 (x1.n+(Sl.of [y5.1]:Sl Tr).n)) (c (x1.push y5.1) (wrap .i64 (x2+1))) none)) none) none) (some x1)) Tn 0
theorem Al7 {c:Law}{a:Sl Tr}{y:Sl Tr}(h:Ff N c a=some y) :Yo S Ai3 [.p (.agg (B7 c)),.p (vSl 2 A0 a)] [] (.vec 0) ([oV A9 2 A0 y true]) []:=by
 unfold Ff at h;refine A1 Z func256 ?_;refine C6 Z Ly 4 3000 (B7 c) ?_;refine F5 Z Ly h (λx1 x2 _=>⟨[(6,pN x2),(5,.vec 6500),(2,.p (.ptr (B7 c))),(1,.p (vSl 2 A0 a))],[(6500,oV A9 2 A0 x1 false)]⟩) (λl x1 x2 i h=>?_);apply kI Z h<;>intro h
 .obtain⟨c16,h⟩:=C0 h;refine C6 Z (Vb c16 (by decide:(6:Nat)<=6)) 21 8000 (Dj (c.Out.g x2.toNat)) ?_;obtain⟨c18,h⟩:=C0 h;obtain⟨t5,d⟩:∃x:Int,x=(ite (decide (0<=(c.Out.g x2.toNat).From)) ((a.g (c.Out.g x2.toNat).From.toNat).Plus) 0):=⟨_,rfl⟩;obtain⟨t6,f⟩:∃x:Int,x=(ite (decide (0<=(c.Out.g x2.toNat).From)) ((a.g (c.Out.g x2.toNat).From.toNat).Minus) 0):=⟨_,rfl⟩;refine Ad7 Z Ly (A3 Z) 0 (kps [] [8,7,6,5,2,1] [(9000,.cells [pU t5,pU t6]),(6500,oV A9 2 A0 x1 false)] []) (λj=>?_) ?_
  .refine O3 Z Ly (b:=decide (0<=(c.Out.g x2.toNat).From)) (λc19=>?_) (λc19=>?_)
   .exact j (Vb (c18 c19) Pb) (hle:=klR [(4,.eq (pI .u32 (a.g (c.Out.g x2.toNat).From.toNat).Plus) (pI .u32 t5)),(5,.eq (pI .u32 (a.g (c.Out.g x2.toNat).From.toNat).Minus) (pI .u32 t6))] (al1 (by simp only[d,f,c19,Ys.ok,pm,Kk,Lw]) (al1 (by simp only[d,f,c19,Ys.ok,pm,Kk,Lw]) al0)))
   exact j Ly (hle:=klR [(4,.eq (pI .u32 0) (pI .u32 t5)),(5,.eq (pI .u32 0) (pI .u32 t6))] (al1 (by simp only[d,f,c19,Ys.ok,pm,Kk,Lw]) (al1 (by simp only[d,f,c19,Ys.ok,pm,Kk,Lw]) al0)))
  subst f;subst d;refine kD Z h (by decide:(2:Nat)<=4) (Al4 Z Y) (λy5 h=>?_);apply kI Z h<;>intro h
  .refine B5 Z Ly [3,4,5,7,8] ?_;obtain⟨c21,h⟩:=C0 h;refine dP h (Vb c21 Pb) (AV9 Z Y) (λy6 h=>?_);refine D1 Ly ?_;obtain⟨c22,h⟩:=C0 h;exact i (Vb Sr c22) h (hle:=kl1 3 (P0 A0 x1 y6.1 Ag7))
  obtain⟨c23,h⟩:=C0 h;exact i (Vb Sr c23) h (hle:=kl1 3 (P0 A0 x1 y5.1 Ag7))
 obtain rfl:=A6 h;exact kO Z Ly [6500]
def BK (N:Nat)(c:Law)(b:Sl Tr)(a:Int):Option (Sl Tr):= ite (((0:Int)<=a/\a<=(b.n:Int))/\(Va 8 (Tp.n+(b.take a.toNat).n))) (ite ((0:Int)<=a/\a<=(wrap .i64 (a+(c.If.n:Int)))/\(wrap .i64 (a+(c.If.n:Int)))<=(b.n:Int)) ((Ff N c (b.sub a.toNat (wrap .i64 (a+(c.If.n:Int))).toNat)).bind λy1=>ite (Va 8 ((Tp.app (b.take a.toNat)).n+y1.n)) (ite (((0:Int)<=(wrap .i64 (a+(c.If.n:Int)))/\(wrap .i64 (a+(c.If.n:Int)))<=(b.n:Int))/\(Va 8 (((Tp.app (b.take a.toNat)).app y1).n+(b.drop (wrap .i64 (a+(c.If.n:Int))).toNat).n))) (some (((Tp.app (b.take a.toNat)).app y1).app (b.drop (wrap .i64 (a+(c.If.n:Int))).toNat))) none) none) none) none
theorem Ov {d:Law}{a:Sl Tr}{b:Int}{y:Sl Tr}(h:BK N d a b=some y) :Yo S NZ [.p (.agg (B7 d)),.p (vSl 2 A0 a),pN b] [] (.vec 0) ([oV A9 2 A0 y true]) []:=by unfold BK at h;refine A1 Z func257 ?_;refine C6 Z Ly 6 4000 (B7 d) ?_;obtain⟨c1,h⟩:=C0 h;refine B5 Z (Vb (Vb Sr c1.1) c1.2) [1] ?_;obtain⟨c2,h⟩:=C0 h;obtain⟨y1,e1,h⟩:=E7 h;refine Ha [] (Vb Sq c2) (Al7 Z Y e1) ?_;refine dE h (λh=>?_);obtain⟨c4,h⟩:=C0 h;obtain rfl:=A6 h;exact kO Z c4 [34000] (hle:=klR [(0,.fn (((0+(a.take b.toNat).n)+y1.n)+(a.drop (wrap .i64 (b+(d.If.n:Int))).toNat).n) (((Tp.app (a.take b.toNat)).app y1).app (a.drop (wrap .i64 (b+(d.If.n:Int))).toNat)).n (Du ((0+(a.take b.toNat).n)+y1.n) (Du (0+(a.take b.toNat).n) (Du 0 (G7 Ag7 []) (λi=>A0 ((a.take b.toNat).g i))) (λi=>A0 (y1.g i))) (λi=>A0 ((a.drop (wrap .i64 (b+(d.If.n:Int))).toNat).g i))) (λi=>A0 ((((Tp.app (a.take b.toNat)).app y1).app (a.drop (wrap .i64 (b+(d.If.n:Int))).toNat)).g i)))] (al1 ⟨rfl,Ad3 (c:=A0) (v:=(Tp.app (a.take b.toNat)).app y1) (w:=a.drop (wrap .i64 (b+(d.If.n:Int))).toNat) (Ad3 (c:=A0) (v:=Tp.app (a.take b.toNat)) (w:=y1) (Ad3 (c:=A0) (v:=Tp) (w:=a.take b.toNat) (λi f=>Kf f (by omega)) rfl same rfl) rfl same rfl) rfl same rfl⟩ al0))
abbrev BI5:=(Sl Int)×(Sl (Sl Tr))×Int
def BQ7 (N:Nat)(a:Law)(b:Sl Tr)(c:Sl Int->Sl (Sl Tr)->Sl Tr->Int->Option BI5)(x2:Sl Int)(x3:Sl (Sl Tr))(x4:Sl Tr)(x5:Int):Option BI5:= ite (decide (x5<=(b.n:Int))) ((GJ N a b x5).bind λy5=>ite (!y5) (lt (λ(z3:Sl Tr)=>c x2 x3 z3 (wrap .i64 (x5+1))) λk3=>ite (decide (x5<(b.n:Int))) (ite (((0:Int)<=x5/\x5<(b.n:Int))/\(Va 8 (x4.n+(Sl.of [b.g x5.toNat]:Sl Tr).n))) (k3 (x4.push (b.g x5.toNat))) none) (k3 x4)) (ite ((0:Int)<=x5/\x5<=(wrap .i64 (x5+(a.If.n:Int)))/\(wrap .i64 (x5+(a.If.n:Int)))<=(b.n:Int)) ((Ff N a (b.sub x5.toNat (wrap .i64 (x5+(a.If.n:Int))).toNat)).bind λy6=>ite (Va 8 (x4.n+y6.n)) (ite (Va 8 (x2.n+(Sl.of [x5]:Sl Int).n)) (ite (((Va 8 (Tp.n+(x4.app y6).n))/\((0:Int)<=(wrap .i64 (x5+(a.If.n:Int)))/\(wrap .i64 (x5+(a.If.n:Int)))<=(b.n:Int)))/\(Va 8 ((Tp.app (x4.app y6)).n+(b.drop (wrap .i64 (x5+(a.If.n:Int))).toNat).n))) (ite (decide (32<(((Tp.app (x4.app y6)).app (b.drop (wrap .i64 (x5+(a.If.n:Int))).toNat)).n:Int))) (some (Tj,Tq,11)) (ite (Va 24 (x3.n+(Sl.of [(Tp.app (x4.app y6)).app (b.drop (wrap .i64 (x5+(a.If.n:Int))).toNat)]:Sl (Sl Tr)).n)) (ite ((a.If.n:Int)==0) (ite (decide ((wrap .i64 (x5+(a.If.n:Int)))<(b.n:Int))) (ite (((0:Int)<=(wrap .i64 (x5+(a.If.n:Int)))/\(wrap .i64 (x5+(a.If.n:Int)))<(b.n:Int))/\(Va 8 ((x4.app y6).n+(Sl.of [b.g (wrap .i64 (x5+(a.If.n:Int))).toNat]:Sl Tr).n))) (c (x2.push x5) (x3.push ((Tp.app (x4.app y6)).app (b.drop (wrap .i64 (x5+(a.If.n:Int))).toNat))) ((x4.app y6).push (b.g (wrap .i64 (x5+(a.If.n:Int))).toNat)) (wrap .i64 ((wrap .i64 (x5+(a.If.n:Int)))+1))) none) (c (x2.push x5) (x3.push ((Tp.app (x4.app y6)).app (b.drop (wrap .i64 (x5+(a.If.n:Int))).toNat))) (x4.app y6) (wrap .i64 ((wrap .i64 (x5+(a.If.n:Int)))+1)))) (c (x2.push x5) (x3.push ((Tp.app (x4.app y6)).app (b.drop (wrap .i64 (x5+(a.If.n:Int))).toNat))) (x4.app y6) (wrap .i64 (x5+(a.If.n:Int))))) none)) none) none) none) none)) (some (x2,x3,0))
def KI (N:Nat)(a:Law)(b:Sl Tr):Option ((Sl Int)×(Sl (Sl Tr))×Int):= Ba4 N (BQ7 N a b) Tj Tq Tn 0
theorem Bj7 {a:Law}{b:Sl Tr}{y:(Sl Int)×(Sl (Sl Tr))×Int}(h:KI N a b=some y) :Yo S Ai0 [.p (.agg (B7 a)),.p (vSl 2 A0 b)] [] (.tup [.vec 0,.vec 1,pN y.2.2]) ([oV C9 1 (cI .i64) y.1 true,oV E9 1 (cL 2 A0) y.2.1 true]) []:=by
 unfold KI at h;refine A1 Z func247 ?_;refine C6 Z Ly 4 3000 (B7 a) ?_;refine AI6 Z Ly h (λx2 x3 x4 x5 _=>⟨[(10,pN x5),(9,.vec 10501),(8,.vec 9500),(7,.vec 8500),(2,.p (.ptr (B7 a))),(1,.p (vSl 2 A0 b))],[(10501,oV A9 2 A0 x4 false),(9500,oV E9 1 (cL 2 A0) x3 false),(8500,oV C9 1 (cI .i64) x2 false)]⟩) (λj x2 x3 x4 x5 d h=>?_);apply kI Z h<;>intro h
 .refine kD Z h Sq (TP Z Y) (λy5 h=>?_);apply kI Z h<;>intro h
  .refine GT Z Ly (A3 Z) h 0 (λz3=>kps [(10,pN x5),(9,.vec 10500),(8,.vec 9500),(7,.vec 8500),(2,.p (.ptr (B7 a))),(1,.p (vSl 2 A0 b))] [] [(10500,oV A9 2 A0 z3 false)] [9500,8500]) (λk3 f h=>?_) (λz3 h=>?_)
   .apply kI Z h<;>intro h
    .obtain⟨c40,h⟩:=C0 h;exact f (Vb (Vb (Vb c40.1 Pb) Sr) c40.2) h (hle:=kl1 3 (P0 A0 x4 (b.g x5.toNat) Ag7))
    exact f Ly h
   exact d Ly h
  refine B5 Z Ly [1] ?_;obtain⟨c41,h⟩:=C0 h;obtain⟨y6,e6,h⟩:=E7 h;refine Ha [] (Vb Sq c41) (Al7 Z Y e6) ?_;refine dE h (λh=>?_);obtain⟨c43,h⟩:=C0 h;refine B5 Z (Vb Sr c43) [1000] ?_;obtain⟨c44,h⟩:=C0 h;refine D1 (Vb (Vb (Vb Sr c44.1.1) c44.1.2) c44.2) ?_;apply kI Z h<;>intro h
  .obtain rfl:=A6 h;exact kO Z Ly [5700,6701]
  refine I7 Z Ly 66 (kps [] [65,64,11,10,9,7,2,1] [(61000,.vec A9 2 ((Tp.app (x4.app y6)).app (b.drop (wrap .i64 (x5+(a.If.n:Int))).toNat)).n (λi=>A0 (((Tp.app (x4.app y6)).app (b.drop (wrap .i64 (x5+(a.If.n:Int))).toNat)).g i)) true),(52000,oV C9 1 (cI .i64) (x2.push x5) false),(48000,oV A9 2 A0 (x4.app y6) false),(9500,oV E9 1 (cL 2 A0) x3 false)] []) ?_ (hle:=klR [(4,.fn ((0+(x4.n+y6.n))+(b.drop (wrap .i64 (x5+(a.If.n:Int))).toNat).n) ((Tp.app (x4.app y6)).app (b.drop (wrap .i64 (x5+(a.If.n:Int))).toNat)).n (Du (0+(x4.n+y6.n)) (Du 0 (G7 Ag7 []) (Du x4.n (λi=>A0 (x4.g i)) (λi=>A0 (y6.g i)))) (λi=>A0 ((b.drop (wrap .i64 (x5+(a.If.n:Int))).toNat).g i))) (λi=>A0 (((Tp.app (x4.app y6)).app (b.drop (wrap .i64 (x5+(a.If.n:Int))).toNat)).g i))),(5,.fn (x2.n+1) (x2.push x5).n (Du x2.n (λi=>cI .i64 (x2.g i)) (G7 [pI .i64 0] [(0,cI .i64 x5)])) (λi=>cI .i64 ((x2.push x5).g i))),(6,.fn (x4.n+y6.n) (x4.app y6).n (Du x4.n (λi=>A0 (x4.g i)) (λi=>A0 (y6.g i))) (λi=>A0 ((x4.app y6).g i)))] (al1 ⟨rfl,Ad3 (c:=A0) (v:=Tp.app (x4.app y6)) (w:=b.drop (wrap .i64 (x5+(a.If.n:Int))).toNat) (Ad3 (c:=A0) (v:=Tp) (w:=x4.app y6) (λi l=>Kf l (by omega)) rfl (Ad3 (c:=A0) (v:=x4) (w:=y6) same rfl same rfl) rfl) rfl same rfl⟩ (al1 ⟨rfl,app1 (c:=cI .i64) (v:=x2) (x:=x5) (z:=[(pI .i64 0)]) same rfl rfl⟩ (al1 ⟨rfl,Ad3 (c:=A0) (v:=x4) (w:=y6) same rfl same rfl⟩ al0))));obtain⟨c46,h⟩:=C0 h;refine kX Z (Vb Sr c46) h (λh=>?_) (λh=>?_)
  .apply kI Z h<;>intro h
   .obtain⟨c49,h⟩:=C0 h;exact d (Vb (Vb (Vb c49.1 Pb) Sr) c49.2) h (hle:=kl2 3 4 (P0 A0 (x4.app y6) (b.g (wrap .i64 (x5+(a.If.n:Int))).toNat) Ag7) (P0 (cL 2 A0) x3 ((Tp.app (x4.app y6)).app (b.drop (wrap .i64 (x5+(a.If.n:Int))).toNat)) [I4]))
   exact d Ly h (hle:=kl1 4 (P0 (cL 2 A0) x3 ((Tp.app (x4.app y6)).app (b.drop (wrap .i64 (x5+(a.If.n:Int))).toNat)) [I4]))
  exact d Ly h (hle:=kl1 4 (P0 (cL 2 A0) x3 ((Tp.app (x4.app y6)).app (b.drop (wrap .i64 (x5+(a.If.n:Int))).toNat)) [I4]))
 obtain rfl:=A6 h;exact kO Z Ly [8500,9500]
def WZ (N:Nat)(l:Law)(a:Sl Tr->Sl Int->Sl (Sl Tr)->Int->Option BI5)(x1:Sl Tr)(x2:Sl Int)(x3:Sl (Sl Tr))(x4:Int):Option BI5:= ite (decide ((wrap .i64 (x4+(l.If.n:Int)))<=(x1.n:Int))) ((GJ N l x1 x4).bind λy5=>ite (!y5) (a x1 x2 x3 (wrap .i64 (x4+1))) ((BK N l x1 x4).bind λy6=>ite (decide (32<(y6.n:Int))) (some (Tj,Tq,11)) (ite ((Va 8 (x2.n+(Sl.of [x4]:Sl Int).n))/\(Va 24 (x3.n+(Sl.of [y6]:Sl (Sl Tr)).n))) (ite ((l.If.n:Int)==0) (a y6 (x2.push x4) (x3.push y6) (wrap .i64 ((wrap .i64 (x4+(l.Out.n:Int)))+1))) (a y6 (x2.push x4) (x3.push y6) (wrap .i64 (x4+(l.Out.n:Int))))) none))) (some (x2,x3,0))
def GK (N:Nat)(a:Law)(b:Sl Tr):Option ((Sl Int)×(Sl (Sl Tr))×Int):= Ba4 N (WZ N a) b Tj Tq 0
theorem AA4 {a:Law}{d:Sl Tr}{y:(Sl Int)×(Sl (Sl Tr))×Int}(h:GK N a d=some y) :Yo S Th [.p (.agg (B7 a)),.p (vSl 2 A0 d)] [] (.tup [.vec 0,.vec 1,pN y.2.2]) ([oV C9 1 (cI .i64) y.1 true,oV E9 1 (cL 2 A0) y.2.1 true]) []:=by
 unfold GK at h;refine A1 Z func248 ?_;refine AI6 Z Ly h (λx1 x2 x3 x4=>kps [(10,pN x4),(9,pN (a.If.n:Int)),(8,.vec 9500),(7,.vec 8500),(2,.reg 3000 0),(1,.p (vSl 2 A0 x1))] [] [(9500,oV E9 1 (cL 2 A0) x3 false),(8500,oV C9 1 (cI .i64) x2 false)] [3000]) (λf x1 x2 x3 x4 c h=>?_);apply kI Z h<;>intro h
 .refine kC Z h (TP Z Y) (λy5 h=>?_);apply kI Z h<;>intro h
  .exact c Ly h
  refine kC Z h (Ov Z Y) (λy6 h=>?_);apply kI Z h<;>intro h
  .obtain rfl:=A6 h;exact kO Z Ly [5700,6701]
  obtain⟨c14,h⟩:=C0 h;refine O3 Z (Vb (Vb (Vb Sr c14.1) Sr) c14.2) (b:=(a.If.n:Int)==0) (λc15=>?_) (λc15=>?_)
  .replace h:=itT c15 h;exact c Ly h (hle:=kl2 3 4 (P0 (cL 2 A0) x3 y6 [I4]) (P0 (cI .i64) x2 x4 [pI .i64 0]))
  replace h:=itF c15 h;exact c Ly h (hle:=kl2 3 4 (P0 (cL 2 A0) x3 y6 [I4]) (P0 (cI .i64) x2 x4 [pI .i64 0]))
 obtain rfl:=A6 h;exact kO Z Ly [8500,9500]
def Bj8 (N:Nat)(l:Law)(a:Sl Tr->Sl Int->Sl (Sl Tr)->Int->Option BI5)(x1:Sl Tr)(x2:Sl Int)(x3:Sl (Sl Tr))(x4:Int):Option BI5:= ite (decide (0<=x4)) ((GJ N l x1 x4).bind λy5=>ite (!y5) (a x1 x2 x3 (wrap .i64 (x4-1))) ((BK N l x1 x4).bind λy6=>ite (decide (32<(y6.n:Int))) (some (Tj,Tq,11)) (ite ((Va 8 (x2.n+(Sl.of [x4]:Sl Int).n))/\(Va 24 (x3.n+(Sl.of [y6]:Sl (Sl Tr)).n))) (ite ((l.If.n:Int)==0) (a y6 (x2.push x4) (x3.push y6) (wrap .i64 ((wrap .i64 (x4-(l.If.n:Int)))-1))) (a y6 (x2.push x4) (x3.push y6) (wrap .i64 (x4-(l.If.n:Int))))) none))) (some (x2,x3,0))
def FU (N:Nat)(a:Law)(b:Sl Tr):Option ((Sl Int)×(Sl (Sl Tr))×Int):= Ba4 N (Bj8 N a) b Tj Tq (wrap .i64 ((b.n:Int)-(a.If.n:Int)))
theorem AW2 {a:Law}{d:Sl Tr}{y:(Sl Int)×(Sl (Sl Tr))×Int}(h:FU N a d=some y) :Yo S WK [.p (.agg (B7 a)),.p (vSl 2 A0 d)] [] (.tup [.vec 0,.vec 1,pN y.2.2]) ([oV C9 1 (cI .i64) y.1 true,oV E9 1 (cL 2 A0) y.2.1 true]) []:=by
 unfold FU at h;refine A1 Z func249 ?_;refine AI6 Z Ly h (λx1 x2 x3 x4=>kps [(10,pN x4),(9,pN (a.If.n:Int)),(8,.vec 9500),(7,.vec 8500),(2,.reg 3000 0),(1,.p (vSl 2 A0 x1))] [] [(9500,oV E9 1 (cL 2 A0) x3 false),(8500,oV C9 1 (cI .i64) x2 false)] [3000]) (λf x1 x2 x3 x4 c h=>?_);apply kI Z h<;>intro h
 .refine kC Z h (TP Z Y) (λy5 h=>?_);apply kI Z h<;>intro h
  .exact c Ly h
  refine kC Z h (Ov Z Y) (λy6 h=>?_);apply kI Z h<;>intro h
  .obtain rfl:=A6 h;exact kO Z Ly [5700,6701]
  obtain⟨c14,h⟩:=C0 h;refine O3 Z (Vb (Vb (Vb Sr c14.1) Sr) c14.2) (b:=(a.If.n:Int)==0) (λc15=>?_) (λc15=>?_)
  .replace h:=itT c15 h;exact c Ly h (hle:=kl2 3 4 (P0 (cL 2 A0) x3 y6 [I4]) (P0 (cI .i64) x2 x4 [pI .i64 0]))
  replace h:=itF c15 h;exact c Ly h (hle:=kl2 3 4 (P0 (cL 2 A0) x3 y6 [I4]) (P0 (cI .i64) x2 x4 [pI .i64 0]))
 obtain rfl:=A6 h;exact kO Z Ly [8500,9500]
def GL (N:Nat)(a:Law)(b:Sl Tr):Option ((Sl Int)×(Sl (Sl Tr))×Int):= (IT N a b).bind λy1=>ite (y1 != 0) (some (Tj,Tq,y1)) (ite (a.Mode==1) ((KI N a b).bind λy2=>some (y2.1,y2.2.1,y2.2.2)) (ite (a.Mode==2) ((GK N a b).bind λy3=>some (y3.1,y3.2.1,y3.2.2)) ((FU N a b).bind λy4=>some (y4.1,y4.2.1,y4.2.2))))
theorem AA5 {a:Law}{b:Sl Tr}{y:(Sl Int)×(Sl (Sl Tr))×Int}(h:GL N a b=some y) :Yo S Te [.p (.agg (B7 a)),.p (vSl 2 A0 b)] [] (.tup [.vec 0,.vec 1,pN y.2.2]) ([oV C9 1 (cI .i64) y.1 true,oV E9 1 (cL 2 A0) y.2.1 true]) []:=by
 unfold GL at h;refine A1 Z func237 ?_;refine kC Z h (AA3 Z Y) (λy1 h=>?_);apply kI Z h<;>intro h
 .obtain rfl:=A6 h;exact kO Z Ly [5700,6701]
 apply kI Z h<;>intro h
 .refine kC Z h (Bj7 Z Y) (λy2 h=>?_);obtain rfl:=A6 h;exact kO Z Ly [21000,21001]
 apply kI Z h<;>intro h
 .refine kC Z h (AA4 Z Y) (λy3 h=>?_);obtain rfl:=A6 h;exact kO Z Ly [29000,29001]
 refine kC Z h (AW2 Z Y) (λy4 h=>?_);obtain rfl:=A6 h;exact kO Z Ly [35000,35001]
def GM (N:Nat)(b:Law)(a:Sl Tr):Option ((Sl Tr)×Int):= (GL N b a).bind λy1=>ite (y1.2.2 != 0) (some (Tn,y1.2.2)) (ite ((y1.2.1.n:Int)==0) (ite (Va 8 (Tp.n+a.n)) (some (Tp.app a,0)) none) (ite ((((0:Int)<=(wrap .i64 ((y1.2.1.n:Int)-1))/\(wrap .i64 ((y1.2.1.n:Int)-1))<(y1.2.1.n:Int))/\(wrap .i64 ((y1.2.1.n:Int)-1)).toNat<y1.2.1.n)/\(Va 8 (Tp.n+(y1.2.1.g (wrap .i64 ((y1.2.1.n:Int)-1)).toNat).n))) (some (Tp.app (y1.2.1.g (wrap .i64 ((y1.2.1.n:Int)-1)).toNat),0)) none))
theorem AA6 {b:Law}{a:Sl Tr}{y:(Sl Tr)×Int}(h:GM N b a=some y) :Yo S Tc [.p (.agg (B7 b)),.p (vSl 2 A0 a)] [] (.tup [.vec 0,pN y.2]) ([oV A9 2 A0 y.1 true]) []:=by
 unfold GM at h;refine A1 Z func218 ?_;refine kC Z h (AA5 Z Y) (λy1 h=>?_);apply kI Z h<;>intro h
 .obtain rfl:=A6 h;exact kO Z Ly [5700]
 apply kI Z h<;>intro h
 .obtain⟨c3,h⟩:=C0 h;obtain rfl:=A6 h;exact kO Z (Vb Sr c3) [25000] (hle:=klR [(1,.fn (0+a.n) (Tp.app a).n (Du 0 (G7 Ag7 []) (λi=>A0 (a.g i))) (λi=>A0 ((Tp.app a).g i)))] (al1 ⟨rfl,Ad3 (c:=A0) (v:=Tp) (w:=a) (λi d=>Kf d (by omega)) rfl same rfl⟩ al0))
 obtain⟨c4,h⟩:=C0 h;obtain rfl:=A6 h;exact kO Z (Vb (Vb (Vb Sr c4.1.1) c4.1.2) c4.2) [33000] (hle:=klR [(1,.fn (0+(y1.2.1.g (wrap .i64 ((y1.2.1.n:Int)-1)).toNat).n) (Tp.app (y1.2.1.g (wrap .i64 ((y1.2.1.n:Int)-1)).toNat)).n (Du 0 (G7 Ag7 []) (λi=>A0 ((y1.2.1.g (wrap .i64 ((y1.2.1.n:Int)-1)).toNat).g i))) (λi=>A0 ((Tp.app (y1.2.1.g (wrap .i64 ((y1.2.1.n:Int)-1)).toNat)).g i)))] (al1 ⟨rfl,Ad3 (c:=A0) (v:=Tp) (w:=y1.2.1.g (wrap .i64 ((y1.2.1.n:Int)-1)).toNat) (λi d=>Kf d (by omega)) rfl same rfl⟩ al0))
def Et (N:Nat)(a:Sl Law):Option Int:= ite (decide (64<(a.n:Int))) (some 12) (N3 N (λb (x1:Int)=>ite (decide (x1<(a.n:Int))) (ite ((0:Int)<=x1/\x1<(a.n:Int)) ((Ae N (a.g x1.toNat)).bind λy3=>ite (y3 != 0) (some 17) (b (wrap .i64 (x1+1)))) none) (some 0)) 0)
theorem AA7 {a:Sl Law}{y:Int}(h:Et N a=some y) :Yo S Tb [.p (vSl 18 B7 a)] [] (pN y) ([]) []:=by
 unfold Et at h;refine A1 Z func216 ?_;refine Af6 Z h fun h=>?_;refine D6 Z Ly h (λx1=>kps [(3,pN x1)] [0] [] []) (λb x1 c h=>?_);apply kI Z h<;>intro h
 .obtain⟨c9,h⟩:=C0 h;refine kD Z h (Vb c9 Sq) (MS Z Y) (λy3 h=>?_);refine Af6 Z h fun h=>?_;exact c Ly h
 cases h;exact kR Z
abbrev Cd2:=(Sl (Sl Tr))×Int
def Ow (N:Nat)(a:Sl Law)(b:Sl (Sl Tr)->Int->Option Cd2)(x2:Sl (Sl Tr))(x3:Int):Option Cd2:= ite (decide (x3<(a.n:Int))) (ite ((((0:Int)<=x3/\x3<(a.n:Int))/\((0:Int)<=x3/\x3<(x2.n:Int)))/\x3.toNat<x2.n) ((GM N (a.g x3.toNat) (x2.g x3.toNat)).bind λy7=>ite (y7.2 != 0) (some (Tq,y7.2)) (ite (Va 24 (x2.n+(Sl.of [y7.1]:Sl (Sl Tr)).n)) (b (x2.push y7.1) (wrap .i64 (x3+1))) none)) none) (some (x2,0))
def IU (N:Nat)(a:Sl Law)(b:Sl Tr):Option ((Sl (Sl Tr))×Int):= (Et N a).bind λy1=>lt (λ(z1:Int)=>ite (z1 != 0) (some (Tq,z1)) ((FQ N b).bind λy4=>V7 N (Ow N a) (Sl.of [y4]:Sl (Sl Tr)) 0)) λk1=>ite (y1==0) ((Ad N b).bind λy3=>k1 y3) (k1 y1)
theorem AA8 {a:Sl Law}{b:Sl Tr}{y:(Sl (Sl Tr))×Int}(h:IU N a b=some y) :Yo S SV [.p (vSl 18 B7 a),.p (vSl 2 A0 b)] [] (.tup [.vec 0,pN y.2]) ([oV E9 1 (cL 2 A0) y.1 true]) []:=by
 unfold IU at h;refine A1 Z func174 ?_;refine kC Z h (AA7 Z Y) (λy1 h=>?_);refine GT Z Ly (A3 Z) h 0 (λz1=>kps [(6,pN z1)] [1,0] [] []) (λk1 c h=>?_) (λz1 h=>?_)
 .apply kI Z h<;>intro h
  .refine kC Z h (GD Z Y) (λy3 h=>?_);exact c Ly h
  exact c Ly h
 apply kI Z h<;>intro h
 .obtain rfl:=A6 h;exact kO Z Ly [5700]
 refine kC Z h (AW0 Z Y) (λy4 h=>?_);refine F5 Z Sr h (λx2 x3 _=>⟨[(8,pN x3),(7,.vec 8500),(0,.p (vSl 18 B7 a))],[(8500,oV E9 1 (cL 2 A0) x2 false)]⟩) (λd x2 x3 f h=>?_) (hle:=kl1 2 (AR3 (cL 2 A0) ([y4]:List (Sl Tr)) [I4]));apply kI Z h<;>intro h
 .refine B5 Z Ly [2,3] ?_;obtain⟨c12,h⟩:=C0 h;obtain⟨y7,e7,h⟩:=E7 h;refine Ha [] (Vb (Vb (Vb c12.1.1 Sq) c12.1.2) c12.2) (AA6 Z Y e7) ?_;refine D1 Ly ?_;apply kI Z h<;>intro h
  .obtain rfl:=A6 h;exact kO Z Ly [5700]
  obtain⟨c14,h⟩:=C0 h;exact f (Vb Sr c14) h (hle:=kl1 2 (P0 (cL 2 A0) x2 y7.1 [I4]))
 obtain rfl:=A6 h;exact kO Z Ly [8500]
def Dq (N:Nat)(a:Sl Law)(b:Sl Tr):Option ((Sl Tr)×Int):= (IU N a b).bind λy1=>ite (y1.2 != 0) (some (Tn,y1.2)) (ite (((0:Int)<=(wrap .i64 ((y1.1.n:Int)-1))/\(wrap .i64 ((y1.1.n:Int)-1))<(y1.1.n:Int))/\(wrap .i64 ((y1.1.n:Int)-1)).toNat<y1.1.n) (some (y1.1.g (wrap .i64 ((y1.1.n:Int)-1)).toNat,0)) none)
theorem Qz {a:Sl Law}{b:Sl Tr}{y:(Sl Tr)×Int}(h:Dq N a b=some y) :Yo S Qi [.p (vSl 18 B7 a),.p (vSl 2 A0 b)] [] (.tup [.p (vSl 2 A0 y.1),pN y.2]) ([]) []:=by
 unfold Dq at h;refine A1 Z func129 ?_;refine kC Z h (AA8 Z Y) (λy1 h=>?_);apply kI Z h<;>intro h
 .obtain rfl:=A6 h;exact kO Z Ly []
 obtain⟨c2,h⟩:=C0 h;obtain rfl:=A6 h;exact Bg1 Z c2 [] ⟨rfl,rfl,rfl⟩
def HZ (N:Nat)(a:Yv)(b:Int):Option ((Sl Int)×Int):= (X5 N a).bind λy1=>ite (y1 != 0) (some (Tj,y1)) ((Eq N a b).bind λy2=>ite (!y2) (some (Tj,3)) ((Dn N a b).bind λy3=>some (y3,0)))
theorem AW3 {a:Yv}{b:Int}{y:(Sl Int)×Int}(h:HZ N a b=some y) :Yo S WJ [.p (.agg (B0 a)),pN b] [] (.tup [.vec 0,pN y.2]) ([oV C9 1 (cI .i64) y.1 true]) []:=by
 unfold HZ at h;refine A1 Z func236 ?_;refine kC Z h (GE Z Y) (λy1 h=>?_);apply kI Z h<;>intro h
 .obtain rfl:=A6 h;exact kO Z Ly [5700]
 refine kC Z h (Pm Z Y) (λy2 h=>?_);apply kI Z h<;>intro h
 .obtain rfl:=A6 h;exact kO Z Ly [5700]
 refine kC Z h (WV Z Y) (λy3 h=>?_);obtain rfl:=A6 h;exact kO Z Ly [19000]
def Ia (N:Nat)(a:Yv)(c:Int):Option ((Sl Law)×Int):= (HZ N a c).bind λy1=>V7 N (λb (x1:Sl Law) (x2:Int)=>ite (decide (x2<(y1.1.n:Int))) (ite ((((0:Int)<=x2/\x2<(y1.1.n:Int))/\x2.toNat<y1.1.n)/\((0:Int)<=(y1.1.g x2.toNat)/\(y1.1.g x2.toNat)<(a.Laws.n:Int))) (ite (Va 200 (x1.n+(Sl.of [a.Laws.g (y1.1.g x2.toNat).toNat]:Sl Law).n)) (b (x1.push (a.Laws.g (y1.1.g x2.toNat).toNat)) (wrap .i64 (x2+1))) none) none) (some (x1,y1.2))) (Sl.nil:Sl Law) 0
theorem AW4 {a:Yv}{b:Int}{y:(Sl Law)×Int}(h:Ia N a b=some y) :Yo S WG [.p (.agg (B0 a)),pN b] [] (.tup [.vec 0,pN y.2]) ([oV H7 18 B7 y.1 true]) []:=by
 unfold Ia at h;refine A1 Z func211 ?_;refine C6 Z Ly 4 3000 (B0 a) ?_;refine kD Z h Pc (AW3 Z Y) (λy1 h=>?_);refine F5 Z Ly h (λx1 x2=>kps [(9,pN x2),(8,.vec 9500),(7,pN y1.2),(6,.vec 14000),(2,.p (.ptr (B0 a)))] [] [(9500,oV H7 18 B7 x1 false)] [14000]) (λc x1 x2 d h=>?_);apply kI Z h<;>intro h
 .refine B5 Z Ly [2,7,8] ?_;obtain⟨c8,h⟩:=C0 h;refine O6 (Vb (Vb (Vb c8.1.1 c8.1.2) c8.2) Sq) (x:=.sl true 18 1 (G7 Ag2 [(0,B7 (a.Laws.g (y1.1.g x2.toNat).toNat))])) ?_;refine dE h (λh=>?_);exact d Ly h (hle:=kl1 4 (P0 B7 x1 (a.Laws.g (y1.1.g x2.toNat).toNat) Ag2))
 obtain rfl:=A6 h;exact kO Z Ly [9500]
def Ro (N:Nat)(a:Yv)(b:Sl Tr)(c:Int):Option ((Sl Tr)×Int):= (Ia N a c).bind λy1=>(Dq N y1.1 b).bind λy2=>some (y2.1,y2.2)
theorem BA9 {a:Yv}{b:Sl Tr}{c:Int}{y:(Sl Tr)×Int}(h:Ro N a b c=some y) :Yo S AJ5 [.p (.agg (B0 a)),.p (vSl 2 A0 b),pN c] [] (.tup [.p (vSl 2 A0 y.1),pN y.2]) ([]) []:=by unfold Ro at h;refine A1 Z func161 ?_;refine kC Z h (AW4 Z Y) (λy1 h=>?_);refine kC Z h (Qz Z Y) (λy2 h=>?_);cases h;exact kR Z
def Ib (N:Nat)(a:Yv)(b:Sl Tr):Option Int:= (X5 N a).bind λy1=>ite (y1 != 0) (some y1) ((Ad N b).bind λy2=>some y2)
theorem AW5 {a:Yv}{b:Sl Tr}{y:Int}(h:Ib N a b=some y) :Yo S WB [.p (.agg (B0 a)),.p (vSl 2 A0 b)] [] (pN y) ([]) []:=by
 unfold Ib at h;refine A1 Z func160 ?_;refine kC Z h (GE Z Y) (λy1 h=>?_);refine Af6 Z h fun h=>?_;refine kC Z h (GD Z Y) (λy2 h=>?_);cases h;exact kR Z
def Li (N:Nat)(a:Yv)(b:Sl Tr)(c:Int):Option ((Sl Tr)×Int):= (Ib N a b).bind λy1=>ite (y1 != 0) (some (Tn,y1)) ((Eq N a c).bind λy2=>ite (!y2) (some (Tn,3)) ((Ro N a b c).bind λy3=>some (y3.1,y3.2)))
theorem BB0 {a:Yv}{b:Sl Tr}{c:Int}{y:(Sl Tr)×Int}(h:Li N a b c=some y) :Yo S AJ4 [.p (.agg (B0 a)),.p (vSl 2 A0 b),pN c] [] (.tup [.p (vSl 2 A0 y.1),pN y.2]) ([]) []:=by
 unfold Li at h;refine A1 Z func110 ?_;refine kC Z h (AW5 Z Y) (λy1 h=>?_);apply kI Z h<;>intro h
 .obtain rfl:=A6 h;exact kO Z Ly []
 refine kC Z h (Pm Z Y) (λy2 h=>?_);apply kI Z h<;>intro h
 .obtain rfl:=A6 h;exact kO Z Ly []
 refine kC Z h (BA9 Z Y) (λy3 h=>?_);cases h;exact kR Z
omit Z Y
def Cd3 {z:Nat->List PV}{f:Nat->List PV}:Du 0 z f=f:=by funext i;show (ite (i<0) (z i) (f (i-0)))=f i;rw[Kd (Ct7 i),Nat.sub_zero]
def BQ8 {T:Type}{e:TypeId}{k:Nat}{c:T->List PV}{X:Sl (Sl T)}{z:Sl T}{z0:Nat->List PV}:∀q,q<X.n+1->(λq=>ite (q=X.n) (.vec e k (0+z.n) (Du 0 z0 (λi=>c (z.g i))) false) (DW e k c (X.g q))) q=(λq=>DW e k c ((X.push z).g q)) q:=λq a=>by
 have:=BI3 (e:=e) (k:=k) (c:=c) (X:=X) (z:=z) q a
 rw[<- this];simp only[Cd3,Cl5]
include Z Y
def Lj (N:Nat)(a:Yv):Option Yv:= ite ((0+a.Tree.n)*24<=140737488355328/\0+a.Tree.n<=140737488355328) (ite ((0+a.Laws.n)*200<=140737488355328/\0+a.Laws.n<=140737488355328) (V7 N (λb (x:Int) (X:Sl (Sl Int))=>ite (decide (x<(a.On.n:Int))) (ite ((0:Int)<=x/\x<(a.On.n:Int)) (ite ((0+(a.On.g x.toNat).n)*8<=140737488355328/\0+(a.On.g x.toNat).n<=140737488355328) (ite ((X.n+1)*24<=140737488355328/\X.n+1<=140737488355328) (b (wrap .i64 (x+1)) (X.push (a.On.g x.toNat))) none) none) none) (some (⟨a.Tree,a.Laws,X⟩:Yv))) 0 (Sl.nil:Sl (Sl Int))) none) none
theorem AA9 {N:Nat}{c:Yv}{y:Yv}(h:Lj N c=some y) :Yo S Ww [.p (.agg (B0 c))] [] (.agr [.p (vSl 2 F1 y.Tree),.p (vSl 18 B7 y.Laws),.vec 0]) [.fam EC y.On.n 1 none,.rows y.On.n λi=>DW C9 1 (cI .i64) (y.On.g i)] []:=by
 unfold Lj at h;refine A1 Z Tryz.func67 ?_;refine C6 Z Ly 2 2000 (B0 c) ?_;obtain⟨c1,h⟩:=C0 h;obtain⟨c2,h⟩:=C0 h;refine G6 Z Ly [(0,.a [6000]),(2,.n),(3,.a [6000,9000]),(4,.a [10000]),(6,.n),(7,.a [10000,13000]),(8,.n),(9,.a [4000]),(10,.a [4000])] ?_;refine D1 (Vb (Vb (Vb Sr c1) Sr) c2) ?_;refine I7 Z Ly 4 (kps [] [3,2,1] [(13000,oV H7 18 B7 c.Laws false),(9000,oV Y4 2 F1 c.Tree false),(4501,.vec EC 1 0 (λ_=>[]) false),(4000,.cells [.vec 9000,.vec 13000,.vec 4501]),(3000,.cells [.p I4,.p I4,.p I4])] []) ?_ (hle:=kl2 1 2 (Br8 B7 c.Laws Ag2) (Br8 F1 c.Tree [pI .i64 0,.str []]));refine Di Z Ly 4 (.fam 4501 4901 λi=>DW C9 1 (cI .i64) ((Sl.nil:Sl (Sl Int)).g i)) (⟨by decide,λi j=>Kf j (Ct7 i)⟩:1000<=4901/\∀i,i<0->RB ((λ_=>[]) i) (DW C9 1 (cI .i64) ((Sl.nil:Sl (Sl Int)).g i))) ?_;refine F5 Z Ly h (λx X=>kps [(4,pN x)] [3,2,1] [(4901,.rows X.n λi=>DW C9 1 (cI .i64) (X.g i)),(4501,.fam EC X.n 4901 none)] [13000,9000,4000,3000]) (λf x X d h=>?_);apply kI Z h<;>intro h
 .obtain⟨c3,h⟩:=C0 h;obtain⟨c4,h⟩:=C0 h;obtain⟨c5,h⟩:=C0 h;refine G6 Z Ly [(1,.l [4000]),(2,.a [24000]),(4,.n),(6,.n),(7,.n),(8,.a [24000,30000]),(9,.b [31000,30000])] ?_;refine D1 (Vb (Vb (Vb Sr c3) c4) c5) ?_;refine Di Z Ly 19 (.psh 32000 4902) (⟨by decide,rfl,rfl⟩:1000<=4902/\X.n+1=X.n+1/\X.n=X.n) ?_;exact d Ly h (hle:=klR [(5,.ob (X.n+1) (λq=>ite (q=X.n) (.vec C9 1 (0+(c.On.g x.toNat).n) (Du 0 (G7 [pI .i64 0] []) (λi=>cI .i64 ((c.On.g x.toNat).g i))) false) (DW C9 1 (cI .i64) (X.g q))) (λi=>DW C9 1 (cI .i64) ((X.push (c.On.g x.toNat)).g i)))] (al1 BQ8 al0))
 obtain rfl:=A6 h;exact J8 Z Ly ⟨[(2,.reg 3000 0)],[(4901,.rows X.n λi=>DW C9 1 (cI .i64) (X.g i)),(4501,.fam EC X.n 4901 none),(3000,.cells [.p (vSl 2 F1 c.Tree),.p (vSl 18 B7 c.Laws),.vec 4501])]⟩ [4501,4901] ⟨rfl,rfl,rfl⟩
def Dr (N:Nat)(c:Yv)(b:Int)(a:Int):Option (Yv×Int):= (X5 N c).bind λy1=>ite (y1 != 0) (some ((⟨(Sl.nil:Sl Node),(Sl.nil:Sl Law),(Sl.nil:Sl (Sl Int))⟩:Yv),y1)) ((Eq N c b).bind λy2=>ite ((!y2)=false->((decide (a<0))=false->((0:Int)<=b/\b<(c.On.n:Int)))) (ite (((!y2)||(decide (a<0)))||(decide ((wrap .i64 (((c.On.g b.toNat).n:Int)-1))<=a))) (some ((⟨(Sl.nil:Sl Node),(Sl.nil:Sl Law),(Sl.nil:Sl (Sl Int))⟩:Yv),3)) ((Lj N c).bind λy3=>ite (b.toNat<y3.On.n) (ite (((0:Int)<=b/\b<(y3.On.n:Int))/\((0:Int)<=a/\a<((y3.On.g b.toNat).n:Int))/\((0:Int)<=(wrap .i64 (a+1))/\(wrap .i64 (a+1))<((y3.On.g b.toNat).n:Int))) (some ((⟨y3.Tree,y3.Laws,y3.On.upd b.toNat (((y3.On.g b.toNat).upd a.toNat ((y3.On.g b.toNat).g (wrap .i64 (a+1)).toNat)).upd (wrap .i64 (a+1)).toNat ((y3.On.g b.toNat).g a.toNat))⟩:Yv),0)) none) none)) none)
theorem Xa {N:Nat}{f:Yv}{d:Int}{b:Int}{y:Yv×Int}(h:Dr N f d b=some y) :Yo S Wq [.p (.agg (B0 f)),pN d,pN b] [] (.tup [.p (.agg (B0 y.1)),pN y.2]) ([]) []:=by
 unfold Dr at h;refine A1 Z Tryz.func31 ?_;refine C6 Z Ly 6 4000 (B0 f) ?_;refine kD Z h Pc (GE Z Y) (λy1 h=>?_);apply kI Z h<;>intro h
 .obtain rfl:=A6 h;exact J8 Z Ly ⟨[(7,pN y1),(6,.reg 7000 0)],[(7000,.cells [.p (vSl 2 F1 (Sl.nil:Sl Node)),.p (vSl 18 B7 (Sl.nil:Sl Law)),.p (vSl 1 (cL 1 (cI .i64)) (Sl.nil:Sl (Sl Int)))])]⟩ [] ⟨rfl,rfl,rfl⟩
 refine kD Z h Pc (Pm Z Y) (λy2 h=>?_);obtain⟨c2,h⟩:=C0 h;refine kB Z (A3 Z) Ly c2 14 (.o (.o (.a (!y2)) (.a (decide (b<0)))) (.a (decide ((wrap .i64 (((f.On.g d.toNat).n:Int)-1))<=b)))) ?_;apply kI Z h<;>intro h
 .obtain rfl:=A6 h;exact J8 Z Ly ⟨[(7,pN 3),(6,.reg 7000 0)],[(7000,.cells [.p (vSl 2 F1 (Sl.nil:Sl Node)),.p (vSl 18 B7 (Sl.nil:Sl Law)),.p (vSl 1 (cL 1 (cI .i64)) (Sl.nil:Sl (Sl Int)))])]⟩ [] ⟨rfl,rfl,rfl⟩
 refine kD Z h Pc (AA9 Z Y) (λy3 h=>?_);obtain⟨cT,h⟩:=C0 h;obtain⟨⟨c30,c31,c32⟩,h⟩:=C0 h;refine Di Z Ly 9 (.take 38000 d.toNat 10801) (⟨⟨by decide,rfl⟩,cT⟩:(1000<=10801/\y3.On.n=y3.On.n)/\d.toNat<y3.On.n) ?_;have l1:(wrap .i64 (b+1)).toNat<(y3.On.g d.toNat).n:=by omega
 have l2:b.toNat<(y3.On.g d.toNat).n:=by omega
 refine G6 Z Ly [(1,.l [10000]),(3,.l [38000]),(4,.l [38000]),(7,.l [10000]),(9,.l [38000]),(10,.l [38000]),(14,.l [10000]),(16,.l [38000]),(17,.l [38000]),(20,.l [10801]),(21,.l [10801]),(23,.l [10000]),(25,.l [38000]),(26,.l [38000]),(28,.l [10801]),(29,.l [10801]),(30,.l [10801]),(31,.a [10801]),(32,.l [10801]),(33,.a [10801])] ?_;refine D1 (Vb (Vb (Vb (Vb (Vb (Vb (Vb (Vb (Vb (Vb (Vb (Vb (Vb (Vb (Vb c30 (Vb cT (rfl:d.toNat=d.toNat))) c30) (Vb cT (rfl:d.toNat=d.toNat))) c30) (Vb cT (rfl:d.toNat=d.toNat))) c32) l1) c30) (Vb cT (rfl:d.toNat=d.toNat))) c31) l2) c31) (Vb (rfl:(1:Nat)=1) (Vb l2 Pa))) c32) (Vb (rfl:(1:Nat)=1) (Vb l1 Pa))) ?_;refine I7 Z Ly 70 (kps [] [9,6] [(38001,(.rows y3.On.n λl=>ite (l=d.toNat) (.dead) (DW C9 1 (cI .i64) (y3.On.g l)))),(38000,.fam EC y3.On.n 38001 (some (d.toNat,.vec 10801))),(10801,DW C9 1 (cI .i64) (((y3.On.g d.toNat).upd b.toNat ((y3.On.g d.toNat).g (wrap .i64 (b+1)).toNat)).upd (wrap .i64 (b+1)).toNat ((y3.On.g d.toNat).g b.toNat))),(10000,.cells [.p (vSl 2 F1 y3.Tree),.p (vSl 18 B7 y3.Laws),.vec 38000]),(7000,.cells [.p I4,.p I4,.p I4])] []) ?_ (hle:=klR [(4,.fn (y3.On.g d.toNat).n (((y3.On.g d.toNat).upd b.toNat ((y3.On.g d.toNat).g (wrap .i64 (b+1)).toNat)).upd (wrap .i64 (b+1)).toNat ((y3.On.g d.toNat).g b.toNat)).n (λl=>ite (l=(wrap .i64 (b+1)).toNat) (splice ((λl=>ite (l=b.toNat) (splice ((λi=>cI .i64 ((y3.On.g d.toNat).g i)) l) 0 [pI .i64 ((y3.On.g d.toNat).g (wrap .i64 (b+1)).toNat)]) ((λi=>cI .i64 ((y3.On.g d.toNat).g i)) l)) l) 0 [pI .i64 ((y3.On.g d.toNat).g b.toNat)]) ((λl=>ite (l=b.toNat) (splice ((λi=>cI .i64 ((y3.On.g d.toNat).g i)) l) 0 [pI .i64 ((y3.On.g d.toNat).g (wrap .i64 (b+1)).toNat)]) ((λi=>cI .i64 ((y3.On.g d.toNat).g i)) l)) l)) (λi=>cI .i64 ((((y3.On.g d.toNat).upd b.toNat ((y3.On.g d.toNat).g (wrap .i64 (b+1)).toNat)).upd (wrap .i64 (b+1)).toNat ((y3.On.g d.toNat).g b.toNat)).g i)))] (al1 ⟨rfl,At1 (c:=cI .i64) (v:=(y3.On.g d.toNat).upd b.toNat ((y3.On.g d.toNat).g (wrap .i64 (b+1)).toNat)) (x:=(y3.On.g d.toNat).g b.toNat) (At1 (c:=cI .i64) (v:=y3.On.g d.toNat) (x:=(y3.On.g d.toNat).g (wrap .i64 (b+1)).toNat) same (λ_=>by first|rfl|(dsimp only;split<;>rfl))) (λ_=>by first|rfl|(dsimp only;split<;>rfl))⟩ al0));refine Di Z Ly 70 (.put 38000 38002) (⟨⟨by decide,rfl⟩,cT⟩:(1000<=38002/\y3.On.n=y3.On.n)/\d.toNat<y3.On.n) ?_;refine Di Z Ly 70 (.pub 38000) (⟨rfl,Bj3⟩:y3.On.n=y3.On.n/\∀q,q<y3.On.n->(Xy (ite (q=d.toNat) (DW C9 1 (cI .i64) (((y3.On.g d.toNat).upd b.toNat ((y3.On.g d.toNat).g (wrap .i64 (b+1)).toNat)).upd (wrap .i64 (b+1)).toNat ((y3.On.g d.toNat).g b.toNat))) (ite (q=d.toNat) Obj.dead (DW C9 1 (cI .i64) (y3.On.g q))))).isSome=true) ?_;obtain rfl:=A6 h;exact J8 Z Ly ⟨[(7,pN 0),(6,.reg 7000 0)],[(7000,.cells [.p (vSl 2 F1 y3.Tree),.p (vSl 18 B7 y3.Laws),.p (vSl 1 (cL 1 (cI .i64)) (y3.On.upd d.toNat (((y3.On.g d.toNat).upd b.toNat ((y3.On.g d.toNat).g (wrap .i64 (b+1)).toNat)).upd (wrap .i64 (b+1)).toNat ((y3.On.g d.toNat).g b.toNat))))])]⟩ [] ⟨rfl,rfl,rfl⟩ (hle:=klR [(3,.fn y3.On.n (y3.On.upd d.toNat (((y3.On.g d.toNat).upd b.toNat ((y3.On.g d.toNat).g (wrap .i64 (b+1)).toNat)).upd (wrap .i64 (b+1)).toNat ((y3.On.g d.toNat).g b.toNat))).n (λq=>[(Xy (ite (q=d.toNat) (DW C9 1 (cI .i64) (((y3.On.g d.toNat).upd b.toNat ((y3.On.g d.toNat).g (wrap .i64 (b+1)).toNat)).upd (wrap .i64 (b+1)).toNat ((y3.On.g d.toNat).g b.toNat))) (ite (q=d.toNat) Obj.dead (DW C9 1 (cI .i64) (y3.On.g q))))).getD default]) (λi=>cL 1 (cI .i64) ((y3.On.upd d.toNat (((y3.On.g d.toNat).upd b.toNat ((y3.On.g d.toNat).g (wrap .i64 (b+1)).toNat)).upd (wrap .i64 (b+1)).toNat ((y3.On.g d.toNat).g b.toNat))).g i)))] (al1 ⟨rfl,BI4⟩ al0))
def Lk (N:Nat)(a:Sl Node)(b:Int):Option Int:= (Ba N a).bind λy1=>ite ((y1==0)&&((decide (b<0))||(decide ((a.n:Int)<=b)))) (some 3) (some y1)
theorem AW6 {c:Sl Node}{b:Int}{y:Int}(h:Lk N c b=some y) :Yo S WI [.p (vSl 2 F1 c),pN b] [] (pN y) ([]) []:=by
 unfold Lk at h;refine A1 Z func219 ?_;refine kC Z h (MM Z Y) (λy1 h=>?_);refine kB Z (A3 Z) Ly Ly 9 (.n (.a (y1==0)) (.o (.a (decide (b<0))) (.a (decide ((c.n:Int)<=b))))) ?_;refine Af6 Z h fun h=>?_;cases h;exact kR Z
def Fg (rec:(Sl Node)->Int->Option (Sl Int))(N:Nat)(b:Sl Node)(a:Int):Option (Sl Int):= ite (a==0) (some (Sl.of [0]:Sl Int)) (ite ((0:Int)<=a/\a<(b.n:Int)) ((rec b (b.g a.toNat).Yx).bind λy1=>ite (Va 8 (y1.n+(Sl.of [a]:Sl Int).n)) (some (y1.push a)) none) none)
def Ic:Nat->(Sl Node)->Int->Option (Sl Int)
 |0=>λ_ _=>none
 |N+1=>Fg (Ic N) N
theorem AB0 {rec:(Sl Node)->Int->Option (Sl Int)}(c:∀{b:Sl Node}{a:Int}{y:Sl Int},rec b a=some y->Yo S Ld [.p (vSl 2 F1 b),pN a] [] (.vec 0) ([oV C9 1 (cI .i64) y true]) []){b:Sl Node}{a:Int}{y:Sl Int}(h:Fg rec N b a=some y) :Yo S Ld [.p (vSl 2 F1 b),pN a] [] (.vec 0) ([oV C9 1 (cI .i64) y true]) []:=by
 unfold Fg at h;refine A1 Z func220 ?_;apply kI Z h<;>intro h
 .obtain rfl:=A6 h;exact kO Z Sr [8000] (hle:=kl1 0 (AR3 (cI .i64) ([0]:List Int) [pI .i64 0]))
 obtain⟨c2,h⟩:=C0 h;obtain⟨y1,e1,h⟩:=E7 h;refine E2 Z [] c2 (c e1) ?_;obtain⟨c3,h⟩:=C0 h;obtain rfl:=A6 h;exact kO Z (Vb Sr c3) [18000] (hle:=kl1 0 (P0 (cI .i64) y1 a [pI .i64 0]))
theorem AW7 {a:Sl Node}{b:Int}{y:Sl Int}(h:Ic N a b=some y) :Yo S Ld [.p (vSl 2 F1 a),pN b] [] (.vec 0) ([oV C9 1 (cI .i64) y true]) []:=by
 induction N generalizing a b y with
 |zero=>cases (show (none:Option (Sl Int))=some y from h)
 |succ N ih=>exact AB0 Z Y (λe=>ih e) h
def Id (N:Nat)(a:Sl Node)(b:Int):Option ((Sl Int)×Int):= (Lk N a b).bind λy1=>ite (y1 != 0) (some (Tj,y1)) ((Ic N a b).bind λy2=>some (y2,0))
theorem AW8 {a:Sl Node}{b:Int}{y:(Sl Int)×Int}(h:Id N a b=some y) :Yo S WD [.p (vSl 2 F1 a),pN b] [] (.tup [.vec 0,pN y.2]) ([oV C9 1 (cI .i64) y.1 true]) []:=by
 unfold Id at h;refine A1 Z func175 ?_;refine kC Z h (AW6 Z Y) (λy1 h=>?_);apply kI Z h<;>intro h
 .obtain rfl:=A6 h;exact kO Z Ly [5700]
 refine kC Z h (AW7 Z Y) (λy2 h=>?_);obtain rfl:=A6 h;exact kO Z Ly [16000]
def Ie (N:Nat)(a:Yv)(f:Int)(b:Int):Option (Sl Law):= (Id N a.Tree f).bind λy1=>V7 N (λd (x3:Sl Law) (x4:Int)=>ite (decide (x4<(y1.1.n:Int))) (ite ((((0:Int)<=x4/\x4<(y1.1.n:Int))/\x4.toNat<y1.1.n)/\((0:Int)<=(y1.1.g x4.toNat)/\(y1.1.g x4.toNat)<(a.On.n:Int))) (V7 N (λc (x7:Sl Law) (x8:Int)=>ite (decide (x8<((a.On.g (y1.1.g x4.toNat).toNat).n:Int))) (ite ((0:Int)<=x8/\x8<((a.On.g (y1.1.g x4.toNat).toNat).n:Int)) (ite (((a.On.g (y1.1.g x4.toNat).toNat).g x8.toNat) != b) (ite (((0:Int)<=x8/\x8<((a.On.g (y1.1.g x4.toNat).toNat).n:Int))/\((0:Int)<=((a.On.g (y1.1.g x4.toNat).toNat).g x8.toNat)/\((a.On.g (y1.1.g x4.toNat).toNat).g x8.toNat)<(a.Laws.n:Int))) (ite (Va 200 (x7.n+(Sl.of [a.Laws.g ((a.On.g (y1.1.g x4.toNat).toNat).g x8.toNat).toNat]:Sl Law).n)) (c (x7.push (a.Laws.g ((a.On.g (y1.1.g x4.toNat).toNat).g x8.toNat).toNat)) (wrap .i64 (x8+1))) none) none) (c x7 (wrap .i64 (x8+1)))) none) (d x7 (wrap .i64 (x4+1)))) x3 0) none) (some x3)) (Sl.nil:Sl Law) 0
theorem AW9 {b:Yv}{c:Int}{a:Int}{y:Sl Law}(h:Ie N b c a=some y) :Yo S WA [.p (.agg (B0 b)),pN c,pN a] [] (.vec 0) ([oV H7 18 B7 y true]) []:=by
 unfold Ie at h;refine A1 Z func130 ?_;refine C6 Z Ly 6 4000 (B0 b) ?_;refine kC Z h (AW8 Z Y) (λy1 h=>?_);refine F5 Z Ly h (λx3 x4=>kps [(10,pN x4),(9,.vec 10501),(7,.vec 18000),(3,.p (.ptr (B0 b))),(2,pN a)] [] [(10501,oV H7 18 B7 x3 false)] [18000]) (λf x3 x4 i h=>?_);apply kI Z h<;>intro h
 .refine B5 Z Ly [1,6,7] ?_;refine dE h (λh=>?_);refine F5 Z Ly h (λx7 x8=>kps [(12,pN x8),(11,.p (vSl 1 (cI .i64) (b.On.g (y1.1.g x4.toNat).toNat))),(10,pN x4),(9,.vec 10502),(7,.vec 18000),(3,.p (.ptr (B0 b))),(2,pN a)] [] [(10502,oV H7 18 B7 x7 false)] [18000]) (λj x7 x8 d h=>?_);apply kI Z h<;>intro h
  .refine kJ Z h (λh=>?_) (λh=>?_)
   .refine B5 Z Ly [2,5,6,7,8] ?_;obtain⟨c50,h⟩:=C0 h;refine O6 (Vb (Vb c50.1 c50.2) Sq) (x:=.sl true 18 1 (G7 Ag2 [(0,B7 (b.Laws.g ((b.On.g (y1.1.g x4.toNat).toNat).g x8.toNat).toNat))])) ?_;refine dE h (λh=>?_);exact d Ly h (hle:=kl1 6 (P0 B7 x7 (b.Laws.g ((b.On.g (y1.1.g x4.toNat).toNat).g x8.toNat).toNat) Ag2))
   exact d Ly h
  exact i Ly h
 obtain rfl:=A6 h;exact kO Z Ly [10501]
def I1 (N:Nat)(d:Yv)(b:N0)(a:Int)(c:Int):Option N0:= ite (!b.Has) (some (⟨false,Tn⟩:N0)) ((Z4 N d.Tree).bind λy1=>ite (((0:Int)<=a/\a<(y1.1.n:Int))/\a.toNat<y1.1.n) ((Ie N d (y1.1.g a.toNat) c).bind λy2=>(Dq N y2 b.W).bind λy3=>ite (y3.2 != 0) (some (⟨false,Tn⟩:N0)) (some (⟨true,y3.1⟩:N0))) none)
theorem Ox {d:Yv}{a:N0}{c:Int}{b:Int}{y:N0}(h:I1 N d a c b=some y) :Yo S NP [.p (.agg (B0 d)),.p (.agg (I5 a)),pN c,pN b] [] (.p (.agg (I5 y))) ([]) []:=by
 unfold I1 at h;refine A1 Z func88 ?_;refine C6 Z Ly 5 5000 (B0 d) ?_;refine C6 Z Ly 8 6000 [.bb a.Has,vSl 2 A0 a.W] ?_;apply kI Z h<;>intro h
 .obtain rfl:=A6 h;exact J8 Z Ly ⟨[(8,.reg 9000 0)],[(9000,.cells [pB false,.p (vSl 2 A0 Tn)])]⟩ [] ⟨rfl,rfl,rfl⟩
 refine kC Z h (Kt Z Y) (λy1 h=>?_);refine B5 Z Ly [0,8] ?_;obtain⟨c2,h⟩:=C0 h;obtain⟨y2,e2,h⟩:=E7 h;refine Ha [] (Vb (Vb Pc c2.1) c2.2) (AW9 Z Y e2) ?_;obtain⟨y3,e3,h⟩:=E7 h;refine Ha [] Ly (Qz Z Y e3) ?_;refine D1 Ly ?_;apply kI Z h<;>intro h
 .obtain rfl:=A6 h;exact J8 Z Ly ⟨[(8,.reg 9000 0)],[(9000,.cells [pB false,.p (vSl 2 A0 Tn)])]⟩ [] ⟨rfl,rfl,rfl⟩
 cases h;exact kR Z
def DT (N:Nat)(d:Yv)(b:N0)(c:Int)(f:N0)(a:Int):Option Bool:= (I1 N d b c a).bind λy1=>lt (λ(z1:Bool)=>some z1) λk1=>ite y1.Has ((P5 N y1.W f.W).bind λy3=>k1 y3) (k1 false)
theorem Zm {d:Yv}{b:N0}{c:Int}{f:N0}{a:Int}{y:Bool}(h:DT N d b c f a=some y) :Yo S NO [.p (.agg (B0 d)),.p (.agg (I5 b)),pN c,.p (.agg (I5 f)),pN a] [] (pB y) ([]) []:=by
 unfold DT at h;refine A1 Z func87 ?_;refine kC Z h (Ox Z Y) (λy1 h=>?_);refine GT Z Ly (A3 Z) h 0 (λz1 _=>⟨[(10,pB z1)],[]⟩) (λk1 g h=>?_) (λz1 h=>?_)
 .refine kG Z h (λh=>?_) (λh=>?_)
  .refine kC Z h (TM Z Y) (λy3 h=>?_);exact g Ly h
  exact g Ly h
 cases h;exact kR Z
def KJ (N:Nat)(f:Yv)(b:Sl N0)(d:Sl Z1)(a:Int):Option ((Sl A5)×Int):= (Er N f b d).bind λy1=>ite (y1 != 0) (some ((Sl.nil:Sl A5),y1)) (ite ((decide (a<0))||(decide (1073741824<a))) (some ((Sl.nil:Sl A5),2)) (V7 N (λi (x3:Sl A5) (x4:Int)=>ite (decide (x4<(d.n:Int))) (V7 N (λc (x7:Sl A5) (x8:Int)=>ite ((0:Int)<=x4/\x4<(d.n:Int)) (ite (decide (x8<((d.g x4.toNat).Yz.n:Int))) (ite (((0:Int)<=x4/\x4<(d.n:Int))/\((0:Int)<=x8/\x8<((d.g x4.toNat).Yz.n:Int))) (ite (!((d.g x4.toNat).Yz.g x8.toNat).Has) (c x7 (wrap .i64 (x8+1))) (ite ((0:Int)<=x4/\x4<(b.n:Int)) ((DT N f (b.g x4.toNat) x8 ((d.g x4.toNat).Yz.g x8.toNat) (-1)).bind λj=>ite j (c x7 (wrap .i64 (x8+1))) (ite ((0:Int)<=x4/\x4<(b.n:Int)) ((I1 N f (b.g x4.toNat) x8 (-1)).bind λl=>ite (!l.Has) (ite (Va 32 (x7.n+(Sl.of [(⟨x4,x8,2,a⟩:A5)]:Sl A5).n)) (c (x7.push (⟨x4,x8,2,a⟩:A5)) (wrap .i64 (x8+1))) none) (ite (Va 32 (x7.n+(Sl.of [(⟨x4,x8,1,a⟩:A5)]:Sl A5).n)) (c (x7.push (⟨x4,x8,1,a⟩:A5)) (wrap .i64 (x8+1))) none)) none)) none)) none) (i x7 (wrap .i64 (x4+1)))) none) x3 0) (some (x3,0))) (Sl.nil:Sl A5) 0))
theorem Bj9 {f:Yv}{c:Sl N0}{d:Sl Z1}{b:Int}{y:(Sl A5)×Int}(h:KJ N f c d b=some y) :Yo S Ag0 [.p (.agg (B0 f)),.p (vSl 2 I5 c),.p (vSl 2 N8 d),pN b] [] (.tup [.vec 0,pN y.2]) ([oV K7 4 B9 y.1 true]) []:=by
 unfold KJ at h;refine A1 Z func56 ?_;refine C6 Z Ly 8 5000 (B0 f) ?_;refine kD Z h Pc (TJ Z Y) (λy1 h=>?_);apply kI Z h<;>intro h
 .obtain rfl:=A6 h;exact kO Z Ly [9700]
 refine kB Z (A3 Z) Ly Ly 3 (.o (.a (decide (b<0))) (.a (decide (1073741824<b)))) ?_;apply kI Z h<;>intro h
 .obtain rfl:=A6 h;exact kO Z Ly [9700]
 refine F5 Z Ly h (λx3 x4 _=>⟨[(12,pN x4),(11,.vec 12501),(4,.p (.ptr (B0 f))),(3,pN b),(2,.p (vSl 2 N8 d)),(1,.p (vSl 2 I5 c))],[(12501,oV K7 4 B9 x3 false)]⟩) (λj x3 x4 l h=>?_);apply kI Z h<;>intro h
 .refine F5 Z Ly h (λx7 x8 _=>⟨[(13,pN x8),(12,pN x4),(11,.vec 12502),(4,.p (.ptr (B0 f))),(3,pN b),(2,.p (vSl 2 N8 d)),(1,.p (vSl 2 I5 c))],[(12502,oV K7 4 B9 x7 false)]⟩) (λm x7 x8 i h=>?_);refine kJ Z h (λh=>?_) (λh=>?_)
  .obtain⟨c76,h⟩:=C0 h;refine Yd Z (Vb (Vb c76.1 c76.2) Pb) 15000 [.bb ((d.g x4.toNat).Yz.g x8.toNat).Has,vSl 2 A0 ((d.g x4.toNat).Yz.g x8.toNat).W] ?_;refine B5 Z Ly [1,4,7,8,10,11] ?_;refine dG Ly h (λh=>?_) (λh=>?_)
   .refine D1 Ly ?_;exact i Ly h
   obtain⟨c78,h⟩:=C0 h;refine dP h (Vb (Vb (Vb Pc c78) Pb) Pb) (Zm Z Y) (λn h=>?_);refine D1 Ly ?_;apply kI Z h<;>intro h
   .exact i Ly h
   refine B5 Z Ly [0,3,4,6] ?_;obtain⟨c80,h⟩:=C0 h;refine dP h (Vb (Vb Pc c80) Pb) (Ox Z Y) (λq h=>?_);refine D1 Ly ?_;apply kI Z h<;>intro h
   .obtain⟨c82,h⟩:=C0 h;exact i (Vb Sr c82) h (hle:=kl1 6 (P0 B9 x7 (⟨x4,x8,2,b⟩:A5) Ag4))
   obtain⟨c83,h⟩:=C0 h;exact i (Vb Sr c83) h (hle:=kl1 6 (P0 B9 x7 (⟨x4,x8,1,b⟩:A5) Ag4))
  exact l Ly h
 obtain rfl:=A6 h;exact kO Z Ly [12501]
def Af (N:Nat)(c:A8)(d:Yv)(a:Int)(b:Int):Option Bool:= ite ((((0:Int)<=a/\a<(c.Yy.n:Int))/\((0:Int)<=b/\b<((c.Yy.g a.toNat).Yz.n:Int)))/\((0:Int)<=a/\a<(c.Yu.n:Int))) (ite ((!((c.Yy.g a.toNat).Yz.g b.toNat).Has)||(!(c.Yu.g a.toNat).Has)) (some false) ((Z4 N d.Tree).bind λy1=>ite (((0:Int)<=b/\b<(y1.1.n:Int))/\b.toNat<y1.1.n) ((Li N d (c.Yu.g a.toNat).W (y1.1.g b.toNat)).bind λy2=>lt (λ(z1:Bool)=>some z1) λk1=>ite (y2.2==0) ((P5 N y2.1 ((c.Yy.g a.toNat).Yz.g b.toNat).W).bind λy4=>k1 y4) (k1 false)) none)) none
theorem Oy {d:A8}{f:Yv}{b:Int}{c:Int}{y:Bool}(h:Af N d f b c=some y) :Yo S NL [.p (.agg (B2 d)),.p (.agg (B0 f)),pN b,pN c] [] (pB y) ([]) []:=by
 unfold Af at h;refine A1 Z func68 ?_;refine C6 Z Ly 5 5000 (B2 d) ?_;refine C6 Z Ly 8 6000 (B0 f) ?_;refine G6 Z Ly [(1,.n),(3,.n),(5,.n),(7,.n),(8,.n),(10,.n),(12,.n),(13,.n),(14,.a [10000]),(15,.a [11000]),(16,.a [10000]),(17,.a [11000])] ?_;obtain⟨c1,h⟩:=C0 h;refine D1 (Vb (Vb (Vb (Vb c1.1.1 c1.1.2) Pb) c1.2) Pb) ?_;refine C6 Z Ly 29 10000 [.bb ((d.Yy.g b.toNat).Yz.g c.toNat).Has,vSl 2 A0 ((d.Yy.g b.toNat).Yz.g c.toNat).W] ?_;refine C6 Z Ly 29 11000 [.bb (d.Yu.g b.toNat).Has,vSl 2 A0 (d.Yu.g b.toNat).W] ?_;refine kB Z (A3 Z) Ly Ly 4 (.o (.a (!((d.Yy.g b.toNat).Yz.g c.toNat).Has)) (.a (!(d.Yu.g b.toNat).Has))) ?_;refine Af6 Z h fun h=>?_;refine kC Z h (Kt Z Y) (λy1 h=>?_);refine G6 Z Ly [(0,.n),(2,.n),(5,.l [41000]),(6,.l [41000]),(7,.n)] ?_;obtain⟨c3,h⟩:=C0 h;refine dP h (Vb (Vb Pc c3.1) c3.2) (BB0 Z Y) (λy2 h=>?_);refine D1 Ly ?_;refine GT Z Ly (A3 Z) h 0 (λz1 _=>⟨[(8,pB z1)],[]⟩) (λk1 i h=>?_) (λz1 h=>?_)
 .refine kG Z h (λh=>?_) (λh=>?_)
  .refine kC Z h (TM Z Y) (λy4 h=>?_);exact i Ly h
  exact i Ly h
 cases h;exact kR Z
def Ag (N:Nat)(c:A8)(d:Yv)(a:Int)(b:Int):Option Bool:= (Af N c c.Yv a b).bind λy1=>lt (λ(z1:Bool)=>some z1) λk1=>ite y1 ((Af N c d a b).bind λy3=>k1 (!y3)) (k1 false)
theorem Oz {c:A8}{d:Yv}{a:Int}{b:Int}{y:Bool}(h:Ag N c d a b=some y) :Yo S NG [.p (.agg (B2 c)),.p (.agg (B0 d)),pN a,pN b] [] (pB y) ([]) []:=by
 unfold Ag at h;refine A1 Z func33 ?_;refine kC Z h (Oy Z Y) (λy1 h=>?_);refine GT Z Ly (A3 Z) h 0 (λz1 _=>⟨[(8,pB z1)],[]⟩) (λk1 f h=>?_) (λz1 h=>?_)
 .refine kG Z h (λh=>?_) (λh=>?_)
  .refine kC Z h (Oy Z Y) (λy3 h=>?_);exact f Ly h
  exact f Ly h
 cases h;exact kR Z
def GN (N:Nat)(a:A8)(d:Yv):Option (Int×Int×Bool):= N3 N (λb (x2:Int)=>ite (decide (x2<(a.Yy.n:Int))) (N3 N (λc (x4:Int)=>ite ((0:Int)<=x2/\x2<(a.Yy.n:Int)) (ite (decide (x4<((a.Yy.g x2.toNat).Yz.n:Int))) ((Ag N a d x2 x4).bind λy9=>ite y9 (some (x2,x4,true)) (c (wrap .i64 (x4+1)))) (b (wrap .i64 (x2+1)))) none) 0) (some (0,0,false))) 0
theorem AB1 {a:A8}{b:Yv}{y:Int×Int×Bool}(h:GN N a b=some y) :Yo S SI [.p (.agg (B2 a)),.p (.agg (B0 b))] [] (.tup [pN y.1,pN y.2.1,pB y.2.2]) ([]) []:=by
 unfold GN at h;refine A1 Z func89 ?_;refine D6 Z Ly h (λx2=>kps [(7,pN x2)] [3,2] [] [4000,3000]) (λc x2 d h=>?_);apply kI Z h<;>intro h
 .refine D6 Z Ly h (λx4=>kps [(8,pN x4)] [7,3,2] [] [4000,3000]) (λf x4 g h=>?_);refine kJ Z h (λh=>?_) (λh=>?_)
  .refine kC Z h (Oz Z Y) (λy9 h=>?_);refine Af6 Z h fun h=>?_;exact g Ly h
  exact d Ly h
 cases h;exact kR Z
def IV (N:Nat)(b:A8)(a:Int):Option Int:= (Da N b).bind λy1=>ite (y1 != 0) (some y1) (ite ((decide (a<0))||(decide (1073741824<a))) (some 2) (some 0))
theorem AB2 {c:A8}{b:Int}{y:Int}(h:IV N c b=some y) :Yo S Sz [.p (.agg (B2 c)),pN b] [] (pN y) ([]) []:=by
 unfold IV at h;refine A1 Z func55 ?_;refine kC Z h (MT Z Y) (λy1 h=>?_);refine Af6 Z h fun h=>?_;refine kB Z (A3 Z) Ly Ly 3 (.o (.a (decide (b<0))) (.a (decide (1073741824<b)))) ?_;refine Af6 Z h fun h=>?_;cases h;exact kR Z
def GO (N:Nat)(b:A8):Option ((Sl Br)×Int):= (Da N b).bind λy1=>ite (y1 != 0) (some ((Sl.nil:Sl Br),y1)) (V7 N (λd (x3:Sl Br) (x4:Int)=>ite (decide (x4<(b.Yv.On.n:Int))) (V7 N (λc (x7:Sl Br) (x8:Int)=>ite ((0:Int)<=x4/\x4<(b.Yv.On.n:Int)) (ite (decide ((wrap .i64 (x8+1))<((b.Yv.On.g x4.toNat).n:Int))) ((Dr N b.Yv x4 x8).bind λf=>(GN N b f.1).bind λa=>ite a.2.2 (ite (Va 32 (x7.n+(Sl.of [(⟨x4,x8,a.1,a.2.1⟩:Br)]:Sl Br).n)) (c (x7.push (⟨x4,x8,a.1,a.2.1⟩:Br)) (wrap .i64 (x8+1))) none) (c x7 (wrap .i64 (x8+1)))) (d x7 (wrap .i64 (x4+1)))) none) x3 0) (some (x3,0))) (Sl.nil:Sl Br) 0)
theorem AB3 {a:A8}{y:(Sl Br)×Int}(h:GO N a=some y) :Yo S SA [.p (.agg (B2 a))] [] (.tup [.vec 0,pN y.2]) ([oV Bv 4 N1 y.1 true]) []:=by
 unfold GO at h;refine A1 Z func57 ?_;refine kC Z h (MT Z Y) (λy1 h=>?_);apply kI Z h<;>intro h
 .obtain rfl:=A6 h;exact kO Z Ly [3700]
 refine F5 Z Ly h (λx3 x4=>kps [(6,pN x4),(5,.vec 6501),(1,.reg 2000 0)] [] [(6501,oV Bv 4 N1 x3 false)] [2000]) (λd x3 x4 f h=>?_);apply kI Z h<;>intro h
 .refine F5 Z Ly h (λx7 x8=>kps [(7,pN x8),(6,pN x4),(5,.vec 6502),(1,.reg 2000 0)] [] [(6502,oV Bv 4 N1 x7 false)] [2000]) (λg x7 x8 b h=>?_);refine kJ Z h (λh=>?_) (λh=>?_)
  .refine kC Z h (Xa Z Y) (λi h=>?_);refine kC Z h (AB1 Z Y) (λc h=>?_);apply kI Z h<;>intro h
   .obtain⟨c34,h⟩:=C0 h;exact b (Vb Sr c34) h (hle:=kl1 2 (P0 N1 x7 (⟨x4,x8,c.1,c.2.1⟩:Br) Ag4))
   exact b Ly h
  exact f Ly h
 obtain rfl:=A6 h;exact kO Z Ly [6501]
def Eu (N:Nat)(b:A8)(a:Int):Option (Z9×Int):= (IV N b a).bind λy1=>ite (y1 != 0) (some ((⟨(Sl.nil:Sl A5),(Sl.nil:Sl Br)⟩:Z9),y1)) ((KJ N b.Yv b.Yu b.Yy a).bind λy2=>(GO N b).bind λy3=>some ((⟨y2.1,y3.1⟩:Z9),0))
theorem Xb {b:A8}{a:Int}{y:Z9×Int}(h:Eu N b a=some y) :Yo S Wp [.p (.agg (B2 b)),pN a] [] (.tup [.p (.agg (Dv y.1)),pN y.2]) ([]) []:=by
 unfold Eu at h;refine A1 Z func25 ?_;refine kC Z h (AB2 Z Y) (λy1 h=>?_);apply kI Z h<;>intro h
 .obtain rfl:=A6 h;exact J8 Z Ly ⟨[(5,pN y1),(4,.reg 5000 0)],[(5000,.cells [.p (vSl 4 B9 (Sl.nil:Sl A5)),.p (vSl 4 N1 (Sl.nil:Sl Br))])]⟩ [] ⟨rfl,rfl,rfl⟩
 refine kC Z h (Bj9 Z Y) (λy2 h=>?_);refine kC Z h (AB3 Z Y) (λy3 h=>?_);obtain rfl:=A6 h;exact J8 Z Ly ⟨[(5,pN 0),(4,.reg 5000 0)],[(5000,.cells [.p (vSl 4 B9 y2.1),.p (vSl 4 N1 y3.1)])]⟩ [] ⟨rfl,rfl,rfl⟩
def FV (N:Nat)(a:Z9)(b:Z9):Option Bool:= ite (((a.Bad.n:Int) != (b.Bad.n:Int))||((a.Yw.n:Int) != (b.Yw.n:Int))) (some false) (N3 N (λc (x1:Int)=>ite (decide (x1<(a.Bad.n:Int))) (ite (((0:Int)<=x1/\x1<(a.Bad.n:Int))/\((0:Int)<=x1/\x1<(b.Bad.n:Int))) (ite ((((a.Bad.g x1.toNat).Z1==(b.Bad.g x1.toNat).Z1)&&(((a.Bad.g x1.toNat).Ys==(b.Bad.g x1.toNat).Ys)&&(((a.Bad.g x1.toNat).Kind==(b.Bad.g x1.toNat).Kind)&&((a.Bad.g x1.toNat).Cost==(b.Bad.g x1.toNat).Cost)))) != true) (some false) (c (wrap .i64 (x1+1)))) none) (N3 N (λd (x2:Int)=>ite (decide (x2<(a.Yw.n:Int))) (ite (((0:Int)<=x2/\x2<(a.Yw.n:Int))/\((0:Int)<=x2/\x2<(b.Yw.n:Int))) (ite ((((a.Yw.g x2.toNat).Node==(b.Yw.g x2.toNat).Node)&&(((a.Yw.g x2.toNat).Place==(b.Yw.g x2.toNat).Place)&&(((a.Yw.g x2.toNat).Z1==(b.Yw.g x2.toNat).Z1)&&((a.Yw.g x2.toNat).Ys==(b.Yw.g x2.toNat).Ys)))) != true) (some false) (d (wrap .i64 (x2+1)))) none) (some true)) 0)) 0)
theorem Xc {b:Z9}{c:Z9}{y:Bool}(h:FV N b c=some y) :Yo S Wm [.p (.agg (Dv b)),.p (.agg (Dv c))] [] (pB y) ([]) []:=by
 unfold FV at h;refine A1 Z func12 ?_;refine C6 Z Ly 3 3000 [vSl 4 B9 b.Bad,vSl 4 N1 b.Yw] ?_;refine C6 Z Ly 4 4000 [vSl 4 B9 c.Bad,vSl 4 N1 c.Yw] ?_;refine kB Z (A3 Z) Ly Ly 8 (.o (.a ((b.Bad.n:Int) != (c.Bad.n:Int))) (.a ((b.Yw.n:Int) != (c.Yw.n:Int)))) ?_;refine Af6 Z h fun h=>?_;refine D6 Z Ly h (λx1=>kps [(5,pN x1)] [3,2] [] []) (λd x1 f h=>?_);apply kI Z h<;>intro h
 .refine B5 Z Ly [1,3,4,6,8,9] ?_;obtain⟨c9,h⟩:=C0 h;refine D1 (Vb (Vb (Vb (Vb c9.1 Pd) c9.2) Pd) (by decide +kernel:QF Tryz.prog K7=true)) ?_;refine Af6 Z h fun h=>?_;exact f Ly h
 refine D6 Z Ly h (λx2=>kps [(6,pN x2)] [3,2] [] []) (λg x2 i h=>?_);apply kI Z h<;>intro h
 .refine B5 Z Ly [1,3,4,6,8,9] ?_;obtain⟨c18,h⟩:=C0 h;refine D1 (Vb (Vb (Vb (Vb c18.1 Pd) c18.2) Pd) (by decide +kernel:QF Tryz.prog Bv=true)) ?_;refine Af6 Z h fun h=>?_;exact i Ly h
 cases h;exact kR Z
def Ev (N:Nat)(b:Sl A5)(a:Int)(c:Int):Option Bool:= N3 N (λd (x1:Int)=>ite (decide (x1<(b.n:Int))) (ite ((0:Int)<=x1/\x1<(b.n:Int)) (ite (((b.g x1.toNat).Z1==a)=true->((0:Int)<=x1/\x1<(b.n:Int))) (ite (((b.g x1.toNat).Z1==a)&&((b.g x1.toNat).Ys==c)) (some true) (d (wrap .i64 (x1+1)))) none) none) (some false)) 0
theorem TQ {d:Sl A5}{b:Int}{c:Int}{y:Bool}(h:Ev N d b c=some y) :Yo S Su [.p (vSl 4 B9 d),pN b,pN c] [] (pB y) ([]) []:=by
 unfold Ev at h;refine A1 Z func34 ?_;refine D6 Z Ly h (λx1=>kps [(7,pN x1)] [2,1,0] [] []) (λf x1 i h=>?_);apply kI Z h<;>intro h
 .obtain⟨c10,h⟩:=C0 h;obtain⟨c11,h⟩:=C0 h;refine kB Z (A3 Z) c10 c11 8 (.n (.a ((d.g x1.toNat).Z1==b)) (.a ((d.g x1.toNat).Ys==c))) ?_;refine Af6 Z h fun h=>?_;exact i Ly h
 cases h;exact kR Z
def Fh (N:Nat)(b:A8)(a:Int)(c:Z9):Option (Bool×Int):= (Eu N b a).bind λy1=>ite (y1.2 != 0) (some (false,y1.2)) ((FV N c y1.1).bind λy2=>some (y2,0))
theorem Al8 {b:A8}{a:Int}{c:Z9}{y:Bool×Int}(h:Fh N b a c=some y) :Yo S PQ [.p (.agg (B2 b)),pN a,.p (.agg (Dv c))] [] (.tup [pB y.1,pN y.2]) ([]) []:=by
 unfold Fh at h;refine A1 Z func7 ?_;refine kC Z h (Xb Z Y) (λy1 h=>?_);refine Af6 Z h fun h=>?_;refine kC Z h (Xc Z Y) (λy2 h=>?_);cases h;exact kR Z
def Ll (N:Nat)(c:A8)(a:Int)(b:Int):Option Bool:= ite ((decide (0<=a))=true->((decide (a<(c.Yy.n:Int)))=true->((decide (0<=b))=true->((0:Int)<=a/\a<(c.Yy.n:Int))))) (some ((((decide (0<=a))&&(decide (a<(c.Yy.n:Int))))&&(decide (0<=b)))&&(decide (b<((c.Yy.g a.toNat).Yz.n:Int))))) none
theorem AX0 {d:A8}{b:Int}{c:Int}{y:Bool}(h:Ll N d b c=some y) :Yo S Wr [.p (.agg (B2 d)),pN b,pN c] [] (pB y) ([]) []:=by unfold Ll at h;refine A1 Z func32 ?_;obtain⟨c1,h⟩:=C0 h;refine kB Z (A3 Z) Ly c1 21 (.n (.n (.n (.a (decide (0<=b))) (.a (decide (b<(d.Yy.n:Int))))) (.a (decide (0<=c)))) (.a (decide (c<((d.Yy.g b.toNat).Yz.n:Int))))) ?_;cases h;exact kR Z
def Ig (N:Nat)(a:A8)(p_x:Br):Option (Bool×Int):= (Da N a).bind λy1=>ite (y1 != 0) (some (false,y1)) ((Dr N a.Yv p_x.Node p_x.Place).bind λy2=>lt (λ(z1:Bool)=>ite z1 (some (false,3)) ((Ag N a y2.1 p_x.Z1 p_x.Ys).bind λy5=>some (y5,0))) λk1=>ite (y2.2 != 0) (k1 true) ((Ll N a p_x.Z1 p_x.Ys).bind λy4=>k1 (!y4)))
theorem AX1 {a:A8}{p_x:Br}{y:Bool×Int}(h:Ig N a p_x=some y) :Yo S Wl [.p (.agg (B2 a)),.p (.agg (N1 p_x))] [] (.tup [pB y.1,pN y.2]) ([]) []:=by
 unfold Ig at h;refine A1 Z func9 ?_;refine kC Z h (MT Z Y) (λy1 h=>?_);refine Af6 Z h fun h=>?_;refine kC Z h (Xa Z Y) (λy2 h=>?_);refine GT Z Ly (A3 Z) h 0 (λz1=>kps [(34,pB z1)] [7,3,2] [] [8000,4000,3000]) (λk1 b h=>?_) (λz1 h=>?_)
 .refine kG Z h (λh=>?_) (λh=>?_)
  .exact b Ly h
  refine kC Z h (AX0 Z Y) (λy4 h=>?_);exact b Ly h
 refine Af6 Z h fun h=>?_;refine kC Z h (Oz Z Y) (λy5 h=>?_);cases h;exact kR Z
def Db (N:Nat)(d:A8)(a:Z9):Option (Bool×Int):= (Eu N d 0).bind λy1=>ite (y1.2 != 0) (some (false,y1.2)) (N3 N (λb (x1:Int)=>ite (decide (x1<(y1.1.Bad.n:Int))) (ite (((0:Int)<=x1/\x1<(y1.1.Bad.n:Int))/\((0:Int)<=x1/\x1<(y1.1.Bad.n:Int))) ((Ev N a.Bad (y1.1.Bad.g x1.toNat).Z1 (y1.1.Bad.g x1.toNat).Ys).bind λy4=>ite (!y4) (some (false,0)) (b (wrap .i64 (x1+1)))) none) (N3 N (λc (x2:Int)=>ite (decide (x2<(a.Bad.n:Int))) (ite (((0:Int)<=x2/\x2<(a.Bad.n:Int))/\((0:Int)<=x2/\x2<(a.Bad.n:Int))) ((Ev N y1.1.Bad (a.Bad.g x2.toNat).Z1 (a.Bad.g x2.toNat).Ys).bind λy7=>ite (!y7) (some (false,0)) (c (wrap .i64 (x2+1)))) none) (some (true,0))) 0)) 0)
theorem AB4 {b:A8}{a:Z9}{y:Bool×Int}(h:Db N b a=some y) :Yo S Sn [.p (.agg (B2 b)),.p (.agg (Dv a))] [] (.tup [pB y.1,pN y.2]) ([]) []:=by
 unfold Db at h;refine A1 Z func11 ?_;refine C6 Z Ly 3 3000 (B2 b) ?_;refine C6 Z Ly 4 4000 [vSl 4 B9 a.Bad,vSl 4 N1 a.Yw] ?_;refine kD Z h (by decide:(8:Nat)<=8) (Xb Z Y) (λy1 h=>?_);refine C6 Z Ly 7 7000 [vSl 4 B9 y1.1.Bad,vSl 4 N1 y1.1.Yw] ?_;refine Af6 Z h fun h=>?_;refine D6 Z Ly h (λx1=>kps [(8,pN x1)] [6,3] [] []) (λc x1 d h=>?_);apply kI Z h<;>intro h
 .refine B5 Z Ly [1,3,5,7,9,11,13,14] ?_;obtain⟨c9,h⟩:=C0 h;refine dP h c9 (TQ Z Y) (λy4 h=>?_);refine D1 Ly ?_;refine Af6 Z h fun h=>?_;exact d Ly h
 refine D6 Z Ly h (λx2=>kps [(9,pN x2)] [6,3] [] []) (λf x2 g h=>?_);apply kI Z h<;>intro h
 .refine B5 Z Ly [1,3,5,7,9,11,13,14] ?_;obtain⟨c18,h⟩:=C0 h;refine dP h c18 (TQ Z Y) (λy7 h=>?_);refine D1 Ly ?_;refine Af6 Z h fun h=>?_;exact g Ly h
 cases h;exact kR Z
def BL (N:Nat)(c:A8)(b:Int)(a:Z9)(p_x:Br):Option Bool:= (GG N c).bind λy1=>ite (((!y1)||(decide (300<(a.Bad.n:Int))))||(decide (300<(a.Yw.n:Int)))) ((CX N ).bind λy2=>some y2) (ite ((Va 32 ((Sl.of []:Sl A5).n+a.Bad.n))/\(Va 32 ((Sl.of []:Sl Br).n+a.Yw.n))) ((X3 N c b (⟨(Sl.of []:Sl A5).app a.Bad,(Sl.of []:Sl Br).app a.Yw⟩:Z9)).bind λy3=>(Fh N c b a).bind λy4=>(Dl N c p_x).bind λy5=>(Ig N c p_x).bind λy6=>(W6 N c (⟨(Sl.of []:Sl A5).app a.Bad,(Sl.of []:Sl Br).app a.Yw⟩:Z9)).bind λy7=>(Db N c a).bind λy8=>lt (λ(z1:Bool)=>some z1) λk1=>ite ((y3.1==y4.1) != false) (ite (y3.2==y4.2) (ite ((y5.1==y6.1) != false) (ite (y5.2==y6.2) (ite ((y7.1==y8.1) != false) (ite (y7.2==y8.2) ((FV N (⟨(Sl.of []:Sl A5).app a.Bad,(Sl.of []:Sl Br).app a.Yw⟩:Z9) a).bind λd=>ite d ((CX N ).bind λf=>k1 f) (k1 false)) (k1 false)) (k1 false)) (k1 false)) (k1 false)) (k1 false)) (k1 false)) none)
theorem OK {N:Nat}{j:A8}{d:Int}{b:Z9}{p_x:Br}{y:Bool}(h:BL N j d b p_x=some y) :Yo S DZ [.p (.agg (B2 j)),pN d,.p (.agg (Dv b)),.p (.agg (N1 p_x))] [] (pB y) ([]) []:=by
 unfold BL at h;refine A1 Z Tryz.func3 ?_;refine C6 Z Ly 6 5000 (B2 j) ?_;refine C6 Z Ly 7 7000 [vSl 4 B9 b.Bad,vSl 4 N1 b.Yw] ?_;refine C6 Z Ly 8 8000 (N1 p_x) ?_;refine kD Z h (by decide:(8:Nat)<=8) (AA1 Z Y) (λy1 h=>?_);refine kB Z (A3 Z) Ly Ly 11 (.o (.o (.a (!y1)) (.a (decide (300<(b.Bad.n:Int))))) (.a (decide (300<(b.Yw.n:Int))))) ?_;apply kI Z h<;>intro h
 .refine kC Z h (TF Z Y) (λy2 h=>?_);cases h;exact kR Z
 refine G6 Z Ly [(0,.a [39000]),(2,.n),(3,.a [42000,39000]),(4,.a [43000]),(6,.n),(7,.a [46000,43000]),(9,.a [10000]),(10,.a [10000])] ?_;obtain⟨c2,h⟩:=C0 h;refine D1 (Vb (Vb (Vb Sr c2.1) Sr) c2.2) ?_;refine I7 Z (by decide:(8:Nat)<=8) 50 (kps [] [49,48,9,7,6,4,1] [(10000,.cells [.p (vSl 4 B9 ((Sl.of []:Sl A5).app b.Bad)),.p (vSl 4 N1 ((Sl.of []:Sl Br).app b.Yw))])] []) ?_ (hle:=klR [(6,.fn (0+b.Bad.n) ((Sl.of []:Sl A5).app b.Bad).n (Du 0 (G7 Ag4 []) (λi=>B9 (b.Bad.g i))) (λi=>B9 (((Sl.of []:Sl A5).app b.Bad).g i))),(7,.fn (0+b.Yw.n) ((Sl.of []:Sl Br).app b.Yw).n (Du 0 (G7 Ag4 []) (λi=>N1 (b.Yw.g i))) (λi=>N1 (((Sl.of []:Sl Br).app b.Yw).g i)))] (al1 ⟨rfl,Ad3 (c:=B9) (v:=(Sl.of []:Sl A5)) (w:=b.Bad) (λi l=>Kf l (by omega)) rfl same rfl⟩ (al1 ⟨rfl,Ad3 (c:=N1) (v:=(Sl.of []:Sl Br)) (w:=b.Yw) (λi l=>Kf l (by omega)) rfl same rfl⟩ al0)));refine C6 Z Ly 50 10000 [vSl 4 B9 ((Sl.of []:Sl A5).app b.Bad),vSl 4 N1 ((Sl.of []:Sl Br).app b.Yw)] ?_;refine kD Z h Pb (Hw Z Y) (λy3 h=>?_);refine kD Z h (Vb (by decide:(8:Nat)<=8) Pb) (Al8 Z Y) (λy4 h=>?_);refine kD Z h (Vb (by decide:(8:Nat)<=8) Pd) (Qw Z Y) (λy5 h=>?_);refine kD Z h (Vb (by decide:(8:Nat)<=8) Pd) (AX1 Z Y) (λy6 h=>?_);refine kD Z h (Vb (by decide:(8:Nat)<=8) Pb) (Ot Z Y) (λy7 h=>?_);refine kD Z h (Vb (by decide:(8:Nat)<=8) Pb) (AB4 Z Y) (λy8 h=>?_);refine GT Z Ly (A3 Z) h 0 (λz1 _=>⟨[(8,pB z1)],[]⟩) (λk1 f h=>?_) (λz1 h=>?_)
 .refine kG Z h (λh=>?_) (λh=>?_)
  .refine kG Z h (λh=>?_) (λh=>?_)
   .refine kG Z h (λh=>?_) (λh=>?_)
    .refine kG Z h (λh=>?_) (λh=>?_)
     .refine kG Z h (λh=>?_) (λh=>?_)
      .refine kG Z h (λh=>?_) (λh=>?_)
       .refine kD Z h (Vb Pb Pb) (Xc Z Y) (λm h=>?_);refine kG Z h (λh=>?_) (λh=>?_)
        .refine kC Z h (TF Z Y) (λq h=>?_);exact f Ly h
        exact f Ly h
       exact f Ly h
      exact f Ly h
     exact f Ly h
    exact f Ly h
   exact f Ly h
  exact f Ly h
 cases h;exact kR Z
omit Z Y
def AX2 {A R:Type}{body:(A->Option R)->A->Option R}(I:Nat->A->Prop)(n:Nat)(M3:R->Prop)
 (b:∀self i a,i<=n->I i a->(i<n->∀a',I (i+1) a' -> ∃r,self a' = some r/\M3 r)->∃r,body self a=some r/\M3 r) :
 ∀(N i:Nat) (a:A),i<=n->I i a->n-i<N->∃r,N3 N body a=some r/\M3 r
 |0,_,_,_,_,h=>by omega
 |N+1,i,a,hi,hI,h=>by rw[U2];exact b _ i a hi hI λc a' d=>AX2 I n M3 b N (i+1) a' c d (by omega)
def X6 {A R:Type}{body:(A->Option R)->A->Option R}(I:Nat->A->Prop)(n:Nat)(M3:R->Prop){N:Nat}(c:n<N){a:A}(d:I 0 a)
 (b:∀self i a,i<=n->I i a->(i<n->∀a',I (i+1) a' -> ∃r,self a' = some r/\M3 r)->∃r,body self a=some r/\M3 r):∃r,N3 N body a=some r/\M3 r:=
 AX2 I n M3 b N 0 a (Cr0 _) d c
def S3 {A B R:Type}{body:(A->B->Option R)->A->B->Option R}(I:Nat->A->B->Prop)(n:Nat)(M3:R->Prop){N:Nat}(g:n<N){a:A}{b:B}(j:I 0 a b)
 (d:∀c i a b,i<=n->I i a b->(i<n->∀a' b',I (i+1) a' b' -> ∃r,c a' b' = some r/\M3 r)->∃r,body c a b=some r/\M3 r):∃r,V7 N body a b=some r/\M3 r:=
 AX2 (λi x=>I i x.1 x.2) n M3 (λc i x l m h=>d (λa b=>c (a,b)) i x.1 x.2 l m λhl a' b' f=>h hl (a',b') f) N 0 (a,b) (Cr0 _) j g
def Al9 {A B C R:Type}{body:(A->B->C->Option R)->A->B->C->Option R}(I:Nat->A->B->C->Prop)(n:Nat)(M3:R->Prop){N:Nat}(j:n<N){a:A}{b:B}{c:C}(l:I 0 a b c)
 (f:∀d i a b c,i<=n->I i a b c->(i<n->∀a' b' c',I (i+1) a' b' c' -> ∃r,d a' b' c' = some r/\M3 r)->∃r,body d a b c=some r/\M3 r):∃r,Bf3 N body a b c=some r/\M3 r:=
 AX2 (λi x=>I i x.1 x.2.1 x.2.2) n M3 (λd i x m o h=>f (λa b c=>d (a,b,c)) i x.1 x.2.1 x.2.2 m o λhl a' b' c' g=>h hl (a',b',c') g) N 0 (a,b,c) (Cr0 _) l j
def loop4 {A B C D R:Type}{body:(A->B->C->D->Option R)->A->B->C->D->Option R}(I:Nat->A->B->C->D->Prop)(n:Nat)(M3:R->Prop){N:Nat}(l:n<N){a:A}{b:B}{c:C}{d:D}(m:I 0 a b c d)
 (g:∀f i a b c d,i<=n->I i a b c d->(i<n->∀a' b' c' d',I (i+1) a' b' c' d' -> ∃r,f a' b' c' d' = some r/\M3 r)->∃r,body f a b c d=some r/\M3 r):∃r,Ba4 N body a b c d=some r/\M3 r:=
 AX2 (λi x=>I i x.1 x.2.1 x.2.2.1 x.2.2.2) n M3 (λf i x o q h=>g (λa b c d=>f (a,b,c,d)) i x.1 x.2.1 x.2.2.1 x.2.2.2 o q λhl a' b' c' d' j=>h hl (a',b',c',d') j) N 0 (a,b,c,d) (Cr0 _) m l
def B4 {X R:Type}{Q:R->Prop}{o:Option X}{f:X->Option R}{x:X}(h:o=some x)(a:∃r,f x=some r/\Q r):∃r,o.bind f=some r/\Q r:=by grind
def ltX {R A:Type}{Q:R->Prop}{k:A->Option R}{f:(A->Option R)->Option R}(h:∃r,f k=some r/\Q r):∃r,lt k f=some r/\Q r:=h
def ifT {R:Type}{Q:R->Prop}{p:Prop}[Decidable p]{a b:Option R}(h:p)(c:∃r,a=some r/\Q r):∃r,(ite p a b)=some r/\Q r:=by rw[Kb h];omega
def Bu{R:Type}{Q:R->Prop}{p:Prop}[Decidable p]{a b:Option R}(h2:∃ r,a=some r/\Q r)(h:p:=by grind):∃ r,(ite p a b)=some r/\Q r:=ifT h h2
def Bt{R:Type}{Q:R->Prop}{p:Prop}[Decidable p]{a b:Option R}(h2:∃ r,a=some r/\Q r)(h:p:=by decide):∃ r,(ite p a b)=some r/\Q r:=ifT h h2
def Ak{R:Type}{Q:R->Prop}{p:Prop}[Decidable p]{a b:Option R}(h2:∃ r,a=some r/\Q r)(h:p:=by simp):∃ r,(ite p a b)=some r/\Q r:=ifT h h2
def Aj{R:Type}{Q:R->Prop}{p:Prop}[Decidable p]{a b:Option R}(h2:∃ r,a=some r/\Q r)(h:p:=by simp;omega):∃ r,(ite p a b)=some r/\Q r:=ifT h h2
def Ai{R:Type}{Q:R->Prop}{p:Prop}[Decidable p]{a b:Option R}(h2:∃ r,a=some r/\Q r)(h:p:=by omega):∃ r,(ite p a b)=some r/\Q r:=ifT h h2
def ifF {R:Type}{Q:R->Prop}{p:Prop}[Decidable p]{a b:Option R}(h:¬p)(c:∃r,b=some r/\Q r):∃r,(ite p a b)=some r/\Q r:=by rw[Kd h];omega
def Fv{R:Type}{Q:R->Prop}{p:Prop}[Decidable p]{a b:Option R}(h2:∃ r,b=some r/\Q r)(h:¬p:=by grind):∃ r,(ite p a b)=some r/\Q r:=ifF h h2
def Fn{R:Type}{Q:R->Prop}{p:Prop}[Decidable p]{a b:Option R}(h2:∃ r,b=some r/\Q r)(h:¬p:=by decide):∃ r,(ite p a b)=some r/\Q r:=ifF h h2
def Eh{R:Type}{Q:R->Prop}{p:Prop}[Decidable p]{a b:Option R}(h2:∃ r,b=some r/\Q r)(h:¬p:=by simp):∃ r,(ite p a b)=some r/\Q r:=ifF h h2
def Ci{R:Type}{Q:R->Prop}{p:Prop}[Decidable p]{a b:Option R}(h2:∃ r,b=some r/\Q r)(h:¬p:=by simp;omega):∃ r,(ite p a b)=some r/\Q r:=ifF h h2
def Cg{R:Type}{Q:R->Prop}{p:Prop}[Decidable p]{a b:Option R}(h2:∃ r,b=some r/\Q r)(h:¬p:=by omega):∃ r,(ite p a b)=some r/\Q r:=ifF h h2
theorem F0 {n:Int}(h : -9223372036854775808<=n)(h' : n<=9223372036854775807):IntKind.i64.wrap n=n:=by
 by_cases a:0<=n
 .have h1:n % (2 ^ 64:Int)=n:=(by omega);unfold wrap;simp only[IntKind.bits,IntKind.signed,h1];rw[Kd]
  grind
 have h1:n % (2 ^ 64:Int)=n+2 ^ 64:=by rw[<- Int.add_emod_right];omega
 unfold wrap;simp only[IntKind.bits,IntKind.signed,h1];rw[Kb]
 all_goals grind
def Y0 {n:Int}(h : -9223372036854775808<=n:=by omega)(k : n<=9223372036854775807:=by omega) :IntKind.i64.wrap n=n:=F0 h k
def B6 {i:Nat}(h:i<1000000000000000000):IntKind.i64.wrap ((i:Int)+1)=((i+1:Nat):Int):=by rw[Y0];rfl
def Fy{i:Nat}(h:i<1000000000000000000:=by omega):IntKind.i64.wrap ((i:Int)+1)=((i+1:Nat):Int):=B6 h
def Cd4 {i:Nat}(a:1<=i)(h:i<1000000000000000000):IntKind.i64.wrap ((i:Int)-1)=((i-1:Nat):Int):=by rw[Y0];omega
def GX {i j:Nat}(h:i+j<1000000000000000000):IntKind.i64.wrap ((i:Int)+(j:Int))=((i+j:Nat):Int):=by rw[Y0];rfl
def okP:Nat->Pat->Prop
 |0,_=>False
 |d+1,p=>p.L.n<=40/\(p.Kind=5->p.L.n=1/\0<=p.Min/\p.Min<=32/\(p.Max = -1 \/ (p.Min<=p.Max/\p.Max<=32)))/\∀i,i<p.L.n->okP d (p.L.g i)
abbrev sOf (x y:BitVec 32):Tr:=⟨(x.toNat:Int),(y.toNat:Int)⟩
def okS (s:Tr):Prop:=∃p m:BitVec 32,s=sOf p m
def eq0 (x:BitVec 32):((x.toNat:Int)==0)=decide (x=0#32):=by
 rw[Cj9];simp only[beq_iff_eq,Lx];constructor
 .intro h;apply Cl2;grind
 grind
def z32 (x:BitVec 32):x=0#32 ↔ ∀i,i<32->x.getLsbD i=false:=by
 grind
def Xd (x:BitVec 32)(i:Nat):(F3 .and .u32 (shI .shr .u32 (x.toNat:Int) (i:Int)) 1==1)=x.getLsbD i:=by
 rw[Bf1,show (1:Int)=((1#32).toNat:Int) from rfl,Ed];have h:(x >>> i &&& 1#32)=(BitVec.ofBool (x.getLsbD i)).setWidth 32:=by
  grind
 rw[h];cases x.getLsbD i<;>rfl
def KK (x:BitVec 32):x.toNat<16777216 ↔ ∀i,24<=i->i<32->x.getLsbD i=false:=by
 constructor
 .intro h i a b;exact Cy1 (Ck0 h (Cr5 (n:=2) (i:=24) (by omega) a))
 intro h;refine Nat.lt_pow_two_of_testBit (n:=24) _ λi a=>?_;by_cases c:i<32
 .grind
 exact Cy1 (Ck0 x.isLt (Cr5 (by omega) (by omega)))
def vB (p m:BitVec 32):Bool:=decide (∀i:Fin 32,¬(p.getLsbD i=true/\m.getLsbD i=true)/\(24<=i.1->p.getLsbD i=false/\m.getLsbD i=false))
theorem Ju (p m:BitVec 32):vB p m=true ↔ ∀i,i<32->¬(p.getLsbD i=true/\m.getLsbD i=true)/\(24<=i->p.getLsbD i=false/\m.getLsbD i=false):=by rw[vB,Lx];exact⟨λh i a=>h ⟨i,a⟩,λh i=>h i.1 i.2⟩
def AJ9 (p m:BitVec 32):p &&& m=0#32 ↔ ∀i,i<32->¬(p.getLsbD i=true/\m.getLsbD i=true):=by
 rw[z32]
 grind
def Cd5 (p m:BitVec 32):vB p m=true↔p &&& m=0#32/\(p ||| m).toNat<16777216:=by
 rw[Ju,AJ9,KK]
 grind
def Bk0 (p m:BitVec 32):vB p m=true↔p &&& m=0#32/\p.toNat<16777216/\m.toNat<16777216:=by
 rw[Ju,AJ9,KK,KK]
 grind
theorem CB (p m:BitVec 32):H1 N (sOf p m)=some (vB p m):=by
 unfold H1;rw[Ed,Jf,eq0];congr 1;rw[Cj9,Cd5]
 grind
def shr24 (x:BitVec 32):(shI .shr .u32 (x.toNat:Int) 24==0)=decide (x.toNat<16777216):=by
 rw[show (24:Int)=((24:Nat):Int) from rfl,Bf1,Cj9];simp only[beq_iff_eq,Lx,Cr6,Cr3]
 have:=Cz3 (a:=x.toNat) (b:=2 ^ 24)
 omega
def Am0 (p m:BitVec 32):Dk N (sOf p m)=some (vB p m):=by
 unfold Dk;rw[Ed,Jf,eq0,shr24];congr 1;rw[Cj9,Cd5]
 grind
theorem Am1 (p m:BitVec 32):T7 N (sOf p m)=some (vB p m):=Am0 (N:=N) p m
def Xe (p m:BitVec 32):X4 N (sOf p m)=some (vB p m):=by
 unfold X4;rw[Ed,eq0];congr 1;rw[Cj9,Bk0]
 grind
theorem AD (p m:BitVec 32)(b:1000<=N):G5 N (sOf p m)=some (vB p m):=by
 suffices h:∃r,G5 N (sOf p m)=some r/\r=vB p m by grind
 unfold G5;refine X6 (λi x1=>x1=(i:Int)/\∀j,j<i->¬(p.getLsbD j=true/\m.getLsbD j=true)/\(24<=j->p.getLsbD j=false/\m.getLsbD j=false)) 32 _ (by omega) (by grind) ?_;rintro a i x1 c ⟨rfl,h1⟩ hs;by_cases hl:i<32
 .refine Bu (Ai ?_);simp only[Xd];have e24:decide ((24:Int)<=(i:Int))=decide (24<=i):=(by grind);rw[e24];by_cases hb:¬(p.getLsbD i=true/\m.getLsbD i=true)/\(24<=i->p.getLsbD i=false/\m.getLsbD i=false)
  .refine ifF ?_ (hs hl _ ⟨Fy,λj d=>?_⟩)
   all_goals grind
  refine ifT ?_ ⟨false,rfl,?_⟩
  .grind
  symm;rw[<- Cx8,Ju];grind
 refine Fv ⟨true,rfl,?_⟩
 grind[Ju]
def vS (s:Tr):Prop:=∃p m:BitVec 32,s=sOf p m/\vB p m=true
def TR (p:Pat):Prop:= (0<=p.Kind/\p.Kind<=6)/\(p.Kind≠1->(p.Is.Plus=0/\p.Is.Minus=0)/\p.Not=false)/\(p.Kind≠3->p.Kind≠4->p.Kind≠5->p.L.n=0)/\(p.Kind≠5->p.Min=0/\p.Max=0) /\ (p.Kind=5->p.L.n=1/\0<=p.Min/\p.Min<=32/\(p.Max = -1 \/ (p.Min<=p.Max/\p.Max<=32)))/\vS p.Is
theorem AB5 {s:Tr}{p m:BitVec 32}(h:s=sOf p m):vS s↔vB p m=true:=by
 constructor
 .rintro⟨q,r,e,a⟩;rw[h]at e;have e1:(p.toNat:Int)=q.toNat:=congrArg Tr.Plus e;have e2:(m.toNat:Int)=r.toNat:=(by grind);rw[Cl2 (show p.toNat=q.toNat by omega),Cl2 (show m.toNat=r.toNat by omega)];omega
 exact λa=>⟨p,m,h,a⟩
def okPS:Pat->Prop
 |.nil=>True
 |.mk _ is _ _ _ n g=>okS is/\∀i,i<n->okPS (g i)
def okPS.is {p:Pat}(h:okPS p):okS p.Is:=by
 cases p with
 |nil=>exact⟨0#32,0#32,rfl⟩
 |mk _ is _ _ _ n g=>exact h.1
def okPS.L {p:Pat}(h:okPS p){i:Nat}(a:i<p.L.n):okPS (p.L.g i):=by
 cases p with
 |nil=>exact Kf a (by show ¬i<0;omega)
 |mk _ is _ _ _ n g=>exact h.2 i a
def chk:Nat->List Pat->Prop
 |0,l=>l=[]
 |_+1,[]=>True
 |k+1,p::l=>TR p/\chk k (p.L.toList++l)
theorem Bk1:∀k,chk k []
 |0=>rfl
 |_+1=>trivial
def TT:∀(k:Nat) (l:List Pat),chk k l->l.length<=k
 |0,l,h=>by rw[show l=[] from h];grind
 |k+1,[],_=>Cr0 _
 |k+1,p::l,⟨_,h⟩=>by
  have:=TT k _ h
  rw[Ck6]at this
  grind
theorem AK0:∀(d:Nat) (p:Pat),okP d p->okP (d+1) p
 |0,_,h=>h.elim
 |d+1,p,⟨h1,h2,h3⟩=>⟨h1,h2,λi a=>AK0 d _ (h3 i a)⟩
def Po {α : Type}{s:Sl α}{i:Nat}(h:i<s.n):s.g i∈s.toList:=Cp4.2 (by grind)
def Z0 {α : Type}(s:Sl α):s.toList.length=s.n:=by simp[Sl.toList]
def Am2:∀(k:Nat) (l:List Pat),k<=40->chk k l->∀p∈l,okP k p
 |0,l,_,h,p,hp=>by rw[show l=[] from h]at hp;grind
 |k+1,[],_,_,p,hp=>by grind
 |k+1,q::l,hk,⟨hn,h⟩,p,hp=>by
  have ih:=Am2 k _ (by omega) h;rcases Cm6.1 hp with rfl|hp
  .have hl:=TT k _ h;rw[Ck6,Z0]at hl;exact⟨by omega,λa=>hn.2.2.2.2.1 a,λi b=>ih _ (Cm1 _ (Po b))⟩
  grind[AK0,List.mem_append_right]
def BB1 {p:Pat}(hp:okS p.Is):∃e,HU N p=some e/\(e=0↔TR p):=by
 obtain⟨a,b,c⟩:=hp;have d:=AB5 c;unfold HU TR;by_cases h1:0<=p.Kind/\p.Kind<=6
 case neg=>exact Bu (by grind)
 refine Fv ?_;have e0:((p.Is.Plus==0)&&(p.Is.Minus==0))=decide (p.Is.Plus=0/\p.Is.Minus=0):=by rw[Cj9];simp
 rw[e0];by_cases i:p.Kind≠1->(p.Is.Plus=0/\p.Is.Minus=0)/\p.Not=false
 case neg=>
  refine ifT ?_ (by grind)
  grind
 refine ifF ?_ (ltX ?_)
 .grind
 have rest:(p.Kind≠3->p.Kind≠4->p.Kind≠5->p.L.n=0)->∃e,(if ((p.Kind != 5)&&((p.Min != 0)||(p.Max != 0))) then some (2:Int)else
  lt (λ(z2:Bool)=>ite z2 (some 2) ((X4 N p.Is).bind λy1=>ite (!y1) (some 14) (some 0))) λk2=>
   ite (p.Kind==5) (ite (((p.L.n:Nat):Int) != 1) (k2 true) (ite (decide (p.Min<0)) (k2 true) (ite (decide (32<p.Min)) (k2 true) (ite (p.Max != (-1)) (ite (decide (p.Max<p.Min)) (k2 true) (k2 (decide (32<p.Max)))) (k2 false))))) (k2 false))=some e /\
  (e=0↔(0<=p.Kind/\p.Kind<=6)/\(p.Kind≠1->(p.Is.Plus=0/\p.Is.Minus=0)/\p.Not=false)/\(p.Kind≠3->p.Kind≠4->p.Kind≠5->p.L.n=0)/\(p.Kind≠5->p.Min=0/\p.Max=0) /\
   (p.Kind=5->p.L.n=1/\0<=p.Min/\p.Min<=32/\(p.Max = -1 \/ (p.Min<=p.Max/\p.Max<=32)))/\vS p.Is):=by
  intro j;by_cases f:p.Kind≠5->p.Min=0/\p.Max=0
  case neg=>
   refine ifT ?_ (by grind);rw[Classical.not_imp]at f
   grind
  refine ifF ?_ (ltX ?_)
  .grind
  have last:(p.Kind=5->p.L.n=1/\0<=p.Min/\p.Min<=32/\(p.Max = -1 \/ (p.Min<=p.Max/\p.Max<=32)))->∃e,(ite false (some (2:Int)) ((X4 N p.Is).bind λy1=>ite (!y1) (some 14) (some 0)))=some e /\
   (e=0↔(0<=p.Kind/\p.Kind<=6)/\(p.Kind≠1->(p.Is.Plus=0/\p.Is.Minus=0)/\p.Not=false)/\(p.Kind≠3->p.Kind≠4->p.Kind≠5->p.L.n=0)/\(p.Kind≠5->p.Min=0/\p.Max=0) /\
    (p.Kind=5->p.L.n=1/\0<=p.Min/\p.Min<=32/\(p.Max = -1 \/ (p.Min<=p.Max/\p.Max<=32)))/\vS p.Is):=by
   intro l;refine Eh ?_;rw[d,c,Xe];refine B4 rfl ?_;cases g:vB a b
   all_goals simp_all
  have bad:¬(p.Kind=5->p.L.n=1/\0<=p.Min/\p.Min<=32/\(p.Max = -1 \/ (p.Min<=p.Max/\p.Max<=32)))->∃e,(ite true (some (2:Int)) ((X4 N p.Is).bind λy1=>ite (!y1) (some 14) (some 0)))=some e /\
   (e=0↔(0<=p.Kind/\p.Kind<=6)/\(p.Kind≠1->(p.Is.Plus=0/\p.Is.Minus=0)/\p.Not=false)/\(p.Kind≠3->p.Kind≠4->p.Kind≠5->p.L.n=0)/\(p.Kind≠5->p.Min=0/\p.Max=0) /\
    (p.Kind=5->p.L.n=1/\0<=p.Min/\p.Min<=32/\(p.Max = -1 \/ (p.Min<=p.Max/\p.Max<=32)))/\vS p.Is):=by grind
  by_cases k5:p.Kind=5
  .refine Bu ?_;by_cases g1:p.L.n=1
   case neg=>exact Bu (by grind)
   refine Fv ?_;by_cases g2:p.Min<0
   .exact Bu (by grind)
   refine Fv ?_;by_cases g3:32<p.Min
   .exact Bu (by grind)
   refine Fv ?_;by_cases g4:p.Max = -1
   .grind
   refine Bu ?_;by_cases g5:p.Max<p.Min
   .exact Bu (by grind)
   refine Fv ?_;by_cases g6:32<p.Max
   all_goals simp_all[decide_eq_true,decide_eq_false]
  grind
 by_cases k3:p.Kind=3
 .grind
 refine Bu ?_;by_cases k4:p.Kind=4
 .grind
 refine Bu ?_;by_cases k5:p.Kind=5
 .grind
 refine Bu ?_;by_cases hn:p.L.n=0
 .grind
 exact Bu (by grind)
def IW {α : Type}(s:Sl α){i:Nat}(h:i<s.n):s.toList.drop i=s.g i::s.toList.drop (i+1):=by
 have hl:i<s.toList.length:=by rw[Z0];exact h
 rw[Cr1 hl];simp[Sl.toList]
def KL {α : Type}(s:Sl α):s.toList.drop s.n=[]:=Cq1 (by rw[Z0];omega)
def Bk2 {N:Nat}(o:1000<=N):∀(d:Nat),d<=40->∀(p:Pat),okPS p->∀M,N+d+1<=M->∃r,FP M p ((40-d:Nat):Int)=some r /\
 ∃k:Nat,r.1=(k:Int)/\40-d<=k/\k<=40/\(r.2=0->40-d<k/\∀l,chk d (p::l)↔chk (40-k) l)/\(r.2≠0->∀l,¬chk d (p::l))
 |d,hd,p,hp,0,hM=>by omega
 |0,hd,p,hp,M+1,hM=>by show ∃r,Bj (FP M) M p _=some r/\_;unfold Bj;exact Ak ⟨_,rfl,40,rfl,by omega,by omega,by omega,λ_ l h=>by cases h⟩
 |d+1,hd,p,hp,M+1,hM=>by
  show ∃r,Bj (FP M) M p _=some r/\_;unfold Bj;refine Fv ?_;obtain⟨e,q,hn⟩:=BB1 (N:=M) hp.is;refine B4 q ?_;by_cases b:e=0
  case neg=>exact Bu ⟨_,rfl,40-(d+1),rfl,Ci9 _,by omega,λh=>Kf h b,λ_ l h=>b (hn.2 h.1)⟩
  refine Fv ?_;have a:=hn.1 b;rw[Fy];refine S3 (λi x1 x2=>x2=(i:Int)/\∃k:Nat,x1=(k:Int)/\40-(d+1)+1+i<=k/\k<=40/\i<=p.L.n/\∀l,chk (d+1) (p::l)↔chk (40-k) (p.L.toList.drop i++l)) 41 _ (by omega)
   ⟨rfl,40-(d+1)+1,rfl,by omega,by omega,by omega,λl=>by rw[show 40-(40-(d+1)+1)=d by omega];exact⟨λh=>h.2,λh=>⟨a,h⟩⟩⟩ ?_
  rintro f i x1 x2 t ⟨rfl,k,rfl,h1,s,u,c⟩ hs;by_cases hl:i<p.L.n
  .refine Bu (Ai ?_);obtain⟨r,j,k',r1,r2,r3,r4,r5⟩:=Bk2 o (40-k) (by omega) (p.L.g i) (hp.L hl) M (by omega);rw[show ((40-(40-k):Nat):Int)=(k:Int) by omega]at j;refine B4 (by rw[Vc];exact j) ?_;by_cases m:r.2=0
   .refine Fv (hs (by omega) _ _ ⟨Fy,k',r1,by have:=(r4 m).1;omega,r3,by omega,λl=>?_⟩);rw[c,IW _ hl,Cj3]
    grind
   refine Bu ⟨_,rfl,k',r1,by omega,r3,λh=>Kf h m,λ_ l hc=>?_⟩;rw[c,IW _ hl,Cj3]at hc
   grind
  obtain rfl:i=p.L.n:=by omega
  refine Eh ⟨_,rfl,k,rfl,by omega,s,λ_=>⟨by omega,λl=>?_⟩,λh=>Kf rfl h⟩;rw[c,KL];rfl
def TU (b:2000<=N){p:Pat}(hp:okPS p):∃e,CY N p=some e/\(e=0↔chk 40 [p]):=by
 obtain⟨r,a,k,h1,c,d,f,g⟩:=Bk2 (N:=1500) (by omega) 40 (Ci9 _) p hp N (by omega);unfold CY;refine B4 a ⟨_,rfl,λh=>?_,λh=>?_⟩
 all_goals grind[Bk1,Kf]
def AX3 {T A R:Type}{body:(A->Option R)->T->A->Option R}{k:A->Option R}{M3:R->Prop}(J:List T->A->Prop)(c:∀a,J [] a->∃r,k a=some r/\M3 r)
 (b:∀t L a self,J (t::L) a->(∀a',J L a' -> ∃r,self a' = some r/\M3 r)->∃r,body self t a=some r/\M3 r):∀(L:List T) (a:A),J L a->∃r,T2 L body k a=some r/\M3 r
 |[],a,h=>c a h
 |t::L,a,h=>b t L a _ h λa' h'=>AX3 J c b L a' h'
def AX4 {p:Pat}(hp:okS p.Is):∃e,Cl N p=some e/\(e=0↔TR p):=by
 obtain⟨a,b,f⟩:=hp;have m:=AB5 f;have V:T7 N p.Is=some (vB a b):=by rw[f];grind[Am1]
 have e0:((p.Is.Plus==0)&&(p.Is.Minus==0))=decide (p.Is.Plus=0/\p.Is.Minus=0):=by rw[Cj9];simp
 have fin:(TR p↔vS p.Is)->∃e,((T7 N p.Is).bind λy1=>ite (!y1) (some (14:Int)) (some 0))=some e/\(e=0↔TR p):=by
  intro i;rw[V];refine B4 rfl ?_;rw[i,m];cases vB a b
  all_goals simp_all
 have bad:∀{x:Int},x≠0->¬TR p->∃e,some x=some e/\(e=0↔TR p):=(by grind);unfold Cl;by_cases hk:p.Kind=0 \/ p.Kind=2 \/ p.Kind=6
 .refine ifT (by rcases hk with h|h|h<;>simp[h]) (ltX ?_);rw[e0];by_cases g1:p.Is.Plus=0/\p.Is.Minus=0
  case neg=>exact Bu (ifT rfl (bad (by decide) λh=>g1 (h.2.1 (by omega)).1))
  refine Fv ?_;by_cases g2:p.Not=true
  .exact ifT g2 (ifT rfl (bad (by decide) λh=>by have:=(h.2.1 (by omega)).2;rw[g2]at this;grind))
  refine ifF g2 ?_;by_cases g3:p.Min=0
  case neg=>exact Bu (ifT rfl (bad (by decide) λh=>g3 (h.2.2.2.1 (by omega)).1))
  refine Fv ?_;by_cases g4:p.Max=0
  case neg=>exact Bu (ifT rfl (bad (by decide) λh=>g4 (h.2.2.2.1 (by omega)).2))
  refine Fv ?_;by_cases g5:p.L.n=0
  case neg=>exact Bu (bad (by decide) λh=>g5 (h.2.2.1 (by omega) (by omega) (by omega)))
  refine Fv (fin ?_);exact⟨λh=>h.2.2.2.2.2,λh=>⟨by omega,by grind,λ_ _ _=>g5,λ_=>⟨g3,g4⟩,λc=>by omega,h⟩⟩
 refine Fv ?_;by_cases k1:p.Kind=1
 .refine Bu (ltX ?_);refine Eh ?_;by_cases g3:p.Min=0
  case neg=>exact Bu (ifT rfl (bad (by decide) λh=>g3 (h.2.2.2.1 (by omega)).1))
  refine Fv ?_;by_cases g4:p.Max=0
  case neg=>exact Bu (ifT rfl (bad (by decide) λh=>g4 (h.2.2.2.1 (by omega)).2))
  refine Fv ?_;by_cases g5:p.L.n=0
  case neg=>exact Bu (bad (by decide) λh=>g5 (h.2.2.1 (by omega) (by omega) (by omega)))
  refine Fv (fin ?_);exact⟨λh=>h.2.2.2.2.2,λh=>⟨by omega,by omega,λ_ _ _=>g5,λ_=>⟨g3,g4⟩,λc=>by omega,h⟩⟩
 refine Fv (ltX ?_);rw[e0];have tail:∀(x y:Int),(TR p↔(p.Is.Plus=0/\p.Is.Minus=0)/\p.Not=false/\x=0/\y=0/\vS p.Is)->∃e,(ite (((((decide (p.Is.Plus=0/\p.Is.Minus=0) != true)||p.Not)||(x != 0))||(y != 0))||(decide (0<0))) (some (2:Int)) ((T7 N p.Is).bind λy3=>ite (!y3) (some 14) (some 0)))=some e/\(e=0↔TR p):=by
  intro x y i;by_cases g:(p.Is.Plus=0/\p.Is.Minus=0)/\p.Not=false/\x=0/\y=0
  .grind
  refine ifT ?_ (by grind)
  grind
 by_cases k34:p.Kind=3 \/ p.Kind=4
 .refine ifT (by rcases k34 with h|h<;>simp[h]) (tail _ _ ?_);constructor
  .exact λh=>⟨(h.2.1 k1).1,(h.2.1 k1).2,(h.2.2.2.1 (by omega)).1,(h.2.2.2.1 (by omega)).2,h.2.2.2.2.2⟩
  rintro⟨h1,d,j,l,c⟩;exact⟨by omega,λ_=>⟨h1,d⟩,λh h'=>by omega,λ_=>⟨j,l⟩,λh=>by omega,c⟩
 refine Fv ?_;by_cases k5:p.Kind=5
 .refine Bu ?_;by_cases g:p.L.n=1/\0<=p.Min/\p.Min<=32/\(p.Max = -1 \/ (p.Min<=p.Max/\p.Max<=32))
  .refine Fv (tail 0 0 ?_);constructor
   .exact λh=>⟨(h.2.1 k1).1,(h.2.1 k1).2,rfl,rfl,h.2.2.2.2.2⟩
   rintro⟨h1,d,j,l,c⟩;exact⟨by omega,λ_=>⟨h1,d⟩,by omega,λh=>Kf k5 h,λ_=>g,c⟩
  exact Bu (bad (by decide) λh=>g (h.2.2.2.2.1 k5))
 exact Fv (bad (by decide) λh=>by have:=h.1;omega)
def Bk3 {x:Sl Pat}{m:Nat}(h:x.n=m+1):x.toList.reverse=x.g m::(x.take m).toList.reverse:=by
 grind[Sl.toList,List.range_succ,List.reverse_append]
def BB2 (z:Sl Pat)(q:Pat):((z.push Pat.nil).upd z.n q).toList.reverse=q::z.toList.reverse:=by
 rw[Bk3 (m:=z.n) rfl];have e1:((z.push Pat.nil).upd z.n q).g z.n=q:=by simp
 have e2:(((z.push Pat.nil).upd z.n q).take z.n).toList=z.toList:=by
  unfold Sl.toList;refine Ck4 λi a=>?_
  have:i<z.n:=Cl6.1 a
  grind
 rw[e1,e2]
def AB6 (q:Sl Pat)(c:q.n<N)(hs:q.n<1000000):E3 N q=some ((List.range q.n).reverse.map λ(i:Nat)=>((i:Int),q.g i)):=by
 unfold E3;have h:∀(m:Nat),m<=q.n->∀F,m<F->N3 F (λ(a:Int->Option (List (Int×Pat))) (x1:Int)=>
  if (decide (0<=x1)) then
   if ((0:Int)<=x1/\x1<(q.n:Int))then
    BN (x1,q.g x1.toNat) (
     a (wrap .i64 (x1-1))
     )
   else none
  else
   some []) ((m:Int)-1)=some ((List.range m).reverse.map λ(i:Nat)=>((i:Int),q.g i)):=by
  intro m
  induction m with
  |zero=>
   intro _ F b
   match F,b with
   |F+1,_=>rfl
  |succ m ih=>
   intro hm F b
   match F,b with
   |F+1,b=>rw[U2];rw[show ((m+1:Nat):Int)-1=(m:Int) by omega,Kb (by simp),Kb (by omega),Y0,ih (by omega) F (by omega),Vc,Cp5,Cp1,Cy2,Cy6,Ck3];rfl
 rw[Y0]
 grind
def BQ9 {k:Nat}(hk:k<=40){c:Sl Pat}{l:List Pat}:chk k ((c.take (min 41 c.n)).toList++l)↔chk k (c.toList++l):=by
 by_cases h:c.n<=41
 .rw[Cv4 h]
 constructor
 .intro a
  have:=TT _ _ a
  rw[Ck6,Z0]at this
  have:(c.take (min 41 c.n)).n=41:=Cp2 (by omega)
  omega
 intro a
 have:=TT _ _ a
 rw[Ck6,Z0]at this;omega
def Zn (hN:2000<=N){p:Pat}(hp:okPS p):∃e,AY N p=some e/\(e=0↔chk 40 [p]):=by
 unfold AY;refine S3 (λi x3 x4=>x4=(i:Int)/\x3.n<=1+41*i/\(∀q∈x3.toList.reverse,okPS q)/\(chk 40 [p]↔chk (40-i) x3.toList.reverse)) 40 _ (by omega)
  ⟨rfl,by grind,λq l=>by rw[show (Sl.of [p]:Sl Pat).toList.reverse=[p] from rfl]at l;rw[Co7.1 l];omega,Cu0⟩ ?_
 rintro x i x3 x4 hi ⟨rfl,h1,c,f⟩ hs;rcases hn:x3.n with _|m
 .refine Eh ⟨0,rfl,λ_=>f.2 ?_,λ_=>rfl⟩
  have:x3.toList.reverse=[]:=by unfold Sl.toList;rw[hn];rfl
  rw[this];exact Bk1 _
 rw[Bk3 hn]at f c;refine Bu ?_;by_cases o:i=40
 .subst o;refine Ak ⟨12,rfl,by omega,λh=>?_⟩
  have:(x3.g m::(x3.take m).toList.reverse)=[]:=f.1 h
  grind
 refine Fv ?_;have hw:IntKind.i64.wrap (((m+1:Nat):Int)-1)=(m:Int):=by rw[Y0];omega
 simp only[hw,Vc];refine Ai (Ai ?_);obtain⟨e,y,a⟩:=AX4 (N:=N) (c (x3.g m) (by simp)).is;refine B4 y ?_;rw[show 40-i=(39-i)+1 by omega]at f;by_cases r:e=0
 case neg=>exact Bu ⟨e,rfl,λh=>Kf h r,λh=>Kf (a.2 (f.1 h).1) r⟩
 refine Fv ?_;have hc:(ite ((41:Int)<((x3.g m).L.n:Int)) (41:Int) ((x3.g m).L.n:Int))=((min 41 (x3.g m).L.n:Nat):Int):=by split<;>omega
 simp only[hc,Vc];refine Ai (B4 rfl (B4 (AB6 _ (by grind) (by grind)) ?_));generalize s:(x3.g m).L.take (min 41 (x3.g m).L.n)=C;have a0:C.n<=41:=by rw[<- s];grind
 refine AX3 (λL z=>∃j,j<=C.n/\L=((List.range j).reverse.map λ(i:Nat)=>((i:Int),C.g i))/\z.n=m+(C.n-j)/\z.toList.reverse=C.toList.drop j++(x3.take m).toList.reverse) ?_ ?_ _ _ ⟨C.n,Ci9 _,rfl,by grind,by rw[KL];rfl⟩
 .rintro z ⟨j,hj,Y,hz,b⟩;have u:j=0:=by
   simp_all
  subst u;rw[Cw3]at b;refine hs (by omega) _ _ ⟨Fy,by omega,λq l=>?_,?_⟩
  .rw[b]at l;rcases Cy7.1 l with h|h
   .obtain⟨i',d,rfl⟩:=Cp4.1 h;have d:=Cl6.1 d;rw[<- s]at d⊢;exact (c (x3.g m) (by simp)).L (by grind)
   grind
  rw[b,f,show 40-(i+1)=39-i by omega,<- s,BQ9 (by omega)];exact⟨λh=>h.2,λh=>⟨a.1 r,h⟩⟩
 rintro t L z v ⟨j,hj,Y,hz,b⟩ w;cases j with
 |zero=>grind
 |succ j=>rw[Cp5,Cp1,Cy2,Cy6,Ck3]at Y;obtain⟨rfl,rfl⟩:=List.cons.inj Y;have e1:(z.n:Int).toNat=z.n:=Vc _;refine Bu ?_;refine w _ ⟨j,by omega,rfl,by grind,?_⟩;rw[BB2,b,IW C (i:=j) (by omega),Cj3]
def wOk (w:Sl Tr):Prop:=w.n<=32/\∀i,i<w.n->vS (w.g i)
def QA {w:Sl Tr}(l:w.n<N)(hs:w.n<1000000){f:Tr->Option Bool}{b:Nat->Bool}(m:∀i,i<w.n->f (w.g i)=some (b i)) :∃r,C4 N w f=some r/\(r=true ↔ ∃i,i<w.n/\b i=true):=by
 unfold C4 F7
 have:∃y,N3 N (λ(a:Int->Option Int) (x1:Int)=>
  if (decide (x1<(w.n:Int))) then
   if ((0:Int)<=x1/\x1<(w.n:Int))then
    (f (w.g x1.toNat)).bind λy3=>
    if y3 then
     some x1
    else
     a (wrap .i64 (x1+1))
   else none
  else
   some (-1)) 0=some y/\(0<=y ↔ ∃i,i<w.n/\b i=true):=by
  refine X6 (λi x1=>x1=(i:Int)/\∀j,j<i->b j=false) w.n _ l (by grind) ?_;rintro d i x1 o ⟨rfl,h⟩ c;by_cases hl:i<w.n
  .refine Bu (Ai (B4 (by rw[Vc];exact m i hl) ?_));cases hb:b i
   .refine Eh (c hl _ ⟨Fy,λj q=>?_⟩)
    grind
   grind
  refine Fv ⟨-1,rfl,λh=>Kf h (by decide),?_⟩
  grind
 grind
end Go.AM
