/- Part 5. -/
import Derived.Test.YthnfmkeomcncgaaGreatDoorMD
import Derived.Test.YthnfmkeomcncgaaGreatDoorMC
set_option linter.defProp false
set_option linter.unusedSimpArgs false
set_option linter.unusedVariables false
set_option linter.unusedSectionVars false
namespace Go.AM
def Us:=@Int.toNat_natCast
open Go.Proofs.Tryz
abbrev Uo:Sl (Sl Up):=Sl.nil
abbrev Un:Sl Up:=Sl.of []
abbrev Um:Sl Up:=Sl.nil
variable {N:Nat}
open IntKind (wrap)
def Ck6:=@List.reverse_append
def Cp2:=@Nat.not_lt_zero
def Ct5:=@Bool.not_eq_true
def Ct8:=@Nat.testBit_lt_two_pow
def Ct9:=@List.reverse_singleton
def Cu3:=@List.singleton_append
def Cu4:=@List.mem_append
def Cv0:=@Nat.div_eq_zero_iff
open Go.Proofs
set_option maxRecDepth 10000
set_option maxHeartbeats 2000000
variable {S:X4}(U:H3 S Tryz.prog) (P:KY S)
def BE0 {T:Type}{e:TypeId}{k:Nat}{c:T->List PV}{X:Sl (Sl T)}{z:Sl T}:∀q,q<X.n+1->(λq=>ite (q=X.n) (DP e k c z) (DP e k c (X.g q))) q=(λq=>DP e k c ((X.push z).g q)) q:=by grind
def Bf8 {T:Type}{e:TypeId}{k n i:Nat}{c:T->List PV}{X:Sl (Sl T)}{z:Sl T}:∀q,q<n->(Xf (ite (q=i) (DP e k c z) (ite (q=i) Obj.dead (DP e k c (X.g q))))).isSome=true:=λq _=>by
 by_cases h:q=i
 .rw[Jk h];rfl
 rw[Js h,Js h];rfl
def BE1 {T:Type}{e:TypeId}{k n i:Nat}{c:T->List PV}{X:Sl (Sl T)}{z:Sl T}:∀q,q<n->[(Xf (ite (q=i) (DP e k c z) (ite (q=i) Obj.dead (DP e k c (X.g q))))).getD default]=cL k c ((X.upd i z).g q):=λq _=>by
 show _=cL k c (ite (q=i) z (X.g q));by_cases h:q=i
 .rw[Jk h,Jk h];rfl
 rw[Js h,Js h,Js h];rfl
include U P
def L0 (N:Nat)(s:Sl Node):Option (Sl Node):=ite ((0+s.n)*24<=140737488355328/\0+s.n<=140737488355328) (some s) none
theorem CR {s y:Sl Node}(h:L0 N s=some y):Uw S U5 [.p (vSl 2 F1 s)] [] (.vec 0) [.vec Y3 2 y.n (λi=>F1 (y.g i)) true] []:=by
 unfold L0 at h;obtain⟨c1,h⟩:=C4 h;obtain rfl:=A5 h;refine A1 U func110 ?_;refine Ac5 U S3 3 (k:=2) (n:=s.n) (f:=λi=>F1 (s.g i)) (λa=>?_) ?_
 .obtain⟨n,g⟩:=s;obtain rfl:n=0:=a;exact kO U S3 [3700]
 exact kO U (Ur Td c1) [8000]
  (hle:=kl1 0 (Bn7 F1 s [pI .i64 0,.str []]))
def X1 (N:Nat)(s:Sl Int):Option (Sl Int):=ite ((0+s.n)*8<=140737488355328/\0+s.n<=140737488355328) (some s) none
theorem Hl {s y:Sl Int}(h:X1 N s=some y):Uw S Ca [.p (vSl 1 (cI .i64) s)] [] (.vec 0) [.vec C8 1 y.n (λi=>cI .i64 (y.g i)) false] []:=by
 unfold X1 at h;obtain⟨c1,h⟩:=C4 h;obtain rfl:=A5 h;refine A1 U func112 ?_;refine Ac5 U S3 3 (k:=1) (n:=s.n) (f:=λi=>cI .i64 (s.g i)) (λa=>?_) ?_
 .obtain⟨n,g⟩:=s;obtain rfl:n=0:=a;exact kO U S3 [3700]
 exact kO U (Ur Td c1) [8000]
  (hle:=kl1 0 (Bn7 (cI .i64) s [pI .i64 0]))
def Az (N:Nat)(c:Yc)(b:Int)(a:Int):Option (Yc×Int):= (Q4 N c).bind λy1=>ite (y1 != 0) (some ((⟨(Sl.nil:Sl Node),(Sl.nil:Sl Law),(Sl.nil:Sl (Sl Int))⟩:Yc),y1)) ((Cn N c b).bind λy2=>ite ((!y2)=false->((decide (a<0))=false->((0:Int)<=b/\b<(c.On.n:Int)))) (ite (((!y2)||(decide (a<0)))||(decide ((wrap .i64 (((c.On.g b.toNat).n:Int)-1))<=a))) (some ((⟨(Sl.nil:Sl Node),(Sl.nil:Sl Law),(Sl.nil:Sl (Sl Int))⟩:Yc),3)) ((L0 N c.Tree).bind λy3=>U1 N (λd (x1:Sl Law) (x2:Int)=>ite (decide (x2<(c.Laws.n:Int))) (ite ((0:Int)<=x2/\x2<(c.Laws.n:Int)) ((V8 N (c.Laws.g x2.toNat)).bind λy6=>ite (Uq 200 (x1.n+(Sl.of [y6]:Sl Law).n)) (d (x1.push y6) (wrap .i64 (x2+1))) none) none) (U1 N (λf (x3:Sl (Sl Int)) (x4:Int)=>ite (decide (x4<(c.On.n:Int))) (ite ((0:Int)<=x4/\x4<(c.On.n:Int)) ((X1 N (c.On.g x4.toNat)).bind λy9=>ite (Uq 24 (x3.n+(Sl.of [y9]:Sl (Sl Int)).n)) (f (x3.push y9) (wrap .i64 (x4+1))) none) none) (ite (b.toNat<x3.n) (ite (((0:Int)<=b/\b<(x3.n:Int))/\((0:Int)<=a/\a<((x3.g b.toNat).n:Int))/\((0:Int)<=(wrap .i64 (a+1))/\(wrap .i64 (a+1))<((x3.g b.toNat).n:Int))) (some ((⟨y3,x1,x3.upd b.toNat (((x3.g b.toNat).upd a.toNat ((x3.g b.toNat).g (wrap .i64 (a+1)).toNat)).upd (wrap .i64 (a+1)).toNat ((x3.g b.toNat).g a.toNat))⟩:Yc),0)) none) none)) (Sl.nil:Sl (Sl Int)) 0)) (Sl.nil:Sl Law) 0)) none)
theorem Mj {j:Yc}{f:Int}{d:Int}{y:Yc×Int}(h:Az N j f d=some y) :Uw S LI [.p (.agg (A9 j)),pN f,pN d] [] (.tup [.p (.agg (A9 y.1)),pN y.2]) ([]) []:=by
 unfold Az at h;refine A1 U func72 ?_;refine C7 U S3 6 4000 (A9 j) ?_;refine kD U h Sw (Gp U P) (λy1 h=>?_);apply kI U h<;>intro h
 .obtain rfl:=A5 h;exact I9 U S3 ⟨[(7,pN y1),(6,.reg 7000 0)],[(7000,.cells [.p (vSl 2 F1 (Sl.nil:Sl Node)),.p (vSl 18 B6 (Sl.nil:Sl Law)),.p (vSl 1 (cL 1 (cI .i64)) (Sl.nil:Sl (Sl Int)))])]⟩ [] ⟨rfl,rfl,rfl⟩
 refine kD U h Sw (Mf U P) (λy2 h=>?_);obtain⟨c2,h⟩:=C4 h;refine kB U (A3 U) S3 c2 14 (.o (.o (.a (!y2)) (.a (decide (d<0)))) (.a (decide ((wrap .i64 (((j.On.g f.toNat).n:Int)-1))<=d)))) ?_;apply kI U h<;>intro h
 .obtain rfl:=A5 h;exact I9 U S3 ⟨[(7,pN 3),(6,.reg 7000 0)],[(7000,.cells [.p (vSl 2 F1 (Sl.nil:Sl Node)),.p (vSl 18 B6 (Sl.nil:Sl Law)),.p (vSl 1 (cL 1 (cI .i64)) (Sl.nil:Sl (Sl Int)))])]⟩ [] ⟨rfl,rfl,rfl⟩
 refine kC U h (CR U P) (λy3 h=>?_);refine E8 U S3 h (λx1 x2=>kps [(48,pN x2)] [47,46,9,6,3,2,1] [(44000,oV Y3 2 F1 y3 true),(10500,oV H6 18 B6 x1 false),(10000,.cells [.vec 44000,.vec 10500,.p I1]),(7000,.cells [.p I1,.p I1,.p I1])] []) (λm x1 x2 r h=>?_);apply kI U h<;>intro h
 .obtain⟨c11,h⟩:=C4 h;refine XK U (Ur c11 Tc) 12000 (B6 (j.Laws.g x2.toNat)) ?_;refine B4 U S3 [2,3] ?_;refine dP h Tc (Jm U P) (λy6 h=>?_);refine O3 S3 (x:=.sl true 18 1 (G9 Yr [(0,B6 y6)])) ?_;refine dE h (λh=>?_);exact r S3 h (hle:=kl1 7 (O8 B6 x1 y6 Yr))
 refine I6 U S3 60 (kps [] [9,6,3,2,1] [(44000,oV Y3 2 F1 y3 true),(10501,.vec Et 1 0 (λ_=>[]) false),(10500,oV H6 18 B6 x1 false),(10000,.cells [.vec 44000,.vec 10500,.vec 10501]),(7000,.cells [.p I1,.p I1,.p I1])] []) ?_;refine Dc U S3 60 (.fam 10501 10901 λi=>DP C8 1 (cI .i64) ((Sl.nil:Sl (Sl Int)).g i)) (⟨by decide,λi u=>Ke u (Cp2 i)⟩:1000<=10901/\∀i,i<0->Ro ((λ_=>[]) i) (DP C8 1 (cI .i64) ((Sl.nil:Sl (Sl Int)).g i))) ?_;refine E8 U S3 h (λx3 x4=>kps [(63,pN x4)] [62,61,9,6,2,1] [(10901,.rows x3.n λi=>DP C8 1 (cI .i64) (x3.g i)),(10501,.fam Et x3.n 10901 none)] [44000,10500,10000,7000]) (λs x3 x4 t h=>?_);apply kI U h<;>intro h
 .obtain⟨c20,h⟩:=C4 h;refine G1 U c20 [(1,.l [10000]),(3,.b [71000]),(4,.b [72000,71000])] ?_;obtain⟨y9,e9,h⟩:=E4 h;refine GS [] S3 (Hl U P e9) ?_;refine dE h (λh=>?_);refine Dc U S3 74 (.psh 73000 10902) (⟨by decide,rfl,rfl⟩:1000<=10902/\x3.n+1=x3.n+1/\x3.n=x3.n) ?_;exact t S3 h (hle:=klR [(7,.ob (x3.n+1) (λq=>ite (q=x3.n) (DP C8 1 (cI .i64) y9) (DP C8 1 (cI .i64) (x3.g q))) (λi=>DP C8 1 (cI .i64) ((x3.push y9).g i)))] (al1 BE0 al0))
 obtain⟨cT,h⟩:=C4 h;obtain⟨⟨c30,c31,c32⟩,h⟩:=C4 h;refine Dc U S3 75 (.take 10501 f.toNat 10801) (⟨⟨by decide,rfl⟩,cT⟩:(1000<=10801/\x3.n=x3.n)/\f.toNat<x3.n) ?_;refine G1 U (Ur c30 (Ur cT (rfl:f.toNat=f.toNat))) [(8,.l [10801]),(9,.l [10801]),(12,.l [10801]),(13,.l [10801]),(14,.l [10801]),(15,.a [10801]),(16,.l [10801]),(17,.a [10801])] ?_;have l1:(wrap .i64 (d+1)).toNat<(x3.g f.toNat).n:=by omega
 have l2:d.toNat<(x3.g f.toNat).n:=by omega
 refine D5 (Ur (Ur (Ur (Ur (Ur (Ur (Ur c32 l1) c31) l2) c31) (Ur (rfl:(1:Nat)=1) (Ur l2 Sn))) c32) (Ur (rfl:(1:Nat)=1) (Ur l1 Sn))) ?_;refine I6 U S3 96 (kps [] [9,6] [(44000,oV Y3 2 F1 y3 true),(10901,(.rows x3.n λl=>ite (l=f.toNat) (.dead) (DP C8 1 (cI .i64) (x3.g l)))),(10801,DP C8 1 (cI .i64) (((x3.g f.toNat).upd d.toNat ((x3.g f.toNat).g (wrap .i64 (d+1)).toNat)).upd (wrap .i64 (d+1)).toNat ((x3.g f.toNat).g d.toNat))),(10501,.fam Et x3.n 10901 (some (f.toNat,.vec 10801))),(10500,oV H6 18 B6 x1 false),(10000,.cells [.vec 44000,.vec 10500,.vec 10501]),(7000,.cells [.p I1,.p I1,.p I1])] []) ?_ (hle:=klR [(3,.fn (x3.g f.toNat).n (((x3.g f.toNat).upd d.toNat ((x3.g f.toNat).g (wrap .i64 (d+1)).toNat)).upd (wrap .i64 (d+1)).toNat ((x3.g f.toNat).g d.toNat)).n (λl=>ite (l=(wrap .i64 (d+1)).toNat) (splice ((λl=>ite (l=d.toNat) (splice ((λi=>cI .i64 ((x3.g f.toNat).g i)) l) 0 [pI .i64 ((x3.g f.toNat).g (wrap .i64 (d+1)).toNat)]) ((λi=>cI .i64 ((x3.g f.toNat).g i)) l)) l) 0 [pI .i64 ((x3.g f.toNat).g d.toNat)]) ((λl=>ite (l=d.toNat) (splice ((λi=>cI .i64 ((x3.g f.toNat).g i)) l) 0 [pI .i64 ((x3.g f.toNat).g (wrap .i64 (d+1)).toNat)]) ((λi=>cI .i64 ((x3.g f.toNat).g i)) l)) l)) (λi=>cI .i64 ((((x3.g f.toNat).upd d.toNat ((x3.g f.toNat).g (wrap .i64 (d+1)).toNat)).upd (wrap .i64 (d+1)).toNat ((x3.g f.toNat).g d.toNat)).g i)))] (al1 ⟨rfl,Zu (c:=cI .i64) (v:=(x3.g f.toNat).upd d.toNat ((x3.g f.toNat).g (wrap .i64 (d+1)).toNat)) (x:=(x3.g f.toNat).g d.toNat) (Zu (c:=cI .i64) (v:=x3.g f.toNat) (x:=(x3.g f.toNat).g (wrap .i64 (d+1)).toNat) same (λ_=>by first|rfl|(dsimp only;split<;>rfl))) (λ_=>by first|rfl|(dsimp only;split<;>rfl))⟩ al0));refine Dc U S3 96 (.put 10501 10902) (⟨⟨by decide,rfl⟩,cT⟩:(1000<=10902/\x3.n=x3.n)/\f.toNat<x3.n) ?_;refine Dc U S3 96 (.pub 10501) (⟨rfl,Bf8⟩:x3.n=x3.n/\∀q,q<x3.n->(Xf (ite (q=f.toNat) (DP C8 1 (cI .i64) (((x3.g f.toNat).upd d.toNat ((x3.g f.toNat).g (wrap .i64 (d+1)).toNat)).upd (wrap .i64 (d+1)).toNat ((x3.g f.toNat).g d.toNat))) (ite (q=f.toNat) Obj.dead (DP C8 1 (cI .i64) (x3.g q))))).isSome=true) ?_;obtain rfl:=A5 h;exact I9 U S3 ⟨[(7,pN 0),(6,.reg 7000 0)],[(7000,.cells [.p (vSl 2 F1 y3),.p (vSl 18 B6 x1),.p (vSl 1 (cL 1 (cI .i64)) (x3.upd f.toNat (((x3.g f.toNat).upd d.toNat ((x3.g f.toNat).g (wrap .i64 (d+1)).toNat)).upd (wrap .i64 (d+1)).toNat ((x3.g f.toNat).g d.toNat))))])]⟩ [] ⟨rfl,rfl,rfl⟩ (hle:=klR [(3,.fn x3.n (x3.upd f.toNat (((x3.g f.toNat).upd d.toNat ((x3.g f.toNat).g (wrap .i64 (d+1)).toNat)).upd (wrap .i64 (d+1)).toNat ((x3.g f.toNat).g d.toNat))).n (λq=>[(Xf (ite (q=f.toNat) (DP C8 1 (cI .i64) (((x3.g f.toNat).upd d.toNat ((x3.g f.toNat).g (wrap .i64 (d+1)).toNat)).upd (wrap .i64 (d+1)).toNat ((x3.g f.toNat).g d.toNat))) (ite (q=f.toNat) Obj.dead (DP C8 1 (cI .i64) (x3.g q))))).getD default]) (λi=>cL 1 (cI .i64) ((x3.upd f.toNat (((x3.g f.toNat).upd d.toNat ((x3.g f.toNat).g (wrap .i64 (d+1)).toNat)).upd (wrap .i64 (d+1)).toNat ((x3.g f.toNat).g d.toNat))).g i)))] (al1 ⟨rfl,BE1⟩ al0))
def DC (N:Nat)(b:B0)(a:Int):Option Int:= (Z5 N b).bind λy1=>ite (y1 != 0) (some y1) (ite ((decide (a<0))||(decide (1073741824<a))) (some 2) (some 0))
theorem IE {c:B0}{b:Int}{y:Int}(h:DC N c b=some y) :Uw S Nz [.p (.agg (B3 c)),pN b] [] (pN y) ([]) []:=by
 unfold DC at h;refine A1 U func28 ?_;refine kC U h (Ha U P) (λy1 h=>?_);refine Ym U h fun h=>?_;refine kB U (A3 U) S3 S3 3 (.o (.a (decide (b<0))) (.a (decide (1073741824<b)))) ?_;refine Ym U h fun h=>?_;cases h;exact kR U
def F5 (N:Nat)(b:Sl Law)(a:M8)(c:M8):Option Bool:= ite ((!a.Has)||(!c.Has)) (some false) ((N7 N b a.W).bind λy1=>lt (λ(z1:Bool)=>some z1) λk1=>ite (y1.2==0) ((Z3 N y1.1 c.W).bind λy3=>k1 y3) (k1 false))
theorem Be {c:Sl Law}{b:M8}{d:M8}{y:Bool}(h:F5 N c b d=some y) :Uw S JM [.p (vSl 18 B6 c),.p (.agg (I4 b)),.p (.agg (I4 d))] [] (pB y) ([]) []:=by
 unfold F5 at h;refine A1 U func35 ?_;refine kB U (A3 U) S3 S3 4 (.o (.a (!b.Has)) (.a (!d.Has))) ?_;refine Ym U h fun h=>?_;refine kC U h (Kj U P) (λy1 h=>?_);refine GN U S3 (A3 U) h 0 (λz1 _=>⟨[(6,pB z1)],[]⟩) (λk1 f h=>?_) (λz1 h=>?_)
 .refine kG U h (λh=>?_) (λh=>?_)
  .refine kC U h (Ql U P) (λy3 h=>?_);exact f S3 h
  exact f S3 h
 cases h;exact kR U
def P9 (N:Nat)(b:Yc):Option (Sl (Sl Law)):= (T3 N b.Tree).bind λy1=>U1 N (λa (x1:Sl (Sl Law)) (x2:Int)=>ite (decide (x2<(y1.1.n:Int))) (ite (((0:Int)<=x2/\x2<(y1.1.n:Int))/\x2.toNat<y1.1.n) ((Cq N b (y1.1.g x2.toNat)).bind λy4=>ite (Uq 24 (x1.n+(Sl.of [y4.1]:Sl (Sl Law)).n)) (a (x1.push y4.1) (wrap .i64 (x2+1))) none) none) (some x1)) (Sl.nil:Sl (Sl Law)) 0
theorem DE {a:Yc}{y:Sl (Sl Law)}(h:P9 N a=some y) :Uw S NB [.p (.agg (A9 a))] [] (.p (vSl 1 (cL 18 B6) y)) ([]) []:=by
 unfold P9 at h;refine A1 U func33 ?_;refine kC U h (Fy U P) (λy1 h=>?_);refine E8 U S3 h (λx1 x2=>kps [(18,pN x2),(17,pN (y1.1.n:Int)),(16,.vec 14000),(5,.vec 6500),(1,.reg 2000 0)] [] [(6500,oV EL 1 (cL 18 B6) x1 false)] [14000,2000]) (λb x1 x2 c h=>?_);apply kI U h<;>intro h
 .obtain⟨c6,h⟩:=C4 h;refine kD U h c6 (UY U P) (λy4 h=>?_);obtain⟨c7,h⟩:=C4 h;exact c (Ur Td c7) h (hle:=kl1 3 (O8 (cL 18 B6) x1 y4.1 [I1]))
 obtain rfl:=A5 h;exact kO U S3 []
def IF (N:Nat)(c:B0)(a:Int)(b:Int):Option Bool:= ite ((decide (0<=a))=true->((decide (a<(c.Yf.n:Int)))=true->((decide (0<=b))=true->((0:Int)<=a/\a<(c.Yf.n:Int))))) (some ((((decide (0<=a))&&(decide (a<(c.Yf.n:Int))))&&(decide (0<=b)))&&(decide (b<((c.Yf.g a.toNat).Yg.n:Int))))) none
theorem Tp {d:B0}{b:Int}{c:Int}{y:Bool}(h:IF N d b c=some y) :Uw S Sm [.p (.agg (B3 d)),pN b,pN c] [] (pB y) ([]) []:=by unfold IF at h;refine A1 U func50 ?_;obtain⟨c1,h⟩:=C4 h;refine kB U (A3 U) S3 c1 21 (.n (.n (.n (.a (decide (0<=b))) (.a (decide (b<(d.Yf.n:Int))))) (.a (decide (0<=c)))) (.a (decide (c<((d.Yf.g b.toNat).Yg.n:Int))))) ?_;cases h;exact kR U
def DF (N:Nat)(a:B0)(p_x:Dj):Option (Yc×Int):= (Az N a.Yc p_x.Node p_x.Place).bind λy1=>lt (λ(z1:Bool)=>ite z1 (some ((⟨(Sl.nil:Sl Node),(Sl.nil:Sl Law),(Sl.nil:Sl (Sl Int))⟩:Yc),3)) (some (y1.1,0))) λk1=>ite (y1.2 != 0) (k1 true) ((IF N a p_x.Yh p_x.X9).bind λy3=>k1 (!y3))
theorem Kr {a:B0}{p_x:Dj}{y:Yc×Int}(h:DF N a p_x=some y) :Uw S JN [.p (.agg (B3 a)),.p (.agg (K3 p_x))] [] (.tup [.p (.agg (A9 y.1)),pN y.2]) ([]) []:=by
 unfold DF at h;refine A1 U func52 ?_;refine kC U h (Mj U P) (λy1 h=>?_);refine GN U S3 (A3 U) h 0 (λz1=>kps [(28,pB z1)] [6,4] [] [7000,5000]) (λk1 b h=>?_) (λz1 h=>?_)
 .refine kG U h (λh=>?_) (λh=>?_)
  .exact b S3 h
  refine kC U h (Tp U P) (λy3 h=>?_);exact b S3 h
 apply kI U h<;>intro h
 .obtain rfl:=A5 h;exact I9 U S3 ⟨[(5,pN 3),(4,.reg 5000 0)],[(5000,.cells [.p (vSl 2 F1 (Sl.nil:Sl Node)),.p (vSl 18 B6 (Sl.nil:Sl Law)),.p (vSl 1 (cL 1 (cI .i64)) (Sl.nil:Sl (Sl Int)))])]⟩ [] ⟨rfl,rfl,rfl⟩
 cases h;exact kR U
def Ks (N:Nat)(a:B0)(p_x:Dj):Option (Bool×Int):= (Z5 N a).bind λy1=>ite (y1 != 0) (some (false,y1)) ((DF N a p_x).bind λy2=>ite (y2.2 != 0) (some (false,y2.2)) (ite ((((0:Int)<=p_x.Yh/\p_x.Yh<(a.Yb.n:Int))/\((0:Int)<=p_x.Yh/\p_x.Yh<(a.Yf.n:Int)))/\((0:Int)<=p_x.X9/\p_x.X9<((a.Yf.g p_x.Yh.toNat).Yg.n:Int))) ((P9 N a.Yc).bind λy3=>ite ((0:Int)<=p_x.X9/\p_x.X9<(y3.n:Int)) ((F5 N (y3.g p_x.X9.toNat) (a.Yb.g p_x.Yh.toNat) ((a.Yf.g p_x.Yh.toNat).Yg.g p_x.X9.toNat)).bind λy4=>ite y4 ((P9 N y2.1).bind λy5=>ite ((0:Int)<=p_x.X9/\p_x.X9<(y5.n:Int)) ((F5 N (y5.g p_x.X9.toNat) (a.Yb.g p_x.Yh.toNat) ((a.Yf.g p_x.Yh.toNat).Yg.g p_x.X9.toNat)).bind λy6=>some (!y6,0)) none) (some (false,0))) none) none))
theorem Ai7 {b:B0}{p_x:Dj}{y:Bool×Int}(h:Ks N b p_x=some y) :Uw S PM [.p (.agg (B3 b)),.p (.agg (K3 p_x))] [] (.tup [pB y.1,pN y.2]) ([]) []:=by
 unfold Ks at h;refine A1 U func19 ?_;refine C7 U S3 3 3000 (B3 b) ?_;refine C7 U S3 4 4000 (K3 p_x) ?_;refine kD U h (by decide:(8:Nat)<=8) (Ha U P) (λy1 h=>?_);refine Ym U h fun h=>?_;refine kD U h (Ur (by decide:(8:Nat)<=8) Sx) (Kr U P) (λy2 h=>?_);refine C7 U S3 8 8000 (A9 y2.1) ?_;refine Ym U h fun h=>?_;refine G1 U S3 [(1,.n),(3,.n),(4,.n),(5,.n),(7,.n),(9,.n),(10,.n),(12,.n),(14,.n),(15,.n),(16,.n),(17,.a [10000]),(18,.a [11000]),(19,.a [10000]),(20,.a [11000])] ?_;obtain⟨c3,h⟩:=C4 h;refine D5 (Ur (Ur (Ur (Ur c3.1.1 Sp) c3.1.2) c3.2) Sp) ?_;refine XK U S3 10000 [.bb (b.Yb.g p_x.Yh.toNat).Has,vSl 2 A0 (b.Yb.g p_x.Yh.toNat).W] ?_;refine XK U S3 11000 [.bb ((b.Yf.g p_x.Yh.toNat).Yg.g p_x.X9.toNat).Has,vSl 2 A0 ((b.Yf.g p_x.Yh.toNat).Yg.g p_x.X9.toNat).W] ?_;refine B4 U S3 [1,2,4,5,6,7,8,9,11,12,14,15,16,17,18,19] ?_;refine dP h (by decide:(3:Nat)<=5) (DE U P) (λy3 h=>?_);obtain⟨c4,h⟩:=C4 h;refine dP h (Ur (Ur c4 Sp) Sp) (Be U P) (λy4 h=>?_);refine dG S3 h (λh=>?_) (λh=>?_)
 .refine dP h Sw (DE U P) (λy5 h=>?_);obtain⟨c6,h⟩:=C4 h;refine dP h (Ur (Ur c6 Sp) Sp) (Be U P) (λy6 h=>?_);refine D5 S3 ?_;cases h;exact kR U
 refine D5 S3 ?_;cases h;exact kR U
def H7 (N:Nat)(a:List (D0)):Option (Sl D0):= T1 a (λb (x1:D0) (z1:Sl D0)=>ite (Uq 16 (z1.n+(Sl.of [x1]:Sl D0).n)) (b (z1.push x1)) none) (λ(z1:Sl D0)=>some z1) (Sl.nil:Sl D0)
theorem Dl {c:List (D0)}{a:B0}{b:(Sl (Sl Law))}{kp_seq:Nat}(fp_seq:∃fn,Cd7[kp_seq]? = some fn/\fn.body.isSome=true/\(fn.name == "runtime.NumGoroutine")=false)(d:FY S kp_seq [] [.reg 0 0,.reg 1 0] [(.cells ((B3 a).map .p)),(.cells [(.p (vSl 1 (cL 18 B6) b))])] (c.map (λ(x:D0)=>[(λx=>.agg (E1 x)) x]))){y:(Sl D0)}(h:H7 N c=some y) :Uw S W0 [(.p I1),(.clo kp_seq [] [(.reg 0 0),(.reg 1 0)])] [(.cells ((B3 a).map .p)),(.cells [(.p (vSl 1 (cL 18 B6) b))])] (.vec 0) ([(oV CM 2 E1 y false)]) [false,false]:=by
 unfold H7 at h;refine A1 U func68 ?_;refine Rb U S3 fp_seq [0,1] [2] 901 (λz1=>⟨[(2,(.reg 3000 0))],[(3500,(oV CM 2 E1 z1 false)),(3000,(.cells [(.vec 3500)]))]⟩) h d (λ_=>by kernel_rfl) (λ_=>by kernel_rfl) (λ_=>by kernel_rfl) (λ_=>by kernel_rfl) (λx1 f z1 g h=>?_) (λz1 h=>?_)
 .refine Nr U S3 ?_;obtain⟨c1,h⟩:=C4 h;exact g (Ur Td c1) h (hle:=kl1 0 (O8 E1 z1 x1 [(pI .i64 0),(pI .i64 0)]))
 obtain rfl:=A5 h;exact kO U S3 [3500]
def N9 (N:Nat)(a:List (D0)):Option (Sl D0):= (H7 N a).bind λy1=>some y1
theorem IG {c:List (D0)}{a:B0}{b:(Sl (Sl Law))}{kp_seq:Nat}(fp_seq:∃fn,Cd7[kp_seq]? = some fn/\fn.body.isSome=true/\(fn.name == "runtime.NumGoroutine")=false)(d:FY S kp_seq [] [.reg 0 0,.reg 1 0] [(.cells ((B3 a).map .p)),(.cells [(.p (vSl 1 (cL 18 B6) b))])] (c.map (λ(x:D0)=>[(λx=>.agg (E1 x)) x]))){y:(Sl D0)}(h:N9 N c=some y) :Uw S DR [(.clo kp_seq [] [(.reg 0 0),(.reg 1 0)])] [(.cells ((B3 a).map .p)),(.cells [(.p (vSl 1 (cL 18 B6) b))])] (.vec 0) ([(oV CM 2 E1 y false)]) [false,false]:=by unfold N9 at h;refine A1 U func31 ?_;obtain⟨y1,e1,h⟩:=E4 h;refine D6 U [0,1] S3 (Dl U P fp_seq d e1) ?_;obtain rfl:=A5 h;exact kO U S3 [5000]
def V4 (N:Nat)(q0:B0):Option (List (D0×Yc)):= N3 N (λa (x2:Int)=>ite (decide (x2<(q0.Yc.On.n:Int))) (ite ((0:Int)<=x2/\x2<(q0.Yc.On.n:Int)) (N3 N (λb (x4:Int)=>ite (decide (x4<(wrap .i64 (((q0.Yc.On.g x2.toNat).n:Int)-1)))) ((Az N q0.Yc x2 x4).bind λy9=>BI ((⟨x2,x4⟩:D0),y9.1) (b (wrap .i64 (x4+1)))) (a (wrap .i64 (x2+1)))) 0) none) (some [])) 0
theorem MK {q0:B0}{L:List (D0×Yc)}(h:V4 N q0=some L) :FY S CG [] [.reg 0 0] [.cells ((B3 q0).map .p)] (L.map (λ(x:D0×Yc)=>[(λx=>.agg (E1 x)) x.1,(λx=>.agg (A9 x)) x.2])):=by
 unfold V4 at h;refine Fv U func71 ?_;refine DY U S3 h (λx2 L1=>⟨[(12,pN x2),(11,pN (q0.Yc.On.n:Int)),(10,.p (vSl 1 (cL 1 (cI .i64)) q0.Yc.On)),(1,.reg 0 0),(0,.yf 1)],[(1,.yld (L1.map (λ(x:D0×Yc)=>[(λx=>.agg (E1 x)) x.1,(λx=>.agg (A9 x)) x.2])) true),(0,.cells ((B3 q0).map .p))]⟩) (λc x2 L1 d h=>?_);apply kI U h<;>intro h
 .obtain⟨c24,h⟩:=C4 h;refine DY U c24 h (λx4 L10=>⟨[(20,pN x4),(19,pN (wrap .i64 (((q0.Yc.On.g x2.toNat).n:Int)-1))),(12,pN x2),(11,pN (q0.Yc.On.n:Int)),(10,.p (vSl 1 (cL 1 (cI .i64)) q0.Yc.On)),(3,pN x2),(1,.reg 0 0),(0,.yf 1)],[(1,.yld (L10.map (λ(x:D0×Yc)=>[(λx=>.agg (E1 x)) x.1,(λx=>.agg (A9 x)) x.2])) true),(0,.cells ((B3 q0).map .p))]⟩) (λf x4 L10 i h=>?_);apply kI U h<;>intro h
  .refine kC U h (Mj U P) (λy9 h=>?_);obtain⟨L13,rfl,b⟩:=OL h;replace h:=b;refine DX U S3 (ys:=(λ(x:D0×Yc)=>[(λx=>.agg (E1 x)) x.1,(λx=>.agg (A9 x)) x.2]) ((⟨x2,x4⟩:D0),y9.1)) (rest:=L13.map (λ(x:D0×Yc)=>[(λx=>.agg (E1 x)) x.1,(λx=>.agg (A9 x)) x.2])) ?_ ?_
   .refine kF U ?_;exact i S3 h
   refine kT U ?_;exact kO U S3 (a:=.tup []) (objs:=[(.cells ((B3 q0).map .p)),.yld [] false]) [0,1] ⟨false,rfl,rfl,_,rfl⟩
  exact d S3 h
 obtain rfl:=A5 h;exact kO U S3 (a:=.tup []) (objs:=[(.cells ((B3 q0).map .p)),.yld [] true]) [0,1] ⟨true,rfl,rfl,_,rfl⟩
def BB (N:Nat)(a:B0):Option (B0):= some a
theorem OZ {a:B0}{y:B0}(h:BB N a=some y) :Uw S Hz [.p (.agg (B3 a))] [] (.clo CG [] [.reg 0 0]) ([.cells ((B3 y).map .p)]) []:=by unfold BB at h;refine A1 U func34 ?_;obtain rfl:=A5 h;exact kO U S3 [2000]
def G5 (N:Nat)(a:Sl A7)(b:Sl A7):Option Bool:= ite ((a.n:Int) != (b.n:Int)) (some false) (N3 N (λc (x1:Int)=>ite (decide (x1<(a.n:Int))) (ite (((0:Int)<=x1/\x1<(a.n:Int))/\((0:Int)<=x1/\x1<(b.n:Int))) (ite ((((a.g x1.toNat).Yh==(b.g x1.toNat).Yh)&&(((a.g x1.toNat).X9==(b.g x1.toNat).X9)&&(((a.g x1.toNat).Kind==(b.g x1.toNat).Kind)&&((a.g x1.toNat).Cost==(b.g x1.toNat).Cost)))) != true) (some false) (c (wrap .i64 (x1+1)))) none) (some true)) 0)
theorem Y6 {a:Sl A7}{b:Sl A7}{y:Bool}(h:G5 N a b=some y) :Uw S M3 [.p (vSl 4 B8 a),.p (vSl 4 B8 b)] [] (pB y) ([]) []:=by
 unfold G5 at h;refine A1 U func44 ?_;refine Ym U h fun h=>?_;refine E2 U S3 h (λx1=>kps [(13,pN x1)] [12,1,0] [] []) (λc x1 d h=>?_);apply kI U h<;>intro h
 .refine B4 U S3 [2,3,6,7] ?_;obtain⟨c9,h⟩:=C4 h;refine D5 (Ur (Ur (Ur (Ur c9.1 Sx) c9.2) Sx) (by decide +kernel:Qx Tryz.prog E6=true)) ?_;refine Ym U h fun h=>?_;exact d S3 h
 cases h;exact kR U
def L7 (N:Nat)(a:Sl Dj)(b:Sl Dj):Option Bool:= ite ((a.n:Int) != (b.n:Int)) (some false) (N3 N (λc (x1:Int)=>ite (decide (x1<(a.n:Int))) (ite (((0:Int)<=x1/\x1<(a.n:Int))/\((0:Int)<=x1/\x1<(b.n:Int))) (ite ((((a.g x1.toNat).Node==(b.g x1.toNat).Node)&&(((a.g x1.toNat).Place==(b.g x1.toNat).Place)&&(((a.g x1.toNat).Yh==(b.g x1.toNat).Yh)&&((a.g x1.toNat).X9==(b.g x1.toNat).X9)))) != true) (some false) (c (wrap .i64 (x1+1)))) none) (some true)) 0)
theorem CS {a:Sl Dj}{b:Sl Dj}{y:Bool}(h:L7 N a b=some y) :Uw S U3 [.p (vSl 4 K3 a),.p (vSl 4 K3 b)] [] (pB y) ([]) []:=by
 unfold L7 at h;refine A1 U func45 ?_;refine Ym U h fun h=>?_;refine E2 U S3 h (λx1=>kps [(13,pN x1)] [12,1,0] [] []) (λc x1 d h=>?_);apply kI U h<;>intro h
 .refine B4 U S3 [2,3,6,7] ?_;obtain⟨c9,h⟩:=C4 h;refine D5 (Ur (Ur (Ur (Ur c9.1 Sx) c9.2) Sx) (by decide +kernel:Qx Tryz.prog O9=true)) ?_;refine Ym U h fun h=>?_;exact d S3 h
 cases h;exact kR U
def IH (N:Nat)(d:B0)(a:Sl (Sl Up))(b:Int)(f:Int):Option (Int×Int):= (DC N d f).bind λy1=>ite (y1 != 0) (some (0,y1)) (ite (decide (256<(a.n:Int))) (some (0,12)) (N3 N (λo (x1:Int)=>ite (decide (x1<(a.n:Int))) (ite ((0:Int)<=x1/\x1<(a.n:Int)) ((W3 N (a.g x1.toNat)).bind λy4=>ite (y4 != 0) (some (0,y4)) (o (wrap .i64 (x1+1)))) none) (ite ((decide (b<0))||(decide ((d.Yf.n:Int)<=b))) (some (0,3)) (ite ((a.n:Int)==0) (some (0,5)) ((P9 N d.Yc).bind λy5=>Bb8 N (λl (x8:Int) (x9:Int) (i:Int)=>ite (decide (i<(a.n:Int))) (ite (((0:Int)<=i/\i<(a.n:Int))/\((0:Int)<=b/\b<(d.Yf.n:Int))) (U1 N (λj (m:Int) (c:Int)=>ite (decide (c<((d.Yf.g b.toNat).Yg.n:Int))) (ite ((0:Int)<=c/\c<((d.Yf.g b.toNat).Yg.n:Int)) (ite (((d.Yf.g b.toNat).Yg.g c.toNat).Has) (ite ((0:Int)<=c/\c<(y5.n:Int)) ((F5 N (y5.g c.toNat) (⟨true,a.g i.toNat⟩:M8) ((d.Yf.g b.toNat).Yg.g c.toNat)).bind λq=>ite (!q) (j (wrap .i64 (m+f)) (wrap .i64 (c+1))) (j m (wrap .i64 (c+1)))) none) (j m (wrap .i64 (c+1)))) none) (ite ((i==0)||(decide (m<x9))) (l i m (wrap .i64 (i+1))) (l x8 x9 (wrap .i64 (i+1))))) 0 0) none) (some (x8,0))) 0 0 0)))) 0))
theorem YL {f:B0}{c:Sl (Sl Up)}{b:Int}{d:Int}{y:Int×Int}(h:IH N f c b d=some y) :Uw S Ny [.p (.agg (B3 f)),.p (vSl 1 (cL 2 A0) c),pN b,pN d] [] (.tup [pN y.1,pN y.2]) ([]) []:=by
 unfold IH at h;refine A1 U func21 ?_;refine C7 U S3 8 5000 (B3 f) ?_;refine kD U h (by decide:(8:Nat)<=8) (IE U P) (λy1 h=>?_);refine Ym U h fun h=>?_;refine Ym U h fun h=>?_;refine E2 U S3 h (λx1=>kps [(33,pN x1)] [32,31,4,3,2,1] [] []) (λr x1 s h=>?_);apply kI U h<;>intro h
 .obtain⟨c10,h⟩:=C4 h;refine kD U h c10 (GV U P) (λy4 h=>?_);refine Ym U h fun h=>?_;exact s S3 h
 refine kB U (A3 U) S3 S3 6 (.o (.a (decide (b<0))) (.a (decide ((f.Yf.n:Int)<=b)))) ?_;refine Ym U h fun h=>?_;refine Ym U h fun h=>?_;refine kD U h (by decide:(3:Nat)<=5) (DE U P) (λy5 h=>?_);refine Nq U S3 h (λx8 x9 j=>kps [(62,pN j),(16,pN x9),(15,pN x8)] [61,60,14,4,3,2] [] []) (λt x8 x9 j q h=>?_);apply kI U h<;>intro h
 .obtain⟨c69,h⟩:=C4 h;refine E8 U c69 h (λl i=>kps [(74,pN i),(19,pN l)] [73,72,62,61,60,18,17,16,15,14,4,3,2] [] []) (λu l i m h=>?_);apply kI U h<;>intro h
  .obtain⟨c81,h⟩:=C4 h;refine XK U (Ur c81 Sp) 22000 [.bb ((f.Yf.g b.toNat).Yg.g i.toNat).Has,vSl 2 A0 ((f.Yf.g b.toNat).Yg.g i.toNat).W] ?_;refine B4 U S3 [1,5,6,9,10] ?_;refine dG S3 h (λh=>?_) (λh=>?_)
   .obtain⟨c83,h⟩:=C4 h;refine dP h (Ur c83 Sp) (Be U P) (λv h=>?_);refine D5 S3 ?_;apply kI U h<;>intro h
    .exact m S3 h
    exact m S3 h
   refine D5 S3 ?_;exact m S3 h
  refine kB U (A3 U) S3 S3 4 (.o (.a (j==0)) (.a (decide (l<x9)))) ?_;apply kI U h<;>intro h
  .exact q S3 h
  exact q S3 h
 cases h;exact kR U
def Bf (N:Nat)(q0:B0)(q1:Sl (Sl Law)):Option (List (D0)):= N3 N (λb (x2:Int)=>ite (decide (x2<(q0.Yf.n:Int))) (ite ((0:Int)<=x2/\x2<(q0.Yf.n:Int)) (N3 N (λa (x4:Int)=>ite (decide (x4<((q0.Yf.g x2.toNat).Yg.n:Int))) (ite ((0:Int)<=x4/\x4<((q0.Yf.g x2.toNat).Yg.n:Int)) (ite (((0:Int)<=x4/\x4<(q1.n:Int))/\((0:Int)<=x2/\x2<(q0.Yb.n:Int))) ((F5 N (q1.g x4.toNat) (q0.Yb.g x2.toNat) ((q0.Yf.g x2.toNat).Yg.g x4.toNat)).bind λy9=>ite y9 (BI (⟨x2,x4⟩:D0) (a (wrap .i64 (x4+1)))) (a (wrap .i64 (x4+1)))) none) none) (b (wrap .i64 (x2+1)))) 0) none) (some [])) 0
theorem Tq {q0:B0}{q1:Sl (Sl Law)}{L:List (D0)}(h:Bf N q0 q1=some L) :FY S Gc [] [.reg 0 0,.reg 1 0] [.cells ((B3 q0).map .p),.cells [.p (vSl 1 (cL 18 B6) q1)]] (L.map (λ(x:D0)=>[(λx=>.agg (E1 x)) x])):=by
 unfold Bf at h;refine Fv U func69 ?_;refine DY U S3 h (λx2 L1=>⟨[(11,pN x2),(10,pN (q0.Yf.n:Int)),(9,.p (vSl 2 N5 q0.Yf)),(2,.reg 1 0),(1,.reg 0 0),(0,.yf 2)],[(2,.yld (L1.map (λ(x:D0)=>[(λx=>.agg (E1 x)) x])) true),(1,.cells [.p (vSl 1 (cL 18 B6) q1)]),(0,.cells ((B3 q0).map .p))]⟩) (λf x2 L1 i h=>?_);apply kI U h<;>intro h
 .obtain⟨c78,h⟩:=C4 h;refine DY U (Ur c78 Sp) h (λx4 L16=>⟨[(19,pN x4),(18,pN ((q0.Yf.g x2.toNat).Yg.n:Int)),(17,.p (vSl 2 I4 (q0.Yf.g x2.toNat).Yg)),(11,pN x2),(10,pN (q0.Yf.n:Int)),(9,.p (vSl 2 N5 q0.Yf)),(4,pN x2),(2,.reg 1 0),(1,.reg 0 0),(0,.yf 2)],[(2,.yld (L16.map (λ(x:D0)=>[(λx=>.agg (E1 x)) x])) true),(1,.cells [.p (vSl 1 (cL 18 B6) q1)]),(0,.cells ((B3 q0).map .p))]⟩) (λj x4 L16 d h=>?_);apply kI U h<;>intro h
  .obtain⟨c104,h⟩:=C4 h;refine XK U (Ur c104 Sp) 8000 [.bb ((q0.Yf.g x2.toNat).Yg.g x4.toNat).Has,vSl 2 A0 ((q0.Yf.g x2.toNat).Yg.g x4.toNat).W] ?_;refine Bu8 U S3 16 [(0,.l [1]),(2,.n),(3,.n),(5,.l [0]),(7,.n),(8,.n),(9,.n),(10,.n)] ?_;obtain⟨c105,h⟩:=C4 h;refine dP h (Ur (Ur (Ur c105.1 c105.2) Sp) Sp) (Be U P) (λy9 h=>?_);refine dG S3 h (λh=>?_) (λh=>?_)
   .refine D5 S3 ?_;refine Ip U S3 (b:=true) (λc109=>?_) (λc109=>?_)
    .obtain⟨L22,rfl,c⟩:=OL h;replace h:=c;refine DX U S3 (ys:=(λ(x:D0)=>[(λx=>.agg (E1 x)) x]) (⟨x2,x4⟩:D0)) (rest:=L22.map (λ(x:D0)=>[(λx=>.agg (E1 x)) x])) ?_ ?_
     .refine kF U ?_;exact d S3 h
     refine kT U ?_;exact kO U S3 (a:=.tup []) (objs:=[(.cells ((B3 q0).map .p)),.cells [.p (vSl 1 (cL 18 B6) q1)],.yld [] false]) [0,1,2] ⟨false,rfl,rfl,_,rfl⟩
    exact Bool.noConfusion (Td.symm.trans c109)
   refine D5 S3 ?_;refine Ip U S3 (b:=false) (λc114=>?_) (λc114=>?_)
   .exact Bool.noConfusion ((rfl:false=false).symm.trans c114)
   exact d S3 h
  exact i S3 h
 obtain rfl:=A5 h;exact kO U S3 (a:=.tup []) (objs:=[(.cells ((B3 q0).map .p)),.cells [.p (vSl 1 (cL 18 B6) q1)],.yld [] true]) [0,1,2] ⟨true,rfl,rfl,_,rfl⟩
def Fz (N:Nat)(b:B0)(a:Sl (Sl Law)):Option (B0×(Sl (Sl Law))):= some (b,a)
theorem YM {b:B0}{a:Sl (Sl Law)}{y:B0×(Sl (Sl Law))}(h:Fz N b a=some y) :Uw S NA [.p (.agg (B3 b)),.p (vSl 1 (cL 18 B6) a)] [] (.clo Gc [] [.reg 0 0,.reg 1 0]) ([.cells ((B3 y.1).map .p),.cells [.p (vSl 1 (cL 18 B6) y.2)]]) []:=by unfold Fz at h;refine A1 U func32 ?_;obtain rfl:=A5 h;exact kO U S3 [3000,4000]
def W6 (N:Nat)(a:B0):Option ((Sl Dj)×Int):= (Z5 N a).bind λy1=>ite (y1 != 0) (some ((Sl.nil:Sl Dj),y1)) ((P9 N a.Yc).bind λy2=>(Fz N a y2).bind λy3=>(Bf N y3.1 y3.2).bind λL1=>(N9 N L1).bind λy4=>(BB N a).bind λy5=>(V4 N y5).bind λL2=>T1 L2 (λb (x1:D0×Yc) (z1:Sl Dj)=>(P9 N x1.2).bind λd=>N3 N (λc (x5:Int)=>ite (decide (x5<(y4.n:Int))) (ite (((0:Int)<=x5/\x5<(y4.n:Int))/\x5.toNat<y4.n) (ite (((((0:Int)<=(y4.g x5.toNat).a1/\(y4.g x5.toNat).a1<(d.n:Int))/\((0:Int)<=(y4.g x5.toNat).a0/\(y4.g x5.toNat).a0<(a.Yb.n:Int)))/\((0:Int)<=(y4.g x5.toNat).a0/\(y4.g x5.toNat).a0<(a.Yf.n:Int)))/\((0:Int)<=(y4.g x5.toNat).a1/\(y4.g x5.toNat).a1<((a.Yf.g (y4.g x5.toNat).a0.toNat).Yg.n:Int))) ((F5 N (d.g (y4.g x5.toNat).a1.toNat) (a.Yb.g (y4.g x5.toNat).a0.toNat) ((a.Yf.g (y4.g x5.toNat).a0.toNat).Yg.g (y4.g x5.toNat).a1.toNat)).bind λf=>ite (!f) (ite (Uq 32 (z1.n+(Sl.of [(⟨x1.1.a0,x1.1.a1,(y4.g x5.toNat).a0,(y4.g x5.toNat).a1⟩:Dj)]:Sl Dj).n)) (b (z1.push (⟨x1.1.a0,x1.1.a1,(y4.g x5.toNat).a0,(y4.g x5.toNat).a1⟩:Dj))) none) (c (wrap .i64 (x5+1)))) none) none) (b z1)) 0) (λ(z1:Sl Dj)=>some (z1,0)) (Sl.nil:Sl Dj))
theorem II {b:B0}{vw:Bool}{y:(Sl Dj)×Int}(h:W6 N b=some y) :Uw S Nv [.p (.agg (B3 b))] [] (.tup [.vec 0,pN y.2]) ([oV O9 4 K3 y.1 vw]) []:=by
 unfold W6 at h;refine A1 U func9 ?_;refine C7 U S3 2 2000 (B3 b) ?_;refine kD U h (by decide:(8:Nat)<=8) (Ha U P) (λy1 h=>?_);apply kI U h<;>intro h
 .obtain rfl:=A5 h;cases vw<;>exact kO U S3 [3700]
 refine G1 U S3 [(0,.n),(2,.n),(3,.n),(4,.a [22000,22001]),(5,.a [22000,22001,23000,23001,23002]),(6,.a [6000]),(7,.a [6000,23000])] ?_;refine dP h (Ur (by decide:(8:Nat)<=8) (by decide:(3:Nat)<=5)) (DE U P) (λy2 h=>?_);obtain⟨y3,e3,h⟩:=E4 h;refine GS [] S3 (YM U P e3) ?_;obtain⟨L1,e4,h⟩:=E4 h;obtain⟨y4,e5,h⟩:=E4 h;refine XR [22000,22001] S3 (IG U P ⟨_,func69,by decide +kernel,by decide +kernel⟩ (Tq U P e4) e5) ?_;refine D5 S3 ?_;refine kD U h (by decide:(8:Nat)<=8) (OZ U P) (λy5 h=>?_);obtain⟨L2,e7,h⟩:=E4 h;refine JH U S3 [25000] [6,5,1] 901 (λz1=>⟨[(6,.reg 7000 0),(5,.reg 6000 0),(1,.p (.ptr (B3 b)))],[(23000,oV CM 2 E1 y4 false),(7500,oV O9 4 K3 z1 false),(7000,.cells [.vec 7500]),(6000,.cells [.vec 23000])]⟩) h (MK U P e7) (λ_=>by kernel_rfl) (λ_=>by kernel_rfl) (λ_=>by kernel_rfl) (λ_=>by kernel_rfl) (λx1 d z1 c h=>?_) (λz1 h=>?_)
 .refine C7 U S3 8 8000 [pI .i64 x1.1.a0,pI .i64 x1.1.a1] ?_;refine Nr U S3 ?_;refine C7 U S3 27 9000 (A9 x1.2) ?_;refine kD U h Sw (DE U P) (λj h=>?_);refine E2 U S3 h (λx5=>kps [(31,pN x5)] [30,29,9,7,6,1] [] [23000,7500,7000,6000,901]) (λf x5 i h=>?_);apply kI U h<;>intro h
  .obtain⟨c35,h⟩:=C4 h;refine G1 U (Ur (Ur c35.1 Sp) c35.2) [(1,.l [12000]),(2,.l [12000]),(3,.n),(4,.n),(6,.n),(7,.l [12000]),(8,.l [12000]),(9,.n),(10,.n),(12,.n),(13,.l [12000]),(14,.l [12000]),(15,.n),(17,.n),(18,.l [12000]),(19,.l [12000]),(20,.n),(21,.n),(22,.n)] ?_;obtain⟨c36,h⟩:=C4 h;refine dP h (Ur (Ur (Ur (Ur (Ur (Ur (Ur (Ur (Ur (by decide:(0:Int)<=1/\(1:Int)<2) c36.1.1.1) (by decide:(0:Int)<=0/\(0:Int)<2)) c36.1.1.2) Sp) (by decide:(0:Int)<=0/\(0:Int)<2)) c36.1.2) (by decide:(0:Int)<=1/\(1:Int)<2)) c36.2) Sp) (Be U P) (λm h=>?_);refine D5 S3 ?_;apply kI U h<;>intro h
   .refine C7 U S3 59 12000 [pI .i64 (y4.g x5.toNat).a0,pI .i64 (y4.g x5.toNat).a1] ?_;obtain⟨c38,h⟩:=C4 h;exact c (Ur (Ur (Ur (Ur (Ur (by decide:(0:Int)<=0/\(0:Int)<2) (by decide:(0:Int)<=1/\(1:Int)<2)) (by decide:(0:Int)<=0/\(0:Int)<2)) (by decide:(0:Int)<=1/\(1:Int)<2)) Td) c38) h (hle:=kl1 1 (O8 K3 z1 (⟨x1.1.a0,x1.1.a1,(y4.g x5.toNat).a0,(y4.g x5.toNat).a1⟩:Dj) Yv))
   refine C7 U S3 71 12000 [pI .i64 (y4.g x5.toNat).a0,pI .i64 (y4.g x5.toNat).a1] ?_;exact i S3 h
  exact c S3 h
 obtain rfl:=A5 h;cases vw<;>exact kO U S3 [7500]
def T8 (N:Nat)(b:B0)(a:Int):Option (EG×Int):= (DC N b a).bind λy1=>ite (y1 != 0) (some ((⟨(Sl.nil:Sl A7),(Sl.nil:Sl Dj)⟩:EG),y1)) ((ES N b.Yc b.Yb b.Yf a).bind λy2=>(W6 N b).bind λy3=>some ((⟨y2.1,y3.1⟩:EG),0))
theorem Kt {b:B0}{a:Int}{y:EG×Int}(h:T8 N b a=some y) :Uw S JL [.p (.agg (B3 b)),pN a] [] (.tup [.p (.agg (Mz y.1)),pN y.2]) ([]) []:=by
 unfold T8 at h;refine A1 U func8 ?_;refine kC U h (IE U P) (λy1 h=>?_);apply kI U h<;>intro h
 .obtain rfl:=A5 h;exact I9 U S3 ⟨[(5,pN y1),(4,.reg 5000 0)],[(5000,.cells [.p (vSl 4 B8 (Sl.nil:Sl A7)),.p (vSl 4 K3 (Sl.nil:Sl Dj))])]⟩ [] ⟨rfl,rfl,rfl⟩
 refine kC U h (Qo U P) (λy2 h=>?_);refine kC U h (II U P (vw:=true)) (λy3 h=>?_);obtain rfl:=A5 h;exact I9 U S3 ⟨[(5,pN 0),(4,.reg 5000 0)],[(5000,.cells [.p (vSl 4 B8 y2.1),.p (vSl 4 K3 y3.1)])]⟩ [] ⟨rfl,rfl,rfl⟩
theorem YN {b:B0}{a:Int}{y:EG×Int}(h:T8 N b a=some y) :Uw S JL [.p (.agg (B3 b)),pN a] [] (.tup [.agr [.vec 0,.vec 1],pN y.2]) ([oV E6 4 B8 y.1.Bad false,oV O9 4 K3 y.1.Yd false]) []:=by
 unfold T8 at h;refine A1 U func8 ?_;refine kC U h (IE U P) (λy1 h=>?_);apply kI U h<;>intro h
 .obtain rfl:=A5 h;exact I9 U S3 ⟨[(5,pN y1),(4,.reg 5000 0)],[(5701,oV O9 4 K3 (Sl.nil:Sl Dj) false),(5700,oV E6 4 B8 (Sl.nil:Sl A7) false),(5000,.cells [.vec 5700,.vec 5701])]⟩ [5700,5701] ⟨rfl,rfl,rfl⟩
 refine kC U h (Qo U P) (λy2 h=>?_);refine kC U h (II U P (vw:=false)) (λy3 h=>?_);obtain rfl:=A5 h;exact I9 U S3 ⟨[(5,pN 0),(4,.reg 5000 0)],[(32000,oV O9 4 K3 y3.1 false),(27000,oV E6 4 B8 y2.1 false),(5000,.cells [.vec 27000,.vec 32000])]⟩ [27000,32000] ⟨rfl,rfl,rfl⟩
def Ev (N:Nat)(c:B0)(a:Int)(b:EG):Option (Bool×Int):= (T8 N c a).bind λy1=>ite (y1.2 != 0) (some (false,y1.2)) ((G5 N y1.1.Bad b.Bad).bind λy2=>lt (λ(z1:Bool)=>some (z1,0)) λk1=>ite y2 ((L7 N y1.1.Yd b.Yd).bind λy4=>k1 y4) (k1 false))
theorem Mk {b:B0}{a:Int}{c:EG}{y:Bool×Int}(h:Ev N b a c=some y) :Uw S LE [.p (.agg (B3 b)),pN a,.p (.agg (Mz c))] [] (.tup [pB y.1,pN y.2]) ([]) []:=by
 unfold Ev at h;refine A1 U func16 ?_;refine kC U h (Kt U P) (λy1 h=>?_);refine Ym U h fun h=>?_;refine kC U h (Y6 U P) (λy2 h=>?_);refine GN U S3 (A3 U) h 0 (λz1=>kps [(6,pB z1)] [7] [] []) (λk1 d h=>?_) (λz1 h=>?_)
 .refine kG U h (λh=>?_) (λh=>?_)
  .refine kC U h (CS U P) (λy4 h=>?_);exact d S3 h
  exact d S3 h
 cases h;exact kR U
abbrev Qp (s:Str):Nat->List PV:=λi=>[.v (.int .u8 ((s.getD i 0).toNat:Nat))]
theorem YO {s:Str}{u n:Nat}{f:Nat->List PV}(hc:(n+s.length)*1<=140737488355328/\n+s.length<=140737488355328) :Uw S Ae [.reg 0 0,.p (.str s)] [.blk [0,121,u] 1,.vec I2 1 n f false] (.tup [pN (s.length:Int),.p (.v .nilIface)]) [.blk [0,121,1] 1,.vec I2 1 (n+s.length) (DO n f (Qp s)) false] [true,false]:=by refine A1 U func48 ?_;refine D6 U [0,1] S3 (P.copyCheck 121 u n f rfl) ?_;exact kO U hc [0,15000]
theorem w_Len {u n:Nat}{f:Nat->List PV}:Uw S EH [.reg 0 0] [.blk [0,121,u] 1,.vec I2 1 n f false] (pN (n:Int)) [.blk [0,121,u] 1,.vec I2 1 n f false] [true,true]:=by refine A1 U func53 ?_;exact kO U S3 [0,1]
theorem Bw3 {N:Nat}{ws:Sl Str}{j:Str}{u n:Nat}{f:Nat->List PV}(b:X0 N ws [32]=some j)(hc:(n+(j++[10]).length)*1<=140737488355328/\n+(j++[10]).length<=140737488355328) :Uw S Hf [.p (vSl 1 cS ws),.reg 0 0] [.blk [0,121,u] 1,.vec I2 1 n f false] (.tup []) [.blk [0,121,1] 1,.vec I2 1 (n+(j++[10]).length) (DO n f (Qp (j++[10]))) false] [true,false]:=by
 have a:((j.length+([10]:Str).length:Nat):Int)<=9223372036854775807:=by have h1:=hc.2;rw[Cg1]at h1;have c:([10]:Str).length=1:=rfl;omega
 refine A1 U func47 ?_;refine D6 U [] S3 (Vb U P b) ?_;refine D6 U [0,1] a (YO U P (u:=u) (f:=f) hc) ?_;exact kO U S3 [0,7001]
end Go.AM
namespace Go.AM
open IntKind (wrap)
open Go.Proofs
set_option maxRecDepth 10000
set_option maxHeartbeats 4000000
abbrev J2 (a b:D0):Bool:=(a.a0==b.a0&&a.a1==b.a1)
def Bw4 (a b:D0)(h:J2 a b=true):a=b:=by cases a;cases b;simpa[J2]using h
def Tr {κ ν : Type}{kP : κ -> PV}{vP : ν -> PV}[Inhabited κ][Inhabited ν]:∀(l:List (κ × ν)) (i:Nat),i<l.length->(DQ kP vP l).getD i default=(kP (l.getD i default).1,vP (l.getD i default).2)
 |p::l,0,_=>rfl
 |p::l,i+1,h=>Tr l i (Nat.lt_of_succ_lt_succ h)
variable {S:X4}(U:H3 S Tryz.prog) (P:KY S)
include U P
def IJ (N:Nat)(d:B0)(a:EG):Option (Bool×Int):= (T8 N d 0).bind λy1=>ite (y1.2 != 0) (some (false,y1.2)) (U1 N (λc (x1:List (D0×Int)) (x2:Int)=>ite (decide (x2<(y1.1.Bad.n:Int))) (ite ((0:Int)<=x2/\x2<(y1.1.Bad.n:Int)) (c (FZ J2 (⟨(y1.1.Bad.g x2.toNat).Yh,(y1.1.Bad.g x2.toNat).X9⟩:D0) 0 x1) (wrap .i64 (x2+1))) none) (U1 N (λb (x3:List (D0×Int)) (x4:Int)=>ite (decide (x4<(a.Bad.n:Int))) (ite ((0:Int)<=x4/\x4<(a.Bad.n:Int)) (JD (M7 J2 (⟨(a.Bad.g x4.toNat).Yh,(a.Bad.g x4.toNat).X9⟩:D0) x3) (some (false,0)) λv5=>JD (M7 J2 (⟨(a.Bad.g x4.toNat).Yh,(a.Bad.g x4.toNat).X9⟩:D0) x3) (b (FZ J2 (⟨(a.Bad.g x4.toNat).Yh,(a.Bad.g x4.toNat).X9⟩:D0) (wrap .i64 (0+1)) x3) (wrap .i64 (x4+1))) λv6=>b (FZ J2 (⟨(a.Bad.g x4.toNat).Yh,(a.Bad.g x4.toNat).X9⟩:D0) (wrap .i64 (v6+1)) x3) (wrap .i64 (x4+1))) none) (some (!(x3.any λe=>e.2==0),0))) x1 0)) [] 0)
theorem YP {N:Nat}{j:B0}{d:EG}{y:Bool×Int}(h:IJ N j d=some y) :Uw S Nx [.p (.agg (B3 j)),.p (.agg (Mz d))] [] (.tup [pB y.1,pN y.2]) ([]) []:=by
 unfold IJ at h;refine A1 U Tryz.func20 ?_;refine C7 U S3 3 3000 (B3 j) ?_;refine C7 U S3 4 4000 [vSl 4 B8 d.Bad,vSl 4 K3 d.Yd] ?_;refine kD U h (by decide:(8:Nat)<=8) (Kt U P) (λy1 h=>?_);refine C7 U S3 7 7000 [vSl 4 B8 y1.1.Bad,vSl 4 K3 y1.1.Yd] ?_;refine Ym U h fun h=>?_;refine E8 U S3 h (λx1 x2=>kps [(30,pN x2)] [29,28,8,3] [(27000,oM (λx=>.agg (E1 x)) (pI .i64) x1)] []) (λu x1 x2 v h=>?_);apply kI U h<;>intro h
 .obtain⟨c7,h⟩:=C4 h;refine C7 U (Ur c7 Sx) 34 11000 (B8 (y1.1.Bad.g x2.toNat)) ?_;refine AO6 U S3 CM (λx=>.agg (E1 x)) (pI .i64) J2 (⟨(y1.1.Bad.g x2.toNat).Yh,(y1.1.Bad.g x2.toNat).X9⟩:D0) 0 x1 (by decide +kernel:(!Tryz.prog.eqGuardType Tryz.prog.depth CM)=true) ?_;exact v S3 h
 refine E8 U S3 h (λx3 x4=>kps [(44,pN x4)] [43,42,8] [(27000,oM (λx=>.agg (E1 x)) (pI .i64) x3)] []) (λw x3 x4 a0 h=>?_);apply kI U h<;>intro h
 .obtain⟨c17,h⟩:=C4 h;refine C7 U (Ur c17 Sx) 48 13000 (B8 (d.Bad.g x4.toNat)) ?_;refine C7 U S3 54 14000 [pI .i64 (d.Bad.g x4.toNat).Yh,pI .i64 (d.Bad.g x4.toNat).X9] ?_;rcases o5:M7 J2 (⟨(d.Bad.g x4.toNat).Yh,(d.Bad.g x4.toNat).X9⟩:D0) x3 with _|v5
  .replace h:=An6 o5 h;refine Ar6 U Sp CM C8 (λx=>.agg (E1 x)) (pI .i64) J2 o5 (pI .i64 0) (by decide +kernel:(!Tryz.prog.eqGuardType Tryz.prog.depth CM)=true) ?_;refine kT U ?_;cases h;exact kR U
  replace h:=Ab6 o5 h;refine Ar5 U Sp CM C8 (λx=>.agg (E1 x)) (pI .i64) J2 o5 (by decide +kernel:(!Tryz.prog.eqGuardType Tryz.prog.depth CM)=true) ?_;refine kF U ?_;refine G1 U S3 [(1,.n),(2,.l [27000]),(4,.l [27000]),(6,.a [27000])] ?_;rcases o6:M7 J2 (⟨(d.Bad.g x4.toNat).Yh,(d.Bad.g x4.toNat).X9⟩:D0) x3 with _|v6
  .exact Ke (o5.symm.trans o6) (by simp)
  replace h:=Ab6 o6 h;refine Bv4 Sp CM C8 (λx=>.agg (E1 x)) (pI .i64) J2 o6 (by decide +kernel:(!Tryz.prog.eqGuardType Tryz.prog.depth CM)=true) ?_;have ha:=Ac9 Bw4 (z:=(0:Int)) o6;refine Bv1 S3 (kt:=CM) (key:=(λx=>.agg (E1 x)) (⟨(d.Bad.g x4.toNat).Yh,(d.Bad.g x4.toNat).X9⟩:D0)) (z:=pI .i64 0) (y:=pI .i64 v6) (es:=DQ (λx=>.agg (E1 x)) (pI .i64) x3) (i:=(JJ J2 (⟨(d.Bad.g x4.toNat).Yh,(d.Bad.g x4.toNat).X9⟩:D0) (0:Int) x3).1) (by have:=Re (kP:=λx=>.agg (E1 x)) (vP:=pI .i64) (cmp:=Li Tryz.prog CM) (eq:=J2) (λ_ _=>by kernel_rfl) (⟨(d.Bad.g x4.toNat).Yh,(d.Bad.g x4.toNat).X9⟩:D0) 0 x3;rw[ha]at this;exact this) (by decide +kernel:(!Tryz.prog.eqGuardType Tryz.prog.depth CM)=true) ?_;refine XP S3 (i:=(JJ J2 (⟨(d.Bad.g x4.toNat).Yh,(d.Bad.g x4.toNat).X9⟩:D0) (0:Int) x3).1) (y:=pI .i64 (wrap .i64 (v6+1))) (es:=DQ (λx=>.agg (E1 x)) (pI .i64) x3) (es':=DQ (λx=>.agg (E1 x)) (pI .i64) (FZ J2 (⟨(d.Bad.g x4.toNat).Yh,(d.Bad.g x4.toNat).X9⟩:D0) (wrap .i64 (v6+1)) x3)) (by have:=My J2 (⟨(d.Bad.g x4.toNat).Yh,(d.Bad.g x4.toNat).X9⟩:D0) 0 x3;rw[ha]at this;rw[CQ];exact this) (by have:=(Ns (JJ J2 (⟨(d.Bad.g x4.toNat).Yh,(d.Bad.g x4.toNat).X9⟩:D0) (0:Int) x3).2.2 (JJ J2 (⟨(d.Bad.g x4.toNat).Yh,(d.Bad.g x4.toNat).X9⟩:D0) (0:Int) x3).1 (wrap .i64 (v6+1)) (My J2 (⟨(d.Bad.g x4.toNat).Yh,(d.Bad.g x4.toNat).X9⟩:D0) 0 x3)).trans (congrArg (DQ (λx=>.agg (E1 x)) (pI .i64)) (Nt J2 (⟨(d.Bad.g x4.toNat).Yh,(d.Bad.g x4.toNat).X9⟩:D0) 0 (wrap .i64 (v6+1)) x3));rw[ha]at this;exact this) ?_;refine D5 S3 ?_;exact a0 S3 h
 refine BY1 U S3 (DQ (λx=>.agg (E1 x)) (pI .i64) x3).length (λi=>(x3.getD i default).2≠0) (λs=>⟨[(69,.reg 70000 0)],[(70000,.blk (1::(DQ (λx=>.agg (E1 x)) (pI .i64) x3).length::(DQ (λx=>.agg (E1 x)) (pI .i64) x3).length::s) 27000),(27000,oM (λx=>.agg (E1 x)) (pI .i64) x3)]⟩) (λseen m a1=>?_);refine BX7 U S3 (cl:=(DQ (λx=>.agg (E1 x)) (pI .i64) x3).length) (last:=(DQ (λx=>.agg (E1 x)) (pI .i64) x3).length) (seen:=seen) (es:=DQ (λx=>.agg (E1 x)) (pI .i64) x3) rfl (Ce5 _) (ky:=λi=>.agg (E1 (x3.getD i default).1)) (vl:=λi=>pI .i64 (x3.getD i default).2) (λi f=>Tr x3 i (by rw[CQ]at f;exact f)) (λq=>?_) (λi f a2=>?_)
 .have a3:(x3.any λe=>e.2==0)=false:=by rw[List.any_eq_false];intro e he h0;obtain⟨i,f,rfl⟩:=Ck5 he;have h1:=(m i (q i (by rw[CQ];exact f))).2;rw[Ce0,Ce3 f]at h1;exact h1 (by simpa using h0)
  rw[a3]at h;refine O0 U S3 (b:=false) (λc18=>Bool.noConfusion c18) (λc18=>?_);cases h;exact kR U
 have o : i<x3.length:=by rw[CQ]at f;exact f
 have r:((DQ (λx=>.agg (E1 x)) (pI .i64) x3).getD i default)=((λx=>PV.agg (E1 x)) (x3.getD i default).1,pI .i64 (x3.getD i default).2):=Tr x3 i o;refine O0 U S3 (b:=true) (λ_=>?_) (λc=>Bool.noConfusion c);refine BY0 U S3 72 (last:=(DQ (λx=>.agg (E1 x)) (pI .i64) x3).length) (i:=i) (es:=DQ (λx=>.agg (E1 x)) (pI .i64) x3) rfl f (.agg (E1 (x3.getD i default).1)) (pI .i64 (x3.getD i default).2) r ?_;refine O0 U S3 (b:=(x3.getD i default).2==0) (λc=>?_) (λc=>?_)
 .have t:(x3.any λe=>e.2==0)=true:=by refine List.any_eq_true.2 ⟨x3.getD i default,?_,c⟩;rw[Ce0,Ce3 o];exact Ct2 o
  rw[t]at h;cases h;exact kR U
 exact a1 S3 f a2 (λh0=>by rw[h0]at c;cases c)
end Go.AM
namespace Go.AM
variable {N:Nat}
open IntKind (wrap)
open Go.Proofs
set_option maxRecDepth 10000
set_option maxHeartbeats 4000000
def bu:Str->Nat
 |[]=>0
 |_::_=>1
def AX2:Str->Nat->List PV
 |[]=>λ_=>[]
 |a::s=>Qp (a::s)
def Bw5 (s:Str)(i:Nat)(h:i<s.length):AX2 s i=[.v (.int .u8 (s.getD i 0).toNat)]:=by
 cases s with
 |nil=>exact Ke h (Cp2 _)
 |cons a s=>rfl
def AS3 (s t:Str):DO s.length (Qp s) (Qp t)=Qp (s++t):=by
 funext i;unfold DO Qp;split
 .rename_i h;rw[Ce0,Ce0,Cj5 h]
 rename_i h;rw[Ce0,Ce0,Cr6 (by omega)]
def Bw6 (s j:Str):AX2 (s++(j++[10]))=DO s.length (AX2 s) (Qp (j++[10])):=by
 cases s with
 |nil=>
  show AX2 (j++[10])=_;cases j with
  |nil=>funext i;simp[DO,AX2]
  |cons a j=>funext i;simp[DO,AX2]
 |cons a s=>exact (AS3 (a::s) (j++[10])).symm
def BZ2 (s j:Str):bu (s++(j++[10]))=1:=by
 cases s with
 |cons a s=>rfl
 |nil=>cases j<;>rfl
def Aa (N:Nat)(n b:Int):Option Str:=ite ((-9223372036854775808<=n/\n<=9223372036854775807)/\b=10) (some (Lib.itoa n)) none
variable {S:X4}(U:H3 S Tryz.prog) (P:KY S)
include U P
theorem Gu {n b:Int}{y:Str}(h:Aa N n b=some y):ZH S Z8 [.p (pI .i64 n),.p (pI .i64 b)] (.p (.str y)):=by unfold Aa at h;obtain⟨c,h⟩:=C4 h;obtain rfl:=A5 h;obtain⟨⟨c1,c2⟩,rfl⟩:=c;exact P.fmtInt n c1 c2
theorem Bf9 {ws:Sl Str}{j s:Str}(a:X0 N ws [32]=some j)(hc:(s++(j++[10])).length<=140737488355328) :Uw S Hf [.p (vSl 1 cS ws),.reg 0 0] [.blk [0,121,bu s] 1,.vec I2 1 s.length (AX2 s) false] (.tup []) [.blk [0,121,bu (s++(j++[10]))] 1,.vec I2 1 (s++(j++[10])).length (AX2 (s++(j++[10]))) false] [true,false]:=by rw[BZ2,Bw6,Cg1];rw[Cg1]at hc;exact Bw3 U P a ⟨by omega,hc⟩
def Ku (N:Nat)(b:B0)(a:EG):Option (Str×Int):= (Z5 N b).bind λy1=>ite (y1 != 0) (some ([],y1)) (N3 N (λd (x1:Int)=>ite (decide (x1<(a.Bad.n:Int))) (ite ((0:Int)<=x1/\x1<(a.Bad.n:Int)) (JD (M7 eqI (a.Bad.g x1.toNat).Kind ([(1,0),(2,1)]:List (Int×Int))) (some ([],2)) λv3=>d (wrap .i64 (x1+1))) none) ((T3 N b.Yc.Tree).bind λy2=>U1 N (λc (x2:Str) (x3:Int)=>ite (decide (x3<(a.Bad.n:Int))) (ite ((0:Int)<=x3/\x3<(a.Bad.n:Int)) ((IF N b (a.Bad.g x3.toNat).Yh (a.Bad.g x3.toNat).X9).bind λo=>ite (!o) (some ([],3)) (JD (M7 eqI (a.Bad.g x3.toNat).Kind ([(1,0),(2,1)]:List (Int×Int))) (ite (((((0:Int)<=(a.Bad.g x3.toNat).Yh/\(a.Bad.g x3.toNat).Yh<(b.Yf.n:Int))/\((0:Int)<=(a.Bad.g x3.toNat).X9/\(a.Bad.g x3.toNat).X9<(y2.1.n:Int)))/\(a.Bad.g x3.toNat).X9.toNat<y2.1.n)/\((0:Int)<=(y2.1.g (a.Bad.g x3.toNat).X9.toNat)/\(y2.1.g (a.Bad.g x3.toNat).X9.toNat)<(b.Yc.Tree.n:Int))) ((Aa N (a.Bad.g x3.toNat).Cost 10).bind λq=>(X0 N (Sl.of [[98,97,100],(b.Yf.g (a.Bad.g x3.toNat).Yh.toNat).Gloss,(b.Yc.Tree.g (y2.1.g (a.Bad.g x3.toNat).X9.toNat).toNat).Name,[111,116,104,101,114],q]:Sl Str) [32]).bind λi=>ite ((x2++(i++[10])).length<=140737488355328) (c (x2++(i++[10])) (wrap .i64 (x3+1))) none) none) λv6=>ite ((0:Int)<=v6/\v6<2) (ite (((((0:Int)<=(a.Bad.g x3.toNat).Yh/\(a.Bad.g x3.toNat).Yh<(b.Yf.n:Int))/\((0:Int)<=(a.Bad.g x3.toNat).X9/\(a.Bad.g x3.toNat).X9<(y2.1.n:Int)))/\(a.Bad.g x3.toNat).X9.toNat<y2.1.n)/\((0:Int)<=(y2.1.g (a.Bad.g x3.toNat).X9.toNat)/\(y2.1.g (a.Bad.g x3.toNat).X9.toNat)<(b.Yc.Tree.n:Int))) ((Aa N (a.Bad.g x3.toNat).Cost 10).bind λr=>(X0 N (Sl.of [[98,97,100],(b.Yf.g (a.Bad.g x3.toNat).Yh.toNat).Gloss,(b.Yc.Tree.g (y2.1.g (a.Bad.g x3.toNat).X9.toNat).toNat).Name,[([111,116,104,101,114]:Str),([110,111,110,101]:Str)].getD v6.toNat [],r]:Sl Str) [32]).bind λj=>ite ((x2++(j++[10])).length<=140737488355328) (c (x2++(j++[10])) (wrap .i64 (x3+1))) none) none) none)) none) (U1 N (λf (x4:Str) (x5:Int)=>ite (decide (x5<(a.Yd.n:Int))) (ite ((0:Int)<=x5/\x5<(a.Yd.n:Int)) ((DF N b (a.Yd.g x5.toNat)).bind λl=>ite (l.2 != 0) (some ([],l.2)) (ite ((0:Int)<=(a.Yd.g x5.toNat).Node/\(a.Yd.g x5.toNat).Node<(b.Yc.On.n:Int)) (ite ((((((((((0:Int)<=(a.Yd.g x5.toNat).Node/\(a.Yd.g x5.toNat).Node<(b.Yc.Tree.n:Int))/\((0:Int)<=(a.Yd.g x5.toNat).Place/\(a.Yd.g x5.toNat).Place<((b.Yc.On.g (a.Yd.g x5.toNat).Node.toNat).n:Int)))/\((0:Int)<=((b.Yc.On.g (a.Yd.g x5.toNat).Node.toNat).g (a.Yd.g x5.toNat).Place.toNat)/\((b.Yc.On.g (a.Yd.g x5.toNat).Node.toNat).g (a.Yd.g x5.toNat).Place.toNat)<(b.Yc.Laws.n:Int)))/\((0:Int)<=(wrap .i64 ((a.Yd.g x5.toNat).Place+1))/\(wrap .i64 ((a.Yd.g x5.toNat).Place+1))<((b.Yc.On.g (a.Yd.g x5.toNat).Node.toNat).n:Int)))/\((0:Int)<=((b.Yc.On.g (a.Yd.g x5.toNat).Node.toNat).g (wrap .i64 ((a.Yd.g x5.toNat).Place+1)).toNat)/\((b.Yc.On.g (a.Yd.g x5.toNat).Node.toNat).g (wrap .i64 ((a.Yd.g x5.toNat).Place+1)).toNat)<(b.Yc.Laws.n:Int)))/\((0:Int)<=(a.Yd.g x5.toNat).Yh/\(a.Yd.g x5.toNat).Yh<(b.Yf.n:Int)))/\((0:Int)<=(a.Yd.g x5.toNat).X9/\(a.Yd.g x5.toNat).X9<(y2.1.n:Int)))/\(a.Yd.g x5.toNat).X9.toNat<y2.1.n)/\((0:Int)<=(y2.1.g (a.Yd.g x5.toNat).X9.toNat)/\(y2.1.g (a.Yd.g x5.toNat).X9.toNat)<(b.Yc.Tree.n:Int))) ((X0 N (Sl.of [[115,119,97,112],(b.Yc.Tree.g (a.Yd.g x5.toNat).Node.toNat).Name,(b.Yc.Laws.g ((b.Yc.On.g (a.Yd.g x5.toNat).Node.toNat).g (a.Yd.g x5.toNat).Place.toNat).toNat).Name,(b.Yc.Laws.g ((b.Yc.On.g (a.Yd.g x5.toNat).Node.toNat).g (wrap .i64 ((a.Yd.g x5.toNat).Place+1)).toNat).toNat).Name,(b.Yf.g (a.Yd.g x5.toNat).Yh.toNat).Gloss,(b.Yc.Tree.g (y2.1.g (a.Yd.g x5.toNat).X9.toNat).toNat).Name]:Sl Str) [32]).bind λm=>ite ((x4++(m++[10])).length<=140737488355328) (f (x4++(m++[10])) (wrap .i64 (x5+1))) none) none) none)) none) (ite (decide (65536<(x4.length:Int))) (some ([],11)) (some (x4,0)))) x2 0)) [] 0)) 0)
theorem Ai8 {c:B0}{b:EG}{y:Str×Int}(h:Ku N c b=some y) :Uw S PL [.p (.agg (B3 c)),.p (.agg (Mz b))] [] (.tup [.p (.str y.1),pN y.2]) ([]) []:=by
 unfold Ku at h;refine A1 U Tryz.func18 ?_;refine C7 U S3 3 3000 (B3 c) ?_;refine C7 U S3 4 4000 [vSl 4 B8 b.Bad,vSl 4 K3 b.Yd] ?_;refine kD U h (by decide:(8:Nat)<=8) (Ha U P) (λy1 h=>?_);refine Ym U h fun h=>?_;refine E2 U S3 h (λx1=>kps [(35,pN x1)] [34,33,7,3,2] [] [31000]) (λo x1 q h=>?_);apply kI U h<;>intro h
 .obtain⟨c11,h⟩:=C4 h;refine C7 U (Ur c11 Sx) 40 10000 (B8 (b.Bad.g x1.toNat)) ?_;rcases o3:M7 eqI (b.Bad.g x1.toNat).Kind ([(1,0),(2,1)]:List (Int×Int))with _|v3
  .replace h:=An6 o3 h;refine Ar6 U S3 C8 C8 (pI .i64) (pI .i64) eqI o3 (pI .i64 0) S3 ?_;refine kT U ?_;cases h;exact kR U
  replace h:=Ab6 o3 h;refine Ar5 U S3 C8 C8 (pI .i64) (pI .i64) eqI o3 S3 ?_;refine kF U ?_;exact q S3 h
 refine kC U h (Fy U P) (λy2 h=>?_);refine K_bld U S3 14 ?_;refine E8 U S3 h (λx2 x3=>kps [(60,pN x3)] [59,58,15,14,12,7,3,2] [(15001,.vec I2 1 x2.length (AX2 x2) false),(15000,.blk [0,121,bu x2] 15001)] [54000,31000]) (λr x2 x3 j h=>?_);apply kI U h<;>intro h
 .obtain⟨c27,h⟩:=C4 h;refine C7 U (Ur c27 Sx) 64 18000 (B8 (b.Bad.g x3.toNat)) ?_;refine kD U h (by decide:(8:Nat)<=8) (Tp U P) (λw h=>?_);refine Ym U h fun h=>?_;rcases o6:M7 eqI (b.Bad.g x3.toNat).Kind ([(1,0),(2,1)]:List (Int×Int))with _|v6
  .replace h:=An6 o6 h;refine Ar6 U S3 C8 C8 (pI .i64) (pI .i64) eqI o6 (pI .i64 0) S3 ?_;refine G1 U (by decide:(0:Int)<=0/\(0:Int)<2) [(2,.n),(4,.n),(5,.n),(7,.n),(10,.n),(13,.n),(16,.n),(18,.n),(21,.n),(22,.n),(24,.a [15000,15001,102000,102001])] ?_;obtain⟨c29,h⟩:=C4 h;refine dP h c29 (Gu U P) (λl h=>?_);refine O3 S3 (x:=.sl true 1 5 (G9 [.str []] [(0,cS [98,97,100]),(1,cS (c.Yf.g (b.Bad.g x3.toNat).Yh.toNat).Gloss),(2,cS (c.Yc.Tree.g (y2.1.g (b.Bad.g x3.toNat).X9.toNat).toNat).Name),(3,cS [111,116,104,101,114]),(4,cS l)])) ?_;obtain⟨z,e15,h⟩:=E4 h;obtain⟨c30,h⟩:=C4 h;refine XR [15000,15001] S3 (Uw.le U (args:=[.p (.sl true 1 5 (G9 [.str []] [(0,cS [98,97,100]),(1,cS (c.Yf.g (b.Bad.g x3.toNat).Yh.toNat).Gloss),(2,cS (c.Yc.Tree.g (y2.1.g (b.Bad.g x3.toNat).X9.toNat).toNat).Name),(3,cS [111,116,104,101,114]),(4,cS l)])),.reg 0 0]) (by exact⟨Na rfl (λi d=>match i,d with|0,_=>rfl|1,_=>rfl|2,_=>rfl|3,_=>rfl|4,_=>rfl|_+5,d=>Ke d (by omega)),⟨.inl rfl,trivial⟩⟩) (Bf9 U P e15 c30)) ?_;refine D5 S3 ?_;exact j S3 h
  replace h:=Ab6 o6 h;refine Ar5 U S3 C8 C8 (pI .i64) (pI .i64) eqI o6 S3 ?_;obtain⟨c31,h⟩:=C4 h;refine G1 U c31 [(2,.n),(4,.n),(5,.n),(7,.n),(10,.n),(13,.n),(16,.n),(18,.n),(21,.n),(22,.n),(24,.a [15000,15001,102000,102001])] ?_;obtain⟨c32,h⟩:=C4 h;refine dP h c32 (Gu U P) (λm h=>?_);refine O3 S3 (x:=.sl true 1 5 (G9 [.str []] [(0,cS [98,97,100]),(1,cS (c.Yf.g (b.Bad.g x3.toNat).Yh.toNat).Gloss),(2,cS (c.Yc.Tree.g (y2.1.g (b.Bad.g x3.toNat).X9.toNat).toNat).Name),(3,cS ([([111,116,104,101,114]:Str),([110,111,110,101]:Str)].getD v6.toNat [])),(4,cS m)])) ?_;obtain⟨a0,e17,h⟩:=E4 h;obtain⟨c33,h⟩:=C4 h;refine XR [15000,15001] S3 (Uw.le U (args:=[.p (.sl true 1 5 (G9 [.str []] [(0,cS [98,97,100]),(1,cS (c.Yf.g (b.Bad.g x3.toNat).Yh.toNat).Gloss),(2,cS (c.Yc.Tree.g (y2.1.g (b.Bad.g x3.toNat).X9.toNat).toNat).Name),(3,cS ([([111,116,104,101,114]:Str),([110,111,110,101]:Str)].getD v6.toNat [])),(4,cS m)])),.reg 0 0]) (by exact⟨Na rfl (λi d=>match i,d with|0,_=>rfl|1,_=>rfl|2,_=>rfl|3,_=>rfl|4,_=>rfl|_+5,d=>Ke d (by omega)),⟨.inl rfl,trivial⟩⟩) (Bf9 U P e17 c33)) ?_;refine D5 S3 ?_;exact j S3 h
 refine E8 U S3 h (λx4 x5=>kps [(106,pN x5)] [105,104,15,14,12,2] [(15001,.vec I2 1 x4.length (AX2 x4) false),(15000,.blk [0,121,bu x4] 15001)] [54000]) (λs x4 x5 t h=>?_);apply kI U h<;>intro h
 .obtain⟨c45,h⟩:=C4 h;refine C7 U (Ur c45 Sx) 111 21000 (K3 (b.Yd.g x5.toNat)) ?_;refine kD U h (Ur (by decide:(8:Nat)<=8) Sx) (Kr U P) (λv h=>?_);refine C7 U S3 22 22000 (A9 v.1) ?_;refine Ym U h fun h=>?_;refine B4 U S3 [2,4,5,6,9] ?_;refine dE h (λh=>?_);refine G1 U S3 [(3,.n),(5,.n),(6,.n),(8,.n),(12,.n),(13,.n),(14,.n),(15,.n),(17,.n),(21,.n),(23,.n),(24,.n),(25,.n),(27,.n),(29,.n),(31,.n),(32,.n),(34,.n),(37,.n),(40,.n),(43,.n),(45,.n),(47,.a [15000,15001,177000,177001])] ?_;obtain⟨c48,h⟩:=C4 h;refine O3 c48 (x:=.sl true 1 6 (G9 [.str []] [(0,cS [115,119,97,112]),(1,cS (c.Yc.Tree.g (b.Yd.g x5.toNat).Node.toNat).Name),(2,cS (c.Yc.Laws.g ((c.Yc.On.g (b.Yd.g x5.toNat).Node.toNat).g (b.Yd.g x5.toNat).Place.toNat).toNat).Name),(3,cS (c.Yc.Laws.g ((c.Yc.On.g (b.Yd.g x5.toNat).Node.toNat).g (wrap .i64 ((b.Yd.g x5.toNat).Place+1)).toNat).toNat).Name),(4,cS (c.Yf.g (b.Yd.g x5.toNat).Yh.toNat).Gloss),(5,cS (c.Yc.Tree.g (y2.1.g (b.Yd.g x5.toNat).X9.toNat).toNat).Name)])) ?_;obtain⟨a1,e23,h⟩:=E4 h;obtain⟨c49,h⟩:=C4 h;refine XR [15000,15001] S3 (Uw.le U (args:=[.p (.sl true 1 6 (G9 [.str []] [(0,cS [115,119,97,112]),(1,cS (c.Yc.Tree.g (b.Yd.g x5.toNat).Node.toNat).Name),(2,cS (c.Yc.Laws.g ((c.Yc.On.g (b.Yd.g x5.toNat).Node.toNat).g (b.Yd.g x5.toNat).Place.toNat).toNat).Name),(3,cS (c.Yc.Laws.g ((c.Yc.On.g (b.Yd.g x5.toNat).Node.toNat).g (wrap .i64 ((b.Yd.g x5.toNat).Place+1)).toNat).toNat).Name),(4,cS (c.Yf.g (b.Yd.g x5.toNat).Yh.toNat).Gloss),(5,cS (c.Yc.Tree.g (y2.1.g (b.Yd.g x5.toNat).X9.toNat).toNat).Name)])),.reg 0 0]) (by exact⟨Na rfl (λi d=>match i,d with|0,_=>rfl|1,_=>rfl|2,_=>rfl|3,_=>rfl|4,_=>rfl|5,_=>rfl|_+6,d=>Ke d (by omega)),⟨.inl rfl,trivial⟩⟩) (Bf9 U P e23 c49)) ?_;refine D5 S3 ?_;exact t S3 h
 refine D6 U [15000,15001] S3 (w_Len U P (u:=bu x4) (n:=x4.length) (f:=AX2 x4)) ?_;refine Ym U h fun h=>?_;refine D6 U [15000,15001] S3 (P.bstr 121 (bu x4) x4.length (AX2 x4) x4 rfl rfl (Bw5 x4)) ?_;cases h;exact kR U
end Go.AM
namespace Go.AM
open Go.Proofs.Tryz
variable {N:Nat}
open IntKind (wrap)
open Go.Proofs
set_option maxRecDepth 10000
set_option maxHeartbeats 2000000
variable {S:X4}(U:H3 S Tryz.prog) (P:KY S)
include U P
def BC (N:Nat)(b:Str):Option (Sl Up):= U1 N (λa (x1:Sl Up) (x2:Int)=>ite (decide (x2<(b.length:Int))) (ite ((0:Int)<=x2/\x2<(b.length:Int)) (ite ((E9 b x2)==112) (ite (Uq 8 (x1.n+(Sl.of [(⟨2,5⟩:Up)]:Sl Up).n)) (a (x1.push (⟨2,5⟩:Up)) (wrap .i64 (x2+1))) none) (ite ((E9 b x2)==98) (ite (Uq 8 (x1.n+(Sl.of [(⟨3,4⟩:Up)]:Sl Up).n)) (a (x1.push (⟨3,4⟩:Up)) (wrap .i64 (x2+1))) none) (ite (Uq 8 (x1.n+(Sl.of [(⟨5,2⟩:Up)]:Sl Up).n)) (a (x1.push (⟨5,2⟩:Up)) (wrap .i64 (x2+1))) none))) none) (some x1)) Um 0
theorem Ef {a:Str}{y:Sl Up}(h:BC N a=some y) :Uw S VZ [.p (.str a)] [] (.p (vSl 2 A0 y)) ([]) []:=by
 unfold BC at h;refine A1 U func22 ?_;refine E8 U S3 h (λx1 x2 _=>⟨[(4,pN x2),(3,.vec 4500),(0,.p (.str a))],[(4500,oV A8 2 A0 x1 false)]⟩) (λc x1 x2 b h=>?_);apply kI U h<;>intro h
 .refine kJ U h (λh=>?_) (λh=>?_)
  .obtain⟨c12,h⟩:=C4 h;exact b (Ur Td c12) h (hle:=kl1 2 (O8 A0 x1 (⟨2,5⟩:Up) Yu))
  apply kI U h<;>intro h
  .obtain⟨c14,h⟩:=C4 h;exact b (Ur Td c14) h (hle:=kl1 2 (O8 A0 x1 (⟨3,4⟩:Up) Yu))
  obtain⟨c15,h⟩:=C4 h;exact b (Ur Td c15) h (hle:=kl1 2 (O8 A0 x1 (⟨5,2⟩:Up) Yu))
 obtain rfl:=A5 h;exact kO U S3 []
def FG (N:Nat)(a:Str):Option M8:= ite ((a==[63]) != false) (some (⟨false,Um⟩:M8)) ((BC N a).bind λy1=>some (⟨true,y1⟩:M8))
theorem La {a:Str}{y:M8}(h:FG N a=some y) :Uw S Wd [.p (.str a)] [] (.p (.agg (I4 y))) ([]) []:=by
 unfold FG at h;refine A1 U func42 ?_;apply kI U h<;>intro h
 .obtain rfl:=A5 h;exact I9 U S3 ⟨[(2,.reg 3000 0)],[(3000,.cells [pB false,.p (vSl 2 A0 Um)])]⟩ [] ⟨rfl,rfl,rfl⟩
 refine kC U h (Ef U P) (λy1 h=>?_);cases h;exact kR U
def Gv (N:Nat)(a:Str)(b:Sl Str):Option Yh:= U1 N (λc (x1:Sl M8) (x2:Int)=>ite (decide (x2<(b.n:Int))) (ite ((0:Int)<=x2/\x2<(b.n:Int)) ((FG N (b.g x2.toNat)).bind λy3=>ite (Uq 32 (x1.n+(Sl.of [y3]:Sl M8).n)) (c (x1.push y3) (wrap .i64 (x2+1))) none) none) (some (⟨a,x1⟩:Yh))) (Sl.nil:Sl M8) 0
theorem ML {a:Str}{b:Sl Str}{y:Yh}(h:Gv N a b=some y) :Uw S Sk [.p (.str a),.p (vSl 1 cS b)] [] (.p (.agg (N5 y))) ([]) []:=by
 unfold Gv at h;refine A1 U func43 ?_;refine E8 U S3 h (λx1 x2=>kps [(12,pN x2)] [11,10,5,4] [(6500,oV KX 2 I4 x1 false),(6000,.cells [.p (.str a),.vec 6500]),(5000,.cells [.p (.str []),.p I1])] []) (λc x1 x2 d h=>?_);apply kI U h<;>intro h
 .obtain⟨c8,h⟩:=C4 h;refine B4 U c8 [3] ?_;refine dP h S3 (La U P) (λy3 h=>?_);refine O3 S3 (x:=.sl true 2 1 (G9 Yw [(0,I4 y3)])) ?_;refine dE h (λh=>?_);exact d S3 h (hle:=kl1 3 (O8 I4 x1 y3 Yw))
 obtain rfl:=A5 h;exact I9 U S3 ⟨[(4,.reg 5000 0)],[(5000,.cells [.p (.str a),.p (vSl 2 I4 x1)])]⟩ [] ⟨rfl,rfl,rfl⟩
abbrev Yq:Sl EE:=Sl.of [(⟨0,0,(⟨1,0⟩:Up),0,0⟩:EE)]
abbrev Yn:Sl Law:=Sl.of [(⟨[118,111,105,99,105,110,103],Pat.mk 1 (⟨4,0⟩:Up) false 0 0 (Sl.nil:Sl Pat).n (Sl.nil:Sl Pat).g,Pat.mk 1 (⟨4,0⟩:Up) false 0 0 (Sl.nil:Sl Pat).n (Sl.nil:Sl Pat).g,(Sl.of [(⟨2,0⟩:Up)]:Sl Up),Yq,1⟩:Law),(⟨[97,112,111,99,111,112,101],Pat.mk 0 (⟨0,0⟩:Up) false 0 0 (Sl.nil:Sl Pat).n (Sl.nil:Sl Pat).g,Pat.mk 6 (⟨0,0⟩:Up) false 0 0 (Sl.nil:Sl Pat).n (Sl.nil:Sl Pat).g,(Sl.of [(⟨4,0⟩:Up)]:Sl Up),(Sl.nil:Sl EE),1⟩:Law)]
abbrev Yo:Sl Node:=Sl.of [(⟨-1,[112,114,111,116,111]⟩:Node),(⟨0,[119,101,115,116]⟩:Node),(⟨0,[101,97,115,116]⟩:Node),(⟨1,[110,111,114,116,104]⟩:Node),(⟨1,[115,111,117,116,104]⟩:Node)]
def IK (N:Nat)  : Option Yc:= some (⟨Yo,Yn,(Sl.of [Te,(Sl.of [0]:Sl Int),(Sl.of [1,0]:Sl Int),(Sl.of [1]:Sl Int),Te]:Sl (Sl Int))⟩:Yc)
theorem YQ    {y:Yc}(h:IK N  = some y) :Uw S NC [] [] (.p (.agg (A9 y))) ([]) []:=by unfold IK at h;refine A1 U func41 ?_;refine I6 U Td 10 (kps [] [9,1,0] [(10000,.vec Y3 2 Yo.n (λi=>F1 (Yo.g i)) false),(2000,.cells [pN 1,pU 4,pU 0,pB false,pN 0,pN 0,.p (vSl 7 C5 (Sl.nil:Sl Pat))]),(1000,.cells [.p I1,.p I1,.p I1])] []) ?_ (hle:=kl1 0 (AO5 F1 ([(⟨-1,[112,114,111,116,111]⟩:Node),(⟨0,[119,101,115,116]⟩:Node),(⟨0,[101,97,115,116]⟩:Node),(⟨1,[110,111,114,116,104]⟩:Node),(⟨1,[115,111,117,116,104]⟩:Node)]:List Node) [pI .i64 0,.str []]));refine I6 U (Ur Td Td) 17 (kps [(16,.p (vSl 6 Dd Yq)),(13,.p (vSl 2 A0 (Sl.of [(⟨2,0⟩:Up)]:Sl Up))),(11,.p (.agg [pI .i64 1,pI .u32 4,pI .u32 0,.bb false,pI .i64 0,pI .i64 0,vSl 7 C5 (Sl.nil:Sl Pat)])),(10,.p (.agg [pI .i64 1,pI .u32 4,pI .u32 0,.bb false,pI .i64 0,pI .i64 0,vSl 7 C5 (Sl.nil:Sl Pat)]))] [9,0] [(10000,.vec Y3 2 Yo.n (λi=>F1 (Yo.g i)) false),(1000,.cells [.p I1,.p I1,.p I1])] []) ?_ (hle:=kl2 0 1 (AO5 Dd ([(⟨0,0,(⟨1,0⟩:Up),0,0⟩:EE)]:List EE) [pI .i64 0,pI .u32 0,pI .u32 0,pI .u32 0,pI .u32 0,pI .i64 0]) (AO5 A0 ([(⟨2,0⟩:Up)]:List Up) Yu));refine I6 U Td 21 (kps [(20,.p (vSl 2 A0 (Sl.of [(⟨4,0⟩:Up)]:Sl Up))),(18,.p (.agg [pI .i64 6,pI .u32 0,pI .u32 0,.v (.bool false),pI .i64 0,pI .i64 0,I1])),(17,.p (.agg [.str [118,111,105,99,105,110,103],pI .i64 1,pI .u32 4,pI .u32 0,.bb false,pI .i64 0,pI .i64 0,vSl 7 C5 (Sl.nil:Sl Pat),pI .i64 1,pI .u32 4,pI .u32 0,.bb false,pI .i64 0,pI .i64 0,vSl 7 C5 (Sl.nil:Sl Pat),vSl 2 A0 (Sl.of [(⟨2,0⟩:Up)]:Sl Up),vSl 6 Dd Yq,pI .i64 1]))] [9,0] [(10000,.vec Y3 2 Yo.n (λi=>F1 (Yo.g i)) false),(1000,.cells [.p I1,.p I1,.p I1])] []) ?_ (hle:=kl1 0 (AO5 A0 ([(⟨4,0⟩:Up)]:List Up) Yu));refine Bd0 U Td 23 23000 (k:=18) (n:=2) (e:=H6) (vw:=false) (G9 Yr [(0,[.str [118,111,105,99,105,110,103],pI .i64 1,pI .u32 4,pI .u32 0,.bb false,pI .i64 0,pI .i64 0,vSl 7 C5 (Sl.nil:Sl Pat),pI .i64 1,pI .u32 4,pI .u32 0,.bb false,pI .i64 0,pI .i64 0,vSl 7 C5 (Sl.nil:Sl Pat),vSl 2 A0 (Sl.of [(⟨2,0⟩:Up)]:Sl Up),vSl 6 Dd Yq,pI .i64 1]),(1,[.str [97,112,111,99,111,112,101],pI .i64 0,pI .u32 0,pI .u32 0,.v (.bool false),pI .i64 0,pI .i64 0,I1,pI .i64 6,pI .u32 0,pI .u32 0,.v (.bool false),pI .i64 0,pI .i64 0,I1,vSl 2 A0 (Sl.of [(⟨4,0⟩:Up)]:Sl Up),I1,pI .i64 1])]) (λi=>B6 (Yn.g i)) (λi a=>match i,a with|0,_=>(Ih (.inl rfl) (Ih (.inl rfl) (Ih (.inl rfl) (Ih (.inl rfl) (Ih (.inl rfl) (Ih (.inl rfl) (Ih (.inl rfl) (Ih (.inl rfl) (Ih (.inl rfl) (Ih (.inl rfl) (Ih (.inl rfl) (Ih (.inl rfl) (Ih (.inl rfl) (Ih (.inl rfl) (Ih (.inl rfl) (Ih (.inl rfl) (Ih (.inl rfl) (Ih (.inl rfl) Cc2))))))))))))))))))|1,_=>(Ih (.inl rfl) (Ih (.inl rfl) (Ih (.inl rfl) (Ih (.inl rfl) (Ih lePT (Ih (.inl rfl) (Ih (.inl rfl) (Ih BT7 (Ih (.inl rfl) (Ih (.inl rfl) (Ih (.inl rfl) (Ih lePT (Ih (.inl rfl) (Ih (.inl rfl) (Ih BT7 (Ih (.inl rfl) (Ih BT7 (Ih (.inl rfl) Cc2))))))))))))))))))|_+2,a=>Ke a (by omega)) ?_;refine I6 U (Ur (Ur Td Td) Td) 26 (kps [] [25,24,23,22,9,0] [(26000,oV C8 1 (cI .i64) (Sl.of [1]:Sl Int) true),(25000,oV C8 1 (cI .i64) (Sl.of [1,0]:Sl Int) true),(24000,oV C8 1 (cI .i64) (Sl.of [0]:Sl Int) true),(23000,.vec H6 18 Yn.n (λi=>B6 (Yn.g i)) false),(10000,.vec Y3 2 Yo.n (λi=>F1 (Yo.g i)) false),(1000,.cells [.p I1,.p I1,.p I1])] []) ?_ (hle:=klR [(0,.fn 1 (Sl.of [1]:Sl Int).n (G9 [pI .i64 0] [(0,cI .i64 1)]) (λi=>cI .i64 ((Sl.of [1]:Sl Int).g i))),(1,.fn 2 (Sl.of [1,0]:Sl Int).n (G9 [pI .i64 0] [(0,cI .i64 1),(1,cI .i64 0)]) (λi=>cI .i64 ((Sl.of [1,0]:Sl Int).g i))),(2,.fn 1 (Sl.of [0]:Sl Int).n (G9 [pI .i64 0] [(0,cI .i64 0)]) (λi=>cI .i64 ((Sl.of [0]:Sl Int).g i)))] (al1 ⟨rfl,(λi a=>match i,a with|0,_=>rfl|_+1,a=>Ke a (by omega))⟩ (al1 ⟨rfl,(λi a=>match i,a with|0,_=>rfl|1,_=>rfl|_+2,a=>Ke a (by omega))⟩ (al1 ⟨rfl,(λi a=>match i,a with|0,_=>rfl|_+1,a=>Ke a (by omega))⟩ al0))));refine Bd0 U Td 27 27000 (k:=1) (n:=5) (e:=Et) (vw:=false) (G9 [I1] [(0,[I1]),(1,cL 1 (cI .i64) (Sl.of [0]:Sl Int)),(2,cL 1 (cI .i64) (Sl.of [1,0]:Sl Int)),(3,cL 1 (cI .i64) (Sl.of [1]:Sl Int)),(4,[I1])]) (λi=>cL 1 (cI .i64) ((Sl.of [Te,(Sl.of [0]:Sl Int),(Sl.of [1,0]:Sl Int),(Sl.of [1]:Sl Int),Te]:Sl (Sl Int)).g i)) (λi a=>match i,a with|0,_=>leCn|1,_=>leCr _|2,_=>leCr _|3,_=>leCr _|4,_=>leCn|_+5,a=>Ke a (by omega)) ?_;refine I6 U S3 27 (kps [(26,.p (vSl 1 (cL 1 (cI .i64)) (Sl.of [Te,(Sl.of [0]:Sl Int),(Sl.of [1,0]:Sl Int),(Sl.of [1]:Sl Int),Te]:Sl (Sl Int)))),(22,.p (vSl 18 B6 Yn)),(9,.p (vSl 2 F1 Yo))] [0] [(1000,.cells [.p I1,.p I1,.p I1])] []) ?_;cases h;exact kR U
abbrev Yp:Sl Str:=Sl.of [[118,111,105,99,101],[115,116,111,112],[118,111,119,101,108]]
def IL (N:Nat)  : Option B0:= (BC N [112]).bind λy1=>ite ((0:Int)<=0/\0<(y1.n:Int)) ((BC N [98]).bind λy2=>ite ((0:Int)<=0/\0<(y2.n:Int)) ((BC N [97]).bind λy3=>ite ((0:Int)<=0/\0<(y3.n:Int)) ((IK N ).bind λy4=>(FG N [97,112,97]).bind λy5=>(FG N [112,97]).bind λy6=>(FG N [63]).bind λy7=>(Gv N [111,110,101] (Sl.of [[97,112],[97,98],[97,98,97]]:Sl Str)).bind λy8=>(Gv N [116,119,111] (Sl.of [[112],[112,97],[63]]:Sl Str)).bind λy9=>(Gv N [116,104,114,101,101] (Sl.of [[63],[63],[98]]:Sl Str)).bind λa=>some (⟨Yp,(Sl.of [(⟨[112],y1.g 0⟩:F9),(⟨[98],y2.g 0⟩:F9),(⟨[97],y3.g 0⟩:F9)]:Sl F9),(Sl.nil:Sl GO),y4,(Sl.of [y5,y6,y7]:Sl M8),(Sl.of [y8,y9,a]:Sl Yh)⟩:B0)) none) none) none
theorem YR    {y:B0}(h:IL N  = some y) :Uw S Nw [] [] (.p (.agg (B3 y))) ([]) []:=by unfold IL at h;refine A1 U func15 ?_;refine B4 U S3 [1,2,3,5,6,7,9,10,11,14,15,16,17,20,22,24] ?_;refine O3 S3 (x:=.sl true 1 3 (G9 [.str []] [(0,cS [118,111,105,99,101]),(1,cS [115,116,111,112]),(2,cS [118,111,119,101,108])])) ?_;refine dP h S3 (Ef U P) (λy1 h=>?_);obtain⟨c1,h⟩:=C4 h;refine dP h (Ur c1 Sp) (Ef U P) (λy2 h=>?_);obtain⟨c2,h⟩:=C4 h;refine dP h (Ur c2 Sp) (Ef U P) (λy3 h=>?_);obtain⟨c3,h⟩:=C4 h;refine O3 (Ur c3 Sp) (x:=.sl true 3 3 (G9 Yt [(0,H5 (⟨[112],y1.g 0⟩:F9)),(1,H5 (⟨[98],y2.g 0⟩:F9)),(2,H5 (⟨[97],y3.g 0⟩:F9))])) ?_;refine dP h S3 (YQ U P) (λy4 h=>?_);refine dP h S3 (La U P) (λy5 h=>?_);refine dP h S3 (La U P) (λy6 h=>?_);refine dP h S3 (La U P) (λy7 h=>?_);refine O3 S3 (x:=.sl true 2 3 (G9 Yw [(0,I4 y5),(1,I4 y6),(2,I4 y7)])) ?_;refine O3 S3 (x:=.sl true 1 3 (G9 [.str []] [(0,cS [97,112]),(1,cS [97,98]),(2,cS [97,98,97])])) ?_;obtain⟨y8,e8,h⟩:=E4 h;refine PH S3 (Uw.le U (args:=[(.p (.str [111,110,101])),.p (.sl true 1 3 (G9 [.str []] [(0,cS [97,112]),(1,cS [97,98]),(2,cS [97,98,97])]))]) (by exact⟨.inl rfl,⟨Na rfl (λi a=>match i,a with|0,_=>rfl|1,_=>rfl|2,_=>rfl|_+3,a=>Ke a (by omega)),trivial⟩⟩) (ML U P e8)) ?_;refine O3 S3 (x:=.sl true 1 3 (G9 [.str []] [(0,cS [112]),(1,cS [112,97]),(2,cS [63])])) ?_;obtain⟨y9,e9,h⟩:=E4 h;refine PH S3 (Uw.le U (args:=[(.p (.str [116,119,111])),.p (.sl true 1 3 (G9 [.str []] [(0,cS [112]),(1,cS [112,97]),(2,cS [63])]))]) (by exact⟨.inl rfl,⟨Na rfl (λi a=>match i,a with|0,_=>rfl|1,_=>rfl|2,_=>rfl|_+3,a=>Ke a (by omega)),trivial⟩⟩) (ML U P e9)) ?_;refine O3 S3 (x:=.sl true 1 3 (G9 [.str []] [(0,cS [63]),(1,cS [63]),(2,cS [98])])) ?_;obtain⟨b,e10,h⟩:=E4 h;refine PH S3 (Uw.le U (args:=[(.p (.str [116,104,114,101,101])),.p (.sl true 1 3 (G9 [.str []] [(0,cS [63]),(1,cS [63]),(2,cS [98])]))]) (by exact⟨.inl rfl,⟨Na rfl (λi a=>match i,a with|0,_=>rfl|1,_=>rfl|2,_=>rfl|_+3,a=>Ke a (by omega)),trivial⟩⟩) (ML U P e10)) ?_;refine O3 S3 (x:=.sl true 2 3 (G9 [.str [],I1] [(0,N5 y8),(1,N5 y9),(2,N5 b)])) ?_;refine D5 S3 ?_;obtain rfl:=A5 h;exact I9 U S3 ⟨[(0,.reg 1000 0)],[(1000,.cells [.p (vSl 1 cS Yp),.p (vSl 3 H5 (Sl.of [(⟨[112],y1.g 0⟩:F9),(⟨[98],y2.g 0⟩:F9),(⟨[97],y3.g 0⟩:F9)]:Sl F9)),.p (vSl 4 EF (Sl.nil:Sl GO)),.p (vSl 2 F1 y4.Tree),.p (vSl 18 B6 y4.Laws),.p (vSl 1 (cL 1 (cI .i64)) y4.On),.p (vSl 2 I4 (Sl.of [y5,y6,y7]:Sl M8)),.p (vSl 2 N5 (Sl.of [y8,y9,b]:Sl Yh))])]⟩ [] ⟨rfl,rfl,rfl⟩ (hle:=klR [(0,.fn 3 Yp.n (G9 [.str []] [(0,cS [118,111,105,99,101]),(1,cS [115,116,111,112]),(2,cS [118,111,119,101,108])]) (λi=>cS (Yp.g i))),(1,.fn 3 (Sl.of [(⟨[112],y1.g 0⟩:F9),(⟨[98],y2.g 0⟩:F9),(⟨[97],y3.g 0⟩:F9)]:Sl F9).n (G9 Yt [(0,H5 (⟨[112],y1.g 0⟩:F9)),(1,H5 (⟨[98],y2.g 0⟩:F9)),(2,H5 (⟨[97],y3.g 0⟩:F9))]) (λi=>H5 ((Sl.of [(⟨[112],y1.g 0⟩:F9),(⟨[98],y2.g 0⟩:F9),(⟨[97],y3.g 0⟩:F9)]:Sl F9).g i))),(6,.fn 3 (Sl.of [y5,y6,y7]:Sl M8).n (G9 Yw [(0,I4 y5),(1,I4 y6),(2,I4 y7)]) (λi=>I4 ((Sl.of [y5,y6,y7]:Sl M8).g i))),(7,.fn 3 (Sl.of [y8,y9,b]:Sl Yh).n (G9 [.str [],I1] [(0,N5 y8),(1,N5 y9),(2,N5 b)]) (λi=>N5 ((Sl.of [y8,y9,b]:Sl Yh).g i)))] (al1 ⟨rfl,(λi a=>match i,a with|0,_=>rfl|1,_=>rfl|2,_=>rfl|_+3,a=>Ke a (by omega))⟩ (al1 ⟨rfl,(λi a=>match i,a with|0,_=>rfl|1,_=>rfl|2,_=>rfl|_+3,a=>Ke a (by omega))⟩ (al1 ⟨rfl,(λi a=>match i,a with|0,_=>rfl|1,_=>rfl|2,_=>rfl|_+3,a=>Ke a (by omega))⟩ (al1 ⟨rfl,(λi a=>match i,a with|0,_=>rfl|1,_=>rfl|2,_=>rfl|_+3,a=>Ke a (by omega))⟩ al0)))))
def BD (N:Nat)  : Option EG:= some (⟨(Sl.of [(⟨1,1,1,5⟩:A7),(⟨2,2,2,5⟩:A7)]:Sl A7),(Sl.of [(⟨2,0,0,0⟩:Dj)]:Sl Dj)⟩:EG)
theorem Eg    {y:EG}(h:BD N  = some y) :Uw S VY [] [] (.p (.agg (Mz y))) ([]) []:=by unfold BD at h;refine A1 U func17 ?_;obtain rfl:=A5 h;exact I9 U (Ur Td Td) ⟨[(0,.reg 1000 0)],[(1000,.cells [.p (vSl 4 B8 (Sl.of [(⟨1,1,1,5⟩:A7),(⟨2,2,2,5⟩:A7)]:Sl A7)),.p (vSl 4 K3 (Sl.of [(⟨2,0,0,0⟩:Dj)]:Sl Dj))])]⟩ [] ⟨rfl,rfl,rfl⟩ (hle:=kl2 0 1 (AO5 B8 ([(⟨1,1,1,5⟩:A7),(⟨2,2,2,5⟩:A7)]:List A7) Yv) (AO5 K3 ([(⟨2,0,0,0⟩:Dj)]:List Dj) Yv))
def CT (N:Nat)  : Option Bool:= (IL N ).bind λy1=>(T8 N y1 5).bind λy2=>(BD N ).bind λy3=>(Ev N y1 5 y3).bind λy4=>(BD N ).bind λy5=>(Ev N y1 4 y5).bind λy6=>(BD N ).bind λy7=>(Ku N y1 y7).bind λy8=>(Ks N y1 (⟨2,0,1,0⟩:Dj)).bind λy9=>(BD N ).bind λi=>(IJ N y1 i).bind λd=>(BC N [97,112,97]).bind λj=>(BC N [112,97]).bind λl=>(BC N [112,97,97]).bind λm=>(IH N y1 (Sl.of [j,l,m]:Sl (Sl Up)) 1 5).bind λf=>ite (y2.2==0) (ite (y4.2==0) (ite (y6.2==0) (ite (y8.2==0) (ite (y9.2==0) (ite (d.2==0) (ite (f.2==0) (ite ((y2.1.Bad.n:Int)==2) (ite ((y2.1.Yd.n:Int)==1) (ite ((0:Int)<=0/\0<(y2.1.Bad.n:Int)) ((BD N ).bind λa=>ite ((0:Int)<=0/\0<(a.Bad.n:Int)) (ite ((((y2.1.Bad.g 0).Yh==(a.Bad.g 0).Yh)&&(((y2.1.Bad.g 0).X9==(a.Bad.g 0).X9)&&(((y2.1.Bad.g 0).Kind==(a.Bad.g 0).Kind)&&((y2.1.Bad.g 0).Cost==(a.Bad.g 0).Cost)))) != false) (ite ((0:Int)<=1/\1<(y2.1.Bad.n:Int)) ((BD N ).bind λb=>ite ((0:Int)<=1/\1<(b.Bad.n:Int)) (ite ((((y2.1.Bad.g 1).Yh==(b.Bad.g 1).Yh)&&(((y2.1.Bad.g 1).X9==(b.Bad.g 1).X9)&&(((y2.1.Bad.g 1).Kind==(b.Bad.g 1).Kind)&&((y2.1.Bad.g 1).Cost==(b.Bad.g 1).Cost)))) != false) (ite ((0:Int)<=0/\0<(y2.1.Yd.n:Int)) ((BD N ).bind λc=>ite ((0:Int)<=0/\0<(c.Yd.n:Int)) (ite ((((y2.1.Yd.g 0).Node==(c.Yd.g 0).Node)&&(((y2.1.Yd.g 0).Place==(c.Yd.g 0).Place)&&(((y2.1.Yd.g 0).Yh==(c.Yd.g 0).Yh)&&((y2.1.Yd.g 0).X9==(c.Yd.g 0).X9)))) != false) (ite y4.1 (ite (!y6.1) (ite ((y8.1==[98,97,100,32,116,119,111,32,110,111,114,116,104,32,111,116,104,101,114,32,53,10,98,97,100,32,116,104,114,101,101,32,115,111,117,116,104,32,110,111,110,101,32,53,10,115,119,97,112,32,101,97,115,116,32,97,112,111,99,111,112,101,32,118,111,105,99,105,110,103,32,111,110,101,32,101,97,115,116,10]) != false) (ite (!y9.1) (ite d.1 (some (f.1==1)) (some false)) (some false)) (some false)) (some false)) (some false)) (some false)) none) none) (some false)) none) none) (some false)) none) none) (some false)) (some false)) (some false)) (some false)) (some false)) (some false)) (some false)) (some false)) (some false)
theorem Ts    {y:Bool}(h:CT N  = some y) :Uw S Sa [] [] (pB y) ([]) []:=by
 unfold CT at h;refine A1 U func5 ?_;refine kC U h (YR U P) (λy1 h=>?_);refine C7 U S3 18 2000 (B3 y1) ?_;refine kD U h (by decide:(8:Nat)<=8) (Kt U P) (λy2 h=>?_);refine C7 U S3 3 3000 [vSl 4 B8 y2.1.Bad,vSl 4 K3 y2.1.Yd] ?_;refine B4 U S3 [0,1,2] ?_;refine dP h (by decide:(8:Nat)<=8) (Eg U P) (λy3 h=>?_);refine dP h S3 (Mk U P) (λy4 h=>?_);refine D5 S3 ?_;refine B4 U S3 [0,1,2] ?_;refine dP h (by decide:(8:Nat)<=8) (Eg U P) (λy5 h=>?_);refine dP h S3 (Mk U P) (λy6 h=>?_);refine D5 S3 ?_;refine B4 U S3 [0,1,2] ?_;refine dP h (by decide:(8:Nat)<=8) (Eg U P) (λy7 h=>?_);refine dP h S3 (Ai8 U P) (λy8 h=>?_);refine D5 S3 ?_;refine kD U h (by decide:(8:Nat)<=8) (Ai7 U P) (λy9 h=>?_);refine B4 U S3 [0,1,2] ?_;refine dP h (by decide:(8:Nat)<=8) (Eg U P) (λn h=>?_);refine dP h S3 (YP U P) (λo h=>?_);refine D5 S3 ?_;refine B4 U S3 [0,1,2,3,5] ?_;refine dP h (by decide:(8:Nat)<=8) (Ef U P) (λf h=>?_);refine dP h S3 (Ef U P) (λj h=>?_);refine dP h S3 (Ef U P) (λl h=>?_);refine O3 S3 (x:=.sl true 1 3 (G9 [I1] [(0,cL 2 A0 f),(1,cL 2 A0 j),(2,cL 2 A0 l)])) ?_;obtain⟨q,e15,h⟩:=E4 h;refine PH S3 (Uw.le U (args:=[(.p (.agg (B3 y1))),.p (.sl true 1 3 (G9 [I1] [(0,cL 2 A0 f),(1,cL 2 A0 j),(2,cL 2 A0 l)])),pN 1,pN 5]) (by exact⟨.inl rfl,⟨Na rfl (λi m=>match i,m with|0,_=>rfl|1,_=>rfl|2,_=>rfl|_+3,m=>Ke m (by omega)),⟨.inl rfl,⟨.inl rfl,trivial⟩⟩⟩⟩) (YL U P e15)) ?_;refine D5 S3 ?_;refine B4 U S3 [28,34,40,41,42,43,45,46,51,52,53,54,56,57,62,63,64,65,67,68] ?_;refine dG S3 h (λh=>?_) (λh=>?_)
 .refine dG S3 h (λh=>?_) (λh=>?_)
  .refine dG S3 h (λh=>?_) (λh=>?_)
   .refine dG S3 h (λh=>?_) (λh=>?_)
    .refine dG S3 h (λh=>?_) (λh=>?_)
     .refine dG S3 h (λh=>?_) (λh=>?_)
      .refine dG S3 h (λh=>?_) (λh=>?_)
       .refine dG S3 h (λh=>?_) (λh=>?_)
        .refine dG S3 h (λh=>?_) (λh=>?_)
         .obtain⟨c10,h⟩:=C4 h;refine dP h (Ur c10 Sx) (Eg U P) (λa h=>?_);obtain⟨c11,h⟩:=C4 h;refine XH (Ur (Ur c11 Sx) (by decide +kernel:Qx Tryz.prog E6=true)) (b:=(((y2.1.Bad.g 0).Yh==(a.Bad.g 0).Yh)&&(((y2.1.Bad.g 0).X9==(a.Bad.g 0).X9)&&(((y2.1.Bad.g 0).Kind==(a.Bad.g 0).Kind)&&((y2.1.Bad.g 0).Cost==(a.Bad.g 0).Cost)))) != false) (λc12=>?_) (λc12=>?_)
          .replace h:=itT c12 h;obtain⟨c13,h⟩:=C4 h;refine dP h (Ur c13 Sx) (Eg U P) (λc h=>?_);obtain⟨c14,h⟩:=C4 h;refine XH (Ur (Ur c14 Sx) (by decide +kernel:Qx Tryz.prog E6=true)) (b:=(((y2.1.Bad.g 1).Yh==(c.Bad.g 1).Yh)&&(((y2.1.Bad.g 1).X9==(c.Bad.g 1).X9)&&(((y2.1.Bad.g 1).Kind==(c.Bad.g 1).Kind)&&((y2.1.Bad.g 1).Cost==(c.Bad.g 1).Cost)))) != false) (λc15=>?_) (λc15=>?_)
           .replace h:=itT c15 h;obtain⟨c16,h⟩:=C4 h;refine dP h (Ur c16 Sx) (Eg U P) (λd h=>?_);obtain⟨c17,h⟩:=C4 h;refine XH (Ur (Ur c17 Sx) (by decide +kernel:Qx Tryz.prog O9=true)) (b:=(((y2.1.Yd.g 0).Node==(d.Yd.g 0).Node)&&(((y2.1.Yd.g 0).Place==(d.Yd.g 0).Place)&&(((y2.1.Yd.g 0).Yh==(d.Yd.g 0).Yh)&&((y2.1.Yd.g 0).X9==(d.Yd.g 0).X9)))) != false) (λc18=>?_) (λc18=>?_)
            .replace h:=itT c18 h;refine dG S3 h (λh=>?_) (λh=>?_)
             .refine dG S3 h (λh=>?_) (λh=>?_)
              .refine dG S3 h (λh=>?_) (λh=>?_)
               .refine dG S3 h (λh=>?_) (λh=>?_)
                .refine dG S3 h (λh=>?_) (λh=>?_)
                 .refine D5 S3 ?_;cases h;exact kR U
                 refine D5 S3 ?_;cases h;exact kR U
                refine D5 S3 ?_;cases h;exact kR U
               refine D5 S3 ?_;cases h;exact kR U
              refine D5 S3 ?_;cases h;exact kR U
             refine D5 S3 ?_;cases h;exact kR U
            replace h:=itF c18 h;refine D5 S3 ?_;cases h;exact kR U
           replace h:=itF c15 h;refine D5 S3 ?_;cases h;exact kR U
          replace h:=itF c12 h;refine D5 S3 ?_;cases h;exact kR U
         refine D5 S3 ?_;cases h;exact kR U
        refine D5 S3 ?_;cases h;exact kR U
       refine D5 S3 ?_;cases h;exact kR U
      refine D5 S3 ?_;cases h;exact kR U
     refine D5 S3 ?_;cases h;exact kR U
    refine D5 S3 ?_;cases h;exact kR U
   refine D5 S3 ?_;cases h;exact kR U
  refine D5 S3 ?_;cases h;exact kR U
 refine D5 S3 ?_;cases h;exact kR U
def G6 (N:Nat)(a:Up):Option Bool:= N3 N (λb (x1:Int)=>ite (decide (x1<32)) (ite ((0:Int)<=x1/\(0:Int)<=x1) (ite ((((F3 .and .u32 (shI .shr .u32 a.Plus x1) 1)==1)&&((F3 .and .u32 (shI .shr .u32 a.Minus x1) 1)==1))||((((F3 .and .u32 (shI .shr .u32 a.Plus x1) 1)==1)||((F3 .and .u32 (shI .shr .u32 a.Minus x1) 1)==1))&&(decide (24<=x1)))) (some false) (b (wrap .i64 (x1+1)))) none) (some true)) 0
theorem V5 {b:Up}{y:Bool}(h:G6 N b=some y) :Uw S Sr [.p (.agg (A0 b))] [] (pB y) ([]) []:=by
 unfold G6 at h;refine A1 U func79 ?_;refine E2 U S3 h (λx1=>kps [(3,pN x1)] [1] [] [2000]) (λc x1 d h=>?_);apply kI U h<;>intro h
 .obtain⟨c7,h⟩:=C4 h;refine kB U (A3 U) c7 S3 12 (.o (.n (.a ((F3 .and .u32 (shI .shr .u32 b.Plus x1) 1)==1)) (.a ((F3 .and .u32 (shI .shr .u32 b.Minus x1) 1)==1))) (.n (.o (.a ((F3 .and .u32 (shI .shr .u32 b.Plus x1) 1)==1)) (.a ((F3 .and .u32 (shI .shr .u32 b.Minus x1) 1)==1))) (.a (decide (24<=x1))))) ?_;refine Ym U h fun h=>?_;exact d S3 h
 cases h;exact kR U
def DH (N:Nat)(a:Int):Option Bool:= some ((decide (0<=a))&&(decide (a<24)))
theorem YS {b:Int}{y:Bool}(h:DH N b=some y) :Uw S NR [pN b] [] (pB y) ([]) []:=by unfold DH at h;refine A1 U func236 ?_;refine kB U (A3 U) S3 S3 3 (.n (.a (decide (0<=b))) (.a (decide (b<24)))) ?_;cases h;exact kR U
def W7 (N:Nat)(b:Up)(a:Int):Option Int:= (G6 N b).bind λy1=>lt (λ(z1:Bool)=>ite z1 (some 0) (ite ((0:Int)<=a) (ite ((F3 .and .u32 (shI .shr .u32 b.Plus a) 1)==1) (some 1) (ite ((0:Int)<=a) (ite ((F3 .and .u32 (shI .shr .u32 b.Minus a) 1)==1) (some (-1)) (some 0)) none)) none)) λk1=>ite (!y1) (k1 true) ((DH N a).bind λy3=>k1 (!y3))
theorem ET {a:Up}{b:Int}{y:Int}(h:W7 N a b=some y) :Uw S Af7 [.p (.agg (A0 a)),pN b] [] (pN y) ([]) []:=by
 unfold W7 at h;refine A1 U func218 ?_;refine kC U h (V5 U P) (λy1 h=>?_);refine GN U S3 (A3 U) h 0 (λz1=>kps [(12,pB z1)] [2,1] [] [3000]) (λk1 c h=>?_) (λz1 h=>?_)
 .refine kG U h (λh=>?_) (λh=>?_)
  .exact c S3 h
  refine kC U h (YS U P) (λy3 h=>?_);exact c S3 h
 refine Ym U h fun h=>?_;refine kJ U h (λh=>?_) (λh=>?_)
 .cases h;exact kR U
 refine kJ U h (λh=>?_) (λh=>?_)
 .cases h;exact kR U
 cases h;exact kR U
def X2 (N:Nat)(a:Up):Option Bool:= some ((((F3 .and .u32 a.Plus a.Minus)==0)&&(decide (a.Plus<16777216)))&&(decide (a.Minus<16777216)))
theorem Tt {b:Up}{y:Bool}(h:X2 N b=some y) :Uw S SJ [.p (.agg (A0 b))] [] (pB y) ([]) []:=by unfold X2 at h;refine A1 U func169 ?_;refine kB U (A3 U) S3 S3 9 (.n (.n (.a ((F3 .and .u32 b.Plus b.Minus)==0)) (.a (decide (b.Plus<16777216)))) (.a (decide (b.Minus<16777216)))) ?_;cases h;exact kR U
def Ab (N:Nat)(a:Sl Up):Option Int:= ite (decide (32<(a.n:Int))) (some 11) (N3 N (λb (x1:Int)=>ite (decide (x1<(a.n:Int))) (ite ((0:Int)<=x1/\x1<(a.n:Int)) ((X2 N (a.g x1.toNat)).bind λy3=>ite (!y3) (some 14) (b (wrap .i64 (x1+1)))) none) (some 0)) 0)
theorem Gw {a:Sl Up}{y:Int}(h:Ab N a=some y) :Uw S SA [.p (vSl 2 A0 a)] [] (pN y) ([]) []:=by
 unfold Ab at h;refine A1 U func126 ?_;refine Ym U h fun h=>?_;refine E2 U S3 h (λx1=>kps [(3,pN x1)] [0] [] []) (λb x1 c h=>?_);apply kI U h<;>intro h
 .obtain⟨c9,h⟩:=C4 h;refine kD U h (Ur c9 Sp) (Tt U P) (λy3 h=>?_);refine Ym U h fun h=>?_;exact c S3 h
 cases h;exact kR U
def HJ (N:Nat)(a:Pat):Option Int:= ite ((decide (a.Kind<0))||(decide (6<a.Kind))) (some 2) (ite ((a.Kind != 1)&&((((a.Is.Plus==0)&&(a.Is.Minus==0)) != true)||a.Not)) (some 2) (lt (λ(z1:Bool)=>ite z1 (some 2) (ite ((a.Kind != 5)&&((a.Min != 0)||(a.Max != 0))) (some 2) (lt (λ(z2:Bool)=>ite z2 (some 2) ((X2 N a.Is).bind λy1=>ite (!y1) (some 14) (some 0))) λk2=>ite (a.Kind==5) (ite ((a.L.n:Int) != 1) (k2 true) (ite (decide (a.Min<0)) (k2 true) (ite (decide (32<a.Min)) (k2 true) (ite (a.Max != (-1)) (ite (decide (a.Max<a.Min)) (k2 true) (k2 (decide (32<a.Max)))) (k2 false))))) (k2 false)))) λk1=>ite (a.Kind != 3) (ite (a.Kind != 4) (ite (a.Kind != 5) (k1 (decide (0<(a.L.n:Int)))) (k1 false)) (k1 false)) (k1 false)))
theorem AS4 {c:Pat}{y:Int}(h:HJ N c=some y) :Uw S Wl [.p (.agg (C5 c))] [] (pN y) ([]) []:=by
 unfold HJ at h;refine A1 U func161 ?_;refine kB U (A3 U) S3 S3 4 (.o (.a (decide (c.Kind<0))) (.a (decide (6<c.Kind)))) ?_;refine Ym U h fun h=>?_;obtain⟨t1,f⟩:∃x:Bool,x=((c.Kind != 1)&&((((c.Is.Plus==0)&&(c.Is.Minus==0)) != true)||c.Not)):=⟨_,rfl⟩;refine Ab8 U S3 (A3 U) 0 (λ_=>⟨[(23,pB t1),(1,.reg 2000 0)],[(2000,.cells ((C5 c).map .p))]⟩) (λl=>?_) ?_
 .refine Ip U S3 (b:=c.Kind != 1) (λc4=>?_) (λc4=>?_)
  .refine Ip U (by decide +kernel:Qx Tryz.prog A8=true) (b:=((c.Is.Plus==0)&&(c.Is.Minus==0)) != true) (λc5=>?_) (λc5=>?_)
   .exact l S3 (hle:=klR [(0,.eq (.bb true) (.bb t1))] (al1 (by simp only[f,c4,c5,X9.ok,pm,Lo,Lp]) al0))
   exact l S3 (hle:=klR [(0,.eq (.bb c.Not) (.bb t1))] (al1 (by simp only[f,c4,c5,X9.ok,pm,Lo,Lp]) al0))
  exact l S3 (hle:=klR [(0,.eq (.bb false) (.bb t1))] (al1 (by simp only[f,c4,X9.ok,pm,Lo,Lp]) al0))
 subst f;refine Ym U h fun h=>?_;refine GN U S3 (A3 U) h 0 (λz1=>kps [(42,pB z1)] [1] [] [2000]) (λk1 j h=>?_) (λz1 h=>?_)
 .refine kG U h (λh=>?_) (λh=>?_)
  .refine kG U h (λh=>?_) (λh=>?_)
   .refine kG U h (λh=>?_) (λh=>?_)
    .refine I6 U S3 40 (kps [(39,.p (vSl 7 C5 c.L))] [37,1] [(2000,.cells ((C5 c).map .p))] []) ?_ (hle:=klR [(0,.fn c.L.n c.L.n (CE c) (λi=>C5 (c.L.g i)))] (al1 ⟨rfl,P8 c⟩ al0));exact j S3 h
    exact j S3 h
   exact j S3 h
  exact j S3 h
 refine Ym U h fun h=>?_;refine kB U (A3 U) S3 S3 9 (.n (.a (c.Kind != 5)) (.o (.a (c.Min != 0)) (.a (c.Max != 0)))) ?_;refine Ym U h fun h=>?_;refine GN U S3 (A3 U) h 0 (λz2=>kps [(91,pB z2)] [1] [] [2000]) (λk2 d h=>?_) (λz2 h=>?_)
 .refine kG U h (λh=>?_) (λh=>?_)
  .refine I6 U S3 62 (kps [(61,.p (vSl 7 C5 c.L))] [59,1] [(2000,.cells ((C5 c).map .p))] []) ?_ (hle:=klR [(0,.fn c.L.n c.L.n (CE c) (λi=>C5 (c.L.g i)))] (al1 ⟨rfl,P8 c⟩ al0));refine kG U h (λh=>?_) (λh=>?_)
   .exact d S3 h
   refine kG U h (λh=>?_) (λh=>?_)
   .exact d S3 h
   refine kG U h (λh=>?_) (λh=>?_)
   .exact d S3 h
   refine kG U h (λh=>?_) (λh=>?_)
   .refine kG U h (λh=>?_) (λh=>?_)
    .exact d S3 h
    exact d S3 h
   exact d S3 h
  exact d S3 h
 refine Ym U h fun h=>?_;refine kC U h (Tt U P) (λy1 h=>?_);refine Ym U h fun h=>?_;cases h;exact kR U
def Bg (rec:Pat->Int->Option (Int×Int))(N:Nat)(b:Pat)(a:Int):Option (Int×Int):= ite (a==40) (some (a,12)) ((HJ N b).bind λy1=>ite (y1 != 0) (some (a,y1)) (U1 N (λc (x1:Int) (x2:Int)=>ite (decide (x2<(b.L.n:Int))) (ite ((0:Int)<=x2/\x2<(b.L.n:Int)) ((rec (b.L.g x2.toNat) x1).bind λy4=>ite (y4.2 != 0) (some (y4.1,y4.2)) (c y4.1 (wrap .i64 (x2+1)))) none) (some (x1,0))) (wrap .i64 (a+1)) 0))
def FH:Nat->Pat->Int->Option (Int×Int)
 |0=>λ_ _=>none
 |N+1=>Bg (FH N) N
theorem Ax1 {rec:Pat->Int->Option (Int×Int)}(c:∀{b:Pat}{a:Int}{y:Int×Int},rec b a=some y->Uw S KV [.p (.agg (C5 b)),pN a] [] (.tup [pN y.1,pN y.2]) ([]) []){b:Pat}{a:Int}{y:Int×Int}(h:Bg rec N b a=some y) :Uw S KV [.p (.agg (C5 b)),pN a] [] (.tup [pN y.1,pN y.2]) ([]) []:=by
 unfold Bg at h;refine A1 U func116 ?_;refine Ym U h fun h=>?_;refine kC U h (AS4 U P) (λy1 h=>?_);refine Ym U h fun h=>?_;refine E8 U S3 h (λx1 x2=>kps [(8,pN x2),(7,pN x1)] [2] [] [3000]) (λd x1 x2 f h=>?_);refine I6 U S3 23 (kps [(22,.p (vSl 7 C5 b.L))] [20,8,7,2] [(3000,.cells ((C5 b).map .p))] []) ?_ (hle:=klR [(0,.fn b.L.n b.L.n (CE b) (λi=>C5 (b.L.g i)))] (al1 ⟨rfl,P8 b⟩ al0));apply kI U h<;>intro h
 .refine I6 U S3 31 (kps [(29,.p (vSl 7 C5 b.L))] [30,8,7,2] [(3000,.cells ((C5 b).map .p))] []) ?_ (hle:=klR [(1,.fn b.L.n b.L.n (CE b) (λi=>C5 (b.L.g i)))] (al1 ⟨rfl,P8 b⟩ al0));obtain⟨c10,h⟩:=C4 h;obtain⟨y4,e4,h⟩:=E4 h;refine D6 U [] (Ur c10 Sz) (c e4) ?_;refine Ym U h fun h=>?_;exact f S3 h
 cases h;exact kR U
theorem AS5 {b:Pat}{a:Int}{y:Int×Int}(h:FH N b a=some y) :Uw S KV [.p (.agg (C5 b)),pN a] [] (.tup [pN y.1,pN y.2]) ([]) []:=by
 induction N generalizing b a y with
 |zero=>cases (show (none:Option (Int×Int))=some y from h)
 |succ N ih=>exact Ax1 U P (λe=>ih e) h
def CU (N:Nat)(a:Pat):Option Int:= (FH N a 0).bind λy1=>some y1.2
theorem MM {a:Pat}{y:Int}(h:CU N a=some y) :Uw S Sq [.p (.agg (C5 a))] [] (pN y) ([]) []:=by unfold CU at h;refine A1 U func78 ?_;refine kC U h (AS5 U P) (λy1 h=>?_);cases h;exact kR U
def Eh (N:Nat)(a:Str):Option Bool:= N3 N (λb (x1:Int)=>ite (decide (x1<(a.length:Int))) (ite ((0:Int)<=x1/\x1<(a.length:Int)) (ite (!(((((decide (97<=(E9 a x1)))&&(decide ((E9 a x1)<=122)))||((decide (65<=(E9 a x1)))&&(decide ((E9 a x1)<=90))))||((decide (48<=(E9 a x1)))&&(decide ((E9 a x1)<=57))))||((E9 a x1)==45))) (some false) (b (wrap .i64 (x1+1)))) none) (some ((decide (1<=(a.length:Int)))&&(decide ((a.length:Int)<=24))))) 0
theorem AS6 {b:Str}{y:Bool}(h:Eh N b=some y) :Uw S Wh [.p (.str b)] [] (pB y) ([]) []:=by
 unfold Eh at h;refine A1 U func77 ?_;refine E2 U S3 h (λx1=>kps [(3,pN x1)] [0] [] []) (λc x1 d h=>?_);apply kI U h<;>intro h
 .obtain⟨c8,h⟩:=C4 h;refine kB U (A3 U) c8 S3 23 (.o (.o (.o (.n (.a (decide (97<=(E9 b x1)))) (.a (decide ((E9 b x1)<=122)))) (.n (.a (decide (65<=(E9 b x1)))) (.a (decide ((E9 b x1)<=90))))) (.n (.a (decide (48<=(E9 b x1)))) (.a (decide ((E9 b x1)<=57))))) (.a ((E9 b x1)==45))) ?_;refine Ym U h fun h=>?_;exact d S3 h
 refine kB U (A3 U) S3 S3 4 (.n (.a (decide (1<=(b.length:Int)))) (.a (decide ((b.length:Int)<=24)))) ?_;cases h;exact kR U
def HK (N:Nat)(p_x:EE)(a:Int):Option Bool:= lt (λ(z1:Bool)=>ite z1 (some false) (ite ((((F3 .and .u32 p_x.Clear (F3 .or .u32 p_x.Set.Plus p_x.Set.Minus)) != 0)||((F3 .and .u32 p_x.Take (F3 .or .u32 p_x.Set.Plus p_x.Set.Minus)) != 0))||((F3 .and .u32 p_x.Take p_x.Clear) != 0)) (some false) (ite (p_x.Take==0) (some (p_x.Of==0)) (some ((decide (0<=p_x.Of))&&(decide (p_x.Of<a))))))) λk1=>ite (decide (p_x.From<(-1))) (k1 true) (ite (decide (a<=p_x.From)) (k1 true) ((G6 N p_x.Set).bind λy2=>ite (!y2) (k1 true) (ite ((F3 .andNot .u32 p_x.Clear 16777215) != 0) (k1 true) (k1 ((F3 .andNot .u32 p_x.Take 16777215) != 0)))))
theorem AS7 {p_x:EE}{c:Int}{y:Bool}(h:HK N p_x c=some y) :Uw S Wi [.p (.agg (Dd p_x)),pN c] [] (pB y) ([]) []:=by
 unfold HK at h;refine A1 U func80 ?_;refine GN U S3 (A3 U) h 0 (λz1=>kps [(32,pB z1)] [2,1] [] [3000]) (λk1 b h=>?_) (λz1 h=>?_)
 .refine kG U h (λh=>?_) (λh=>?_)
  .exact b S3 h
  refine kG U h (λh=>?_) (λh=>?_)
  .exact b S3 h
  refine kC U h (V5 U P) (λy2 h=>?_);refine kG U h (λh=>?_) (λh=>?_)
  .exact b S3 h
  refine kG U h (λh=>?_) (λh=>?_)
  .exact b S3 h
  exact b S3 h
 refine Ym U h fun h=>?_;refine kB U (A3 U) S3 S3 14 (.o (.o (.a ((F3 .and .u32 p_x.Clear (F3 .or .u32 p_x.Set.Plus p_x.Set.Minus)) != 0)) (.a ((F3 .and .u32 p_x.Take (F3 .or .u32 p_x.Set.Plus p_x.Set.Minus)) != 0))) (.a ((F3 .and .u32 p_x.Take p_x.Clear) != 0))) ?_;refine Ym U h fun h=>?_;refine Ym U h fun h=>?_;refine kB U (A3 U) S3 S3 5 (.n (.a (decide (0<=p_x.Of))) (.a (decide (p_x.Of<c)))) ?_;cases h;exact kR U
def Ac (N:Nat)(a:Law):Option Int:= (Eh N a.Name).bind λy1=>lt (λ(z1:Bool)=>ite z1 (some 17) (ite (((((decide (4<(a.If.n:Int)))||(decide (6<(a.Out.n:Int))))||((wrap .i64 ((a.If.n:Int)+(a.Out.n:Int)))==0))||(decide (a.Mode<1)))||(decide (3<a.Mode))) (some 17) (N3 N (λb (x2:Int)=>ite (decide (x2<(a.If.n:Int))) (ite ((0:Int)<=x2/\x2<(a.If.n:Int)) ((G6 N (a.If.g x2.toNat)).bind λy8=>ite (!y8) (some 17) (b (wrap .i64 (x2+1)))) none) (N3 N (λc (x3:Int)=>ite (decide (x3<(a.Out.n:Int))) (ite ((0:Int)<=x3/\x3<(a.Out.n:Int)) ((HK N (a.Out.g x3.toNat) (a.If.n:Int)).bind λd=>ite (!d) (some 17) (c (wrap .i64 (x3+1)))) none) (some 0)) 0)) 0))) λk1=>ite (!y1) (k1 true) ((CU N a.Left).bind λy4=>ite (y4 != 0) (k1 true) ((CU N a.Right).bind λy5=>k1 (y5 != 0)))
theorem MN {b:Law}{y:Int}(h:Ac N b=some y) :Uw S Sj [.p (.agg (B6 b))] [] (pN y) ([]) []:=by
 unfold Ac at h;refine A1 U func39 ?_;refine C7 U S3 2 2000 (B6 b) ?_;refine kC U h (AS6 U P) (λy1 h=>?_);refine GN U S3 (A3 U) h 0 (λz1=>kps [(20,pB z1)] [1] [] []) (λk1 c h=>?_) (λz1 h=>?_)
 .refine kG U h (λh=>?_) (λh=>?_)
  .exact c S3 h
  refine kD U h (by decide:(7:Nat)<=17) (MM U P) (λy4 h=>?_);refine kG U h (λh=>?_) (λh=>?_)
  .exact c S3 h
  refine kD U h (by decide:(7:Nat)<=10) (MM U P) (λy5 h=>?_);exact c S3 h
 refine Ym U h fun h=>?_;refine kB U (A3 U) S3 S3 25 (.o (.o (.o (.o (.a (decide (4<(b.If.n:Int)))) (.a (decide (6<(b.Out.n:Int))))) (.a ((wrap .i64 ((b.If.n:Int)+(b.Out.n:Int)))==0))) (.a (decide (b.Mode<1)))) (.a (decide (3<b.Mode)))) ?_;refine Ym U h fun h=>?_;refine E2 U S3 h (λx2=>kps [(3,pN x2)] [1] [] []) (λd x2 f h=>?_);apply kI U h<;>intro h
 .obtain⟨c15,h⟩:=C4 h;refine kD U h (Ur c15 Sp) (V5 U P) (λy8 h=>?_);refine Ym U h fun h=>?_;exact f S3 h
 refine E2 U S3 h (λx3=>kps [(4,pN x3)] [1] [] []) (λg x3 i h=>?_);apply kI U h<;>intro h
 .refine B4 U S3 [1,3,4,6,8] ?_;obtain⟨c24,h⟩:=C4 h;refine dP h (Ur c24 (by decide:(6:Nat)<=6)) (AS7 U P) (λj h=>?_);refine D5 S3 ?_;refine Ym U h fun h=>?_;exact i S3 h
 cases h;exact kR U
def Df (rec:Yc->Int->Option (Sl Int))(N:Nat)(b:Yc)(a:Int):Option (Sl Int):= ite (decide (a<0)) (some Te) (ite ((0:Int)<=a/\a<(b.Tree.n:Int)) ((rec b (b.Tree.g a.toNat).Ye).bind λy1=>ite (((0:Int)<=a/\a<(b.On.n:Int))/\(Uq 8 (y1.n+(b.On.g a.toNat).n))) (some (y1.app (b.On.g a.toNat))) none) none)
def Dg:Nat->Yc->Int->Option (Sl Int)
 |0=>λ_ _=>none
 |N+1=>Df (Dg N) N
theorem Ax2 {rec:Yc->Int->Option (Sl Int)}(c:∀{a:Yc}{b:Int}{y:Sl Int},rec a b=some y->Uw S KU [.p (.agg (A9 a)),pN b] [] (.vec 0) ([oV C8 1 (cI .i64) y true]) []){a:Yc}{b:Int}{y:Sl Int}(h:Df rec N a b=some y) :Uw S KU [.p (.agg (A9 a)),pN b] [] (.vec 0) ([oV C8 1 (cI .i64) y true]) []:=by
 unfold Df at h;refine A1 U func40 ?_;refine C7 U S3 4 3000 (A9 a) ?_;apply kI U h<;>intro h
 .obtain rfl:=A5 h;exact kO U S3 [5700]
 refine B4 U S3 [0,2,4,6,9,11,12] ?_;obtain⟨c2,h⟩:=C4 h;obtain⟨y1,e1,h⟩:=E4 h;refine GS [] (Ur Sw c2) (c e1) ?_;refine dE h (λh=>?_);obtain rfl:=A5 h;exact kO U S3 [21000] (hle:=kl1 0 (appS (cI .i64) y1 (a.On.g b.toNat)))
theorem WD {a:Yc}{b:Int}{y:Sl Int}(h:Dg N a b=some y) :Uw S KU [.p (.agg (A9 a)),pN b] [] (.vec 0) ([oV C8 1 (cI .i64) y true]) []:=by
 induction N generalizing a b y with
 |zero=>cases (show (none:Option (Sl Int))=some y from h)
 |succ N ih=>exact Ax2 U P (λe=>ih e) h
def X3 (N:Nat)(a:Yc):Option Int:= (AY N a.Tree).bind λy1=>ite (y1 != 0) (some 16) (ite (decide (64<(a.Laws.n:Int))) (some 12) (N3 N (λd (x1:Int)=>ite (decide (x1<(a.Laws.n:Int))) (ite ((0:Int)<=x1/\x1<(a.Laws.n:Int)) ((Ac N (a.Laws.g x1.toNat)).bind λy4=>ite (y4 != 0) (some 17) (d (wrap .i64 (x1+1)))) none) (N3 N (λf (x3:Int)=>ite (decide (x3<(a.Laws.n:Int))) (N3 N (λi (x5:Int)=>ite (decide (x5<x3)) (ite (((0:Int)<=x3/\x3<(a.Laws.n:Int))/\((0:Int)<=x5/\x5<(a.Laws.n:Int))) (ite (((a.Laws.g x3.toNat).Name==(a.Laws.g x5.toNat).Name) != false) (some 6) (i (wrap .i64 (x5+1)))) none) (f (wrap .i64 (x3+1)))) 0) (ite ((a.On.n:Int) != (a.Tree.n:Int)) (some 2) (N3 N (λj (x6:Int)=>ite (decide (x6<(a.On.n:Int))) ((Dg N a x6).bind λy7=>ite (decide (64<(y7.n:Int))) (some 2) (j (wrap .i64 (x6+1)))) (N3 N (λl (x8:Int)=>ite (decide (x8<(a.On.n:Int))) (N3 N (λc (b:Int)=>ite ((0:Int)<=x8/\x8<(a.On.n:Int)) (ite (decide (b<((a.On.g x8.toNat).n:Int))) (ite (((0:Int)<=x8/\x8<(a.On.n:Int))/\((0:Int)<=b/\b<((a.On.g x8.toNat).n:Int))) (ite (decide (((a.On.g x8.toNat).g b.toNat)<0)) (some 3) (ite (((0:Int)<=x8/\x8<(a.On.n:Int))/\((0:Int)<=b/\b<((a.On.g x8.toNat).n:Int))) (ite (decide ((a.Laws.n:Int)<=((a.On.g x8.toNat).g b.toNat))) (some 3) (c (wrap .i64 (b+1)))) none)) none) (l (wrap .i64 (x8+1)))) none) 0) (some 0)) 0)) 0))) 0)) 0))
theorem Gx {a:Yc}{y:Int}(h:X3 N a=some y) :Uw S Sd [.p (.agg (A9 a))] [] (pN y) ([]) []:=by
 unfold X3 at h;refine A1 U func14 ?_;refine C7 U S3 2 2000 (A9 a) ?_;refine kC U h (MH U P) (λy1 h=>?_);refine Ym U h fun h=>?_;refine Ym U h fun h=>?_;refine E2 U S3 h (λx1=>kps [(3,pN x1)] [1] [] []) (λf x1 g h=>?_);apply kI U h<;>intro h
 .obtain⟨c10,h⟩:=C4 h;refine kD U h (Ur c10 Tc) (MN U P) (λy4 h=>?_);refine Ym U h fun h=>?_;exact g S3 h
 refine E2 U S3 h (λx3=>kps [(4,pN x3)] [1] [] []) (λi x3 j h=>?_);apply kI U h<;>intro h
 .refine E2 U S3 h (λx5=>kps [(5,pN x5)] [4,1] [] []) (λl x5 m h=>?_);apply kI U h<;>intro h
  .refine B4 U S3 [1,3,5,7,9,11] ?_;refine dE h (λh=>?_);refine Ym U h fun h=>?_;exact m S3 h
  exact j S3 h
 refine Ym U h fun h=>?_;refine E2 U S3 h (λx6=>kps [(6,pN x6)] [1] [] []) (λn x6 o h=>?_);apply kI U h<;>intro h
 .refine kD U h Sw (WD U P) (λy7 h=>?_);refine Ym U h fun h=>?_;exact o S3 h
 refine E2 U S3 h (λx8=>kps [(7,pN x8)] [1] [] []) (λq x8 r h=>?_);apply kI U h<;>intro h
 .refine E2 U S3 h (λb=>kps [(8,pN b)] [7,1] [] []) (λd b c h=>?_);refine kJ U h (λh=>?_) (λh=>?_)
  .refine B4 U S3 [1,3,4,6,7,11,13,14,16,17,19] ?_;obtain⟨c102,h⟩:=C4 h;refine dG c102 h (λh=>?_) (λh=>?_)
   .refine D5 S3 ?_;cases h;exact kR U
   refine dE h (λh=>?_);refine Ym U h fun h=>?_;exact c S3 h
  exact r S3 h
 cases h;exact kR U
def Ei (N:Nat)(b:Yc)(a:Int):Option Bool:= some ((decide (0<=a))&&(decide (a<(b.Tree.n:Int))))
theorem Pa {c:Yc}{b:Int}{y:Bool}(h:Ei N c b=some y) :Uw S We [.p (.agg (A9 c)),pN b] [] (pB y) ([]) []:=by unfold Ei at h;refine A1 U func60 ?_;refine kB U (A3 U) S3 S3 6 (.n (.a (decide (0<=b))) (.a (decide (b<(c.Tree.n:Int))))) ?_;cases h;exact kR U
def CV (N:Nat)(a:Sl M8):Option Bool:= N3 N (λb (x1:Int)=>ite (decide (x1<(a.n:Int))) (ite ((0:Int)<=x1/\x1<(a.n:Int)) (ite ((!(a.g x1.toNat).Has)=true->((0:Int)<=x1/\x1<(a.n:Int))) (ite ((!(a.g x1.toNat).Has)&&(decide (0<((a.g x1.toNat).W.n:Int)))) (some false) (b (wrap .i64 (x1+1)))) none) none) (some true)) 0
theorem Tu {b:Sl M8}{y:Bool}(h:CV N b=some y) :Uw S Ss [.p (vSl 2 I4 b)] [] (pB y) ([]) []:=by
 unfold CV at h;refine A1 U func88 ?_;refine E2 U S3 h (λx1=>kps [(3,pN x1)] [0] [] []) (λc x1 d h=>?_);apply kI U h<;>intro h
 .obtain⟨c10,h⟩:=C4 h;obtain⟨c11,h⟩:=C4 h;refine kB U (A3 U) c10 c11 8 (.n (.a (!(b.g x1.toNat).Has)) (.a (decide (0<((b.g x1.toNat).W.n:Int))))) ?_;refine Ym U h fun h=>?_;exact d S3 h
 cases h;exact kR U
def Bh (N:Nat)(a:Sl M8):Option Int:= N3 N (λb (x1:Int)=>ite (decide (x1<(a.n:Int))) (ite ((0:Int)<=x1/\x1<(a.n:Int)) ((Ab N (a.g x1.toNat).W).bind λy3=>ite (y3 != 0) (some y3) (b (wrap .i64 (x1+1)))) none) (some 0)) 0
theorem Tv {a:Sl M8}{y:Int}(h:Bh N a=some y) :Uw S Su [.p (vSl 2 I4 a)] [] (pN y) ([]) []:=by
 unfold Bh at h;refine A1 U func89 ?_;refine E2 U S3 h (λx1=>kps [(3,pN x1)] [0] [] []) (λb x1 c h=>?_);apply kI U h<;>intro h
 .obtain⟨c8,h⟩:=C4 h;refine kD U h c8 (Gw U P) (λy3 h=>?_);refine Ym U h fun h=>?_;exact c S3 h
 cases h;exact kR U
def Ej (N:Nat)(i:Yc)(a:Sl M8)(b:Sl Yh):Option Int:= (X3 N i).bind λy1=>ite (y1 != 0) (some y1) (ite (decide (256<(b.n:Int))) (some 12) ((Z4 N i.Tree).bind λy2=>lt (λ(z1:Bool)=>ite z1 (some 2) (N3 N (λc (x3:Int)=>ite (decide (x3<(b.n:Int))) (ite ((0:Int)<=x3/\x3<(b.n:Int)) (lt (λ(z4:Bool)=>ite z4 (some 2) (c (wrap .i64 (x3+1)))) λk4=>ite (((b.g x3.toNat).Yg.n:Int) != (y2.1.n:Int)) (k4 true) (ite ((0:Int)<=x3/\x3<(b.n:Int)) ((CV N (b.g x3.toNat).Yg).bind λj=>k4 (!j)) none)) none) (N3 N (λd (x6:Int)=>ite (decide (x6<(b.n:Int))) (ite ((0:Int)<=x6/\x6<(b.n:Int)) ((Ee N (b.g x6.toNat).Gloss).bind λl=>ite (!l) (some 15) (d (wrap .i64 (x6+1)))) none) ((Bh N a).bind λm=>U1 N (λf (x7:Int) (x8:Int)=>ite ((decide (x8<(b.n:Int)))&&(x7==0)) (ite ((0:Int)<=x8/\x8<(b.n:Int)) ((Bh N (b.g x8.toNat).Yg).bind λo=>f o (wrap .i64 (x8+1))) none) (some x7)) m 0)) 0)) 0)) λk1=>ite ((a.n:Int) != (b.n:Int)) (k1 true) ((CV N a).bind λy4=>k1 (!y4))))
theorem Tw {d:Yc}{b:Sl M8}{c:Sl Yh}{y:Int}(h:Ej N d b c=some y) :Uw S So [.p (.agg (A9 d)),.p (vSl 2 I4 b),.p (vSl 2 N5 c)] [] (pN y) ([]) []:=by
 unfold Ej at h;refine A1 U func56 ?_;refine kC U h (Gx U P) (λy1 h=>?_);refine Ym U h fun h=>?_;refine Ym U h fun h=>?_;refine kC U h (Kl U P) (λy2 h=>?_);refine GN U S3 (A3 U) h 0 (λz1=>kps [(36,pB z1)] [8,2,1] [] [25000]) (λk1 f h=>?_) (λz1 h=>?_)
 .refine kG U h (λh=>?_) (λh=>?_)
  .exact f S3 h
  refine kC U h (Tu U P) (λy4 h=>?_);exact f S3 h
 refine Ym U h fun h=>?_;refine E2 U S3 h (λx3=>kps [(10,pN x3)] [8,2,1] [] [25000]) (λi x3 j h=>?_);apply kI U h<;>intro h
 .obtain⟨c24,h⟩:=C4 h;refine GN U c24 (A3 U) h 0 (λz4=>kps [(60,pB z4)] [10,8,2,1] [] [25000]) (λk4 g h=>?_) (λz4 h=>?_)
  .refine kG U h (λh=>?_) (λh=>?_)
   .exact g S3 h
   obtain⟨c29,h⟩:=C4 h;refine kD U h c29 (Tu U P) (λr h=>?_);exact g S3 h
  refine Ym U h fun h=>?_;exact j S3 h
 refine E2 U S3 h (λx6=>kps [(11,pN x6)] [2,1] [] []) (λl x6 m h=>?_);apply kI U h<;>intro h
 .obtain⟨c38,h⟩:=C4 h;refine kD U h c38 (OX U P) (λs h=>?_);refine Ym U h fun h=>?_;exact m S3 h
 refine kC U h (Tv U P) (λt h=>?_);refine E8 U S3 h (λx7 x8=>kps [(12,pN x8),(7,pN x7)] [2] [] []) (λo x7 x8 q h=>?_);refine kB U (A3 U) S3 S3 3 (.n (.a (decide (x8<(c.n:Int)))) (.a (x7==0))) ?_;apply kI U h<;>intro h
 .obtain⟨c45,h⟩:=C4 h;refine kD U h c45 (Tv U P) (λu h=>?_);exact q S3 h
 cases h;exact kR U
def Gy (N:Nat)(a:Yc):Option Bool:= ite (((decide (70<(a.Tree.n:Int)))||(decide (70<(a.Laws.n:Int))))||(decide (70<(a.On.n:Int)))) (some false) (N3 N (λb (x1:Int)=>ite (decide (x1<(a.On.n:Int))) (ite ((0:Int)<=x1/\x1<(a.On.n:Int)) (ite (decide (70<((a.On.g x1.toNat).n:Int))) (some false) (b (wrap .i64 (x1+1)))) none) (N3 N (λc (x3:Int)=>ite (decide (x3<(a.Laws.n:Int))) (ite (((0:Int)<=x3/\x3<(a.Laws.n:Int))/\((0:Int)<=x3/\x3<=(wrap .i64 (x3+1))/\(wrap .i64 (x3+1))<=(a.Laws.n:Int))) ((FF N (a.Laws.sub x3.toNat (wrap .i64 (x3+1)).toNat)).bind λd=>lt (λ(z3:Bool)=>ite z3 (some false) (c (wrap .i64 (x3+1)))) λk3=>ite (decide (4<d)) (k3 true) (ite (decide (20<((a.Laws.g x3.toNat).If.n:Int))) (k3 true) (ite (decide (20<((a.Laws.g x3.toNat).Out.n:Int))) (k3 true) ((Eb N (a.Laws.g x3.toNat).Left).bind λf=>ite (decide (41<f)) (k3 true) ((Eb N (a.Laws.g x3.toNat).Right).bind λi=>k3 (decide (41<i))))))) none) (some true)) 0)) 0)
theorem Ax3 {b:Yc}{y:Bool}(h:Gy N b=some y) :Uw S Sc [.p (.agg (A9 b))] [] (pB y) ([]) []:=by
 unfold Gy at h;refine A1 U func11 ?_;refine kB U (A3 U) S3 S3 11 (.o (.o (.a (decide (70<(b.Tree.n:Int)))) (.a (decide (70<(b.Laws.n:Int))))) (.a (decide (70<(b.On.n:Int))))) ?_;refine Ym U h fun h=>?_;refine E2 U S3 h (λx1=>kps [(3,pN x1)] [1] [] [2000]) (λd x1 f h=>?_);apply kI U h<;>intro h
 .refine kJ U h (λh=>?_) (λh=>?_)
  .cases h;exact kR U
  exact f S3 h
 refine E2 U S3 h (λx3=>kps [(4,pN x3)] [1] [] [2000]) (λg x3 i h=>?_);apply kI U h<;>intro h
 .obtain⟨c40,h⟩:=C4 h;refine kD U h (Ur (Ur c40.1 Tc) c40.2) (AS1 U P) (λj h=>?_);refine GN U S3 (A3 U) h 0 (λz3=>kps [(79,pB z3)] [4,1] [] [2000]) (λk3 c h=>?_) (λz3 h=>?_)
  .refine kG U h (λh=>?_) (λh=>?_)
   .exact c S3 h
   refine kG U h (λh=>?_) (λh=>?_)
   .exact c S3 h
   refine kG U h (λh=>?_) (λh=>?_)
   .exact c S3 h
   refine kC U h (OU U P) (λl h=>?_);refine kG U h (λh=>?_) (λh=>?_)
   .exact c S3 h
   refine kC U h (OU U P) (λm h=>?_);exact c S3 h
  refine Ym U h fun h=>?_;exact i S3 h
 cases h;exact kR U
def HL (N:Nat)(a:Sl M8):Option Bool:= N3 N (λb (x1:Int)=>ite (decide (x1<(a.n:Int))) (ite ((0:Int)<=x1/\x1<(a.n:Int)) (ite (decide (40<((a.g x1.toNat).W.n:Int))) (some false) (b (wrap .i64 (x1+1)))) none) (some (decide ((a.n:Int)<=70)))) 0
theorem Ai9 {a:Sl M8}{y:Bool}(h:HL N a=some y) :Uw S Ad2 [.p (vSl 2 I4 a)] [] (pB y) ([]) []:=by
 unfold HL at h;refine A1 U func12 ?_;refine E2 U S3 h (λx1=>kps [(3,pN x1)] [0] [] []) (λb x1 c h=>?_);apply kI U h<;>intro h
 .refine kJ U h (λh=>?_) (λh=>?_)
  .cases h;exact kR U
  exact c S3 h
 cases h;exact kR U
def EU (N:Nat)(a:Yc):Option Int:= U1 N (λb (x1:Int) (x2:Int)=>ite (decide (x2<(a.On.n:Int))) (ite ((0:Int)<=x2/\x2<(a.On.n:Int)) (b (wrap .i64 (x1+((a.On.g x2.toNat).n:Int))) (wrap .i64 (x2+1))) none) (some x1)) 0 0
theorem Aj0 {a:Yc}{y:Int}(h:EU N a=some y) :Uw S PK [.p (.agg (A9 a))] [] (pN y) ([]) []:=by
 unfold EU at h;refine A1 U func13 ?_;refine E8 U S3 h (λx1 x2=>kps [(4,pN x2),(3,pN x1)] [1] [] [2000]) (λb x1 x2 c h=>?_);apply kI U h<;>intro h
 .obtain⟨c4,h⟩:=C4 h;exact c c4 h
 cases h;exact kR U
def Gz (N:Nat)(a:B0):Option Bool:= (Gy N a.Yc).bind λy1=>ite (((((((!y1)||((decide (12<(a.Yc.Tree.n:Int)))&&(decide ((a.Yc.Tree.n:Int)<=63))))||(decide (5<(a.Yf.n:Int))))||(decide (5<(a.Yb.n:Int))))||(decide (300<(a.Sounds.n:Int))))||(decide (40<(a.Feats.n:Int))))||(decide (40<(a.Marks.n:Int)))) (some false) ((HL N a.Yb).bind λy2=>lt (λ(z1:Bool)=>ite z1 (some false) (N3 N (λb (x2:Int)=>ite (decide (x2<(a.Yf.n:Int))) (ite ((0:Int)<=x2/\x2<(a.Yf.n:Int)) ((HL N (a.Yf.g x2.toNat).Yg).bind λy9=>ite (!y9) (some false) (b (wrap .i64 (x2+1)))) none) (some true)) 0)) λk1=>ite (!y2) (k1 true) ((EU N a.Yc).bind λy5=>ite (decide (24<y5)) ((X3 N a.Yc).bind λy6=>k1 (y6==0)) (k1 false)))
theorem Ax4 {b:B0}{y:Bool}(h:Gz N b=some y) :Uw S RZ [.p (.agg (B3 b))] [] (pB y) ([]) []:=by
 unfold Gz at h;refine A1 U func4 ?_;refine kC U h (Ax3 U P) (λy1 h=>?_);refine kB U (A3 U) S3 S3 43 (.o (.o (.o (.o (.o (.o (.a (!y1)) (.n (.a (decide (12<(b.Yc.Tree.n:Int)))) (.a (decide ((b.Yc.Tree.n:Int)<=63))))) (.a (decide (5<(b.Yf.n:Int))))) (.a (decide (5<(b.Yb.n:Int))))) (.a (decide (300<(b.Sounds.n:Int))))) (.a (decide (40<(b.Feats.n:Int))))) (.a (decide (40<(b.Marks.n:Int))))) ?_;refine Ym U h fun h=>?_;refine kC U h (Ai9 U P) (λy2 h=>?_);refine GN U S3 (A3 U) h 0 (λz1=>kps [(67,pB z1)] [1] [] [2000]) (λk1 c h=>?_) (λz1 h=>?_)
 .refine kG U h (λh=>?_) (λh=>?_)
  .exact c S3 h
  refine kC U h (Aj0 U P) (λy5 h=>?_);refine kG U h (λh=>?_) (λh=>?_)
  .refine kC U h (Gx U P) (λy6 h=>?_);exact c S3 h
  exact c S3 h
 refine Ym U h fun h=>?_;refine E2 U S3 h (λx2=>kps [(3,pN x2)] [1] [] [2000]) (λd x2 f h=>?_);apply kI U h<;>intro h
 .obtain⟨c15,h⟩:=C4 h;refine kD U h c15 (Ai9 U P) (λy9 h=>?_);refine Ym U h fun h=>?_;exact f S3 h
 cases h;exact kR U
def Dh (N:Nat)(a:Int):Option Bool:= some (((decide (97<=a))&&(decide (a<=122)))||((decide (48<=a))&&(decide (a<=57))))
theorem Qq {b:Int}{y:Bool}(h:Dh N b=some y) :Uw S Qe [.p (pI .u8 b)] [] (pB y) ([]) []:=by unfold Dh at h;refine A1 U func216 ?_;refine kB U (A3 U) S3 S3 11 (.o (.n (.a (decide (97<=b))) (.a (decide (b<=122)))) (.n (.a (decide (48<=b))) (.a (decide (b<=57))))) ?_;cases h;exact kR U
def Kv (N:Nat)(a:Int):Option Bool:= some (((((((((decide (65<=a))&&(decide (a<=90)))||(a==64))||(a==63))||(a==33))||(a==38))||(a==42))||(a==36))||(a==37))
theorem Bg0 {b:Int}{y:Bool}(h:Kv N b=some y) :Uw S Af6 [.p (pI .u8 b)] [] (pB y) ([]) []:=by unfold Kv at h;refine A1 U func217 ?_;refine kB U (A3 U) S3 S3 31 (.o (.o (.o (.o (.o (.o (.o (.n (.a (decide (65<=b))) (.a (decide (b<=90)))) (.a (b==64))) (.a (b==63))) (.a (b==33))) (.a (b==38))) (.a (b==42))) (.a (b==36))) (.a (b==37))) ?_;cases h;exact kR U
def EV (N:Nat)(a:Str):Option Bool:= ite (((decide ((a.length:Int)<1))=false->((decide (16<(a.length:Int)))=false->((0:Int)<=0/\0<(a.length:Int))))/\((decide ((a.length:Int)<1))=false->((decide (16<(a.length:Int)))=false->((decide ((E9 a 0)<97))=false->((0:Int)<=0/\0<(a.length:Int)))))) (ite ((((decide ((a.length:Int)<1))||(decide (16<(a.length:Int))))||(decide ((E9 a 0)<97)))||(decide (122<(E9 a 0)))) (some false) (N3 N (λb (x1:Int)=>ite (decide (x1<(a.length:Int))) (ite ((0:Int)<=x1/\x1<(a.length:Int)) ((Dh N (E9 a x1)).bind λy3=>ite (!y3) (some false) (b (wrap .i64 (x1+1)))) none) (some true)) 0)) none
theorem Aj1 {b:Str}{y:Bool}(h:EV N b=some y) :Uw S Qc [.p (.str b)] [] (pB y) ([]) []:=by
 unfold EV at h;refine A1 U func175 ?_;obtain⟨c1,h⟩:=C4 h;refine kB U (A3 U) S3 c1 14 (.o (.o (.o (.a (decide ((b.length:Int)<1))) (.a (decide (16<(b.length:Int))))) (.a (decide ((E9 b 0)<97)))) (.a (decide (122<(E9 b 0))))) ?_;refine Ym U h fun h=>?_;refine E2 U S3 h (λx1=>kps [(3,pN x1)] [0] [] []) (λc x1 d h=>?_);apply kI U h<;>intro h
 .obtain⟨c10,h⟩:=C4 h;refine kD U h c10 (Qq U P) (λy3 h=>?_);refine Ym U h fun h=>?_;exact d S3 h
 cases h;exact kR U
def Cu (N:Nat)(a:Str):Option Bool:= ite ((decide ((a.length:Int)<1))||(decide (4<(a.length:Int)))) (some false) (N3 N (λb (x2:Int)=>ite (decide (x2<(a.length:Int))) (ite ((0:Int)<=x2/\x2<(a.length:Int)) ((Dh N (E9 a x2)).bind λy7=>lt (λ(z3:Bool)=>ite z3 (some false) (b (wrap .i64 (x2+1)))) λk3=>ite (!y7) (ite ((0:Int)<=x2/\x2<(a.length:Int)) ((Kv N (E9 a x2)).bind λy9=>k3 (!y9)) none) (k3 false)) none) (some true)) 0)
theorem Vd {b:Str}{y:Bool}(h:Cu N b=some y) :Uw S LX [.p (.str b)] [] (pB y) ([]) []:=by
 unfold Cu at h;refine A1 U func177 ?_;refine kB U (A3 U) S3 S3 4 (.o (.a (decide ((b.length:Int)<1))) (.a (decide (4<(b.length:Int))))) ?_;refine Ym U h fun h=>?_;refine E2 U S3 h (λx2=>kps [(3,pN x2)] [0] [] []) (λd x2 f h=>?_);apply kI U h<;>intro h
 .obtain⟨c19,h⟩:=C4 h;refine kD U h c19 (Qq U P) (λy7 h=>?_);refine GN U S3 (A3 U) h 0 (λz3=>kps [(29,pB z3)] [3,0] [] []) (λk3 c h=>?_) (λz3 h=>?_)
  .refine kG U h (λh=>?_) (λh=>?_)
   .obtain⟨c24,h⟩:=C4 h;refine kD U h c24 (Bg0 U P) (λy9 h=>?_);exact c S3 h
   exact c S3 h
  refine Ym U h fun h=>?_;exact f S3 h
 cases h;exact kR U
abbrev rO (v:D7)(a:Nat):List Obj:=[(.cells [pB v.Made,.p (vSl 1 cS v.F),.vec a]),oV S0 3 H5 v.S true]
def N4 (N:Nat)(a:D7):Option Bool:= some a.Made
theorem Ew {a:D7}{y:Bool}(h:N4 N a=some y) :Uw S LW [.reg 0 0] (rO a 1) (pB y) (rO a 1) [true,true]:=by unfold N4 at h;refine A1 U func176 ?_;obtain rfl:=A5 h;exact kO U S3 [0,1]
def Y7 (N:Nat)(c:D7)(b:Up):Option Bool:= (G6 N b).bind λy1=>ite (!y1) (some false) (N3 N (λa (x1:Int)=>ite (decide (x1<24)) ((W7 N b x1).bind λy4=>ite (y4 != 0) (some false) (a (wrap .i64 (x1+1)))) (some true)) (c.F.n:Int))
theorem Pb {a:D7}{b:Up}{y:Bool}(h:Y7 N a b=some y) :Uw S HC [.reg 0 0,.p (.agg (A0 b))] (rO a 1) (pB y) (rO a 1) [true,true]:=by
 unfold Y7 at h;refine A1 U func178 ?_;refine kC U h (V5 U P) (λy1 h=>?_);apply kI U h<;>intro h
 .obtain rfl:=A5 h;exact kO U S3 [0,1]
 refine E2 U S3 h (λx1=>kps [(5,pN x1)] [3] [] [4000,1,0]) (λc x1 d h=>?_);apply kI U h<;>intro h
 .refine kC U h (ET U P) (λy4 h=>?_);apply kI U h<;>intro h
  .obtain rfl:=A5 h;exact kO U S3 [0,1]
  exact d S3 h
 obtain rfl:=A5 h;exact kO U S3 [0,1]
def Y8 (N:Nat)(a:D7):Option (Sl Str):= (N4 N a).bind λy1=>ite (!y1) (some (Sl.nil:Sl Str)) (ite (Uq 16 ((Sl.of []:Sl Str).n+a.F.n)) (some ((Sl.of []:Sl Str).app a.F)) none)
theorem Kw {a:D7}{y:Sl Str}(h:Y8 N a=some y) :Uw S JU [.reg 0 0] (rO a 1) (.vec 2) ([.cells [pB a.Made,.p (vSl 1 cS a.F),.vec 1],oV S0 3 H5 a.S true,oV M6 1 cS y true]) [true,true]:=by
 unfold Y8 at h;refine A1 U func131 ?_;obtain⟨y1,e1,h⟩:=E4 h;refine D6 U [0,1] S3 (Ew U P e1) ?_;apply kI U h<;>intro h
 .obtain rfl:=A5 h;exact kO U S3 [0,1,3700]
 obtain⟨c2,h⟩:=C4 h;obtain rfl:=A5 h;exact kO U (Ur Td c2) [0,1,12000] (hle:=klR [(0,.fn (0+a.F.n) ((Sl.of []:Sl Str).app a.F).n (DO 0 (G9 [.str []] []) (λi=>cS (a.F.g i))) (λi=>cS (((Sl.of []:Sl Str).app a.F).g i)))] (al1 ⟨rfl,Aq7 (c:=cS) (v:=(Sl.of []:Sl Str)) (w:=a.F) (λi b=>Ke b (by omega)) rfl same rfl⟩ al0))
def Aq (N:Nat)(a:D7):Option (Sl F9):= (N4 N a).bind λy1=>ite (!y1) (some (Sl.nil:Sl F9)) (ite (Uq 24 ((Sl.of []:Sl F9).n+a.S.n)) (some ((Sl.of []:Sl F9).app a.S)) none)
theorem QS {a:D7}{y:Sl F9}(h:Aq N a=some y) :Uw S Ji [.reg 0 0] (rO a 1) (.vec 2) ([.cells [pB a.Made,.p (vSl 1 cS a.F),.vec 1],oV S0 3 H5 a.S true,oV S0 3 H5 y true]) [true,true]:=by
 unfold Aq at h;refine A1 U func180 ?_;obtain⟨y1,e1,h⟩:=E4 h;refine D6 U [0,1] S3 (Ew U P e1) ?_;apply kI U h<;>intro h
 .obtain rfl:=A5 h;exact kO U S3 [0,1,3700]
 obtain⟨c2,h⟩:=C4 h;obtain rfl:=A5 h;exact kO U (Ur Td c2) [0,1,12000] (hle:=klR [(0,.fn (0+a.S.n) ((Sl.of []:Sl F9).app a.S).n (DO 0 (G9 Yt []) (λi=>H5 (a.S.g i))) (λi=>H5 (((Sl.of []:Sl F9).app a.S).g i)))] (al1 ⟨rfl,Aq7 (c:=H5) (v:=(Sl.of []:Sl F9)) (w:=a.S) (λi b=>Ke b (by omega)) rfl same rfl⟩ al0))
def DI (N:Nat)(a:D7)(b:Str)(c:Up):Option (Int×D7):= (N4 N a).bind λy1=>ite (!y1) (some (1,a)) ((Cu N b).bind λy2=>ite (!y2) (some (15,a)) ((Y7 N a c).bind λy3=>ite (!y3) (some (14,a)) (N3 N (λd (x1:Int)=>ite (decide (x1<(a.S.n:Int))) (ite (((0:Int)<=x1/\x1<(a.S.n:Int))/\x1.toNat<a.S.n) (ite (((a.S.g x1.toNat).Yi==b) != false) (some (6,a)) (ite (((0:Int)<=x1/\x1<(a.S.n:Int))/\x1.toNat<a.S.n) (ite ((((a.S.g x1.toNat).S.Plus==c.Plus)&&((a.S.g x1.toNat).S.Minus==c.Minus)) != false) (some (6,a)) (d (wrap .i64 (x1+1)))) none)) none) (ite (decide (256<=(a.S.n:Int))) (some (4,a)) (ite (Uq 24 (a.S.n+(Sl.of [(⟨b,c⟩:F9)]:Sl F9).n)) (some (0,(⟨a.Made,a.F,a.S.push (⟨b,c⟩:F9)⟩:D7))) none))) 0)))
theorem YT {c:D7}{a:Str}{b:Up}{y:Int×D7}(h:DI N c a b=some y) :Uw S NK [.reg 0 0,.p (.str a),.p (.agg (A0 b))] (rO c 1) (pN y.1) ([.cells [pB y.2.Made,.p (vSl 1 cS y.2.F),.vec 1],oV S0 3 H5 y.2.S true]) [true,false]:=by
 unfold DI at h;refine A1 U func130 ?_;refine C7 U S3 6 6000 [pI .u32 b.Plus,pI .u32 b.Minus] ?_;obtain⟨y1,e1,h⟩:=E4 h;refine D6 U [0,1] S3 (Ew U P e1) ?_;apply kI U h<;>intro h
 .obtain rfl:=A5 h;exact kO U S3 [0,990001]
 refine kC U h (Vd U P) (λy2 h=>?_);apply kI U h<;>intro h
 .obtain rfl:=A5 h;exact kO U S3 [0,990001]
 obtain⟨y3,e3,h⟩:=E4 h;refine D6 U [0,1] Sp (Pb U P e3) ?_;apply kI U h<;>intro h
 .obtain rfl:=A5 h;exact kO U S3 [0,990001]
 refine E2 U S3 h (λx1=>kps [(7,pN x1)] [5,1,0] [] [1,0]) (λd x1 f h=>?_);apply kI U h<;>intro h
 .refine B4 U S3 [19] ?_;obtain⟨c15,h⟩:=C4 h;refine dG c15 h (λh=>?_) (λh=>?_)
  .refine D5 S3 ?_;obtain rfl:=A5 h;exact kO U S3 [0,990001]
  obtain⟨c17,h⟩:=C4 h;refine D5 (Ur (Ur (Ur (Ur c17.1 Sp) c17.2) Sp) (by decide +kernel:Qx Tryz.prog A8=true)) ?_;apply kI U h<;>intro h
  .obtain rfl:=A5 h;exact kO U S3 [0,990001]
  exact f S3 h
 apply kI U h<;>intro h
 .obtain rfl:=A5 h;exact kO U S3 [0,990001]
 refine B4 U S3 [6] ?_;refine O3 Sp (x:=.sl true 3 1 (G9 Yt [(0,H5 (⟨a,b⟩:F9))])) ?_;refine dE h (λh=>?_);obtain rfl:=A5 h;exact kO U S3 [0,65000] (hle:=kl1 1 (O8 H5 c.S (⟨a,b⟩:F9) Yt))
def Kx (N:Nat)(a:Sl Str):Option ((Option D7)×Int):= ite (decide (24<(a.n:Int))) (some (none,12)) (N3 N (λb (x1:Int)=>ite (decide (x1<(a.n:Int))) (ite ((0:Int)<=x1/\x1<(a.n:Int)) ((EV N (a.g x1.toNat)).bind λy3=>ite (!y3) (some (none,15)) (b (wrap .i64 (x1+1)))) none) (N3 N (λc (x3:Int)=>ite (decide (x3<(a.n:Int))) (N3 N (λd (x5:Int)=>ite (decide (x5<x3)) (ite (((0:Int)<=x3/\x3<(a.n:Int))/\((0:Int)<=x5/\x5<(a.n:Int))) (ite (((a.g x3.toNat)==(a.g x5.toNat)) != false) (some (none,6)) (d (wrap .i64 (x5+1)))) none) (c (wrap .i64 (x3+1)))) 0) (ite (Uq 16 ((Sl.of []:Sl Str).n+a.n)) (some (some (⟨true,(Sl.of []:Sl Str).app a,(Sl.nil:Sl F9)⟩:D7),0)) none)) 0)) 0)
theorem Aj2 {a:Sl Str}{y:(Option D7)×Int}(h:Kx N a=some y) :Uw S Af0 [.p (vSl 1 cS a)] [] (.tup [JD y.1 (.p BR6) λ_=>.reg 0 0,pN y.2]) (JD y.1 [] λo=>rO o 1) []:=by
 unfold Kx at h;refine A1 U func129 ?_;apply kI U h<;>intro h
 .obtain rfl:=A5 h;exact kO U S3 []
 refine E2 U S3 h (λx1=>kps [(4,pN x1)] [0] [] []) (λb x1 d h=>?_);apply kI U h<;>intro h
 .obtain⟨c9,h⟩:=C4 h;refine kD U h c9 (Aj1 U P) (λy3 h=>?_);apply kI U h<;>intro h
  .obtain rfl:=A5 h;exact kO U S3 []
  exact d S3 h
 refine E2 U S3 h (λx3=>kps [(5,pN x3)] [0] [] []) (λf x3 j h=>?_);apply kI U h<;>intro h
 .refine E2 U S3 h (λx5=>kps [(6,pN x5)] [5,0] [] []) (λl x5 m h=>?_);apply kI U h<;>intro h
  .refine B4 U S3 [2,3,6,7] ?_;refine dE h (λh=>?_);apply kI U h<;>intro h
   .obtain rfl:=A5 h;exact kO U S3 []
   exact m S3 h
  exact j S3 h
 obtain⟨c41,h⟩:=C4 h;obtain rfl:=A5 h;exact kO U (Ur Td c41) [47000,3801] (hle:=klR [(2,.fn (0+a.n) ((Sl.of []:Sl Str).app a).n (DO 0 (G9 [.str []] []) (λi=>cS (a.g i))) (λi=>cS (((Sl.of []:Sl Str).app a).g i)))] (al1 ⟨rfl,Aq7 (c:=cS) (v:=(Sl.of []:Sl Str)) (w:=a) (λi q=>Ke q (by omega)) rfl same rfl⟩ al0))
def Ex (N:Nat)(a:D7):Option (Option D7):= (N4 N a).bind λy1=>ite (!y1) (some none) ((Y8 N a).bind λy2=>(Aq N a).bind λy3=>some (some (⟨true,y2,y3⟩:D7)))
theorem Ml {a:D7}{y:Option D7}(h:Ex N a=some y) :Uw S LS [.reg 0 0] (rO a 1) (JD y (.p BR6) λ_=>.reg 2 0) ((rO a 1)++(JD y [] λo=>rO o 3)) [true,true]:=by
 unfold Ex at h;refine A1 U func133 ?_;obtain⟨y1,e1,h⟩:=E4 h;refine D6 U [0,1] S3 (Ew U P e1) ?_;apply kI U h<;>intro h
 .obtain rfl:=A5 h;exact kO U S3 [0,1]
 obtain⟨y2,e2,h⟩:=E4 h;refine D6 U [0,1] S3 (Kw U P e2) ?_;obtain⟨y3,e3,h⟩:=E4 h;refine D6 U [0,1] S3 (QS U P e3) ?_;obtain rfl:=A5 h;exact kO U S3 [0,1,12000,10002]
def HM (N:Nat)(a:Int):Option Bool:= some ((((((((a==58)||(a==39))||(a==34))||(a==126))||(a==94))||(a==95))||(a==61))||(a==96))
theorem AS8 {b:Int}{y:Bool}(h:HM N b=some y) :Uw S Wo [.p (pI .u8 b)] [] (pB y) ([]) []:=by unfold HM at h;refine A1 U func179 ?_;refine kB U (A3 U) S3 S3 27 (.o (.o (.o (.o (.o (.o (.o (.a (b==58)) (.a (b==39))) (.a (b==34))) (.a (b==126))) (.a (b==94))) (.a (b==95))) (.a (b==61))) (.a (b==96))) ?_;cases h;exact kR U
def Cv (N:Nat)(a:Str):Option Bool:= N3 N (λb (x1:Int)=>ite (decide (x1<(a.length:Int))) (ite ((0:Int)<=x1/\x1<(a.length:Int)) ((HM N (E9 a x1)).bind λy3=>ite (!y3) (some false) (b (wrap .i64 (x1+1)))) none) (some ((decide (1<=(a.length:Int)))&&(decide ((a.length:Int)<=3))))) 0
theorem Ve {b:Str}{y:Bool}(h:Cv N b=some y) :Uw S LR [.p (.str b)] [] (pB y) ([]) []:=by
 unfold Cv at h;refine A1 U func132 ?_;refine E2 U S3 h (λx1=>kps [(3,pN x1)] [0] [] []) (λc x1 d h=>?_);apply kI U h<;>intro h
 .obtain⟨c8,h⟩:=C4 h;refine kD U h c8 (AS8 U P) (λy3 h=>?_);refine Ym U h fun h=>?_;exact d S3 h
 refine kB U (A3 U) S3 S3 4 (.n (.a (decide (1<=(b.length:Int)))) (.a (decide ((b.length:Int)<=3)))) ?_;cases h;exact kR U
def Ky (N:Nat)(b:D7)(a:Sl GO):Option Int:= ite (!b.Made) (some 1) (ite (decide (32<(a.n:Int))) (some 12) ((Y8 N b).bind λy1=>ite ((0:Int)<=(y1.n:Int)) (N3 N (λc (x3:Int)=>ite (decide (x3<(a.n:Int))) (ite ((0:Int)<=x3/\x3<(a.n:Int)) ((Cv N (a.g x3.toNat).Text).bind λy8=>ite (!y8) (some 15) (lt (λ(z3:Bool)=>ite z3 (some 2) (N3 N (λd (x7:Int)=>ite (decide (x7<x3)) (ite ((0:Int)<=x7/\x7<(a.n:Int)) (ite (((a.g x7.toNat).Text==(a.g x3.toNat).Text) != false) (some 6) (d (wrap .i64 (x7+1)))) none) (c (wrap .i64 (x3+1)))) 0)) λk3=>ite ((F3 .andNot .u32 (a.g x3.toNat).Clear (wrap .u32 ((shI .shl .u32 1 (y1.n:Int))-1))) != 0) (k3 true) ((G6 N (a.g x3.toNat).Set).bind λf=>ite (!f) (k3 true) (ite ((F3 .andNot .u32 (F3 .or .u32 (a.g x3.toNat).Set.Plus (a.g x3.toNat).Set.Minus) (wrap .u32 ((shI .shl .u32 1 (y1.n:Int))-1))) != 0) (k3 true) (k3 ((F3 .and .u32 (a.g x3.toNat).Clear (F3 .or .u32 (a.g x3.toNat).Set.Plus (a.g x3.toNat).Set.Minus)) != 0)))))) none) ((Ex N b).bind λi=>JD i (ite (Uq 32 ((Sl.of []:Sl GO).n+a.n)) (some 0) none) λz4=>ite (Uq 32 ((Sl.of []:Sl GO).n+a.n)) (some 0) none)) 0) none))
theorem Bg1 {c:D7}{a:Sl GO}{y:Int}(h:Ky N c a=some y) :Uw S Ae6 [.reg 0 0,.p (vSl 4 EF a)] (rO c 1) (.tup [.top,pN y]) (rO c 1) [true,true]:=by
 unfold Ky at h;refine A1 U func94 ?_;apply kI U h<;>intro h
 .obtain rfl:=A5 h;exact kO U S3 [0,1]
 apply kI U h<;>intro h
 .obtain rfl:=A5 h;exact kO U S3 [0,1]
 obtain⟨y1,e1,h⟩:=E4 h;refine D6 U [0,1] S3 (Kw U P e1) ?_;obtain⟨c3,h⟩:=C4 h;refine E2 U c3 h (λx3=>kps [(7,pN x3)] [6,1,0] [] [1,0]) (λd x3 f h=>?_);apply kI U h<;>intro h
 .obtain⟨c45,h⟩:=C4 h;refine C7 U (Ur c45 Sx) 38 9000 (EF (a.g x3.toNat)) ?_;refine kC U h (Ve U P) (λy8 h=>?_);apply kI U h<;>intro h
  .obtain rfl:=A5 h;exact kO U S3 [0,1]
  refine GN U S3 (A3 U) h 0 (λz3=>kps [(72,pB z3)] [8,7,6,1,0] [] [1,0]) (λk3 b h=>?_) (λz3 h=>?_)
  .refine kG U h (λh=>?_) (λh=>?_)
   .exact b S3 h
   refine kD U h Sp (V5 U P) (λm h=>?_);refine kG U h (λh=>?_) (λh=>?_)
   .exact b S3 h
   refine kG U h (λh=>?_) (λh=>?_)
   .exact b S3 h
   exact b S3 h
  apply kI U h<;>intro h
  .obtain rfl:=A5 h;exact kO U S3 [0,1]
  refine E2 U S3 h (λx7=>kps [(10,pN x7)] [8,7,6,1,0] [] [1,0]) (λi x7 j h=>?_);apply kI U h<;>intro h
  .refine B4 U S3 [2,4,6] ?_;refine dE h (λh=>?_);apply kI U h<;>intro h
   .obtain rfl:=A5 h;exact kO U S3 [0,1]
   exact j S3 h
  exact f S3 h
 obtain⟨l,e11,h⟩:=E4 h;rcases o1:l with _|z4
 .replace h:=An6 o1 h;have w1:=(Ml U P e11);simp only[o1,K0,M2,Cg4,Ce9,Cj0]at w1;refine D6 U [0,1] S3 w1 ?_;obtain⟨c64,h⟩:=C4 h;obtain rfl:=A5 h;exact kO U (Ur Td c64) [0,1]
 replace h:=Ab6 o1 h;have w2:=(Ml U P e11);simp only[o1,K0,M2,Cg4,Ce9,Cj0]at w2;refine D6 U [0,1] S3 w2 ?_;obtain⟨c65,h⟩:=C4 h;obtain rfl:=A5 h;exact kO U (Ur Td c65) [0,1]
def Bi (N:Nat)(a:B0):Option ((Option D7)×Int):= (Kx N a.Feats).bind λy1=>JD y1.1 (ite (y1.2 != 0) (some (none,y1.2)) none) λz1=>ite (y1.2 != 0) (some (none,y1.2)) (AW9 N (λb (x2:Bool) (x3:Sl Str) (x4:Sl F9) (x5:Int)=>ite (decide (x5<(a.Sounds.n:Int))) (ite (((0:Int)<=x5/\x5<(a.Sounds.n:Int))/\((0:Int)<=x5/\x5<(a.Sounds.n:Int))) ((DI N (⟨x2,x3,x4⟩:D7) (a.Sounds.g x5.toNat).Yi (a.Sounds.g x5.toNat).S).bind λy7=>ite (y7.1 != 0) (some (none,y7.1)) (b y7.2.Made y7.2.F y7.2.S (wrap .i64 (x5+1)))) none) (some (some (⟨x2,x3,x4⟩:D7),0))) z1.Made z1.F z1.S 0)
theorem Kz {a:B0}{y:(Option D7)×Int}(h:Bi N a=some y) :Uw S JR [.p (.agg (B3 a))] [] (.tup [JD y.1 (.p BR6) λ_=>.reg 0 0,pN y.2]) (JD y.1 [] λo=>rO o 1) []:=by
 unfold Bi at h;refine A1 U func93 ?_;refine C7 U S3 2 2000 (B3 a) ?_;obtain⟨y1,e1,h⟩:=E4 h;rcases o1:y1.1 with _|z1
 .replace h:=An6 o1 h;have w1:=(Aj2 U P e1);simp only[o1,K0,M2,Cg4,Ce9,Cj0]at w1;refine D6 U [] S3 w1 ?_;apply kI U h<;>intro h
  .obtain rfl:=A5 h;exact kO U S3 []
  cases h
 replace h:=Ab6 o1 h;have w2:=(Aj2 U P e1);simp only[o1,K0,M2,Cg4,Ce9,Cj0]at w2;refine D6 U [] S3 w2 ?_;apply kI U h<;>intro h
 .obtain rfl:=A5 h;exact kO U S3 []
 refine AF9 U S3 h (λx2 x3 x4 x5=>kps [(6,pN x5)] [4,1] [(11000,.cells [pB x2,.p (vSl 1 cS x3),.vec 5500]),(5500,oV S0 3 H5 x4 true)] []) (λb x2 x3 x4 x5 c h=>?_);apply kI U h<;>intro h
 .refine B4 U S3 [2,4,6,8,10,12] ?_;obtain⟨c19,h⟩:=C4 h;obtain⟨y7,e7,h⟩:=E4 h;refine GS [11000,5500] (Ur (Ur c19.1 c19.2) Sp) (YT U P e7) ?_;refine D5 S3 ?_;apply kI U h<;>intro h
  .obtain rfl:=A5 h;exact kO U S3 []
  exact c S3 h
 obtain rfl:=A5 h;exact kO U S3 [11000,5500]
def Ey (N:Nat)(a:B0):Option Int:= (Bi N a).bind λy1=>JD y1.1 (ite (y1.2 != 0) (some y1.2) none) λz1=>ite (y1.2 != 0) (some y1.2) ((Ky N z1 a.Marks).bind λy3=>some y3)
theorem Vf {a:B0}{y:Int}(h:Ey N a=some y) :Uw S LF [.p (.agg (B3 a))] [] (.tup [.top,pN y]) ([]) []:=by
 unfold Ey at h;refine A1 U func59 ?_;obtain⟨y1,e1,h⟩:=E4 h;rcases o1:y1.1 with _|z1
 .replace h:=An6 o1 h;have w1:=(Kz U P e1);simp only[o1,K0,M2,Cg4,Ce9,Cj0]at w1;refine D6 U [] S3 w1 ?_;apply kI U h<;>intro h
  .obtain rfl:=A5 h;exact kO U S3 []
  cases h
 replace h:=Ab6 o1 h;have w2:=(Kz U P e1);simp only[o1,K0,M2,Cg4,Ce9,Cj0]at w2;refine D6 U [] S3 w2 ?_;apply kI U h<;>intro h
 .obtain rfl:=A5 h;exact kO U S3 []
 obtain⟨y3,e3,h⟩:=E4 h;refine D6 U [9000,9001] S3 (Bg1 U P e3) ?_;obtain rfl:=A5 h;exact kO U S3 []
def Ek (N:Nat)(a:B0):Option Int:= (Ey N a).bind λy1=>ite (y1 != 0) (some y1) ((Ej N a.Yc a.Yb a.Yf).bind λy2=>some y2)
theorem Tx {a:B0}{y:Int}(h:Ek N a=some y) :Uw S Sf [.p (.agg (B3 a))] [] (pN y) ([]) []:=by
 unfold Ek at h;refine A1 U func25 ?_;refine kC U h (Vf U P) (λy1 h=>?_);refine Ym U h fun h=>?_;refine kC U h (Tw U P) (λy2 h=>?_);cases h;exact kR U
def V6 (N:Nat)(c:Up)(a:Up):Option Bool:= (G6 N c).bind λy1=>lt (λ(z1:Bool)=>ite z1 (some false) (N3 N (λb (x3:Int)=>ite (decide (x3<24)) ((W7 N a x3).bind λd=>lt (λ(z4:Bool)=>ite z4 (some false) (b (wrap .i64 (x3+1)))) λk4=>ite (d != 0) ((W7 N c x3).bind λf=>k4 (f != d)) (k4 false)) (some true)) 0)) λk1=>ite (!y1) (k1 true) ((G6 N a).bind λy3=>k1 (!y3))
theorem Ty {b:Up}{a:Up}{y:Bool}(h:V6 N b a=some y) :Uw S Ka [.p (.agg (A0 b)),.p (.agg (A0 a))] [] (pB y) ([]) []:=by
 unfold V6 at h;refine A1 U func253 ?_;refine kC U h (V5 U P) (λy1 h=>?_);refine GN U S3 (A3 U) h 0 (λz1=>kps [(14,pB z1)] [3,2] [] [4000,3000]) (λk1 c h=>?_) (λz1 h=>?_)
 .refine kG U h (λh=>?_) (λh=>?_)
  .exact c S3 h
  refine kC U h (V5 U P) (λy3 h=>?_);exact c S3 h
 refine Ym U h fun h=>?_;refine E2 U S3 h (λx3=>kps [(5,pN x3)] [3,2] [] [4000,3000]) (λf x3 g h=>?_);apply kI U h<;>intro h
 .refine kC U h (ET U P) (λi h=>?_);refine GN U S3 (A3 U) h 0 (λz4=>kps [(30,pB z4)] [5,3,2] [] [4000,3000]) (λk4 d h=>?_) (λz4 h=>?_)
  .refine kG U h (λh=>?_) (λh=>?_)
   .refine kC U h (ET U P) (λj h=>?_);exact d S3 h
   exact d S3 h
  refine Ym U h fun h=>?_;exact g S3 h
 cases h;exact kR U
def EW (N:Nat)(b:Up)(a:Int)(c:Int):Option Up:= ite ((0:Int)<=a) (ite (c==1) (ite (c==(-1)) (some (⟨F3 .or .u32 (F3 .andNot .u32 b.Plus (shI .shl .u32 1 a)) (shI .shl .u32 1 a),F3 .or .u32 (F3 .andNot .u32 b.Minus (shI .shl .u32 1 a)) (shI .shl .u32 1 a)⟩:Up)) (some (⟨F3 .or .u32 (F3 .andNot .u32 b.Plus (shI .shl .u32 1 a)) (shI .shl .u32 1 a),F3 .andNot .u32 b.Minus (shI .shl .u32 1 a)⟩:Up))) (ite (c==(-1)) (some (⟨F3 .andNot .u32 b.Plus (shI .shl .u32 1 a),F3 .or .u32 (F3 .andNot .u32 b.Minus (shI .shl .u32 1 a)) (shI .shl .u32 1 a)⟩:Up)) (some (⟨F3 .andNot .u32 b.Plus (shI .shl .u32 1 a),F3 .andNot .u32 b.Minus (shI .shl .u32 1 a)⟩:Up)))) none
theorem Oi {a:Up}{b:Int}{c:Int}{y:Up}(h:EW N a b c=some y) :Uw S Ag7 [.p (.agg (A0 a)),pN b,pN c] [] (.p (.agg (A0 y))) ([]) []:=by
 unfold EW at h;refine A1 U func266 ?_;refine kJ U h (λh=>?_) (λh=>?_)
 .refine Ym U h fun h=>?_;cases h;exact kR U
 refine Ym U h fun h=>?_;cases h;exact kR U
def W8 (N:Nat)(d:Up)(b:Int)(a:Up):Option (Up×Int):= (G6 N d).bind λy1=>lt (λ(z1:Bool)=>ite z1 (some ((⟨0,0⟩:Up),14)) (ite ((decide (16777215<b))||((F3 .and .u32 b (F3 .or .u32 a.Plus a.Minus)) != 0)) (some ((⟨0,0⟩:Up),2)) (Bb8 N (λc (x2:Int) (x3:Int) (x4:Int)=>ite (decide (x4<24)) (ite ((0:Int)<=x4) (ite ((F3 .and .u32 (shI .shr .u32 b x4) 1)==1) ((EW N (⟨x2,x3⟩:Up) x4 0).bind λf=>(W7 N a x4).bind λj=>ite (j != 0) ((W7 N a x4).bind λl=>(EW N f x4 l).bind λg=>c g.Plus g.Minus (wrap .i64 (x4+1))) (c f.Plus f.Minus (wrap .i64 (x4+1)))) ((W7 N a x4).bind λm=>ite (m != 0) ((W7 N a x4).bind λn=>(EW N (⟨x2,x3⟩:Up) x4 n).bind λi=>c i.Plus i.Minus (wrap .i64 (x4+1))) (c x2 x3 (wrap .i64 (x4+1))))) none) (some ((⟨x2,x3⟩:Up),0))) d.Plus d.Minus 0))) λk1=>ite (!y1) (k1 true) ((G6 N a).bind λy3=>k1 (!y3))
theorem Aj3 {d:Up}{b:Int}{c:Up}{y:Up×Int}(h:W8 N d b c=some y) :Uw S Qh [.p (.agg (A0 d)),pU b,.p (.agg (A0 c))] [] (.tup [.p (.agg (A0 y.1)),pN y.2]) ([]) []:=by
 unfold W8 at h;refine A1 U func256 ?_;refine C7 U S3 5 4000 [pI .u32 d.Plus,pI .u32 d.Minus] ?_;refine C7 U S3 6 6000 [pI .u32 c.Plus,pI .u32 c.Minus] ?_;refine kD U h Sp (V5 U P) (λy1 h=>?_);refine GN U S3 (A3 U) h 0 (λz1=>kps [(17,pB z1)] [6,5,3,1] [] [7000]) (λk1 g h=>?_) (λz1 h=>?_)
 .refine kG U h (λh=>?_) (λh=>?_)
  .exact g S3 h
  refine kD U h Sp (V5 U P) (λy3 h=>?_);exact g S3 h
 refine Ym U h fun h=>?_;refine kB U (A3 U) S3 S3 9 (.o (.a (decide (16777215<b))) (.a ((F3 .and .u32 b (F3 .or .u32 c.Plus c.Minus)) != 0))) ?_;refine Ym U h fun h=>?_;refine Nq U Sp h (λx2 x3 x4=>kps [(9,pN x4)] [8,6,5,1] [(9000,.cells [pU x2,pU x3])] [7000]) (λi x2 x3 x4 f h=>?_);apply kI U h<;>intro h
 .refine kJ U h (λh=>?_) (λh=>?_)
  .refine kC U h (Oi U P) (λj h=>?_);refine kD U h Sp (ET U P) (λl h=>?_);apply kI U h<;>intro h
   .refine B4 U S3 [2,4,5] ?_;refine dP h Sp (ET U P) (λm h=>?_);refine dP h S3 (Oi U P) (λn h=>?_);refine D5 S3 ?_;exact f S3 h
   exact f S3 h
  refine kD U h Sp (ET U P) (λq h=>?_);apply kI U h<;>intro h
  .refine B4 U S3 [2,4,5] ?_;refine dP h Sp (ET U P) (λr h=>?_);refine dP h S3 (Oi U P) (λs h=>?_);refine D5 S3 ?_;exact f S3 h
  exact f S3 h
 cases h;exact kR U
def BF (N:Nat)(d:Up)(a:Up)(b:Int):Option (Up×Int):= (G6 N d).bind λy1=>lt (λ(z1:Bool)=>ite z1 (some ((⟨0,0⟩:Up),14)) (ite (decide (16777215<b)) (some ((⟨0,0⟩:Up),2)) (Bb8 N (λc (x2:Int) (x3:Int) (x4:Int)=>ite (decide (x4<24)) (ite ((0:Int)<=x4) (ite ((F3 .and .u32 (shI .shr .u32 b x4) 1)==1) ((W7 N a x4).bind λy8=>(EW N (⟨x2,x3⟩:Up) x4 y8).bind λy9=>c y9.Plus y9.Minus (wrap .i64 (x4+1))) (c x2 x3 (wrap .i64 (x4+1)))) none) (some ((⟨x2,x3⟩:Up),0))) d.Plus d.Minus 0))) λk1=>ite (!y1) (k1 true) ((G6 N a).bind λy3=>k1 (!y3))
theorem AS9 {c:Up}{a:Up}{b:Int}{y:Up×Int}(h:BF N c a b=some y) :Uw S Wv [.p (.agg (A0 c)),.p (.agg (A0 a)),pU b] [] (.tup [.p (.agg (A0 y.1)),pN y.2]) ([]) []:=by
 unfold BF at h;refine A1 U func257 ?_;refine C7 U S3 4 4000 [pI .u32 c.Plus,pI .u32 c.Minus] ?_;refine C7 U S3 6 5000 [pI .u32 a.Plus,pI .u32 a.Minus] ?_;refine kD U h Sp (V5 U P) (λy1 h=>?_);refine GN U S3 (A3 U) h 0 (λz1=>kps [(17,pB z1)] [6,4,3,2] [] [7000]) (λk1 d h=>?_) (λz1 h=>?_)
 .refine kG U h (λh=>?_) (λh=>?_)
  .exact d S3 h
  refine kD U h Sp (V5 U P) (λy3 h=>?_);exact d S3 h
 refine Ym U h fun h=>?_;refine Ym U h fun h=>?_;refine Nq U Sp h (λx2 x3 x4=>kps [(9,pN x4)] [8,6,4,2] [(9000,.cells [pU x2,pU x3])] [7000]) (λg x2 x3 x4 f h=>?_);apply kI U h<;>intro h
 .refine kJ U h (λh=>?_) (λh=>?_)
  .refine B4 U S3 [2,4,5] ?_;refine dP h Sp (ET U P) (λy8 h=>?_);refine dP h S3 (Oi U P) (λy9 h=>?_);refine D5 S3 ?_;exact f S3 h
  exact f S3 h
 cases h;exact kR U
def FI (N:Nat)(a:Sl Up):Option (Sl Up):= U1 N (λb (x1:Sl Up) (x2:Int)=>ite (decide (x2<(a.n:Int))) (ite (((0:Int)<=x2/\x2<(a.n:Int))/\(Uq 8 (x1.n+(Sl.of [a.g x2.toNat]:Sl Up).n))) (b (x1.push (a.g x2.toNat)) (wrap .i64 (x2+1))) none) (some x1)) Um 0
theorem AT0 {a:Sl Up}{y:Sl Up}(h:FI N a=some y) :Uw S Wm [.p (vSl 2 A0 a)] [] (.vec 0) ([oV A8 2 A0 y true]) []:=by
 unfold FI at h;refine A1 U func171 ?_;refine E8 U S3 h (λx1 x2 _=>⟨[(4,pN x2),(3,.vec 4500),(0,.p (vSl 2 A0 a))],[(4500,oV A8 2 A0 x1 false)]⟩) (λb x1 x2 c h=>?_);apply kI U h<;>intro h
 .obtain⟨c4,h⟩:=C4 h;exact c (Ur (Ur (Ur c4.1 Sp) Td) c4.2) h (hle:=kl1 2 (O8 A0 x1 (a.g x2.toNat) Yu))
 obtain rfl:=A5 h;exact kO U S3 [4500]
def P4 (N:Nat)(a:Sl Up)(b:Sl Up):Option Bool:= ite ((a.n:Int) != (b.n:Int)) (some false) (N3 N (λc (x1:Int)=>ite (decide (x1<(a.n:Int))) (ite (((0:Int)<=x1/\x1<(a.n:Int))/\((0:Int)<=x1/\x1<(b.n:Int))) (ite ((((a.g x1.toNat).Plus==(b.g x1.toNat).Plus)&&((a.g x1.toNat).Minus==(b.g x1.toNat).Minus)) != true) (some false) (c (wrap .i64 (x1+1)))) none) (some true)) 0)
theorem Tz {a:Sl Up}{b:Sl Up}{y:Bool}(h:P4 N a b=some y) :Uw S Sv [.p (vSl 2 A0 a),.p (vSl 2 A0 b)] [] (pB y) ([]) []:=by
 unfold P4 at h;refine A1 U func90 ?_;refine Ym U h fun h=>?_;refine E2 U S3 h (λx1=>kps [(5,pN x1)] [1,0] [] []) (λc x1 d h=>?_);apply kI U h<;>intro h
 .refine B4 U S3 [2,3,6,7] ?_;obtain⟨c9,h⟩:=C4 h;refine D5 (Ur (Ur (Ur (Ur c9.1 Sp) c9.2) Sp) (by decide +kernel:Qx Tryz.prog A8=true)) ?_;refine Ym U h fun h=>?_;exact d S3 h
 cases h;exact kR U
def GA (N:Nat)(b:Up)(a:Up):Option Bool:= some (((F3 .and .u32 b.Plus a.Plus)==a.Plus)&&((F3 .and .u32 b.Minus a.Minus)==a.Minus))
theorem TA {c:Up}{b:Up}{y:Bool}(h:GA N c b=some y) :Uw S Kc [.p (.agg (A0 c)),.p (.agg (A0 b))] [] (pB y) ([]) []:=by unfold GA at h;refine A1 U func273 ?_;refine kB U (A3 U) S3 S3 9 (.n (.a ((F3 .and .u32 c.Plus b.Plus)==b.Plus)) (.a ((F3 .and .u32 c.Minus b.Minus)==b.Minus))) ?_;cases h;exact kR U
def FJ (N:Nat)(a:Int):Option (Sl Int):= ite ((0:Int)<=(wrap .i64 (a+1))/\(wrap .i64 (a+1))<=(wrap .i64 (a+1))/\(wrap .i64 (a+1))*8<=140737488355328/\(wrap .i64 (a+1))<=140737488355328) (U1 N (λb (x1:Sl Int) (x2:Int)=>ite (decide (x2<=a)) (ite (((0:Int)<=x2/\((0:Int)<=x2/\x2<(x1.n:Int)))/\x2.toNat<x1.n) (b (x1.upd x2.toNat (shI .shl .u64 1 x2)) (wrap .i64 (x2+1))) none) (some x1)) (Sl.rep (wrap .i64 (a+1)).toNat 0:Sl Int) 0) none
theorem WE {a:Int}{y:Sl Int}(h:FJ N a=some y) :Uw S Wy [pN a] [] (.vec 0) ([oV Q9 1 (cI .u64) y true]) []:=by
 unfold FJ at h;refine A1 U func274 ?_;obtain⟨c1,h⟩:=C4 h;refine E8 U c1 h (λx1 x2=>kps [(4,pN x2)] [3,0] [(8000,oV Q9 1 (cI .u64) x1 false)] []) (λb x1 x2 d h=>?_);apply kI U h<;>intro h
 .obtain⟨c5,h⟩:=C4 h;exact d (Ur (Ur c5.1.1 c5.1.2) (Ur (rfl:(1:Nat)=1) (Ur c5.2 Sn))) h (hle:=klR [(2,.fn x1.n (x1.upd x2.toNat (shI .shl .u64 1 x2)).n (λl=>ite (l=x2.toNat) (splice ((λi=>cI .u64 (x1.g i)) l) 0 [pI .u64 (shI .shl .u64 1 x2)]) ((λi=>cI .u64 (x1.g i)) l)) (λi=>cI .u64 ((x1.upd x2.toNat (shI .shl .u64 1 x2)).g i)))] (al1 ⟨rfl,Zu (c:=cI .u64) (v:=x1) (x:=shI .shl .u64 1 x2) same (λ_=>by first|rfl|(dsimp only;split<;>rfl))⟩ al0))
 obtain rfl:=A5 h;exact kO U S3 [8000]
def Bj (N:Nat)(p_x:Sl Int)(b:Sl Int):Option (Sl Int):= ite ((0:Int)<=(p_x.n:Int)/\(p_x.n:Int)<=(p_x.n:Int)/\(p_x.n:Int)*8<=140737488355328/\(p_x.n:Int)<=140737488355328) (U1 N (λc (x3:Sl Int) (x4:Int)=>ite (decide (x4<(p_x.n:Int))) (U1 N (λa (x7:Sl Int) (x8:Int)=>ite (decide (x8<(b.n:Int))) (ite (((0:Int)<=x4/\x4<(p_x.n:Int))/\(0:Int)<=x8) (ite ((F3 .and .u64 (shI .shr .u64 (p_x.g x4.toNat) x8) 1)==1) (ite ((((((0:Int)<=x4/\x4<(x7.n:Int))/\x4.toNat<x7.n)/\((0:Int)<=x8/\x8<(b.n:Int)))/\((0:Int)<=x4/\x4<(x7.n:Int)))/\x4.toNat<x7.n) (a (x7.upd x4.toNat (F3 .or .u64 (x7.g x4.toNat) (b.g x8.toNat))) (wrap .i64 (x8+1))) none) (a x7 (wrap .i64 (x8+1)))) none) (c x7 (wrap .i64 (x4+1)))) x3 0) (some x3)) (Sl.rep (p_x.n:Int).toNat 0:Sl Int) 0) none
theorem KA {p_x:Sl Int}{a:Sl Int}{y:Sl Int}(h:Bj N p_x a=some y) :Uw S Qk [.p (vSl 1 (cI .u64) p_x),.p (vSl 1 (cI .u64) a)] [] (.vec 0) ([oV Q9 1 (cI .u64) y true]) []:=by
 unfold Bj at h;refine A1 U func275 ?_;obtain⟨c1,h⟩:=C4 h;refine E8 U c1 h (λx3 x4=>kps [(6,pN x4)] [5,1,0] [(11000,oV Q9 1 (cI .u64) x3 false)] []) (λd x3 x4 f h=>?_);apply kI U h<;>intro h
 .refine E8 U S3 h (λx7 x8=>kps [(7,pN x8)] [6,5,1,0] [(11000,oV Q9 1 (cI .u64) x7 false)] []) (λj x7 x8 b h=>?_);apply kI U h<;>intro h
  .refine kJ U h (λh=>?_) (λh=>?_)
   .refine B4 U S3 [8,9] ?_;obtain⟨c40,h⟩:=C4 h;refine D5 (Ur (Ur (Ur (Ur c40.1.1.1.1 c40.1.1.1.2) c40.1.1.2) c40.1.2) (Ur (rfl:(1:Nat)=1) (Ur c40.2 Sn))) ?_;exact b S3 h (hle:=klR [(4,.fn x7.n (x7.upd x4.toNat (F3 .or .u64 (x7.g x4.toNat) (a.g x8.toNat))).n (λl=>ite (l=x4.toNat) (splice ((λi=>cI .u64 (x7.g i)) l) 0 [pI .u64 (F3 .or .u64 (x7.g x4.toNat) (a.g x8.toNat))]) ((λi=>cI .u64 (x7.g i)) l)) (λi=>cI .u64 ((x7.upd x4.toNat (F3 .or .u64 (x7.g x4.toNat) (a.g x8.toNat))).g i)))] (al1 ⟨rfl,Zu (c:=cI .u64) (v:=x7) (x:=F3 .or .u64 (x7.g x4.toNat) (a.g x8.toNat)) same (λ_=>by first|rfl|(dsimp only;split<;>rfl))⟩ al0))
   exact b S3 h
  exact f S3 h
 obtain rfl:=A5 h;exact kO U S3 [11000]
def FK (N:Nat)(p_x:Sl Int)(b:Sl Int):Option (Sl Int):= ite ((0:Int)<=(p_x.n:Int)/\(p_x.n:Int)<=(p_x.n:Int)/\(p_x.n:Int)*8<=140737488355328/\(p_x.n:Int)<=140737488355328) (U1 N (λa (x1:Sl Int) (x2:Int)=>ite (decide (x2<(p_x.n:Int))) (ite (((((0:Int)<=x2/\x2<(p_x.n:Int))/\((0:Int)<=x2/\x2<(b.n:Int)))/\((0:Int)<=x2/\x2<(x1.n:Int)))/\x2.toNat<x1.n) (a (x1.upd x2.toNat (F3 .or .u64 (p_x.g x2.toNat) (b.g x2.toNat))) (wrap .i64 (x2+1))) none) (some x1)) (Sl.rep (p_x.n:Int).toNat 0:Sl Int) 0) none
theorem WF {p_x:Sl Int}{a:Sl Int}{y:Sl Int}(h:FK N p_x a=some y) :Uw S Wz [.p (vSl 1 (cI .u64) p_x),.p (vSl 1 (cI .u64) a)] [] (.vec 0) ([oV Q9 1 (cI .u64) y true]) []:=by
 unfold FK at h;refine A1 U func276 ?_;obtain⟨c1,h⟩:=C4 h;refine E8 U c1 h (λx1 x2=>kps [(6,pN x2)] [5,1,0] [(10000,oV Q9 1 (cI .u64) x1 false)] []) (λb x1 x2 d h=>?_);apply kI U h<;>intro h
 .refine B4 U S3 [4,5,8,9] ?_;obtain⟨c7,h⟩:=C4 h;refine D5 (Ur (Ur (Ur c7.1.1.1 c7.1.1.2) c7.1.2) (Ur (rfl:(1:Nat)=1) (Ur c7.2 Sn))) ?_;exact d S3 h (hle:=klR [(3,.fn x1.n (x1.upd x2.toNat (F3 .or .u64 (p_x.g x2.toNat) (a.g x2.toNat))).n (λl=>ite (l=x2.toNat) (splice ((λi=>cI .u64 (x1.g i)) l) 0 [pI .u64 (F3 .or .u64 (p_x.g x2.toNat) (a.g x2.toNat))]) ((λi=>cI .u64 (x1.g i)) l)) (λi=>cI .u64 ((x1.upd x2.toNat (F3 .or .u64 (p_x.g x2.toNat) (a.g x2.toNat))).g i)))] (al1 ⟨rfl,Zu (c:=cI .u64) (v:=x1) (x:=F3 .or .u64 (p_x.g x2.toNat) (a.g x2.toNat)) same (λ_=>by first|rfl|(dsimp only;split<;>rfl))⟩ al0))
 obtain rfl:=A5 h;exact kO U S3 [10000]
def GB (N:Nat)(p_x:Sl Int)(b:Sl Int):Option Bool:= N3 N (λa (x1:Int)=>ite (decide (x1<(p_x.n:Int))) (ite (((0:Int)<=x1/\x1<(p_x.n:Int))/\((0:Int)<=x1/\x1<(b.n:Int))) (ite ((p_x.g x1.toNat) != (b.g x1.toNat)) (some false) (a (wrap .i64 (x1+1)))) none) (some true)) 0
theorem Ax5 {p_x:Sl Int}{a:Sl Int}{y:Bool}(h:GB N p_x a=some y) :Uw S SX [.p (vSl 1 (cI .u64) p_x),.p (vSl 1 (cI .u64) a)] [] (pB y) ([]) []:=by
 unfold GB at h;refine A1 U func277 ?_;refine E2 U S3 h (λx1=>kps [(5,pN x1)] [1,0] [] []) (λb x1 c h=>?_);apply kI U h<;>intro h
 .refine B4 U S3 [2,3,6,7] ?_;refine dE h (λh=>?_);refine Ym U h fun h=>?_;exact c S3 h
 cases h;exact kR U
def DJ (rec:Pat->(Sl Up)->Option (Sl Int))(N:Nat)(a:Pat)(c:Sl Up):Option (Sl Int):= ite ((0:Int)<=(wrap .i64 ((c.n:Int)+1))/\(wrap .i64 ((c.n:Int)+1))<=(wrap .i64 ((c.n:Int)+1))/\(wrap .i64 ((c.n:Int)+1))*8<=140737488355328/\(wrap .i64 ((c.n:Int)+1))<=140737488355328) (U1 N (λb (x1:Sl Int) (x2:Int)=>ite (decide (x2<=(c.n:Int))) (ite (a.Kind==0) (ite (((0:Int)<=x2/\((0:Int)<=x2/\x2<(x1.n:Int)))/\x2.toNat<x1.n) (b (x1.upd x2.toNat (shI .shl .u64 1 x2)) (wrap .i64 (x2+1))) none) (ite (a.Kind==1) (ite (decide (x2<(c.n:Int))) (ite ((0:Int)<=x2/\x2<(c.n:Int)) ((GA N (c.g x2.toNat) a.Is).bind λy3=>ite ((y3==a.Not) != true) (ite (((0:Int)<=(wrap .i64 (x2+1))/\((0:Int)<=x2/\x2<(x1.n:Int)))/\x2.toNat<x1.n) (b (x1.upd x2.toNat (shI .shl .u64 1 (wrap .i64 (x2+1)))) (wrap .i64 (x2+1))) none) (b x1 (wrap .i64 (x2+1)))) none) (b x1 (wrap .i64 (x2+1)))) (ite (a.Kind==2) (ite (x2==0) (ite (((0:Int)<=x2/\x2<(x1.n:Int))/\x2.toNat<x1.n) (b (x1.upd x2.toNat 1) (wrap .i64 (x2+1))) none) (b x1 (wrap .i64 (x2+1)))) (ite (a.Kind==6) (ite (x2==(c.n:Int)) (ite (((0:Int)<=x2/\((0:Int)<=x2/\x2<(x1.n:Int)))/\x2.toNat<x1.n) (b (x1.upd x2.toNat (shI .shl .u64 1 x2)) (wrap .i64 (x2+1))) none) (b x1 (wrap .i64 (x2+1)))) (b x1 (wrap .i64 (x2+1))))))) (ite (a.Kind==3) ((FJ N (c.n:Int)).bind λy4=>U1 N (λi (x3:Sl Int) (x4:Int)=>ite (decide (x4<(a.L.n:Int))) (ite ((0:Int)<=x4/\x4<(a.L.n:Int)) ((rec (a.L.g x4.toNat) c).bind λy9=>(Bj N x3 y9).bind λo=>i o (wrap .i64 (x4+1))) none) (some x3)) y4 0) (ite (a.Kind==4) (U1 N (λj (x5:Sl Int) (x6:Int)=>ite (decide (x6<(a.L.n:Int))) (ite ((0:Int)<=x6/\x6<(a.L.n:Int)) ((rec (a.L.g x6.toNat) c).bind λq=>(FK N x5 q).bind λr=>j r (wrap .i64 (x6+1))) none) (some x5)) x1 0) (ite (a.Kind==5) (ite ((0:Int)<=0/\0<(a.L.n:Int)) ((rec (a.L.g 0) c).bind λm=>(FJ N (c.n:Int)).bind λs=>Bb8 N (λd (x8:Sl Int) (x9:Sl Int) (f:Int)=>ite (decide (a.Min<=f)) ((FK N x8 x9).bind λl=>lt (λ(z3:Bool)=>ite z3 (some l) ((Bj N x9 m).bind λt=>d l t (wrap .i64 (f+1)))) λk3=>ite (f==a.Max) (k3 true) (ite (decide (a.Min<f)) ((GB N x8 l).bind λu=>k3 u) (k3 false))) ((Bj N x9 m).bind λv=>d x8 v (wrap .i64 (f+1)))) x1 s 0) none) (some x1))))) (Sl.rep (wrap .i64 ((c.n:Int)+1)).toNat 0:Sl Int) 0) none
def El:Nat->Pat->(Sl Up)->Option (Sl Int)
 |0=>λ_ _=>none
 |N+1=>DJ (El N) N
theorem Aj4 {rec:Pat->(Sl Up)->Option (Sl Int)}(f:∀{a:Pat}{b:Sl Up}{y:Sl Int},rec a b=some y->Uw S Ix [.p (.agg (C5 a)),.p (vSl 2 A0 b)] [] (.vec 0) ([oV Q9 1 (cI .u64) y true]) []){a:Pat}{b:Sl Up}{y:Sl Int}(h:DJ rec N a b=some y) :Uw S Ix [.p (.agg (C5 a)),.p (vSl 2 A0 b)] [] (.vec 0) ([oV Q9 1 (cI .u64) y true]) []:=by
 unfold DJ at h;refine A1 U func265 ?_;refine C7 U S3 4 3000 (C5 a) ?_;obtain⟨c1,h⟩:=C4 h;refine E8 U c1 h (λx1 x2=>kps [(7,pN x2)] [6,5,2,1] [(19000,oV Q9 1 (cI .u64) x1 false)] []) (λq x1 x2 d h=>?_);apply kI U h<;>intro h
 .apply kI U h<;>intro h
  .obtain⟨c24,h⟩:=C4 h;exact d (Ur (Ur c24.1.1 c24.1.2) (Ur (rfl:(1:Nat)=1) (Ur c24.2 Sn))) h (hle:=klR [(4,.fn x1.n (x1.upd x2.toNat (shI .shl .u64 1 x2)).n (λl=>ite (l=x2.toNat) (splice ((λi=>cI .u64 (x1.g i)) l) 0 [pI .u64 (shI .shl .u64 1 x2)]) ((λi=>cI .u64 (x1.g i)) l)) (λi=>cI .u64 ((x1.upd x2.toNat (shI .shl .u64 1 x2)).g i)))] (al1 ⟨rfl,Zu (c:=cI .u64) (v:=x1) (x:=shI .shl .u64 1 x2) same (λ_=>by first|rfl|(dsimp only;split<;>rfl))⟩ al0))
  apply kI U h<;>intro h
  .refine B4 U S3 [6,7,9,10,12] ?_;refine dG S3 h (λh=>?_) (λh=>?_)
   .obtain⟨c27,h⟩:=C4 h;refine dP h (Ur (Ur c27 Sp) (by decide:(2:Nat)<=6)) (TA U P) (λy3 h=>?_);refine D5 S3 ?_;apply kI U h<;>intro h
    .obtain⟨c29,h⟩:=C4 h;exact d (Ur (Ur c29.1.1 c29.1.2) (Ur (rfl:(1:Nat)=1) (Ur c29.2 Sn))) h (hle:=klR [(4,.fn x1.n (x1.upd x2.toNat (shI .shl .u64 1 (wrap .i64 (x2+1)))).n (λl=>ite (l=x2.toNat) (splice ((λi=>cI .u64 (x1.g i)) l) 0 [pI .u64 (shI .shl .u64 1 (wrap .i64 (x2+1)))]) ((λi=>cI .u64 (x1.g i)) l)) (λi=>cI .u64 ((x1.upd x2.toNat (shI .shl .u64 1 (wrap .i64 (x2+1)))).g i)))] (al1 ⟨rfl,Zu (c:=cI .u64) (v:=x1) (x:=shI .shl .u64 1 (wrap .i64 (x2+1))) same (λ_=>by first|rfl|(dsimp only;split<;>rfl))⟩ al0))
    exact d S3 h
   refine D5 S3 ?_;exact d S3 h
  apply kI U h<;>intro h
  .apply kI U h<;>intro h
   .obtain⟨c32,h⟩:=C4 h;exact d (Ur c32.1 (Ur (rfl:(1:Nat)=1) (Ur c32.2 Sn))) h (hle:=klR [(4,.fn x1.n (x1.upd x2.toNat 1).n (λl=>ite (l=x2.toNat) (splice ((λi=>cI .u64 (x1.g i)) l) 0 [pI .u64 1]) ((λi=>cI .u64 (x1.g i)) l)) (λi=>cI .u64 ((x1.upd x2.toNat 1).g i)))] (al1 ⟨rfl,Zu (c:=cI .u64) (v:=x1) (x:=1) same (λ_=>by first|rfl|(dsimp only;split<;>rfl))⟩ al0))
   exact d S3 h
  apply kI U h<;>intro h
  .apply kI U h<;>intro h
   .obtain⟨c35,h⟩:=C4 h;exact d (Ur (Ur c35.1.1 c35.1.2) (Ur (rfl:(1:Nat)=1) (Ur c35.2 Sn))) h (hle:=klR [(4,.fn x1.n (x1.upd x2.toNat (shI .shl .u64 1 x2)).n (λl=>ite (l=x2.toNat) (splice ((λi=>cI .u64 (x1.g i)) l) 0 [pI .u64 (shI .shl .u64 1 x2)]) ((λi=>cI .u64 (x1.g i)) l)) (λi=>cI .u64 ((x1.upd x2.toNat (shI .shl .u64 1 x2)).g i)))] (al1 ⟨rfl,Zu (c:=cI .u64) (v:=x1) (x:=shI .shl .u64 1 x2) same (λ_=>by first|rfl|(dsimp only;split<;>rfl))⟩ al0))
   exact d S3 h
  exact d S3 h
 apply kI U h<;>intro h
 .refine kC U h (WE U P) (λy4 h=>?_);refine E8 U S3 h (λx3 x4 _=>⟨[(8,pN x4),(6,.vec 7500),(2,.p (.ptr (C5 a))),(1,.p (vSl 2 A0 b))],[(7500,oV Q9 1 (cI .u64) x3 true)]⟩) (λr x3 x4 s h=>?_);refine I6 U S3 82 (kps [(81,.p (vSl 7 C5 a.L)),(1,.p (vSl 2 A0 b))] [79,8,6,2] [(7500,oV Q9 1 (cI .u64) x3 true)] []) ?_ (hle:=klR [(0,.fn a.L.n a.L.n (CE a) (λi=>C5 (a.L.g i)))] (al1 ⟨rfl,P8 a⟩ al0));apply kI U h<;>intro h
  .refine I6 U S3 90 (kps [(88,.p (vSl 7 C5 a.L)),(1,.p (vSl 2 A0 b))] [89,86,8,2] [(7500,oV Q9 1 (cI .u64) x3 true)] []) ?_ (hle:=klR [(1,.fn a.L.n a.L.n (CE a) (λi=>C5 (a.L.g i)))] (al1 ⟨rfl,P8 a⟩ al0));obtain⟨c42,h⟩:=C4 h;obtain⟨y9,e9,h⟩:=E4 h;refine D6 U [] (Ur c42 Sz) (f e9) ?_;refine kC U h (KA U P) (λz h=>?_);exact s S3 h
  obtain rfl:=A5 h;exact kO U S3 [7500]
 apply kI U h<;>intro h
 .refine E8 U S3 h (λx5 x6 _=>⟨[(9,pN x6),(6,.vec 7500),(2,.p (.ptr (C5 a))),(1,.p (vSl 2 A0 b))],[(7500,oV Q9 1 (cI .u64) x5 true)]⟩) (λt x5 x6 u h=>?_);refine I6 U S3 100 (kps [(99,.p (vSl 7 C5 a.L)),(1,.p (vSl 2 A0 b))] [97,9,6,2] [(7500,oV Q9 1 (cI .u64) x5 true)] []) ?_ (hle:=klR [(0,.fn a.L.n a.L.n (CE a) (λi=>C5 (a.L.g i)))] (al1 ⟨rfl,P8 a⟩ al0));apply kI U h<;>intro h
  .refine I6 U S3 108 (kps [(106,.p (vSl 7 C5 a.L)),(1,.p (vSl 2 A0 b))] [107,104,9,2] [(7500,oV Q9 1 (cI .u64) x5 true)] []) ?_ (hle:=klR [(1,.fn a.L.n a.L.n (CE a) (λi=>C5 (a.L.g i)))] (al1 ⟨rfl,P8 a⟩ al0));obtain⟨c49,h⟩:=C4 h;obtain⟨a0,e15,h⟩:=E4 h;refine D6 U [] (Ur c49 Sz) (f e15) ?_;refine kC U h (WF U P) (λa1 h=>?_);exact u S3 h
  obtain rfl:=A5 h;exact kO U S3 [7500]
 apply kI U h<;>intro h
 .refine I6 U S3 117 (kps [(116,.p (vSl 7 C5 a.L)),(1,.p (vSl 2 A0 b))] [6,5,2] [(19000,oV Q9 1 (cI .u64) x1 false)] []) ?_ (hle:=klR [(0,.fn a.L.n a.L.n (CE a) (λi=>C5 (a.L.g i)))] (al1 ⟨rfl,P8 a⟩ al0));obtain⟨c51,h⟩:=C4 h;obtain⟨a2,e17,h⟩:=E4 h;refine D6 U [] (Ur c51 Sz) (f e17) ?_;refine kC U h (WE U P) (λa3 h=>?_);refine Nq U S3 h (λx8 x9 m=>kps [(12,pN m),(11,.vec 12500),(10,.vec 121000),(6,.vec 7500),(2,.p (.ptr (C5 a)))] [] [(12500,oV Q9 1 (cI .u64) x9 true),(7500,oV Q9 1 (cI .u64) x8 true)] [121000]) (λw x8 x9 m o h=>?_);apply kI U h<;>intro h
  .refine kC U h (WF U P) (λa4 h=>?_);refine GN U S3 (A3 U) h 0 (λz3=>kps [(147,pB z3)] [12,11,10,6,2] [] [133000,121000,12500]) (λk3 j h=>?_) (λz3 h=>?_)
   .refine kG U h (λh=>?_) (λh=>?_)
    .exact j S3 h
    refine kG U h (λh=>?_) (λh=>?_)
    .refine kC U h (Ax5 U P) (λa5 h=>?_);exact j S3 h
    exact j S3 h
   apply kI U h<;>intro h
   .obtain rfl:=A5 h;exact kO U S3 [133000]
   refine kC U h (KA U P) (λa6 h=>?_);exact o S3 h
  refine kC U h (KA U P) (λa7 h=>?_);exact o S3 h
 obtain rfl:=A5 h;exact kO U S3 [19000]
theorem TB {a:Pat}{b:Sl Up}{y:Sl Int}(h:El N a b=some y) :Uw S Ix [.p (.agg (C5 a)),.p (vSl 2 A0 b)] [] (.vec 0) ([oV Q9 1 (cI .u64) y true]) []:=by
 induction N generalizing a b y with
 |zero=>cases (show (none:Option (Sl Int))=some y from h)
 |succ N ih=>exact Aj4 U P (λe=>ih e) h
def FL (N:Nat)(a:Pat)(b:Sl Up):Option Int:= (CU N a).bind λy1=>ite (y1==0) ((Ab N b).bind λy2=>some y2) (some y1)
theorem WG {a:Pat}{b:Sl Up}{y:Int}(h:FL N a b=some y) :Uw S Wx [.p (.agg (C5 a)),.p (vSl 2 A0 b)] [] (pN y) ([]) []:=by
 unfold FL at h;refine A1 U func264 ?_;refine kC U h (MM U P) (λy1 h=>?_);apply kI U h<;>intro h
 .refine kC U h (Gw U P) (λy2 h=>?_);cases h;exact kR U
 cases h;exact kR U
def HN (N:Nat)(d:Pat)(c:Sl Up)(a:Int):Option ((Sl Int)×Int):= (FL N d c).bind λy1=>ite (y1 != 0) (some (Te,y1)) (ite ((decide (a<0))||(decide ((c.n:Int)<a))) (some (Te,3)) ((El N d c).bind λy2=>U1 N (λb (x1:Sl Int) (x2:Int)=>ite (decide (x2<=(c.n:Int))) (ite ((((0:Int)<=a/\a<(y2.n:Int))/\a.toNat<y2.n)/\(0:Int)<=x2) (ite ((F3 .and .u64 (shI .shr .u64 (y2.g a.toNat) x2) 1)==1) (ite (Uq 8 (x1.n+(Sl.of [x2]:Sl Int).n)) (b (x1.push x2) (wrap .i64 (x2+1))) none) (b x1 (wrap .i64 (x2+1)))) none) (some (x1,0))) Te 0))
theorem AT1 {d:Pat}{c:Sl Up}{b:Int}{y:(Sl Int)×Int}(h:HN N d c b=some y) :Uw S Wu [.p (.agg (C5 d)),.p (vSl 2 A0 c),pN b] [] (.tup [.vec 0,pN y.2]) ([oV C8 1 (cI .i64) y.1 true]) []:=by
 unfold HN at h;refine A1 U func255 ?_;refine kC U h (WG U P) (λy1 h=>?_);apply kI U h<;>intro h
 .obtain rfl:=A5 h;exact kO U S3 [7700]
 refine kB U (A3 U) S3 S3 5 (.o (.a (decide (b<0))) (.a (decide ((c.n:Int)<b)))) ?_;apply kI U h<;>intro h
 .obtain rfl:=A5 h;exact kO U S3 [7700]
 refine kC U h (TB U P) (λy2 h=>?_);refine E8 U S3 h (λx1 x2=>kps [(11,pN x2),(10,.vec 11500),(9,.vec 29000),(2,pN b),(1,.p (vSl 2 A0 c))] [] [(11500,oV C8 1 (cI .i64) x1 false)] [29000]) (λg x1 x2 f h=>?_);apply kI U h<;>intro h
 .refine kJ U h (λh=>?_) (λh=>?_)
  .obtain⟨c12,h⟩:=C4 h;exact f (Ur Td c12) h (hle:=kl1 4 (O8 (cI .i64) x1 x2 [pI .i64 0]))
  exact f S3 h
 obtain rfl:=A5 h;exact kO U S3 [11500]
def EX (N:Nat)(d:Pat)(c:Sl Up)(a:Int):Option ((Sl Int)×Int):= (FL N d c).bind λy1=>ite (y1 != 0) (some (Te,y1)) (ite ((decide (a<0))||(decide ((c.n:Int)<a))) (some (Te,3)) ((El N d c).bind λy2=>U1 N (λb (x1:Sl Int) (x2:Int)=>ite (decide (x2<=(c.n:Int))) (ite ((((0:Int)<=x2/\x2<(y2.n:Int))/\x2.toNat<y2.n)/\(0:Int)<=a) (ite ((F3 .and .u64 (shI .shr .u64 (y2.g x2.toNat) a) 1)==1) (ite (Uq 8 (x1.n+(Sl.of [x2]:Sl Int).n)) (b (x1.push x2) (wrap .i64 (x2+1))) none) (b x1 (wrap .i64 (x2+1)))) none) (some (x1,0))) Te 0))
theorem Aj5 {d:Pat}{c:Sl Up}{b:Int}{y:(Sl Int)×Int}(h:EX N d c b=some y) :Uw S Qg [.p (.agg (C5 d)),.p (vSl 2 A0 c),pN b] [] (.tup [.vec 0,pN y.2]) ([oV C8 1 (cI .i64) y.1 true]) []:=by
 unfold EX at h;refine A1 U func254 ?_;refine kC U h (WG U P) (λy1 h=>?_);apply kI U h<;>intro h
 .obtain rfl:=A5 h;exact kO U S3 [7700]
 refine kB U (A3 U) S3 S3 5 (.o (.a (decide (b<0))) (.a (decide ((c.n:Int)<b)))) ?_;apply kI U h<;>intro h
 .obtain rfl:=A5 h;exact kO U S3 [7700]
 refine kC U h (TB U P) (λy2 h=>?_);refine E8 U S3 h (λx1 x2=>kps [(11,pN x2),(10,.vec 11500),(9,.vec 29000),(2,pN b),(1,.p (vSl 2 A0 c))] [] [(11500,oV C8 1 (cI .i64) x1 false)] [29000]) (λg x1 x2 f h=>?_);apply kI U h<;>intro h
 .refine kJ U h (λh=>?_) (λh=>?_)
  .obtain⟨c12,h⟩:=C4 h;exact f (Ur Td c12) h (hle:=kl1 4 (O8 (cI .i64) x1 x2 [pI .i64 0]))
  exact f S3 h
 obtain rfl:=A5 h;exact kO U S3 [11500]
def IM (N:Nat)(a:Law)(b:Sl Up):Option Int:= (Ac N a).bind λy1=>ite (y1 != 0) (some y1) ((Ab N b).bind λy2=>some y2)
theorem Ax6 {a:Law}{b:Sl Up}{y:Int}(h:IM N a b=some y) :Uw S SR [.p (.agg (B6 a)),.p (vSl 2 A0 b)] [] (pN y) ([]) []:=by
 unfold IM at h;refine A1 U func232 ?_;refine kC U h (MN U P) (λy1 h=>?_);refine Ym U h fun h=>?_;refine kC U h (Gw U P) (λy2 h=>?_);cases h;exact kR U
def GC (N:Nat)(a:Law)(c:Sl Up)(b:Int):Option Bool:= ite ((decide (b<0))||(decide ((c.n:Int)<(wrap .i64 (b+(a.If.n:Int)))))) (some false) (N3 N (λd (x1:Int)=>ite (decide (x1<(a.If.n:Int))) (ite (((0:Int)<=(wrap .i64 (b+x1))/\(wrap .i64 (b+x1))<(c.n:Int))/\((0:Int)<=x1/\x1<(a.If.n:Int))) ((V6 N (c.g (wrap .i64 (b+x1)).toNat) (a.If.g x1.toNat)).bind λy3=>ite (!y3) (some false) (d (wrap .i64 (x1+1)))) none) ((EX N a.Left c b).bind λy4=>(HN N a.Right c (wrap .i64 (b+(a.If.n:Int)))).bind λy5=>some ((decide (0<(y4.1.n:Int)))&&(decide (0<(y5.1.n:Int)))))) 0)
theorem TC {b:Law}{d:Sl Up}{c:Int}{y:Bool}(h:GC N b d c=some y) :Uw S Ag0 [.p (.agg (B6 b)),.p (vSl 2 A0 d),pN c] [] (pB y) ([]) []:=by
 unfold GC at h;refine A1 U func245 ?_;refine C7 U S3 6 4000 (B6 b) ?_;refine kB U (A3 U) S3 S3 7 (.o (.a (decide (c<0))) (.a (decide ((d.n:Int)<(wrap .i64 (c+(b.If.n:Int))))))) ?_;refine Ym U h fun h=>?_;refine E2 U S3 h (λx1=>kps [(8,pN x1)] [7,3,2,1] [] []) (λf x1 g h=>?_);apply kI U h<;>intro h
 .refine B4 U S3 [4,5,7,9,10,11] ?_;obtain⟨c9,h⟩:=C4 h;refine dP h (Ur (Ur (Ur c9.1 Sp) c9.2) Sp) (Ty U P) (λy3 h=>?_);refine D5 S3 ?_;refine Ym U h fun h=>?_;exact g S3 h
 refine kD U h (by decide:(7:Nat)<=17) (Aj5 U P) (λy4 h=>?_);refine kD U h (by decide:(7:Nat)<=10) (AT1 U P) (λy5 h=>?_);refine kB U (A3 U) S3 S3 4 (.n (.a (decide (0<(y4.1.n:Int)))) (.a (decide (0<(y5.1.n:Int))))) ?_;cases h;exact kR U
def EY (N:Nat)(a:Law)(b:Sl Up):Option (Sl Up):= U1 N (λc (x1:Sl Up) (x2:Int)=>ite (decide (x2<(a.Out.n:Int))) (ite ((0:Int)<=x2/\x2<(a.Out.n:Int)) (ite ((decide (0<=(a.Out.g x2.toNat).From))=true->((0:Int)<=(a.Out.g x2.toNat).From/\(a.Out.g x2.toNat).From<(b.n:Int))) ((W8 N (⟨(ite (decide (0<=(a.Out.g x2.toNat).From)) ((b.g (a.Out.g x2.toNat).From.toNat).Plus) 0),(ite (decide (0<=(a.Out.g x2.toNat).From)) ((b.g (a.Out.g x2.toNat).From.toNat).Minus) 0)⟩:Up) (a.Out.g x2.toNat).Clear (a.Out.g x2.toNat).Set).bind λy5=>ite ((a.Out.g x2.toNat).Take != 0) (ite ((0:Int)<=(a.Out.g x2.toNat).Of/\(a.Out.g x2.toNat).Of<(b.n:Int)) ((BF N y5.1 (b.g (a.Out.g x2.toNat).Of.toNat) (a.Out.g x2.toNat).Take).bind λy6=>ite (Uq 8 (x1.n+(Sl.of [y6.1]:Sl Up).n)) (c (x1.push y6.1) (wrap .i64 (x2+1))) none) none) (ite (Uq 8 (x1.n+(Sl.of [y5.1]:Sl Up).n)) (c (x1.push y5.1) (wrap .i64 (x2+1))) none)) none) none) (some x1)) Um 0
theorem Aj6 {c:Law}{a:Sl Up}{y:Sl Up}(h:EY N c a=some y) :Uw S Ag1 [.p (.agg (B6 c)),.p (vSl 2 A0 a)] [] (.vec 0) ([oV A8 2 A0 y true]) []:=by
 unfold EY at h;refine A1 U func246 ?_;refine C7 U S3 4 3000 (B6 c) ?_;refine E8 U S3 h (λx1 x2 _=>⟨[(6,pN x2),(5,.vec 6500),(2,.p (.ptr (B6 c))),(1,.p (vSl 2 A0 a))],[(6500,oV A8 2 A0 x1 false)]⟩) (λl x1 x2 i h=>?_);apply kI U h<;>intro h
 .obtain⟨c16,h⟩:=C4 h;refine C7 U (Ur c16 (by decide:(6:Nat)<=6)) 21 8000 (Dd (c.Out.g x2.toNat)) ?_;obtain⟨c18,h⟩:=C4 h;obtain⟨t5,d⟩:∃x:Int,x=(ite (decide (0<=(c.Out.g x2.toNat).From)) ((a.g (c.Out.g x2.toNat).From.toNat).Plus) 0):=⟨_,rfl⟩;obtain⟨t6,f⟩:∃x:Int,x=(ite (decide (0<=(c.Out.g x2.toNat).From)) ((a.g (c.Out.g x2.toNat).From.toNat).Minus) 0):=⟨_,rfl⟩;refine Ab8 U S3 (A3 U) 0 (kps [] [8,7,6,5,2,1] [(9000,.cells [pU t5,pU t6]),(6500,oV A8 2 A0 x1 false)] []) (λj=>?_) ?_
  .refine O0 U S3 (b:=decide (0<=(c.Out.g x2.toNat).From)) (λc19=>?_) (λc19=>?_)
   .exact j (Ur (c18 c19) Sp) (hle:=klR [(4,.eq (pI .u32 (a.g (c.Out.g x2.toNat).From.toNat).Plus) (pI .u32 t5)),(5,.eq (pI .u32 (a.g (c.Out.g x2.toNat).From.toNat).Minus) (pI .u32 t6))] (al1 (by simp only[d,f,c19,X9.ok,pm,Lo,Lp]) (al1 (by simp only[d,f,c19,X9.ok,pm,Lo,Lp]) al0)))
   exact j S3 (hle:=klR [(4,.eq (pI .u32 0) (pI .u32 t5)),(5,.eq (pI .u32 0) (pI .u32 t6))] (al1 (by simp only[d,f,c19,X9.ok,pm,Lo,Lp]) (al1 (by simp only[d,f,c19,X9.ok,pm,Lo,Lp]) al0)))
  subst f;subst d;refine kD U h (by decide:(2:Nat)<=4) (Aj3 U P) (λy5 h=>?_);apply kI U h<;>intro h
  .refine B4 U S3 [3,4,5,7,8] ?_;obtain⟨c21,h⟩:=C4 h;refine dP h (Ur c21 Sp) (AS9 U P) (λy6 h=>?_);refine D5 S3 ?_;obtain⟨c22,h⟩:=C4 h;exact i (Ur Td c22) h (hle:=kl1 3 (O8 A0 x1 y6.1 Yu))
  obtain⟨c23,h⟩:=C4 h;exact i (Ur Td c23) h (hle:=kl1 3 (O8 A0 x1 y5.1 Yu))
 obtain rfl:=A5 h;exact kO U S3 [6500]
def BG (N:Nat)(c:Law)(b:Sl Up)(a:Int):Option (Sl Up):= ite (((0:Int)<=a/\a<=(b.n:Int))/\(Uq 8 (Un.n+(b.take a.toNat).n))) (ite ((0:Int)<=a/\a<=(wrap .i64 (a+(c.If.n:Int)))/\(wrap .i64 (a+(c.If.n:Int)))<=(b.n:Int)) ((EY N c (b.sub a.toNat (wrap .i64 (a+(c.If.n:Int))).toNat)).bind λy1=>ite (Uq 8 ((Un.app (b.take a.toNat)).n+y1.n)) (ite (((0:Int)<=(wrap .i64 (a+(c.If.n:Int)))/\(wrap .i64 (a+(c.If.n:Int)))<=(b.n:Int))/\(Uq 8 (((Un.app (b.take a.toNat)).app y1).n+(b.drop (wrap .i64 (a+(c.If.n:Int))).toNat).n))) (some (((Un.app (b.take a.toNat)).app y1).app (b.drop (wrap .i64 (a+(c.If.n:Int))).toNat))) none) none) none) none
theorem Oj {d:Law}{a:Sl Up}{b:Int}{y:Sl Up}(h:BG N d a b=some y) :Uw S NS [.p (.agg (B6 d)),.p (vSl 2 A0 a),pN b] [] (.vec 0) ([oV A8 2 A0 y true]) []:=by unfold BG at h;refine A1 U func247 ?_;refine C7 U S3 6 4000 (B6 d) ?_;obtain⟨c1,h⟩:=C4 h;refine B4 U (Ur (Ur Td c1.1) c1.2) [1] ?_;obtain⟨c2,h⟩:=C4 h;obtain⟨y1,e1,h⟩:=E4 h;refine GS [] (Ur Tc c2) (Aj6 U P e1) ?_;refine dE h (λh=>?_);obtain⟨c4,h⟩:=C4 h;obtain rfl:=A5 h;exact kO U c4 [34000] (hle:=klR [(0,.fn (((0+(a.take b.toNat).n)+y1.n)+(a.drop (wrap .i64 (b+(d.If.n:Int))).toNat).n) (((Un.app (a.take b.toNat)).app y1).app (a.drop (wrap .i64 (b+(d.If.n:Int))).toNat)).n (DO ((0+(a.take b.toNat).n)+y1.n) (DO (0+(a.take b.toNat).n) (DO 0 (G9 Yu []) (λi=>A0 ((a.take b.toNat).g i))) (λi=>A0 (y1.g i))) (λi=>A0 ((a.drop (wrap .i64 (b+(d.If.n:Int))).toNat).g i))) (λi=>A0 ((((Un.app (a.take b.toNat)).app y1).app (a.drop (wrap .i64 (b+(d.If.n:Int))).toNat)).g i)))] (al1 ⟨rfl,Aq7 (c:=A0) (v:=(Un.app (a.take b.toNat)).app y1) (w:=a.drop (wrap .i64 (b+(d.If.n:Int))).toNat) (Aq7 (c:=A0) (v:=Un.app (a.take b.toNat)) (w:=y1) (Aq7 (c:=A0) (v:=Un) (w:=a.take b.toNat) (λi f=>Ke f (by omega)) rfl same rfl) rfl same rfl) rfl same rfl⟩ al0))
abbrev BE2:=(Sl Int)×(Sl (Sl Up))×Int
def BM3 (N:Nat)(a:Law)(b:Sl Up)(c:Sl Int->Sl (Sl Up)->Sl Up->Int->Option BE2)(x2:Sl Int)(x3:Sl (Sl Up))(x4:Sl Up)(x5:Int):Option BE2:= ite (decide (x5<=(b.n:Int))) ((GC N a b x5).bind λy5=>ite (!y5) (lt (λ(z3:Sl Up)=>c x2 x3 z3 (wrap .i64 (x5+1))) λk3=>ite (decide (x5<(b.n:Int))) (ite (((0:Int)<=x5/\x5<(b.n:Int))/\(Uq 8 (x4.n+(Sl.of [b.g x5.toNat]:Sl Up).n))) (k3 (x4.push (b.g x5.toNat))) none) (k3 x4)) (ite ((0:Int)<=x5/\x5<=(wrap .i64 (x5+(a.If.n:Int)))/\(wrap .i64 (x5+(a.If.n:Int)))<=(b.n:Int)) ((EY N a (b.sub x5.toNat (wrap .i64 (x5+(a.If.n:Int))).toNat)).bind λy6=>ite (Uq 8 (x4.n+y6.n)) (ite (Uq 8 (x2.n+(Sl.of [x5]:Sl Int).n)) (ite (((Uq 8 (Un.n+(x4.app y6).n))/\((0:Int)<=(wrap .i64 (x5+(a.If.n:Int)))/\(wrap .i64 (x5+(a.If.n:Int)))<=(b.n:Int)))/\(Uq 8 ((Un.app (x4.app y6)).n+(b.drop (wrap .i64 (x5+(a.If.n:Int))).toNat).n))) (ite (decide (32<(((Un.app (x4.app y6)).app (b.drop (wrap .i64 (x5+(a.If.n:Int))).toNat)).n:Int))) (some (Te,Uo,11)) (ite (Uq 24 (x3.n+(Sl.of [(Un.app (x4.app y6)).app (b.drop (wrap .i64 (x5+(a.If.n:Int))).toNat)]:Sl (Sl Up)).n)) (ite ((a.If.n:Int)==0) (ite (decide ((wrap .i64 (x5+(a.If.n:Int)))<(b.n:Int))) (ite (((0:Int)<=(wrap .i64 (x5+(a.If.n:Int)))/\(wrap .i64 (x5+(a.If.n:Int)))<(b.n:Int))/\(Uq 8 ((x4.app y6).n+(Sl.of [b.g (wrap .i64 (x5+(a.If.n:Int))).toNat]:Sl Up).n))) (c (x2.push x5) (x3.push ((Un.app (x4.app y6)).app (b.drop (wrap .i64 (x5+(a.If.n:Int))).toNat))) ((x4.app y6).push (b.g (wrap .i64 (x5+(a.If.n:Int))).toNat)) (wrap .i64 ((wrap .i64 (x5+(a.If.n:Int)))+1))) none) (c (x2.push x5) (x3.push ((Un.app (x4.app y6)).app (b.drop (wrap .i64 (x5+(a.If.n:Int))).toNat))) (x4.app y6) (wrap .i64 ((wrap .i64 (x5+(a.If.n:Int)))+1)))) (c (x2.push x5) (x3.push ((Un.app (x4.app y6)).app (b.drop (wrap .i64 (x5+(a.If.n:Int))).toNat))) (x4.app y6) (wrap .i64 (x5+(a.If.n:Int))))) none)) none) none) none) none)) (some (x2,x3,0))
def KB (N:Nat)(a:Law)(b:Sl Up):Option ((Sl Int)×(Sl (Sl Up))×Int):= AW9 N (BM3 N a b) Te Uo Um 0
theorem Bg2 {a:Law}{b:Sl Up}{y:(Sl Int)×(Sl (Sl Up))×Int}(h:KB N a b=some y) :Uw S Af8 [.p (.agg (B6 a)),.p (vSl 2 A0 b)] [] (.tup [.vec 0,.vec 1,pN y.2.2]) ([oV C8 1 (cI .i64) y.1 true,oV F0 1 (cL 2 A0) y.2.1 true]) []:=by
 unfold KB at h;refine A1 U func233 ?_;refine C7 U S3 4 3000 (B6 a) ?_;refine AF9 U S3 h (λx2 x3 x4 x5 _=>⟨[(10,pN x5),(9,.vec 10501),(8,.vec 9500),(7,.vec 8500),(2,.p (.ptr (B6 a))),(1,.p (vSl 2 A0 b))],[(10501,oV A8 2 A0 x4 false),(9500,oV F0 1 (cL 2 A0) x3 false),(8500,oV C8 1 (cI .i64) x2 false)]⟩) (λj x2 x3 x4 x5 d h=>?_);apply kI U h<;>intro h
 .refine kD U h Tc (TC U P) (λy5 h=>?_);apply kI U h<;>intro h
  .refine GN U S3 (A3 U) h 0 (λz3=>kps [(10,pN x5),(9,.vec 10500),(8,.vec 9500),(7,.vec 8500),(2,.p (.ptr (B6 a))),(1,.p (vSl 2 A0 b))] [] [(10500,oV A8 2 A0 z3 false)] [9500,8500]) (λk3 f h=>?_) (λz3 h=>?_)
   .apply kI U h<;>intro h
    .obtain⟨c40,h⟩:=C4 h;exact f (Ur (Ur (Ur c40.1 Sp) Td) c40.2) h (hle:=kl1 3 (O8 A0 x4 (b.g x5.toNat) Yu))
    exact f S3 h
   exact d S3 h
  refine B4 U S3 [1] ?_;obtain⟨c41,h⟩:=C4 h;obtain⟨y6,e6,h⟩:=E4 h;refine GS [] (Ur Tc c41) (Aj6 U P e6) ?_;refine dE h (λh=>?_);obtain⟨c43,h⟩:=C4 h;refine B4 U (Ur Td c43) [1000] ?_;obtain⟨c44,h⟩:=C4 h;refine D5 (Ur (Ur (Ur Td c44.1.1) c44.1.2) c44.2) ?_;apply kI U h<;>intro h
  .obtain rfl:=A5 h;exact kO U S3 [5700,6701]
  refine I6 U S3 66 (kps [] [65,64,11,10,9,7,2,1] [(61000,.vec A8 2 ((Un.app (x4.app y6)).app (b.drop (wrap .i64 (x5+(a.If.n:Int))).toNat)).n (λi=>A0 (((Un.app (x4.app y6)).app (b.drop (wrap .i64 (x5+(a.If.n:Int))).toNat)).g i)) true),(52000,oV C8 1 (cI .i64) (x2.push x5) false),(48000,oV A8 2 A0 (x4.app y6) false),(9500,oV F0 1 (cL 2 A0) x3 false)] []) ?_ (hle:=klR [(4,.fn ((0+(x4.n+y6.n))+(b.drop (wrap .i64 (x5+(a.If.n:Int))).toNat).n) ((Un.app (x4.app y6)).app (b.drop (wrap .i64 (x5+(a.If.n:Int))).toNat)).n (DO (0+(x4.n+y6.n)) (DO 0 (G9 Yu []) (DO x4.n (λi=>A0 (x4.g i)) (λi=>A0 (y6.g i)))) (λi=>A0 ((b.drop (wrap .i64 (x5+(a.If.n:Int))).toNat).g i))) (λi=>A0 (((Un.app (x4.app y6)).app (b.drop (wrap .i64 (x5+(a.If.n:Int))).toNat)).g i))),(5,.fn (x2.n+1) (x2.push x5).n (DO x2.n (λi=>cI .i64 (x2.g i)) (G9 [pI .i64 0] [(0,cI .i64 x5)])) (λi=>cI .i64 ((x2.push x5).g i))),(6,.fn (x4.n+y6.n) (x4.app y6).n (DO x4.n (λi=>A0 (x4.g i)) (λi=>A0 (y6.g i))) (λi=>A0 ((x4.app y6).g i)))] (al1 ⟨rfl,Aq7 (c:=A0) (v:=Un.app (x4.app y6)) (w:=b.drop (wrap .i64 (x5+(a.If.n:Int))).toNat) (Aq7 (c:=A0) (v:=Un) (w:=x4.app y6) (λi l=>Ke l (by omega)) rfl (Aq7 (c:=A0) (v:=x4) (w:=y6) same rfl same rfl) rfl) rfl same rfl⟩ (al1 ⟨rfl,app1 (c:=cI .i64) (v:=x2) (x:=x5) (z:=[(pI .i64 0)]) same rfl rfl⟩ (al1 ⟨rfl,Aq7 (c:=A0) (v:=x4) (w:=y6) same rfl same rfl⟩ al0))));obtain⟨c46,h⟩:=C4 h;refine kX U (Ur Td c46) h (λh=>?_) (λh=>?_)
  .apply kI U h<;>intro h
   .obtain⟨c49,h⟩:=C4 h;exact d (Ur (Ur (Ur c49.1 Sp) Td) c49.2) h (hle:=kl2 3 4 (O8 A0 (x4.app y6) (b.g (wrap .i64 (x5+(a.If.n:Int))).toNat) Yu) (O8 (cL 2 A0) x3 ((Un.app (x4.app y6)).app (b.drop (wrap .i64 (x5+(a.If.n:Int))).toNat)) [I1]))
   exact d S3 h (hle:=kl1 4 (O8 (cL 2 A0) x3 ((Un.app (x4.app y6)).app (b.drop (wrap .i64 (x5+(a.If.n:Int))).toNat)) [I1]))
  exact d S3 h (hle:=kl1 4 (O8 (cL 2 A0) x3 ((Un.app (x4.app y6)).app (b.drop (wrap .i64 (x5+(a.If.n:Int))).toNat)) [I1]))
 obtain rfl:=A5 h;exact kO U S3 [8500,9500]
def WH (N:Nat)(l:Law)(a:Sl Up->Sl Int->Sl (Sl Up)->Int->Option BE2)(x1:Sl Up)(x2:Sl Int)(x3:Sl (Sl Up))(x4:Int):Option BE2:= ite (decide ((wrap .i64 (x4+(l.If.n:Int)))<=(x1.n:Int))) ((GC N l x1 x4).bind λy5=>ite (!y5) (a x1 x2 x3 (wrap .i64 (x4+1))) ((BG N l x1 x4).bind λy6=>ite (decide (32<(y6.n:Int))) (some (Te,Uo,11)) (ite ((Uq 8 (x2.n+(Sl.of [x4]:Sl Int).n))/\(Uq 24 (x3.n+(Sl.of [y6]:Sl (Sl Up)).n))) (ite ((l.If.n:Int)==0) (a y6 (x2.push x4) (x3.push y6) (wrap .i64 ((wrap .i64 (x4+(l.Out.n:Int)))+1))) (a y6 (x2.push x4) (x3.push y6) (wrap .i64 (x4+(l.Out.n:Int))))) none))) (some (x2,x3,0))
def GD (N:Nat)(a:Law)(b:Sl Up):Option ((Sl Int)×(Sl (Sl Up))×Int):= AW9 N (WH N a) b Te Uo 0
theorem Ax7 {a:Law}{d:Sl Up}{y:(Sl Int)×(Sl (Sl Up))×Int}(h:GD N a d=some y) :Uw S SS [.p (.agg (B6 a)),.p (vSl 2 A0 d)] [] (.tup [.vec 0,.vec 1,pN y.2.2]) ([oV C8 1 (cI .i64) y.1 true,oV F0 1 (cL 2 A0) y.2.1 true]) []:=by
 unfold GD at h;refine A1 U func234 ?_;refine AF9 U S3 h (λx1 x2 x3 x4=>kps [(10,pN x4),(9,pN (a.If.n:Int)),(8,.vec 9500),(7,.vec 8500),(2,.reg 3000 0),(1,.p (vSl 2 A0 x1))] [] [(9500,oV F0 1 (cL 2 A0) x3 false),(8500,oV C8 1 (cI .i64) x2 false)] [3000]) (λf x1 x2 x3 x4 c h=>?_);apply kI U h<;>intro h
 .refine kC U h (TC U P) (λy5 h=>?_);apply kI U h<;>intro h
  .exact c S3 h
  refine kC U h (Oj U P) (λy6 h=>?_);apply kI U h<;>intro h
  .obtain rfl:=A5 h;exact kO U S3 [5700,6701]
  obtain⟨c14,h⟩:=C4 h;refine O0 U (Ur (Ur (Ur Td c14.1) Td) c14.2) (b:=(a.If.n:Int)==0) (λc15=>?_) (λc15=>?_)
  .replace h:=itT c15 h;exact c S3 h (hle:=kl2 3 4 (O8 (cL 2 A0) x3 y6 [I1]) (O8 (cI .i64) x2 x4 [pI .i64 0]))
  replace h:=itF c15 h;exact c S3 h (hle:=kl2 3 4 (O8 (cL 2 A0) x3 y6 [I1]) (O8 (cI .i64) x2 x4 [pI .i64 0]))
 obtain rfl:=A5 h;exact kO U S3 [8500,9500]
def Bg3 (N:Nat)(l:Law)(a:Sl Up->Sl Int->Sl (Sl Up)->Int->Option BE2)(x1:Sl Up)(x2:Sl Int)(x3:Sl (Sl Up))(x4:Int):Option BE2:= ite (decide (0<=x4)) ((GC N l x1 x4).bind λy5=>ite (!y5) (a x1 x2 x3 (wrap .i64 (x4-1))) ((BG N l x1 x4).bind λy6=>ite (decide (32<(y6.n:Int))) (some (Te,Uo,11)) (ite ((Uq 8 (x2.n+(Sl.of [x4]:Sl Int).n))/\(Uq 24 (x3.n+(Sl.of [y6]:Sl (Sl Up)).n))) (ite ((l.If.n:Int)==0) (a y6 (x2.push x4) (x3.push y6) (wrap .i64 ((wrap .i64 (x4-(l.If.n:Int)))-1))) (a y6 (x2.push x4) (x3.push y6) (wrap .i64 (x4-(l.If.n:Int))))) none))) (some (x2,x3,0))
def FM (N:Nat)(a:Law)(b:Sl Up):Option ((Sl Int)×(Sl (Sl Up))×Int):= AW9 N (Bg3 N a) b Te Uo (wrap .i64 ((b.n:Int)-(a.If.n:Int)))
theorem AT2 {a:Law}{d:Sl Up}{y:(Sl Int)×(Sl (Sl Up))×Int}(h:FM N a d=some y) :Uw S Ws [.p (.agg (B6 a)),.p (vSl 2 A0 d)] [] (.tup [.vec 0,.vec 1,pN y.2.2]) ([oV C8 1 (cI .i64) y.1 true,oV F0 1 (cL 2 A0) y.2.1 true]) []:=by
 unfold FM at h;refine A1 U func235 ?_;refine AF9 U S3 h (λx1 x2 x3 x4=>kps [(10,pN x4),(9,pN (a.If.n:Int)),(8,.vec 9500),(7,.vec 8500),(2,.reg 3000 0),(1,.p (vSl 2 A0 x1))] [] [(9500,oV F0 1 (cL 2 A0) x3 false),(8500,oV C8 1 (cI .i64) x2 false)] [3000]) (λf x1 x2 x3 x4 c h=>?_);apply kI U h<;>intro h
 .refine kC U h (TC U P) (λy5 h=>?_);apply kI U h<;>intro h
  .exact c S3 h
  refine kC U h (Oj U P) (λy6 h=>?_);apply kI U h<;>intro h
  .obtain rfl:=A5 h;exact kO U S3 [5700,6701]
  obtain⟨c14,h⟩:=C4 h;refine O0 U (Ur (Ur (Ur Td c14.1) Td) c14.2) (b:=(a.If.n:Int)==0) (λc15=>?_) (λc15=>?_)
  .replace h:=itT c15 h;exact c S3 h (hle:=kl2 3 4 (O8 (cL 2 A0) x3 y6 [I1]) (O8 (cI .i64) x2 x4 [pI .i64 0]))
  replace h:=itF c15 h;exact c S3 h (hle:=kl2 3 4 (O8 (cL 2 A0) x3 y6 [I1]) (O8 (cI .i64) x2 x4 [pI .i64 0]))
 obtain rfl:=A5 h;exact kO U S3 [8500,9500]
def GE (N:Nat)(a:Law)(b:Sl Up):Option ((Sl Int)×(Sl (Sl Up))×Int):= (IM N a b).bind λy1=>ite (y1 != 0) (some (Te,Uo,y1)) (ite (a.Mode==1) ((KB N a b).bind λy2=>some (y2.1,y2.2.1,y2.2.2)) (ite (a.Mode==2) ((GD N a b).bind λy3=>some (y3.1,y3.2.1,y3.2.2)) ((FM N a b).bind λy4=>some (y4.1,y4.2.1,y4.2.2))))
theorem Ax8 {a:Law}{b:Sl Up}{y:(Sl Int)×(Sl (Sl Up))×Int}(h:GE N a b=some y) :Uw S SP [.p (.agg (B6 a)),.p (vSl 2 A0 b)] [] (.tup [.vec 0,.vec 1,pN y.2.2]) ([oV C8 1 (cI .i64) y.1 true,oV F0 1 (cL 2 A0) y.2.1 true]) []:=by
 unfold GE at h;refine A1 U func215 ?_;refine kC U h (Ax6 U P) (λy1 h=>?_);apply kI U h<;>intro h
 .obtain rfl:=A5 h;exact kO U S3 [5700,6701]
 apply kI U h<;>intro h
 .refine kC U h (Bg2 U P) (λy2 h=>?_);obtain rfl:=A5 h;exact kO U S3 [21000,21001]
 apply kI U h<;>intro h
 .refine kC U h (Ax7 U P) (λy3 h=>?_);obtain rfl:=A5 h;exact kO U S3 [29000,29001]
 refine kC U h (AT2 U P) (λy4 h=>?_);obtain rfl:=A5 h;exact kO U S3 [35000,35001]
def GF (N:Nat)(b:Law)(a:Sl Up):Option ((Sl Up)×Int):= (GE N b a).bind λy1=>ite (y1.2.2 != 0) (some (Um,y1.2.2)) (ite ((y1.2.1.n:Int)==0) (ite (Uq 8 (Un.n+a.n)) (some (Un.app a,0)) none) (ite ((((0:Int)<=(wrap .i64 ((y1.2.1.n:Int)-1))/\(wrap .i64 ((y1.2.1.n:Int)-1))<(y1.2.1.n:Int))/\(wrap .i64 ((y1.2.1.n:Int)-1)).toNat<y1.2.1.n)/\(Uq 8 (Un.n+(y1.2.1.g (wrap .i64 ((y1.2.1.n:Int)-1)).toNat).n))) (some (Un.app (y1.2.1.g (wrap .i64 ((y1.2.1.n:Int)-1)).toNat),0)) none))
theorem Ax9 {b:Law}{a:Sl Up}{y:(Sl Up)×Int}(h:GF N b a=some y) :Uw S SL [.p (.agg (B6 b)),.p (vSl 2 A0 a)] [] (.tup [.vec 0,pN y.2]) ([oV A8 2 A0 y.1 true]) []:=by
 unfold GF at h;refine A1 U func172 ?_;refine kC U h (Ax8 U P) (λy1 h=>?_);apply kI U h<;>intro h
 .obtain rfl:=A5 h;exact kO U S3 [5700]
 apply kI U h<;>intro h
 .obtain⟨c3,h⟩:=C4 h;obtain rfl:=A5 h;exact kO U (Ur Td c3) [25000] (hle:=klR [(1,.fn (0+a.n) (Un.app a).n (DO 0 (G9 Yu []) (λi=>A0 (a.g i))) (λi=>A0 ((Un.app a).g i)))] (al1 ⟨rfl,Aq7 (c:=A0) (v:=Un) (w:=a) (λi d=>Ke d (by omega)) rfl same rfl⟩ al0))
 obtain⟨c4,h⟩:=C4 h;obtain rfl:=A5 h;exact kO U (Ur (Ur (Ur Td c4.1.1) c4.1.2) c4.2) [33000] (hle:=klR [(1,.fn (0+(y1.2.1.g (wrap .i64 ((y1.2.1.n:Int)-1)).toNat).n) (Un.app (y1.2.1.g (wrap .i64 ((y1.2.1.n:Int)-1)).toNat)).n (DO 0 (G9 Yu []) (λi=>A0 ((y1.2.1.g (wrap .i64 ((y1.2.1.n:Int)-1)).toNat).g i))) (λi=>A0 ((Un.app (y1.2.1.g (wrap .i64 ((y1.2.1.n:Int)-1)).toNat)).g i)))] (al1 ⟨rfl,Aq7 (c:=A0) (v:=Un) (w:=y1.2.1.g (wrap .i64 ((y1.2.1.n:Int)-1)).toNat) (λi d=>Ke d (by omega)) rfl same rfl⟩ al0))
def Em (N:Nat)(a:Sl Law):Option Int:= ite (decide (64<(a.n:Int))) (some 12) (N3 N (λb (x1:Int)=>ite (decide (x1<(a.n:Int))) (ite ((0:Int)<=x1/\x1<(a.n:Int)) ((Ac N (a.g x1.toNat)).bind λy3=>ite (y3 != 0) (some 17) (b (wrap .i64 (x1+1)))) none) (some 0)) 0)
theorem Ay0 {a:Sl Law}{y:Int}(h:Em N a=some y) :Uw S SK [.p (vSl 18 B6 a)] [] (pN y) ([]) []:=by
 unfold Em at h;refine A1 U func170 ?_;refine Ym U h fun h=>?_;refine E2 U S3 h (λx1=>kps [(3,pN x1)] [0] [] []) (λb x1 c h=>?_);apply kI U h<;>intro h
 .obtain⟨c9,h⟩:=C4 h;refine kD U h (Ur c9 Tc) (MN U P) (λy3 h=>?_);refine Ym U h fun h=>?_;exact c S3 h
 cases h;exact kR U
abbrev BZ3:=(Sl (Sl Up))×Int
def Ok (N:Nat)(a:Sl Law)(b:Sl (Sl Up)->Int->Option BZ3)(x2:Sl (Sl Up))(x3:Int):Option BZ3:= ite (decide (x3<(a.n:Int))) (ite ((((0:Int)<=x3/\x3<(a.n:Int))/\((0:Int)<=x3/\x3<(x2.n:Int)))/\x3.toNat<x2.n) ((GF N (a.g x3.toNat) (x2.g x3.toNat)).bind λy7=>ite (y7.2 != 0) (some (Uo,y7.2)) (ite (Uq 24 (x2.n+(Sl.of [y7.1]:Sl (Sl Up)).n)) (b (x2.push y7.1) (wrap .i64 (x3+1))) none)) none) (some (x2,0))
def IN (N:Nat)(a:Sl Law)(b:Sl Up):Option ((Sl (Sl Up))×Int):= (Em N a).bind λy1=>lt (λ(z1:Int)=>ite (z1 != 0) (some (Uo,z1)) ((FI N b).bind λy4=>U1 N (Ok N a) (Sl.of [y4]:Sl (Sl Up)) 0)) λk1=>ite (y1==0) ((Ab N b).bind λy3=>k1 y3) (k1 y1)
theorem Ay1 {a:Sl Law}{b:Sl Up}{y:(Sl (Sl Up))×Int}(h:IN N a b=some y) :Uw S SB [.p (vSl 18 B6 a),.p (vSl 2 A0 b)] [] (.tup [.vec 0,pN y.2]) ([oV F0 1 (cL 2 A0) y.1 true]) []:=by
 unfold IN at h;refine A1 U func127 ?_;refine kC U h (Ay0 U P) (λy1 h=>?_);refine GN U S3 (A3 U) h 0 (λz1=>kps [(6,pN z1)] [1,0] [] []) (λk1 c h=>?_) (λz1 h=>?_)
 .apply kI U h<;>intro h
  .refine kC U h (Gw U P) (λy3 h=>?_);exact c S3 h
  exact c S3 h
 apply kI U h<;>intro h
 .obtain rfl:=A5 h;exact kO U S3 [5700]
 refine kC U h (AT0 U P) (λy4 h=>?_);refine E8 U Td h (λx2 x3 _=>⟨[(8,pN x3),(7,.vec 8500),(0,.p (vSl 18 B6 a))],[(8500,oV F0 1 (cL 2 A0) x2 false)]⟩) (λd x2 x3 f h=>?_) (hle:=kl1 2 (AO5 (cL 2 A0) ([y4]:List (Sl Up)) [I1]));apply kI U h<;>intro h
 .refine B4 U S3 [2,3] ?_;obtain⟨c12,h⟩:=C4 h;obtain⟨y7,e7,h⟩:=E4 h;refine GS [] (Ur (Ur (Ur c12.1.1 Tc) c12.1.2) c12.2) (Ax9 U P e7) ?_;refine D5 S3 ?_;apply kI U h<;>intro h
  .obtain rfl:=A5 h;exact kO U S3 [5700]
  obtain⟨c14,h⟩:=C4 h;exact f (Ur Td c14) h (hle:=kl1 2 (O8 (cL 2 A0) x2 y7.1 [I1]))
 obtain rfl:=A5 h;exact kO U S3 [8500]
def Di (N:Nat)(a:Sl Law)(b:Sl Up):Option ((Sl Up)×Int):= (IN N a b).bind λy1=>ite (y1.2 != 0) (some (Um,y1.2)) (ite (((0:Int)<=(wrap .i64 ((y1.1.n:Int)-1))/\(wrap .i64 ((y1.1.n:Int)-1))<(y1.1.n:Int))/\(wrap .i64 ((y1.1.n:Int)-1)).toNat<y1.1.n) (some (y1.1.g (wrap .i64 ((y1.1.n:Int)-1)).toNat,0)) none)
theorem Qr {a:Sl Law}{b:Sl Up}{y:(Sl Up)×Int}(h:Di N a b=some y) :Uw S PX [.p (vSl 18 B6 a),.p (vSl 2 A0 b)] [] (.tup [.p (vSl 2 A0 y.1),pN y.2]) ([]) []:=by
 unfold Di at h;refine A1 U func91 ?_;refine kC U h (Ay1 U P) (λy1 h=>?_);apply kI U h<;>intro h
 .obtain rfl:=A5 h;exact kO U S3 []
 obtain⟨c2,h⟩:=C4 h;obtain rfl:=A5 h;exact Bc6 U c2 [] ⟨rfl,rfl,rfl⟩
def HO (N:Nat)(a:Yc)(b:Int):Option ((Sl Int)×Int):= (X3 N a).bind λy1=>ite (y1 != 0) (some (Te,y1)) ((Ei N a b).bind λy2=>ite (!y2) (some (Te,3)) ((Dg N a b).bind λy3=>some (y3,0)))
theorem AT3 {a:Yc}{b:Int}{y:(Sl Int)×Int}(h:HO N a b=some y) :Uw S Wt [.p (.agg (A9 a)),pN b] [] (.tup [.vec 0,pN y.2]) ([oV C8 1 (cI .i64) y.1 true]) []:=by
 unfold HO at h;refine A1 U func237 ?_;refine kC U h (Gx U P) (λy1 h=>?_);apply kI U h<;>intro h
 .obtain rfl:=A5 h;exact kO U S3 [5700]
 refine kC U h (Pa U P) (λy2 h=>?_);apply kI U h<;>intro h
 .obtain rfl:=A5 h;exact kO U S3 [5700]
 refine kC U h (WD U P) (λy3 h=>?_);obtain rfl:=A5 h;exact kO U S3 [19000]
def HP (N:Nat)(a:Yc)(c:Int):Option ((Sl Law)×Int):= (HO N a c).bind λy1=>U1 N (λb (x1:Sl Law) (x2:Int)=>ite (decide (x2<(y1.1.n:Int))) (ite ((((0:Int)<=x2/\x2<(y1.1.n:Int))/\x2.toNat<y1.1.n)/\((0:Int)<=(y1.1.g x2.toNat)/\(y1.1.g x2.toNat)<(a.Laws.n:Int))) (ite (Uq 200 (x1.n+(Sl.of [a.Laws.g (y1.1.g x2.toNat).toNat]:Sl Law).n)) (b (x1.push (a.Laws.g (y1.1.g x2.toNat).toNat)) (wrap .i64 (x2+1))) none) none) (some (x1,y1.2))) (Sl.nil:Sl Law) 0
theorem AT4 {a:Yc}{b:Int}{y:(Sl Law)×Int}(h:HP N a b=some y) :Uw S Wr [.p (.agg (A9 a)),pN b] [] (.tup [.vec 0,pN y.2]) ([oV H6 18 B6 y.1 true]) []:=by
 unfold HP at h;refine A1 U func219 ?_;refine C7 U S3 4 3000 (A9 a) ?_;refine kD U h Sw (AT3 U P) (λy1 h=>?_);refine E8 U S3 h (λx1 x2=>kps [(9,pN x2),(8,.vec 9500),(7,pN y1.2),(6,.vec 14000),(2,.p (.ptr (A9 a)))] [] [(9500,oV H6 18 B6 x1 false)] [14000]) (λc x1 x2 d h=>?_);apply kI U h<;>intro h
 .refine B4 U S3 [2,7,8] ?_;obtain⟨c8,h⟩:=C4 h;refine O3 (Ur (Ur (Ur c8.1.1 c8.1.2) c8.2) Tc) (x:=.sl true 18 1 (G9 Yr [(0,B6 (a.Laws.g (y1.1.g x2.toNat).toNat))])) ?_;refine dE h (λh=>?_);exact d S3 h (hle:=kl1 4 (O8 B6 x1 (a.Laws.g (y1.1.g x2.toNat).toNat) Yr))
 obtain rfl:=A5 h;exact kO U S3 [9500]
def Rg (N:Nat)(a:Yc)(b:Sl Up)(c:Int):Option ((Sl Up)×Int):= (HP N a c).bind λy1=>(Di N y1.1 b).bind λy2=>some (y2.1,y2.2)
theorem Bw7 {a:Yc}{b:Sl Up}{c:Int}{y:(Sl Up)×Int}(h:Rg N a b c=some y) :Uw S AG8 [.p (.agg (A9 a)),.p (vSl 2 A0 b),pN c] [] (.tup [.p (vSl 2 A0 y.1),pN y.2]) ([]) []:=by unfold Rg at h;refine A1 U func182 ?_;refine kC U h (AT4 U P) (λy1 h=>?_);refine kC U h (Qr U P) (λy2 h=>?_);cases h;exact kR U
def HQ (N:Nat)(a:Yc)(b:Sl Up):Option Int:= (X3 N a).bind λy1=>ite (y1 != 0) (some y1) ((Ab N b).bind λy2=>some y2)
theorem AT5 {a:Yc}{b:Sl Up}{y:Int}(h:HQ N a b=some y) :Uw S Wp [.p (.agg (A9 a)),.p (vSl 2 A0 b)] [] (pN y) ([]) []:=by
 unfold HQ at h;refine A1 U func181 ?_;refine kC U h (Gx U P) (λy1 h=>?_);refine Ym U h fun h=>?_;refine kC U h (Gw U P) (λy2 h=>?_);cases h;exact kR U
def Lb (N:Nat)(a:Yc)(b:Sl Up)(c:Int):Option ((Sl Up)×Int):= (HQ N a b).bind λy1=>ite (y1 != 0) (some (Um,y1)) ((Ei N a c).bind λy2=>ite (!y2) (some (Um,3)) ((Rg N a b c).bind λy3=>some (y3.1,y3.2)))
theorem Bw8 {a:Yc}{b:Sl Up}{c:Int}{y:(Sl Up)×Int}(h:Lb N a b c=some y) :Uw S AG7 [.p (.agg (A9 a)),.p (vSl 2 A0 b),pN c] [] (.tup [.p (vSl 2 A0 y.1),pN y.2]) ([]) []:=by
 unfold Lb at h;refine A1 U func134 ?_;refine kC U h (AT5 U P) (λy1 h=>?_);apply kI U h<;>intro h
 .obtain rfl:=A5 h;exact kO U S3 []
 refine kC U h (Pa U P) (λy2 h=>?_);apply kI U h<;>intro h
 .obtain rfl:=A5 h;exact kO U S3 []
 refine kC U h (Bw7 U P) (λy3 h=>?_);cases h;exact kR U
omit U P
def BZ4 {z:Nat->List PV}{f:Nat->List PV}:DO 0 z f=f:=by funext i;show (ite (i<0) (z i) (f (i-0)))=f i;rw[Js (Cp2 i),Nat.sub_zero]
def BM4 {T:Type}{e:TypeId}{k:Nat}{c:T->List PV}{X:Sl (Sl T)}{z:Sl T}{z0:Nat->List PV}:∀q,q<X.n+1->(λq=>ite (q=X.n) (.vec e k (0+z.n) (DO 0 z0 (λi=>c (z.g i))) false) (DP e k c (X.g q))) q=(λq=>DP e k c ((X.push z).g q)) q:=λq a=>by
 have:=BE0 (e:=e) (k:=k) (c:=c) (X:=X) (z:=z) q a
 rw[<- this];simp only[BZ4,Ch0]
include U P
def Lc (N:Nat)(a:Yc):Option Yc:= ite ((0+a.Tree.n)*24<=140737488355328/\0+a.Tree.n<=140737488355328) (ite ((0+a.Laws.n)*200<=140737488355328/\0+a.Laws.n<=140737488355328) (U1 N (λb (x:Int) (X:Sl (Sl Int))=>ite (decide (x<(a.On.n:Int))) (ite ((0:Int)<=x/\x<(a.On.n:Int)) (ite ((0+(a.On.g x.toNat).n)*8<=140737488355328/\0+(a.On.g x.toNat).n<=140737488355328) (ite ((X.n+1)*24<=140737488355328/\X.n+1<=140737488355328) (b (wrap .i64 (x+1)) (X.push (a.On.g x.toNat))) none) none) none) (some (⟨a.Tree,a.Laws,X⟩:Yc))) 0 (Sl.nil:Sl (Sl Int))) none) none
theorem Ay2 {N:Nat}{c:Yc}{y:Yc}(h:Lc N c=some y) :Uw S Wf [.p (.agg (A9 c))] [] (.agr [.p (vSl 2 F1 y.Tree),.p (vSl 18 B6 y.Laws),.vec 0]) [.fam Et y.On.n 1 none,.rows y.On.n λi=>DP C8 1 (cI .i64) (y.On.g i)] []:=by
 unfold Lc at h;refine A1 U Tryz.func61 ?_;refine C7 U S3 2 2000 (A9 c) ?_;obtain⟨c1,h⟩:=C4 h;obtain⟨c2,h⟩:=C4 h;refine G1 U S3 [(0,.a [6000]),(2,.n),(3,.a [6000,9000]),(4,.a [10000]),(6,.n),(7,.a [10000,13000]),(8,.n),(9,.a [4000]),(10,.a [4000])] ?_;refine D5 (Ur (Ur (Ur Td c1) Td) c2) ?_;refine I6 U S3 4 (kps [] [3,2,1] [(13000,oV H6 18 B6 c.Laws false),(9000,oV Y3 2 F1 c.Tree false),(4501,.vec Et 1 0 (λ_=>[]) false),(4000,.cells [.vec 9000,.vec 13000,.vec 4501]),(3000,.cells [.p I1,.p I1,.p I1])] []) ?_ (hle:=kl2 1 2 (Bn7 B6 c.Laws Yr) (Bn7 F1 c.Tree [pI .i64 0,.str []]));refine Dc U S3 4 (.fam 4501 4901 λi=>DP C8 1 (cI .i64) ((Sl.nil:Sl (Sl Int)).g i)) (⟨by decide,λi j=>Ke j (Cp2 i)⟩:1000<=4901/\∀i,i<0->Ro ((λ_=>[]) i) (DP C8 1 (cI .i64) ((Sl.nil:Sl (Sl Int)).g i))) ?_;refine E8 U S3 h (λx X=>kps [(4,pN x)] [3,2,1] [(4901,.rows X.n λi=>DP C8 1 (cI .i64) (X.g i)),(4501,.fam Et X.n 4901 none)] [13000,9000,4000,3000]) (λf x X d h=>?_);apply kI U h<;>intro h
 .obtain⟨c3,h⟩:=C4 h;obtain⟨c4,h⟩:=C4 h;obtain⟨c5,h⟩:=C4 h;refine G1 U S3 [(1,.l [4000]),(2,.a [24000]),(4,.n),(6,.n),(7,.n),(8,.a [24000,30000]),(9,.b [31000,30000])] ?_;refine D5 (Ur (Ur (Ur Td c3) c4) c5) ?_;refine Dc U S3 19 (.psh 32000 4902) (⟨by decide,rfl,rfl⟩:1000<=4902/\X.n+1=X.n+1/\X.n=X.n) ?_;exact d S3 h (hle:=klR [(5,.ob (X.n+1) (λq=>ite (q=X.n) (.vec C8 1 (0+(c.On.g x.toNat).n) (DO 0 (G9 [pI .i64 0] []) (λi=>cI .i64 ((c.On.g x.toNat).g i))) false) (DP C8 1 (cI .i64) (X.g q))) (λi=>DP C8 1 (cI .i64) ((X.push (c.On.g x.toNat)).g i)))] (al1 BM4 al0))
 obtain rfl:=A5 h;exact I9 U S3 ⟨[(2,.reg 3000 0)],[(4901,.rows X.n λi=>DP C8 1 (cI .i64) (X.g i)),(4501,.fam Et X.n 4901 none),(3000,.cells [.p (vSl 2 F1 c.Tree),.p (vSl 18 B6 c.Laws),.vec 4501])]⟩ [4501,4901] ⟨rfl,rfl,rfl⟩
def HR (N:Nat)(c:Yc)(b:Int)(a:Int):Option (Yc×Int):= (X3 N c).bind λy1=>ite (y1 != 0) (some ((⟨(Sl.nil:Sl Node),(Sl.nil:Sl Law),(Sl.nil:Sl (Sl Int))⟩:Yc),y1)) ((Ei N c b).bind λy2=>ite ((!y2)=false->((decide (a<0))=false->((0:Int)<=b/\b<(c.On.n:Int)))) (ite (((!y2)||(decide (a<0)))||(decide ((wrap .i64 (((c.On.g b.toNat).n:Int)-1))<=a))) (some ((⟨(Sl.nil:Sl Node),(Sl.nil:Sl Law),(Sl.nil:Sl (Sl Int))⟩:Yc),3)) ((Lc N c).bind λy3=>ite (b.toNat<y3.On.n) (ite (((0:Int)<=b/\b<(y3.On.n:Int))/\((0:Int)<=a/\a<((y3.On.g b.toNat).n:Int))/\((0:Int)<=(wrap .i64 (a+1))/\(wrap .i64 (a+1))<((y3.On.g b.toNat).n:Int))) (some ((⟨y3.Tree,y3.Laws,y3.On.upd b.toNat (((y3.On.g b.toNat).upd a.toNat ((y3.On.g b.toNat).g (wrap .i64 (a+1)).toNat)).upd (wrap .i64 (a+1)).toNat ((y3.On.g b.toNat).g a.toNat))⟩:Yc),0)) none) none)) none)
theorem AT6 {N:Nat}{f:Yc}{d:Int}{b:Int}{y:Yc×Int}(h:HR N f d b=some y) :Uw S Wa [.p (.agg (A9 f)),pN d,pN b] [] (.tup [.p (.agg (A9 y.1)),pN y.2]) ([]) []:=by
 unfold HR at h;refine A1 U Tryz.func26 ?_;refine C7 U S3 6 4000 (A9 f) ?_;refine kD U h Sw (Gx U P) (λy1 h=>?_);apply kI U h<;>intro h
 .obtain rfl:=A5 h;exact I9 U S3 ⟨[(7,pN y1),(6,.reg 7000 0)],[(7000,.cells [.p (vSl 2 F1 (Sl.nil:Sl Node)),.p (vSl 18 B6 (Sl.nil:Sl Law)),.p (vSl 1 (cL 1 (cI .i64)) (Sl.nil:Sl (Sl Int)))])]⟩ [] ⟨rfl,rfl,rfl⟩
 refine kD U h Sw (Pa U P) (λy2 h=>?_);obtain⟨c2,h⟩:=C4 h;refine kB U (A3 U) S3 c2 14 (.o (.o (.a (!y2)) (.a (decide (b<0)))) (.a (decide ((wrap .i64 (((f.On.g d.toNat).n:Int)-1))<=b)))) ?_;apply kI U h<;>intro h
 .obtain rfl:=A5 h;exact I9 U S3 ⟨[(7,pN 3),(6,.reg 7000 0)],[(7000,.cells [.p (vSl 2 F1 (Sl.nil:Sl Node)),.p (vSl 18 B6 (Sl.nil:Sl Law)),.p (vSl 1 (cL 1 (cI .i64)) (Sl.nil:Sl (Sl Int)))])]⟩ [] ⟨rfl,rfl,rfl⟩
 refine kD U h Sw (Ay2 U P) (λy3 h=>?_);obtain⟨cT,h⟩:=C4 h;obtain⟨⟨c30,c31,c32⟩,h⟩:=C4 h;refine Dc U S3 9 (.take 38000 d.toNat 10801) (⟨⟨by decide,rfl⟩,cT⟩:(1000<=10801/\y3.On.n=y3.On.n)/\d.toNat<y3.On.n) ?_;have l1:(wrap .i64 (b+1)).toNat<(y3.On.g d.toNat).n:=by omega
 have l2:b.toNat<(y3.On.g d.toNat).n:=by omega
 refine G1 U S3 [(1,.l [10000]),(3,.l [38000]),(4,.l [38000]),(7,.l [10000]),(9,.l [38000]),(10,.l [38000]),(14,.l [10000]),(16,.l [38000]),(17,.l [38000]),(20,.l [10801]),(21,.l [10801]),(23,.l [10000]),(25,.l [38000]),(26,.l [38000]),(28,.l [10801]),(29,.l [10801]),(30,.l [10801]),(31,.a [10801]),(32,.l [10801]),(33,.a [10801])] ?_;refine D5 (Ur (Ur (Ur (Ur (Ur (Ur (Ur (Ur (Ur (Ur (Ur (Ur (Ur (Ur (Ur c30 (Ur cT (rfl:d.toNat=d.toNat))) c30) (Ur cT (rfl:d.toNat=d.toNat))) c30) (Ur cT (rfl:d.toNat=d.toNat))) c32) l1) c30) (Ur cT (rfl:d.toNat=d.toNat))) c31) l2) c31) (Ur (rfl:(1:Nat)=1) (Ur l2 Sn))) c32) (Ur (rfl:(1:Nat)=1) (Ur l1 Sn))) ?_;refine I6 U S3 70 (kps [] [9,6] [(38001,(.rows y3.On.n λl=>ite (l=d.toNat) (.dead) (DP C8 1 (cI .i64) (y3.On.g l)))),(38000,.fam Et y3.On.n 38001 (some (d.toNat,.vec 10801))),(10801,DP C8 1 (cI .i64) (((y3.On.g d.toNat).upd b.toNat ((y3.On.g d.toNat).g (wrap .i64 (b+1)).toNat)).upd (wrap .i64 (b+1)).toNat ((y3.On.g d.toNat).g b.toNat))),(10000,.cells [.p (vSl 2 F1 y3.Tree),.p (vSl 18 B6 y3.Laws),.vec 38000]),(7000,.cells [.p I1,.p I1,.p I1])] []) ?_ (hle:=klR [(4,.fn (y3.On.g d.toNat).n (((y3.On.g d.toNat).upd b.toNat ((y3.On.g d.toNat).g (wrap .i64 (b+1)).toNat)).upd (wrap .i64 (b+1)).toNat ((y3.On.g d.toNat).g b.toNat)).n (λl=>ite (l=(wrap .i64 (b+1)).toNat) (splice ((λl=>ite (l=b.toNat) (splice ((λi=>cI .i64 ((y3.On.g d.toNat).g i)) l) 0 [pI .i64 ((y3.On.g d.toNat).g (wrap .i64 (b+1)).toNat)]) ((λi=>cI .i64 ((y3.On.g d.toNat).g i)) l)) l) 0 [pI .i64 ((y3.On.g d.toNat).g b.toNat)]) ((λl=>ite (l=b.toNat) (splice ((λi=>cI .i64 ((y3.On.g d.toNat).g i)) l) 0 [pI .i64 ((y3.On.g d.toNat).g (wrap .i64 (b+1)).toNat)]) ((λi=>cI .i64 ((y3.On.g d.toNat).g i)) l)) l)) (λi=>cI .i64 ((((y3.On.g d.toNat).upd b.toNat ((y3.On.g d.toNat).g (wrap .i64 (b+1)).toNat)).upd (wrap .i64 (b+1)).toNat ((y3.On.g d.toNat).g b.toNat)).g i)))] (al1 ⟨rfl,Zu (c:=cI .i64) (v:=(y3.On.g d.toNat).upd b.toNat ((y3.On.g d.toNat).g (wrap .i64 (b+1)).toNat)) (x:=(y3.On.g d.toNat).g b.toNat) (Zu (c:=cI .i64) (v:=y3.On.g d.toNat) (x:=(y3.On.g d.toNat).g (wrap .i64 (b+1)).toNat) same (λ_=>by first|rfl|(dsimp only;split<;>rfl))) (λ_=>by first|rfl|(dsimp only;split<;>rfl))⟩ al0));refine Dc U S3 70 (.put 38000 38002) (⟨⟨by decide,rfl⟩,cT⟩:(1000<=38002/\y3.On.n=y3.On.n)/\d.toNat<y3.On.n) ?_;refine Dc U S3 70 (.pub 38000) (⟨rfl,Bf8⟩:y3.On.n=y3.On.n/\∀q,q<y3.On.n->(Xf (ite (q=d.toNat) (DP C8 1 (cI .i64) (((y3.On.g d.toNat).upd b.toNat ((y3.On.g d.toNat).g (wrap .i64 (b+1)).toNat)).upd (wrap .i64 (b+1)).toNat ((y3.On.g d.toNat).g b.toNat))) (ite (q=d.toNat) Obj.dead (DP C8 1 (cI .i64) (y3.On.g q))))).isSome=true) ?_;obtain rfl:=A5 h;exact I9 U S3 ⟨[(7,pN 0),(6,.reg 7000 0)],[(7000,.cells [.p (vSl 2 F1 y3.Tree),.p (vSl 18 B6 y3.Laws),.p (vSl 1 (cL 1 (cI .i64)) (y3.On.upd d.toNat (((y3.On.g d.toNat).upd b.toNat ((y3.On.g d.toNat).g (wrap .i64 (b+1)).toNat)).upd (wrap .i64 (b+1)).toNat ((y3.On.g d.toNat).g b.toNat))))])]⟩ [] ⟨rfl,rfl,rfl⟩ (hle:=klR [(3,.fn y3.On.n (y3.On.upd d.toNat (((y3.On.g d.toNat).upd b.toNat ((y3.On.g d.toNat).g (wrap .i64 (b+1)).toNat)).upd (wrap .i64 (b+1)).toNat ((y3.On.g d.toNat).g b.toNat))).n (λq=>[(Xf (ite (q=d.toNat) (DP C8 1 (cI .i64) (((y3.On.g d.toNat).upd b.toNat ((y3.On.g d.toNat).g (wrap .i64 (b+1)).toNat)).upd (wrap .i64 (b+1)).toNat ((y3.On.g d.toNat).g b.toNat))) (ite (q=d.toNat) Obj.dead (DP C8 1 (cI .i64) (y3.On.g q))))).getD default]) (λi=>cL 1 (cI .i64) ((y3.On.upd d.toNat (((y3.On.g d.toNat).upd b.toNat ((y3.On.g d.toNat).g (wrap .i64 (b+1)).toNat)).upd (wrap .i64 (b+1)).toNat ((y3.On.g d.toNat).g b.toNat))).g i)))] (al1 ⟨rfl,BE1⟩ al0))
def Ld (N:Nat)(a:Sl Node)(b:Int):Option Int:= (AY N a).bind λy1=>ite ((y1==0)&&((decide (b<0))||(decide ((a.n:Int)<=b)))) (some 3) (some y1)
theorem AT7 {c:Sl Node}{b:Int}{y:Int}(h:Ld N c b=some y) :Uw S Wn [.p (vSl 2 F1 c),pN b] [] (pN y) ([]) []:=by
 unfold Ld at h;refine A1 U func173 ?_;refine kC U h (MH U P) (λy1 h=>?_);refine kB U (A3 U) S3 S3 9 (.n (.a (y1==0)) (.o (.a (decide (b<0))) (.a (decide ((c.n:Int)<=b))))) ?_;refine Ym U h fun h=>?_;cases h;exact kR U
def EZ (rec:(Sl Node)->Int->Option (Sl Int))(N:Nat)(b:Sl Node)(a:Int):Option (Sl Int):= ite (a==0) (some (Sl.of [0]:Sl Int)) (ite ((0:Int)<=a/\a<(b.n:Int)) ((rec b (b.g a.toNat).Ye).bind λy1=>ite (Uq 8 (y1.n+(Sl.of [a]:Sl Int).n)) (some (y1.push a)) none) none)
def HS:Nat->(Sl Node)->Int->Option (Sl Int)
 |0=>λ_ _=>none
 |N+1=>EZ (HS N) N
theorem Ay3 {rec:(Sl Node)->Int->Option (Sl Int)}(c:∀{b:Sl Node}{a:Int}{y:Sl Int},rec b a=some y->Uw S KW [.p (vSl 2 F1 b),pN a] [] (.vec 0) ([oV C8 1 (cI .i64) y true]) []){b:Sl Node}{a:Int}{y:Sl Int}(h:EZ rec N b a=some y) :Uw S KW [.p (vSl 2 F1 b),pN a] [] (.vec 0) ([oV C8 1 (cI .i64) y true]) []:=by
 unfold EZ at h;refine A1 U func174 ?_;apply kI U h<;>intro h
 .obtain rfl:=A5 h;exact kO U Td [8000] (hle:=kl1 0 (AO5 (cI .i64) ([0]:List Int) [pI .i64 0]))
 obtain⟨c2,h⟩:=C4 h;obtain⟨y1,e1,h⟩:=E4 h;refine D6 U [] c2 (c e1) ?_;obtain⟨c3,h⟩:=C4 h;obtain rfl:=A5 h;exact kO U (Ur Td c3) [18000] (hle:=kl1 0 (O8 (cI .i64) y1 a [pI .i64 0]))
theorem AT8 {a:Sl Node}{b:Int}{y:Sl Int}(h:HS N a b=some y) :Uw S KW [.p (vSl 2 F1 a),pN b] [] (.vec 0) ([oV C8 1 (cI .i64) y true]) []:=by
 induction N generalizing a b y with
 |zero=>cases (show (none:Option (Sl Int))=some y from h)
 |succ N ih=>exact Ay3 U P (λe=>ih e) h
def HT (N:Nat)(a:Sl Node)(b:Int):Option ((Sl Int)×Int):= (Ld N a b).bind λy1=>ite (y1 != 0) (some (Te,y1)) ((HS N a b).bind λy2=>some (y2,0))
theorem AT9 {a:Sl Node}{b:Int}{y:(Sl Int)×Int}(h:HT N a b=some y) :Uw S Wk [.p (vSl 2 F1 a),pN b] [] (.tup [.vec 0,pN y.2]) ([oV C8 1 (cI .i64) y.1 true]) []:=by
 unfold HT at h;refine A1 U func128 ?_;refine kC U h (AT7 U P) (λy1 h=>?_);apply kI U h<;>intro h
 .obtain rfl:=A5 h;exact kO U S3 [5700]
 refine kC U h (AT8 U P) (λy2 h=>?_);obtain rfl:=A5 h;exact kO U S3 [16000]
def HU (N:Nat)(a:Yc)(f:Int)(b:Int):Option (Sl Law):= (HT N a.Tree f).bind λy1=>U1 N (λd (x3:Sl Law) (x4:Int)=>ite (decide (x4<(y1.1.n:Int))) (ite ((((0:Int)<=x4/\x4<(y1.1.n:Int))/\x4.toNat<y1.1.n)/\((0:Int)<=(y1.1.g x4.toNat)/\(y1.1.g x4.toNat)<(a.On.n:Int))) (U1 N (λc (x7:Sl Law) (x8:Int)=>ite (decide (x8<((a.On.g (y1.1.g x4.toNat).toNat).n:Int))) (ite ((0:Int)<=x8/\x8<((a.On.g (y1.1.g x4.toNat).toNat).n:Int)) (ite (((a.On.g (y1.1.g x4.toNat).toNat).g x8.toNat) != b) (ite (((0:Int)<=x8/\x8<((a.On.g (y1.1.g x4.toNat).toNat).n:Int))/\((0:Int)<=((a.On.g (y1.1.g x4.toNat).toNat).g x8.toNat)/\((a.On.g (y1.1.g x4.toNat).toNat).g x8.toNat)<(a.Laws.n:Int))) (ite (Uq 200 (x7.n+(Sl.of [a.Laws.g ((a.On.g (y1.1.g x4.toNat).toNat).g x8.toNat).toNat]:Sl Law).n)) (c (x7.push (a.Laws.g ((a.On.g (y1.1.g x4.toNat).toNat).g x8.toNat).toNat)) (wrap .i64 (x8+1))) none) none) (c x7 (wrap .i64 (x8+1)))) none) (d x7 (wrap .i64 (x4+1)))) x3 0) none) (some x3)) (Sl.nil:Sl Law) 0
theorem AU0 {b:Yc}{c:Int}{a:Int}{y:Sl Law}(h:HU N b c a=some y) :Uw S Wj [.p (.agg (A9 b)),pN c,pN a] [] (.vec 0) ([oV H6 18 B6 y true]) []:=by
 unfold HU at h;refine A1 U func92 ?_;refine C7 U S3 6 4000 (A9 b) ?_;refine kC U h (AT9 U P) (λy1 h=>?_);refine E8 U S3 h (λx3 x4=>kps [(10,pN x4),(9,.vec 10501),(7,.vec 18000),(3,.p (.ptr (A9 b))),(2,pN a)] [] [(10501,oV H6 18 B6 x3 false)] [18000]) (λf x3 x4 i h=>?_);apply kI U h<;>intro h
 .refine B4 U S3 [1,6,7] ?_;refine dE h (λh=>?_);refine E8 U S3 h (λx7 x8=>kps [(12,pN x8),(11,.p (vSl 1 (cI .i64) (b.On.g (y1.1.g x4.toNat).toNat))),(10,pN x4),(9,.vec 10502),(7,.vec 18000),(3,.p (.ptr (A9 b))),(2,pN a)] [] [(10502,oV H6 18 B6 x7 false)] [18000]) (λj x7 x8 d h=>?_);apply kI U h<;>intro h
  .refine kJ U h (λh=>?_) (λh=>?_)
   .refine B4 U S3 [2,5,6,7,8] ?_;obtain⟨c50,h⟩:=C4 h;refine O3 (Ur (Ur c50.1 c50.2) Tc) (x:=.sl true 18 1 (G9 Yr [(0,B6 (b.Laws.g ((b.On.g (y1.1.g x4.toNat).toNat).g x8.toNat).toNat))])) ?_;refine dE h (λh=>?_);exact d S3 h (hle:=kl1 6 (O8 B6 x7 (b.Laws.g ((b.On.g (y1.1.g x4.toNat).toNat).g x8.toNat).toNat) Yr))
   exact d S3 h
  exact i S3 h
 obtain rfl:=A5 h;exact kO U S3 [10501]
def I0 (N:Nat)(d:Yc)(b:M8)(a:Int)(c:Int):Option M8:= ite (!b.Has) (some (⟨false,Um⟩:M8)) ((Z4 N d.Tree).bind λy1=>ite (((0:Int)<=a/\a<(y1.1.n:Int))/\a.toNat<y1.1.n) ((HU N d (y1.1.g a.toNat) c).bind λy2=>(Di N y2 b.W).bind λy3=>ite (y3.2 != 0) (some (⟨false,Um⟩:M8)) (some (⟨true,y3.1⟩:M8))) none)
theorem Ol {d:Yc}{a:M8}{c:Int}{b:Int}{y:M8}(h:I0 N d a c b=some y) :Uw S NF [.p (.agg (A9 d)),.p (.agg (I4 a)),pN c,pN b] [] (.p (.agg (I4 y))) ([]) []:=by
 unfold I0 at h;refine A1 U func58 ?_;refine C7 U S3 5 5000 (A9 d) ?_;refine C7 U S3 8 6000 [.bb a.Has,vSl 2 A0 a.W] ?_;apply kI U h<;>intro h
 .obtain rfl:=A5 h;exact I9 U S3 ⟨[(8,.reg 9000 0)],[(9000,.cells [pB false,.p (vSl 2 A0 Um)])]⟩ [] ⟨rfl,rfl,rfl⟩
 refine kC U h (Kl U P) (λy1 h=>?_);refine B4 U S3 [0,8] ?_;obtain⟨c2,h⟩:=C4 h;obtain⟨y2,e2,h⟩:=E4 h;refine GS [] (Ur (Ur Sw c2.1) c2.2) (AU0 U P e2) ?_;obtain⟨y3,e3,h⟩:=E4 h;refine GS [] S3 (Qr U P e3) ?_;refine D5 S3 ?_;apply kI U h<;>intro h
 .obtain rfl:=A5 h;exact I9 U S3 ⟨[(8,.reg 9000 0)],[(9000,.cells [pB false,.p (vSl 2 A0 Um)])]⟩ [] ⟨rfl,rfl,rfl⟩
 cases h;exact kR U
def DK (N:Nat)(d:Yc)(b:M8)(c:Int)(f:M8)(a:Int):Option Bool:= (I0 N d b c a).bind λy1=>lt (λ(z1:Bool)=>some z1) λk1=>ite y1.Has ((P4 N y1.W f.W).bind λy3=>k1 y3) (k1 false)
theorem YU {d:Yc}{b:M8}{c:Int}{f:M8}{a:Int}{y:Bool}(h:DK N d b c f a=some y) :Uw S NE [.p (.agg (A9 d)),.p (.agg (I4 b)),pN c,.p (.agg (I4 f)),pN a] [] (pB y) ([]) []:=by
 unfold DK at h;refine A1 U func57 ?_;refine kC U h (Ol U P) (λy1 h=>?_);refine GN U S3 (A3 U) h 0 (λz1 _=>⟨[(10,pB z1)],[]⟩) (λk1 g h=>?_) (λz1 h=>?_)
 .refine kG U h (λh=>?_) (λh=>?_)
  .refine kC U h (Tz U P) (λy3 h=>?_);exact g S3 h
  exact g S3 h
 cases h;exact kR U
def KC (N:Nat)(f:Yc)(b:Sl M8)(d:Sl Yh)(a:Int):Option ((Sl A7)×Int):= (Ej N f b d).bind λy1=>ite (y1 != 0) (some ((Sl.nil:Sl A7),y1)) (ite ((decide (a<0))||(decide (1073741824<a))) (some ((Sl.nil:Sl A7),2)) (U1 N (λi (x3:Sl A7) (x4:Int)=>ite (decide (x4<(d.n:Int))) (U1 N (λc (x7:Sl A7) (x8:Int)=>ite ((0:Int)<=x4/\x4<(d.n:Int)) (ite (decide (x8<((d.g x4.toNat).Yg.n:Int))) (ite (((0:Int)<=x4/\x4<(d.n:Int))/\((0:Int)<=x8/\x8<((d.g x4.toNat).Yg.n:Int))) (ite (!((d.g x4.toNat).Yg.g x8.toNat).Has) (c x7 (wrap .i64 (x8+1))) (ite ((0:Int)<=x4/\x4<(b.n:Int)) ((DK N f (b.g x4.toNat) x8 ((d.g x4.toNat).Yg.g x8.toNat) (-1)).bind λj=>ite j (c x7 (wrap .i64 (x8+1))) (ite ((0:Int)<=x4/\x4<(b.n:Int)) ((I0 N f (b.g x4.toNat) x8 (-1)).bind λl=>ite (!l.Has) (ite (Uq 32 (x7.n+(Sl.of [(⟨x4,x8,2,a⟩:A7)]:Sl A7).n)) (c (x7.push (⟨x4,x8,2,a⟩:A7)) (wrap .i64 (x8+1))) none) (ite (Uq 32 (x7.n+(Sl.of [(⟨x4,x8,1,a⟩:A7)]:Sl A7).n)) (c (x7.push (⟨x4,x8,1,a⟩:A7)) (wrap .i64 (x8+1))) none)) none)) none)) none) (i x7 (wrap .i64 (x4+1)))) none) x3 0) (some (x3,0))) (Sl.nil:Sl A7) 0))
theorem Bg4 {f:Yc}{c:Sl M8}{d:Sl Yh}{b:Int}{y:(Sl A7)×Int}(h:KC N f c d b=some y) :Uw S Ad6 [.p (.agg (A9 f)),.p (vSl 2 I4 c),.p (vSl 2 N5 d),pN b] [] (.tup [.vec 0,pN y.2]) ([oV E6 4 B8 y.1 true]) []:=by
 unfold KC at h;refine A1 U func24 ?_;refine C7 U S3 8 5000 (A9 f) ?_;refine kD U h Sw (Tw U P) (λy1 h=>?_);apply kI U h<;>intro h
 .obtain rfl:=A5 h;exact kO U S3 [9700]
 refine kB U (A3 U) S3 S3 3 (.o (.a (decide (b<0))) (.a (decide (1073741824<b)))) ?_;apply kI U h<;>intro h
 .obtain rfl:=A5 h;exact kO U S3 [9700]
 refine E8 U S3 h (λx3 x4 _=>⟨[(12,pN x4),(11,.vec 12501),(4,.p (.ptr (A9 f))),(3,pN b),(2,.p (vSl 2 N5 d)),(1,.p (vSl 2 I4 c))],[(12501,oV E6 4 B8 x3 false)]⟩) (λj x3 x4 l h=>?_);apply kI U h<;>intro h
 .refine E8 U S3 h (λx7 x8 _=>⟨[(13,pN x8),(12,pN x4),(11,.vec 12502),(4,.p (.ptr (A9 f))),(3,pN b),(2,.p (vSl 2 N5 d)),(1,.p (vSl 2 I4 c))],[(12502,oV E6 4 B8 x7 false)]⟩) (λm x7 x8 i h=>?_);refine kJ U h (λh=>?_) (λh=>?_)
  .obtain⟨c76,h⟩:=C4 h;refine XK U (Ur (Ur c76.1 c76.2) Sp) 15000 [.bb ((d.g x4.toNat).Yg.g x8.toNat).Has,vSl 2 A0 ((d.g x4.toNat).Yg.g x8.toNat).W] ?_;refine B4 U S3 [1,4,7,8,10,11] ?_;refine dG S3 h (λh=>?_) (λh=>?_)
   .refine D5 S3 ?_;exact i S3 h
   obtain⟨c78,h⟩:=C4 h;refine dP h (Ur (Ur (Ur Sw c78) Sp) Sp) (YU U P) (λn h=>?_);refine D5 S3 ?_;apply kI U h<;>intro h
   .exact i S3 h
   refine B4 U S3 [0,3,4,6] ?_;obtain⟨c80,h⟩:=C4 h;refine dP h (Ur (Ur Sw c80) Sp) (Ol U P) (λq h=>?_);refine D5 S3 ?_;apply kI U h<;>intro h
   .obtain⟨c82,h⟩:=C4 h;exact i (Ur Td c82) h (hle:=kl1 6 (O8 B8 x7 (⟨x4,x8,2,b⟩:A7) Yv))
   obtain⟨c83,h⟩:=C4 h;exact i (Ur Td c83) h (hle:=kl1 6 (O8 B8 x7 (⟨x4,x8,1,b⟩:A7) Yv))
  exact l S3 h
 obtain rfl:=A5 h;exact kO U S3 [12501]
def Ad (N:Nat)(c:B0)(d:Yc)(a:Int)(b:Int):Option Bool:= ite ((((0:Int)<=a/\a<(c.Yf.n:Int))/\((0:Int)<=b/\b<((c.Yf.g a.toNat).Yg.n:Int)))/\((0:Int)<=a/\a<(c.Yb.n:Int))) (ite ((!((c.Yf.g a.toNat).Yg.g b.toNat).Has)||(!(c.Yb.g a.toNat).Has)) (some false) ((Z4 N d.Tree).bind λy1=>ite (((0:Int)<=b/\b<(y1.1.n:Int))/\b.toNat<y1.1.n) ((Lb N d (c.Yb.g a.toNat).W (y1.1.g b.toNat)).bind λy2=>lt (λ(z1:Bool)=>some z1) λk1=>ite (y2.2==0) ((P4 N y2.1 ((c.Yf.g a.toNat).Yg.g b.toNat).W).bind λy4=>k1 y4) (k1 false)) none)) none
theorem Om {d:B0}{f:Yc}{b:Int}{c:Int}{y:Bool}(h:Ad N d f b c=some y) :Uw S NI [.p (.agg (B3 d)),.p (.agg (A9 f)),pN b,pN c] [] (pB y) ([]) []:=by
 unfold Ad at h;refine A1 U func95 ?_;refine C7 U S3 5 5000 (B3 d) ?_;refine C7 U S3 8 6000 (A9 f) ?_;refine G1 U S3 [(1,.n),(3,.n),(5,.n),(7,.n),(8,.n),(10,.n),(12,.n),(13,.n),(14,.a [10000]),(15,.a [11000]),(16,.a [10000]),(17,.a [11000])] ?_;obtain⟨c1,h⟩:=C4 h;refine D5 (Ur (Ur (Ur (Ur c1.1.1 c1.1.2) Sp) c1.2) Sp) ?_;refine C7 U S3 29 10000 [.bb ((d.Yf.g b.toNat).Yg.g c.toNat).Has,vSl 2 A0 ((d.Yf.g b.toNat).Yg.g c.toNat).W] ?_;refine C7 U S3 29 11000 [.bb (d.Yb.g b.toNat).Has,vSl 2 A0 (d.Yb.g b.toNat).W] ?_;refine kB U (A3 U) S3 S3 4 (.o (.a (!((d.Yf.g b.toNat).Yg.g c.toNat).Has)) (.a (!(d.Yb.g b.toNat).Has))) ?_;refine Ym U h fun h=>?_;refine kC U h (Kl U P) (λy1 h=>?_);refine G1 U S3 [(0,.n),(2,.n),(5,.l [41000]),(6,.l [41000]),(7,.n)] ?_;obtain⟨c3,h⟩:=C4 h;refine dP h (Ur (Ur Sw c3.1) c3.2) (Bw8 U P) (λy2 h=>?_);refine D5 S3 ?_;refine GN U S3 (A3 U) h 0 (λz1 _=>⟨[(8,pB z1)],[]⟩) (λk1 i h=>?_) (λz1 h=>?_)
 .refine kG U h (λh=>?_) (λh=>?_)
  .refine kC U h (Tz U P) (λy4 h=>?_);exact i S3 h
  exact i S3 h
 cases h;exact kR U
def DL (N:Nat)(c:B0)(d:Yc)(a:Int)(b:Int):Option Bool:= (Ad N c c.Yc a b).bind λy1=>lt (λ(z1:Bool)=>some z1) λk1=>ite y1 ((Ad N c d a b).bind λy3=>k1 (!y3)) (k1 false)
theorem YV {c:B0}{d:Yc}{a:Int}{b:Int}{y:Bool}(h:DL N c d a b=some y) :Uw S NG [.p (.agg (B3 c)),.p (.agg (A9 d)),pN a,pN b] [] (pB y) ([]) []:=by
 unfold DL at h;refine A1 U func62 ?_;refine kC U h (Om U P) (λy1 h=>?_);refine GN U S3 (A3 U) h 0 (λz1 _=>⟨[(8,pB z1)],[]⟩) (λk1 f h=>?_) (λz1 h=>?_)
 .refine kG U h (λh=>?_) (λh=>?_)
  .refine kC U h (Om U P) (λy3 h=>?_);exact f S3 h
  exact f S3 h
 cases h;exact kR U
def GG (N:Nat)(a:B0)(d:Yc):Option (Int×Int×Bool):= N3 N (λb (x2:Int)=>ite (decide (x2<(a.Yf.n:Int))) (N3 N (λc (x4:Int)=>ite ((0:Int)<=x2/\x2<(a.Yf.n:Int)) (ite (decide (x4<((a.Yf.g x2.toNat).Yg.n:Int))) ((DL N a d x2 x4).bind λy9=>ite y9 (some (x2,x4,true)) (c (wrap .i64 (x4+1)))) (b (wrap .i64 (x2+1)))) none) 0) (some (0,0,false))) 0
theorem Ay4 {a:B0}{b:Yc}{y:Int×Int×Bool}(h:GG N a b=some y) :Uw S Sg [.p (.agg (B3 a)),.p (.agg (A9 b))] [] (.tup [pN y.1,pN y.2.1,pB y.2.2]) ([]) []:=by
 unfold GG at h;refine A1 U func27 ?_;refine E2 U S3 h (λx2=>kps [(7,pN x2)] [3,2] [] [4000,3000]) (λc x2 d h=>?_);apply kI U h<;>intro h
 .refine E2 U S3 h (λx4=>kps [(8,pN x4)] [7,3,2] [] [4000,3000]) (λf x4 g h=>?_);refine kJ U h (λh=>?_) (λh=>?_)
  .refine kC U h (YV U P) (λy9 h=>?_);refine Ym U h fun h=>?_;exact g S3 h
  exact d S3 h
 cases h;exact kR U
def IO (N:Nat)(b:B0)(a:Int):Option Int:= (Ek N b).bind λy1=>ite (y1 != 0) (some y1) (ite ((decide (a<0))||(decide (1073741824<a))) (some 2) (some 0))
theorem Ay5 {c:B0}{b:Int}{y:Int}(h:IO N c b=some y) :Uw S Se [.p (.agg (B3 c)),pN b] [] (pN y) ([]) []:=by
 unfold IO at h;refine A1 U func23 ?_;refine kC U h (Tx U P) (λy1 h=>?_);refine Ym U h fun h=>?_;refine kB U (A3 U) S3 S3 3 (.o (.a (decide (b<0))) (.a (decide (1073741824<b)))) ?_;refine Ym U h fun h=>?_;cases h;exact kR U
def Bk (N:Nat)(b:B0):Option ((Sl Dj)×Int):= (Ek N b).bind λy1=>ite (y1 != 0) (some ((Sl.nil:Sl Dj),y1)) (U1 N (λd (x3:Sl Dj) (x4:Int)=>ite (decide (x4<(b.Yc.On.n:Int))) (U1 N (λc (x7:Sl Dj) (x8:Int)=>ite ((0:Int)<=x4/\x4<(b.Yc.On.n:Int)) (ite (decide ((wrap .i64 (x8+1))<((b.Yc.On.g x4.toNat).n:Int))) ((HR N b.Yc x4 x8).bind λf=>(GG N b f.1).bind λa=>ite a.2.2 (ite (Uq 32 (x7.n+(Sl.of [(⟨x4,x8,a.1,a.2.1⟩:Dj)]:Sl Dj).n)) (c (x7.push (⟨x4,x8,a.1,a.2.1⟩:Dj)) (wrap .i64 (x8+1))) none) (c x7 (wrap .i64 (x8+1)))) (d x7 (wrap .i64 (x4+1)))) none) x3 0) (some (x3,0))) (Sl.nil:Sl Dj) 0)
theorem TD {a:B0}{y:(Sl Dj)×Int}(h:Bk N a=some y) :Uw S Sb [.p (.agg (B3 a))] [] (.tup [.vec 0,pN y.2]) ([oV O9 4 K3 y.1 true]) []:=by
 unfold Bk at h;refine A1 U func7 ?_;refine kC U h (Tx U P) (λy1 h=>?_);apply kI U h<;>intro h
 .obtain rfl:=A5 h;exact kO U S3 [3700]
 refine E8 U S3 h (λx3 x4=>kps [(6,pN x4),(5,.vec 6501),(1,.reg 2000 0)] [] [(6501,oV O9 4 K3 x3 false)] [2000]) (λd x3 x4 f h=>?_);apply kI U h<;>intro h
 .refine E8 U S3 h (λx7 x8=>kps [(7,pN x8),(6,pN x4),(5,.vec 6502),(1,.reg 2000 0)] [] [(6502,oV O9 4 K3 x7 false)] [2000]) (λg x7 x8 b h=>?_);refine kJ U h (λh=>?_) (λh=>?_)
  .refine kC U h (AT6 U P) (λi h=>?_);refine kC U h (Ay4 U P) (λc h=>?_);apply kI U h<;>intro h
   .obtain⟨c34,h⟩:=C4 h;exact b (Ur Td c34) h (hle:=kl1 2 (O8 K3 x7 (⟨x4,x8,c.1,c.2.1⟩:Dj) Yv))
   exact b S3 h
  exact f S3 h
 obtain rfl:=A5 h;exact kO U S3 [6501]
def HV (N:Nat)(b:B0)(a:Int):Option (EG×Int):= (IO N b a).bind λy1=>ite (y1 != 0) (some ((⟨(Sl.nil:Sl A7),(Sl.nil:Sl Dj)⟩:EG),y1)) ((KC N b.Yc b.Yb b.Yf a).bind λy2=>(Bk N b).bind λy3=>some ((⟨y2.1,y3.1⟩:EG),0))
theorem AU1 {b:B0}{a:Int}{y:EG×Int}(h:HV N b a=some y) :Uw S VW [.p (.agg (B3 b)),pN a] [] (.tup [.p (.agg (Mz y.1)),pN y.2]) ([]) []:=by
 unfold HV at h;refine A1 U func6 ?_;refine kC U h (Ay5 U P) (λy1 h=>?_);apply kI U h<;>intro h
 .obtain rfl:=A5 h;exact I9 U S3 ⟨[(5,pN y1),(4,.reg 5000 0)],[(5000,.cells [.p (vSl 4 B8 (Sl.nil:Sl A7)),.p (vSl 4 K3 (Sl.nil:Sl Dj))])]⟩ [] ⟨rfl,rfl,rfl⟩
 refine kC U h (Bg4 U P) (λy2 h=>?_);refine kC U h (TD U P) (λy3 h=>?_);obtain rfl:=A5 h;exact I9 U S3 ⟨[(5,pN 0),(4,.reg 5000 0)],[(5000,.cells [.p (vSl 4 B8 y2.1),.p (vSl 4 K3 y3.1)])]⟩ [] ⟨rfl,rfl,rfl⟩
def FN (N:Nat)(a:EG)(b:EG):Option Bool:= ite (((a.Bad.n:Int) != (b.Bad.n:Int))||((a.Yd.n:Int) != (b.Yd.n:Int))) (some false) (N3 N (λc (x1:Int)=>ite (decide (x1<(a.Bad.n:Int))) (ite (((0:Int)<=x1/\x1<(a.Bad.n:Int))/\((0:Int)<=x1/\x1<(b.Bad.n:Int))) (ite ((((a.Bad.g x1.toNat).Yh==(b.Bad.g x1.toNat).Yh)&&(((a.Bad.g x1.toNat).X9==(b.Bad.g x1.toNat).X9)&&(((a.Bad.g x1.toNat).Kind==(b.Bad.g x1.toNat).Kind)&&((a.Bad.g x1.toNat).Cost==(b.Bad.g x1.toNat).Cost)))) != true) (some false) (c (wrap .i64 (x1+1)))) none) (N3 N (λd (x2:Int)=>ite (decide (x2<(a.Yd.n:Int))) (ite (((0:Int)<=x2/\x2<(a.Yd.n:Int))/\((0:Int)<=x2/\x2<(b.Yd.n:Int))) (ite ((((a.Yd.g x2.toNat).Node==(b.Yd.g x2.toNat).Node)&&(((a.Yd.g x2.toNat).Place==(b.Yd.g x2.toNat).Place)&&(((a.Yd.g x2.toNat).Yh==(b.Yd.g x2.toNat).Yh)&&((a.Yd.g x2.toNat).X9==(b.Yd.g x2.toNat).X9)))) != true) (some false) (d (wrap .i64 (x2+1)))) none) (some true)) 0)) 0)
theorem TE {N:Nat}{b:EG}{c:EG}{y:Bool}(h:FN N b c=some y) :Uw S VX [.agr [.vec 0,.vec 1],.p (.agg (Mz c))] [oV E6 4 B8 b.Bad false,oV O9 4 K3 b.Yd false] (pB y) [oV E6 4 B8 b.Bad false,oV O9 4 K3 b.Yd false] [true,true]:=by
 unfold FN at h;refine A1 U Tryz.func10 ?_;refine C7 U S3 4 4000 [vSl 4 B8 c.Bad,vSl 4 K3 c.Yd] ?_;refine kB U (A3 U) S3 S3 8 (.o (.a ((b.Bad.n:Int) != (c.Bad.n:Int))) (.a ((b.Yd.n:Int) != (c.Yd.n:Int)))) ?_;apply kI U h<;>intro h
 .cases h;exact kO U S3 [0,1]
 refine E2 U S3 h (λx1=>kps [(5,pN x1)] [3,2] [] [3000,0,1]) (λd x1 f h=>?_);apply kI U h<;>intro h
 .refine G1 U S3 [(1,.l [3000,0]),(3,.l [3000,0]),(4,.l [3000,0]),(6,.n),(8,.n),(9,.n)] ?_;obtain⟨c9,h⟩:=C4 h;refine D5 (Ur (Ur (Ur (Ur (Ur c9.1 Sx) (by have:=c9.1;omega:x1.toNat<b.Bad.n)) c9.2) Sx) (by decide +kernel:Qx Tryz.prog E6=true)) ?_;apply kI U h<;>intro h
  .cases h;exact kO U S3 [0,1]
  exact f S3 h
 refine E2 U S3 h (λx2=>kps [(6,pN x2)] [3,2] [] [3000,0,1]) (λg x2 i h=>?_);apply kI U h<;>intro h
 .refine G1 U S3 [(1,.l [3000,1]),(3,.l [3000,1]),(4,.l [3000,1]),(6,.n),(8,.n),(9,.n)] ?_;obtain⟨c18,h⟩:=C4 h;refine D5 (Ur (Ur (Ur (Ur (Ur c18.1 Sx) (by have:=c18.1;omega:x2.toNat<b.Yd.n)) c18.2) Sx) (by decide +kernel:Qx Tryz.prog O9=true)) ?_;apply kI U h<;>intro h
  .cases h;exact kO U S3 [0,1]
  exact i S3 h
 cases h;exact kO U S3 [0,1]
def CB (N:Nat)(b:B0)(a:Int):Option Bool:= (Gz N b).bind λy1=>ite (!y1) ((CT N ).bind λy2=>some y2) ((HV N b a).bind λy3=>(Bk N b).bind λy4=>N3 N (λc (x1:Int)=>ite (decide (x1<2)) ((T8 N b a).bind λy5=>(W6 N b).bind λy6=>lt (λ(z1:Bool)=>ite z1 (some false) (U1 N (λd (x2:Int) (X:Sl A7)=>ite (decide (x2<(X.n:Int))) (ite (((0:Int)<=x2/\x2<(X.n:Int))/\x2.toNat<X.n) (d (wrap .i64 (x2+1)) (X.upd x2.toNat (⟨77,0,0,0⟩:A7))) none) (U1 N (λf (x3:Int) (Y:Sl Dj)=>ite (decide (x3<(Y.n:Int))) (ite (((0:Int)<=x3/\x3<(Y.n:Int))/\x3.toNat<Y.n) (f (wrap .i64 (x3+1)) (Y.upd x3.toNat (⟨77,0,0,0⟩:Dj))) none) (U1 N (λg (x4:Int) (Z:Sl Dj)=>ite (decide (x4<(Z.n:Int))) (ite (((0:Int)<=x4/\x4<(Z.n:Int))/\x4.toNat<Z.n) (g (wrap .i64 (x4+1)) (Z.upd x4.toNat (⟨78,0,0,0⟩:Dj))) none) (c (wrap .i64 (x1+1)))) 0 y6.1)) 0 y5.1.Yd)) 0 y5.1.Bad)) λk1=>ite (y5.2 != y3.2) (k1 true) (ite (y6.2 != y4.2) (k1 true) ((FN N y5.1 y3.1).bind λy7=>ite (!y7) (k1 true) ((FN N (⟨(Sl.nil:Sl A7),y6.1⟩:EG) (⟨(Sl.nil:Sl A7),y4.1⟩:EG)).bind λy8=>k1 (!y8))))) ((CT N ).bind λy9=>some y9)) 0)
theorem Qw {N:Nat}{d:B0}{a:Int}{y:Bool}(h:CB N d a=some y) :Uw S Fb [.p (.agg (B3 d)),pN a] [] (pB y) ([]) []:=by
 unfold CB at h;refine A1 U Tryz.func3 ?_;refine C7 U S3 4 3000 (B3 d) ?_;refine kD U h (by decide:(8:Nat)<=8) (Ax4 U P) (λy1 h=>?_);apply kI U h<;>intro h
 .refine kC U h (Ts U P) (λy2 h=>?_);cases h;exact kR U
 refine kD U h (by decide:(8:Nat)<=8) (AU1 U P) (λy3 h=>?_);refine C7 U S3 6 6000 [vSl 4 B8 y3.1.Bad,vSl 4 K3 y3.1.Yd] ?_;refine kD U h (by decide:(8:Nat)<=8) (TD U P) (λy4 h=>?_);refine E2 U S3 h (λx1=>kps [(31,pN x1),(7,.p (vSl 4 K3 y4.1))] [8,6,5,2,1] [] []) (λf x1 j h=>?_);apply kI U h<;>intro h
 .refine kD U h (by decide:(8:Nat)<=8) (YN U P) (λy5 h=>?_);refine kD U h (by decide:(8:Nat)<=8) (II U P (vw:=false)) (λy6 h=>?_);refine GN U S3 (A3 U) h 0 (λz1=>kps [(65,pB z1)] [31,11,9,8,7,6,5,2,1] [] [42000,37001,37000,10000]) (λk1 b h=>?_) (λz1 h=>?_)
  .refine kG U h (λh=>?_) (λh=>?_)
   .exact b S3 h
   refine kG U h (λh=>?_) (λh=>?_)
   .exact b S3 h
   obtain⟨y7,e7,h⟩:=E4 h;refine D6 U [37000,37001] Sp (TE U P e7) ?_;refine kG U h (λh=>?_) (λh=>?_)
   .exact b S3 h
   obtain⟨y8,e8,h⟩:=E4 h;refine I6 U S3 63 (kps [(60,.agr [.vec 60001,.vec 42000])] [62,58,31,11,9,8,7,6,5,2,1] [(60001,oV E6 4 B8 (Sl.nil:Sl A7) false)] [42000,37001,37000,10000]) ?_;refine D6 U [60001,42000] S3 (Uw.le U (args:=[.agr [.vec 0,.vec 1],.p (.agg [I1,vSl 4 K3 y4.1])]) (by exact⟨.inl rfl,BT8 (Ih BT7 (Ih (.inl rfl) Cc2)),trivial⟩) (TE U P e8)) ?_;exact b S3 h
  refine Ym U h fun h=>?_;refine E8 U S3 h (λx2 X=>kps [(13,pN x2)] [31,11,9,8,7,6,5,2,1] [(37000,oV E6 4 B8 X false)] [42000,37001,10000]) (λm x2 X o h=>?_);apply kI U h<;>intro h
  .obtain⟨⟨c1,c2⟩,h⟩:=C4 h;exact o (Ur c1 (Ur (rfl:(4:Nat)=4) (Ur c2 Sx))) h (hle:=klR [(10,.fn X.n (X.upd x2.toNat (⟨77,0,0,0⟩:A7)).n (λl=>ite (l=x2.toNat) (splice ((λi=>B8 (X.g i)) l) 0 [pI .i64 77,pI .i64 0,pI .i64 0,pI .i64 0]) ((λi=>B8 (X.g i)) l)) (λi=>B8 ((X.upd x2.toNat (⟨77,0,0,0⟩:A7)).g i)))] (al1 ⟨rfl,Zu (c:=B8) (v:=X) (x:=(⟨77,0,0,0⟩:A7)) same (λ_=>by first|rfl|(dsimp only;split<;>rfl))⟩ al0))
  refine E8 U S3 h (λx3 Y=>kps [(14,pN x3)] [31,11,9,8,7,6,5,2,1] [(37001,oV O9 4 K3 Y false)] [42000,37000,10000]) (λq x3 Y r h=>?_);apply kI U h<;>intro h
  .obtain⟨⟨c1,c2⟩,h⟩:=C4 h;exact r (Ur c1 (Ur (rfl:(4:Nat)=4) (Ur c2 Sx))) h (hle:=klR [(9,.fn Y.n (Y.upd x3.toNat (⟨77,0,0,0⟩:Dj)).n (λl=>ite (l=x3.toNat) (splice ((λi=>K3 (Y.g i)) l) 0 [pI .i64 77,pI .i64 0,pI .i64 0,pI .i64 0]) ((λi=>K3 (Y.g i)) l)) (λi=>K3 ((Y.upd x3.toNat (⟨77,0,0,0⟩:Dj)).g i)))] (al1 ⟨rfl,Zu (c:=K3) (v:=Y) (x:=(⟨77,0,0,0⟩:Dj)) same (λ_=>by first|rfl|(dsimp only;split<;>rfl))⟩ al0))
  refine E8 U S3 h (λx4 Z=>kps [(15,pN x4)] [31,11,9,8,7,6,5,2,1] [(42000,oV O9 4 K3 Z false)] [37001,37000,10000]) (λs x4 Z t h=>?_);apply kI U h<;>intro h
  .obtain⟨⟨c1,c2⟩,h⟩:=C4 h;exact t (Ur c1 (Ur (rfl:(4:Nat)=4) (Ur c2 Sx))) h (hle:=klR [(8,.fn Z.n (Z.upd x4.toNat (⟨78,0,0,0⟩:Dj)).n (λl=>ite (l=x4.toNat) (splice ((λi=>K3 (Z.g i)) l) 0 [pI .i64 78,pI .i64 0,pI .i64 0,pI .i64 0]) ((λi=>K3 (Z.g i)) l)) (λi=>K3 ((Z.upd x4.toNat (⟨78,0,0,0⟩:Dj)).g i)))] (al1 ⟨rfl,Zu (c:=K3) (v:=Z) (x:=(⟨78,0,0,0⟩:Dj)) same (λ_=>by first|rfl|(dsimp only;split<;>rfl))⟩ al0))
  exact j S3 h
 refine kC U h (Ts U P) (λy9 h=>?_);cases h;exact kR U
omit U P
def AU2 {A R:Type}{body:(A->Option R)->A->Option R}(I:Nat->A->Prop)(n:Nat)(M0:R->Prop)
 (b:∀self i a,i<=n->I i a->(i<n->∀a',I (i+1) a' -> ∃r,self a' = some r/\M0 r)->∃r,body self a=some r/\M0 r) :
 ∀(N i:Nat) (a:A),i<=n->I i a->n-i<N->∃r,N3 N body a=some r/\M0 r
 |0,_,_,_,_,h=>by omega
 |N+1,i,a,hi,hI,h=>by rw[U2];exact b _ i a hi hI λc a' d=>AU2 I n M0 b N (i+1) a' c d (by omega)
def Z1 {A R:Type}{body:(A->Option R)->A->Option R}(I:Nat->A->Prop)(n:Nat)(M0:R->Prop){N:Nat}(c:n<N){a:A}(d:I 0 a)
 (b:∀self i a,i<=n->I i a->(i<n->∀a',I (i+1) a' -> ∃r,self a' = some r/\M0 r)->∃r,body self a=some r/\M0 r):∃r,N3 N body a=some r/\M0 r:=
 AU2 I n M0 b N 0 a (Cl6 _) d c
def S9 {A B R:Type}{body:(A->B->Option R)->A->B->Option R}(I:Nat->A->B->Prop)(n:Nat)(M0:R->Prop){N:Nat}(g:n<N){a:A}{b:B}(j:I 0 a b)
 (d:∀c i a b,i<=n->I i a b->(i<n->∀a' b',I (i+1) a' b' -> ∃r,c a' b' = some r/\M0 r)->∃r,body c a b=some r/\M0 r):∃r,U1 N body a b=some r/\M0 r:=
 AU2 (λi x=>I i x.1 x.2) n M0 (λc i x l m h=>d (λa b=>c (a,b)) i x.1 x.2 l m λhl a' b' f=>h hl (a',b') f) N 0 (a,b) (Cl6 _) j g
def Aj7 {A B C R:Type}{body:(A->B->C->Option R)->A->B->C->Option R}(I:Nat->A->B->C->Prop)(n:Nat)(M0:R->Prop){N:Nat}(j:n<N){a:A}{b:B}{c:C}(l:I 0 a b c)
 (f:∀d i a b c,i<=n->I i a b c->(i<n->∀a' b' c',I (i+1) a' b' c' -> ∃r,d a' b' c' = some r/\M0 r)->∃r,body d a b c=some r/\M0 r):∃r,Bb8 N body a b c=some r/\M0 r:=
 AU2 (λi x=>I i x.1 x.2.1 x.2.2) n M0 (λd i x m o h=>f (λa b c=>d (a,b,c)) i x.1 x.2.1 x.2.2 m o λhl a' b' c' g=>h hl (a',b',c') g) N 0 (a,b,c) (Cl6 _) l j
def loop4 {A B C D R:Type}{body:(A->B->C->D->Option R)->A->B->C->D->Option R}(I:Nat->A->B->C->D->Prop)(n:Nat)(M0:R->Prop){N:Nat}(l:n<N){a:A}{b:B}{c:C}{d:D}(m:I 0 a b c d)
 (g:∀f i a b c d,i<=n->I i a b c d->(i<n->∀a' b' c' d',I (i+1) a' b' c' d' -> ∃r,f a' b' c' d' = some r/\M0 r)->∃r,body f a b c d=some r/\M0 r):∃r,AW9 N body a b c d=some r/\M0 r:=
 AU2 (λi x=>I i x.1 x.2.1 x.2.2.1 x.2.2.2) n M0 (λf i x o q h=>g (λa b c d=>f (a,b,c,d)) i x.1 x.2.1 x.2.2.1 x.2.2.2 o q λhl a' b' c' d' j=>h hl (a',b',c',d') j) N 0 (a,b,c,d) (Cl6 _) m l
def B2 {X R:Type}{Q:R->Prop}{o:Option X}{f:X->Option R}{x:X}(h:o=some x)(a:∃r,f x=some r/\Q r):∃r,o.bind f=some r/\Q r:=by grind
def ltX {R A:Type}{Q:R->Prop}{k:A->Option R}{f:(A->Option R)->Option R}(h:∃r,f k=some r/\Q r):∃r,lt k f=some r/\Q r:=h
def ifT {R:Type}{Q:R->Prop}{p:Prop}[Decidable p]{a b:Option R}(h:p)(c:∃r,a=some r/\Q r):∃r,(ite p a b)=some r/\Q r:=by rw[Jk h];omega
def Br{R:Type}{Q:R->Prop}{p:Prop}[Decidable p]{a b:Option R}(h2:∃ r,a=some r/\Q r)(h:p:=by grind):∃ r,(ite p a b)=some r/\Q r:=ifT h h2
def Bq{R:Type}{Q:R->Prop}{p:Prop}[Decidable p]{a b:Option R}(h2:∃ r,a=some r/\Q r)(h:p:=by decide):∃ r,(ite p a b)=some r/\Q r:=ifT h h2
def Ah{R:Type}{Q:R->Prop}{p:Prop}[Decidable p]{a b:Option R}(h2:∃ r,a=some r/\Q r)(h:p:=by simp):∃ r,(ite p a b)=some r/\Q r:=ifT h h2
def Ag{R:Type}{Q:R->Prop}{p:Prop}[Decidable p]{a b:Option R}(h2:∃ r,a=some r/\Q r)(h:p:=by simp;omega):∃ r,(ite p a b)=some r/\Q r:=ifT h h2
def Af{R:Type}{Q:R->Prop}{p:Prop}[Decidable p]{a b:Option R}(h2:∃ r,a=some r/\Q r)(h:p:=by omega):∃ r,(ite p a b)=some r/\Q r:=ifT h h2
def ifF {R:Type}{Q:R->Prop}{p:Prop}[Decidable p]{a b:Option R}(h:¬p)(c:∃r,b=some r/\Q r):∃r,(ite p a b)=some r/\Q r:=by rw[Js h];omega
def Fe{R:Type}{Q:R->Prop}{p:Prop}[Decidable p]{a b:Option R}(h2:∃ r,b=some r/\Q r)(h:¬p:=by grind):∃ r,(ite p a b)=some r/\Q r:=ifF h h2
def Du{R:Type}{Q:R->Prop}{p:Prop}[Decidable p]{a b:Option R}(h2:∃ r,b=some r/\Q r)(h:¬p:=by decide):∃ r,(ite p a b)=some r/\Q r:=ifF h h2
def Dt{R:Type}{Q:R->Prop}{p:Prop}[Decidable p]{a b:Option R}(h2:∃ r,b=some r/\Q r)(h:¬p:=by simp):∃ r,(ite p a b)=some r/\Q r:=ifF h h2
def Cc{R:Type}{Q:R->Prop}{p:Prop}[Decidable p]{a b:Option R}(h2:∃ r,b=some r/\Q r)(h:¬p:=by simp;omega):∃ r,(ite p a b)=some r/\Q r:=ifF h h2
def Cb{R:Type}{Q:R->Prop}{p:Prop}[Decidable p]{a b:Option R}(h2:∃ r,b=some r/\Q r)(h:¬p:=by omega):∃ r,(ite p a b)=some r/\Q r:=ifF h h2
theorem F8 {n:Int}(h : -9223372036854775808<=n)(h' : n<=9223372036854775807):IntKind.i64.wrap n=n:=by
 by_cases a:0<=n
 .have h1:n % (2 ^ 64:Int)=n:=(by omega);unfold wrap;simp only[IntKind.bits,IntKind.signed,h1];rw[Js]
  grind
 have h1:n % (2 ^ 64:Int)=n+2 ^ 64:=by rw[<- Int.add_emod_right];omega
 unfold wrap;simp only[IntKind.bits,IntKind.signed,h1];rw[Jk]
 all_goals grind
def Ut {n:Int}(h : -9223372036854775808<=n:=by omega)(k : n<=9223372036854775807:=by omega) :IntKind.i64.wrap n=n:=F8 h k
def B5 {i:Nat}(h:i<1000000000000000000):IntKind.i64.wrap ((i:Int)+1)=((i+1:Nat):Int):=by rw[Ut];rfl
def Fl{i:Nat}(h:i<1000000000000000000:=by omega):IntKind.i64.wrap ((i:Int)+1)=((i+1:Nat):Int):=B5 h
def BZ5 {i:Nat}(a:1<=i)(h:i<1000000000000000000):IntKind.i64.wrap ((i:Int)-1)=((i-1:Nat):Int):=by rw[Ut];omega
def GP {i j:Nat}(h:i+j<1000000000000000000):IntKind.i64.wrap ((i:Int)+(j:Int))=((i+j:Nat):Int):=by rw[Ut];rfl
def okP:Nat->Pat->Prop
 |0,_=>False
 |d+1,p=>p.L.n<=40/\(p.Kind=5->p.L.n=1/\0<=p.Min/\p.Min<=32/\(p.Max = -1 \/ (p.Min<=p.Max/\p.Max<=32)))/\∀i,i<p.L.n->okP d (p.L.g i)
abbrev sOf (x y:BitVec 32):Up:=⟨(x.toNat:Int),(y.toNat:Int)⟩
def okS (s:Up):Prop:=∃p m:BitVec 32,s=sOf p m
def eq0 (x:BitVec 32):((x.toNat:Int)==0)=decide (x=0#32):=by
 rw[Cf7];simp only[beq_iff_eq,Lq];constructor
 .intro h;apply Cg7;grind
 grind
def z32 (x:BitVec 32):x=0#32 ↔ ∀i,i<32->x.getLsbD i=false:=by
 grind
def WI (x:BitVec 32)(i:Nat):(F3 .and .u32 (shI .shr .u32 (x.toNat:Int) (i:Int)) 1==1)=x.getLsbD i:=by
 rw[Bb6,show (1:Int)=((1#32).toNat:Int) from rfl,DV];have h:(x >>> i &&& 1#32)=(BitVec.ofBool (x.getLsbD i)).setWidth 32:=by
  grind
 rw[h];cases x.getLsbD i<;>rfl
def KD (x:BitVec 32):x.toNat<16777216 ↔ ∀i,24<=i->i<32->x.getLsbD i=false:=by
 constructor
 .intro h i a b;exact Ct8 (Cf5 h (Cm9 (n:=2) (i:=24) (by omega) a))
 intro h;refine Nat.lt_pow_two_of_testBit (n:=24) _ λi a=>?_;by_cases c:i<32
 .grind
 exact Ct8 (Cf5 x.isLt (Cm9 (by omega) (by omega)))
def vB (p m:BitVec 32):Bool:=decide (∀i:Fin 32,¬(p.getLsbD i=true/\m.getLsbD i=true)/\(24<=i.1->p.getLsbD i=false/\m.getLsbD i=false))
theorem Jo (p m:BitVec 32):vB p m=true ↔ ∀i,i<32->¬(p.getLsbD i=true/\m.getLsbD i=true)/\(24<=i->p.getLsbD i=false/\m.getLsbD i=false):=by rw[vB,Lq];exact⟨λh i a=>h ⟨i,a⟩,λh i=>h i.1 i.2⟩
def AH1 (p m:BitVec 32):p &&& m=0#32 ↔ ∀i,i<32->¬(p.getLsbD i=true/\m.getLsbD i=true):=by
 rw[z32]
 grind
def BZ6 (p m:BitVec 32):vB p m=true↔p &&& m=0#32/\(p ||| m).toNat<16777216:=by
 rw[Jo,AH1,KD]
 grind
def Bg5 (p m:BitVec 32):vB p m=true↔p &&& m=0#32/\p.toNat<16777216/\m.toNat<16777216:=by
 rw[Jo,AH1,KD,KD]
 grind
theorem Cw (p m:BitVec 32):H1 N (sOf p m)=some (vB p m):=by
 unfold H1;rw[DV,IZ,eq0];congr 1;rw[Cf7,BZ6]
 grind
def shr24 (x:BitVec 32):(shI .shr .u32 (x.toNat:Int) 24==0)=decide (x.toNat<16777216):=by
 rw[show (24:Int)=((24:Nat):Int) from rfl,Bb6,Cf7];simp only[beq_iff_eq,Lq,Cn0,Cm7]
 have:=Cv0 (a:=x.toNat) (b:=2 ^ 24)
 omega
def Aj8 (p m:BitVec 32):De N (sOf p m)=some (vB p m):=by
 unfold De;rw[DV,IZ,eq0,shr24];congr 1;rw[Cf7,BZ6]
 grind
theorem Aj9 (p m:BitVec 32):T6 N (sOf p m)=some (vB p m):=Aj8 (N:=N) p m
def WJ (p m:BitVec 32):X2 N (sOf p m)=some (vB p m):=by
 unfold X2;rw[DV,eq0];congr 1;rw[Cf7,Bg5]
 grind
theorem AA (p m:BitVec 32)(b:1000<=N):G6 N (sOf p m)=some (vB p m):=by
 suffices h:∃r,G6 N (sOf p m)=some r/\r=vB p m by grind
 unfold G6;refine Z1 (λi x1=>x1=(i:Int)/\∀j,j<i->¬(p.getLsbD j=true/\m.getLsbD j=true)/\(24<=j->p.getLsbD j=false/\m.getLsbD j=false)) 32 _ (by omega) (by grind) ?_;rintro a i x1 c ⟨rfl,h1⟩ hs;by_cases hl:i<32
 .refine Br (Af ?_);simp only[WI];have e24:decide ((24:Int)<=(i:Int))=decide (24<=i):=(by grind);rw[e24];by_cases hb:¬(p.getLsbD i=true/\m.getLsbD i=true)/\(24<=i->p.getLsbD i=false/\m.getLsbD i=false)
  .refine ifF ?_ (hs hl _ ⟨Fl,λj d=>?_⟩)
   all_goals grind
  refine ifT ?_ ⟨false,rfl,?_⟩
  .grind
  symm;rw[<- Ct5,Jo];grind
 refine Fe ⟨true,rfl,?_⟩
 grind[Jo]
def vS (s:Up):Prop:=∃p m:BitVec 32,s=sOf p m/\vB p m=true
def TF (p:Pat):Prop:= (0<=p.Kind/\p.Kind<=6)/\(p.Kind≠1->(p.Is.Plus=0/\p.Is.Minus=0)/\p.Not=false)/\(p.Kind≠3->p.Kind≠4->p.Kind≠5->p.L.n=0)/\(p.Kind≠5->p.Min=0/\p.Max=0) /\ (p.Kind=5->p.L.n=1/\0<=p.Min/\p.Min<=32/\(p.Max = -1 \/ (p.Min<=p.Max/\p.Max<=32)))/\vS p.Is
theorem Ay6 {s:Up}{p m:BitVec 32}(h:s=sOf p m):vS s↔vB p m=true:=by
 constructor
 .rintro⟨q,r,e,a⟩;rw[h]at e;have e1:(p.toNat:Int)=q.toNat:=congrArg Up.Plus e;have e2:(m.toNat:Int)=r.toNat:=(by grind);rw[Cg7 (show p.toNat=q.toNat by omega),Cg7 (show m.toNat=r.toNat by omega)];omega
 exact λa=>⟨p,m,h,a⟩
def okPS:Pat->Prop
 |.nil=>True
 |.mk _ is _ _ _ n g=>okS is/\∀i,i<n->okPS (g i)
def okPS.is {p:Pat}(h:okPS p):okS p.Is:=by
 cases p with
 |nil=>exact⟨0#32,0#32,rfl⟩
 |mk _ is _ _ _ n g=>exact h.1
def okPS.L {p:Pat}(h:okPS p){i:Nat}(a:i<p.L.n):okPS (p.L.g i):=by
 cases p with
 |nil=>exact Ke a (by show ¬i<0;omega)
 |mk _ is _ _ _ n g=>exact h.2 i a
def chk:Nat->List Pat->Prop
 |0,l=>l=[]
 |_+1,[]=>True
 |k+1,p::l=>TF p/\chk k (p.L.toList++l)
theorem Bg6:∀k,chk k []
 |0=>rfl
 |_+1=>trivial
def TG:∀(k:Nat) (l:List Pat),chk k l->l.length<=k
 |0,l,h=>by rw[show l=[] from h];grind
 |k+1,[],_=>Cl6 _
 |k+1,p::l,⟨_,h⟩=>by
  have:=TG k _ h
  rw[Cg1]at this
  grind
theorem AH2:∀(d:Nat) (p:Pat),okP d p->okP (d+1) p
 |0,_,h=>h.elim
 |d+1,p,⟨h1,h2,h3⟩=>⟨h1,h2,λi a=>AH2 d _ (h3 i a)⟩
def Pc {α : Type}{s:Sl α}{i:Nat}(h:i<s.n):s.g i∈s.toList:=Cl0.2 (by grind)
def Y9 {α : Type}(s:Sl α):s.toList.length=s.n:=by simp[Sl.toList]
def Ak0:∀(k:Nat) (l:List Pat),k<=40->chk k l->∀p∈l,okP k p
 |0,l,_,h,p,hp=>by rw[show l=[] from h]at hp;grind
 |k+1,[],_,_,p,hp=>by grind
 |k+1,q::l,hk,⟨hn,h⟩,p,hp=>by
  have ih:=Ak0 k _ (by omega) h;rcases Ci2.1 hp with rfl|hp
  .have hl:=TG k _ h;rw[Cg1,Y9]at hl;exact⟨by omega,λa=>hn.2.2.2.2.1 a,λi b=>ih _ (Ch7 _ (Pc b))⟩
  grind[AH2,List.mem_append_right]
def Bw9 {p:Pat}(hp:okS p.Is):∃e,HJ N p=some e/\(e=0↔TF p):=by
 obtain⟨a,b,c⟩:=hp;have d:=Ay6 c;unfold HJ TF;by_cases h1:0<=p.Kind/\p.Kind<=6
 case neg=>exact Br (by grind)
 refine Fe ?_;have e0:((p.Is.Plus==0)&&(p.Is.Minus==0))=decide (p.Is.Plus=0/\p.Is.Minus=0):=by rw[Cf7];simp
 rw[e0];by_cases i:p.Kind≠1->(p.Is.Plus=0/\p.Is.Minus=0)/\p.Not=false
 case neg=>
  refine ifT ?_ (by grind)
  grind
 refine ifF ?_ (ltX ?_)
 .grind
 have rest:(p.Kind≠3->p.Kind≠4->p.Kind≠5->p.L.n=0)->∃e,(if ((p.Kind != 5)&&((p.Min != 0)||(p.Max != 0))) then some (2:Int)else
  lt (λ(z2:Bool)=>ite z2 (some 2) ((X2 N p.Is).bind λy1=>ite (!y1) (some 14) (some 0))) λk2=>
   ite (p.Kind==5) (ite (((p.L.n:Nat):Int) != 1) (k2 true) (ite (decide (p.Min<0)) (k2 true) (ite (decide (32<p.Min)) (k2 true) (ite (p.Max != (-1)) (ite (decide (p.Max<p.Min)) (k2 true) (k2 (decide (32<p.Max)))) (k2 false))))) (k2 false))=some e /\
  (e=0↔(0<=p.Kind/\p.Kind<=6)/\(p.Kind≠1->(p.Is.Plus=0/\p.Is.Minus=0)/\p.Not=false)/\(p.Kind≠3->p.Kind≠4->p.Kind≠5->p.L.n=0)/\(p.Kind≠5->p.Min=0/\p.Max=0) /\
   (p.Kind=5->p.L.n=1/\0<=p.Min/\p.Min<=32/\(p.Max = -1 \/ (p.Min<=p.Max/\p.Max<=32)))/\vS p.Is):=by
  intro j;by_cases f:p.Kind≠5->p.Min=0/\p.Max=0
  case neg=>
   refine ifT ?_ (by grind);rw[Classical.not_imp]at f
   grind
  refine ifF ?_ (ltX ?_)
  .grind
  have last:(p.Kind=5->p.L.n=1/\0<=p.Min/\p.Min<=32/\(p.Max = -1 \/ (p.Min<=p.Max/\p.Max<=32)))->∃e,(ite false (some (2:Int)) ((X2 N p.Is).bind λy1=>ite (!y1) (some 14) (some 0)))=some e /\
   (e=0↔(0<=p.Kind/\p.Kind<=6)/\(p.Kind≠1->(p.Is.Plus=0/\p.Is.Minus=0)/\p.Not=false)/\(p.Kind≠3->p.Kind≠4->p.Kind≠5->p.L.n=0)/\(p.Kind≠5->p.Min=0/\p.Max=0) /\
    (p.Kind=5->p.L.n=1/\0<=p.Min/\p.Min<=32/\(p.Max = -1 \/ (p.Min<=p.Max/\p.Max<=32)))/\vS p.Is):=by
   intro l;refine Dt ?_;rw[d,c,WJ];refine B2 rfl ?_;cases g:vB a b
   all_goals simp_all
  have bad:¬(p.Kind=5->p.L.n=1/\0<=p.Min/\p.Min<=32/\(p.Max = -1 \/ (p.Min<=p.Max/\p.Max<=32)))->∃e,(ite true (some (2:Int)) ((X2 N p.Is).bind λy1=>ite (!y1) (some 14) (some 0)))=some e /\
   (e=0↔(0<=p.Kind/\p.Kind<=6)/\(p.Kind≠1->(p.Is.Plus=0/\p.Is.Minus=0)/\p.Not=false)/\(p.Kind≠3->p.Kind≠4->p.Kind≠5->p.L.n=0)/\(p.Kind≠5->p.Min=0/\p.Max=0) /\
    (p.Kind=5->p.L.n=1/\0<=p.Min/\p.Min<=32/\(p.Max = -1 \/ (p.Min<=p.Max/\p.Max<=32)))/\vS p.Is):=by grind
  by_cases k5:p.Kind=5
  .refine Br ?_;by_cases g1:p.L.n=1
   case neg=>exact Br (by grind)
   refine Fe ?_;by_cases g2:p.Min<0
   .exact Br (by grind)
   refine Fe ?_;by_cases g3:32<p.Min
   .exact Br (by grind)
   refine Fe ?_;by_cases g4:p.Max = -1
   .grind
   refine Br ?_;by_cases g5:p.Max<p.Min
   .exact Br (by grind)
   refine Fe ?_;by_cases g6:32<p.Max
   all_goals simp_all[decide_eq_true,decide_eq_false]
  grind
 by_cases k3:p.Kind=3
 .grind
 refine Br ?_;by_cases k4:p.Kind=4
 .grind
 refine Br ?_;by_cases k5:p.Kind=5
 .grind
 refine Br ?_;by_cases hn:p.L.n=0
 .grind
 exact Br (by grind)
def IP {α : Type}(s:Sl α){i:Nat}(h:i<s.n):s.toList.drop i=s.g i::s.toList.drop (i+1):=by
 have hl:i<s.toList.length:=by rw[Y9];exact h
 rw[Cm5 hl];simp[Sl.toList]
def KE {α : Type}(s:Sl α):s.toList.drop s.n=[]:=Cl7 (by rw[Y9];omega)
def Bg7 {N:Nat}(o:1000<=N):∀(d:Nat),d<=40->∀(p:Pat),okPS p->∀M,N+d+1<=M->∃r,FH M p ((40-d:Nat):Int)=some r /\
 ∃k:Nat,r.1=(k:Int)/\40-d<=k/\k<=40/\(r.2=0->40-d<k/\∀l,chk d (p::l)↔chk (40-k) l)/\(r.2≠0->∀l,¬chk d (p::l))
 |d,hd,p,hp,0,hM=>by omega
 |0,hd,p,hp,M+1,hM=>by show ∃r,Bg (FH M) M p _=some r/\_;unfold Bg;exact Ah ⟨_,rfl,40,rfl,by omega,by omega,by omega,λ_ l h=>by cases h⟩
 |d+1,hd,p,hp,M+1,hM=>by
  show ∃r,Bg (FH M) M p _=some r/\_;unfold Bg;refine Fe ?_;obtain⟨e,q,hn⟩:=Bw9 (N:=M) hp.is;refine B2 q ?_;by_cases b:e=0
  case neg=>exact Br ⟨_,rfl,40-(d+1),rfl,Ce5 _,by omega,λh=>Ke h b,λ_ l h=>b (hn.2 h.1)⟩
  refine Fe ?_;have a:=hn.1 b;rw[Fl];refine S9 (λi x1 x2=>x2=(i:Int)/\∃k:Nat,x1=(k:Int)/\40-(d+1)+1+i<=k/\k<=40/\i<=p.L.n/\∀l,chk (d+1) (p::l)↔chk (40-k) (p.L.toList.drop i++l)) 41 _ (by omega)
   ⟨rfl,40-(d+1)+1,rfl,by omega,by omega,by omega,λl=>by rw[show 40-(40-(d+1)+1)=d by omega];exact⟨λh=>h.2,λh=>⟨a,h⟩⟩⟩ ?_
  rintro f i x1 x2 t ⟨rfl,k,rfl,h1,s,u,c⟩ hs;by_cases hl:i<p.L.n
  .refine Br (Af ?_);obtain⟨r,j,k',r1,r2,r3,r4,r5⟩:=Bg7 o (40-k) (by omega) (p.L.g i) (hp.L hl) M (by omega);rw[show ((40-(40-k):Nat):Int)=(k:Int) by omega]at j;refine B2 (by rw[Us];exact j) ?_;by_cases m:r.2=0
   .refine Fe (hs (by omega) _ _ ⟨Fl,k',r1,by have:=(r4 m).1;omega,r3,by omega,λl=>?_⟩);rw[c,IP _ hl,Ce9]
    grind
   refine Br ⟨_,rfl,k',r1,by omega,r3,λh=>Ke h m,λ_ l hc=>?_⟩;rw[c,IP _ hl,Ce9]at hc
   grind
  obtain rfl:i=p.L.n:=by omega
  refine Dt ⟨_,rfl,k,rfl,by omega,s,λ_=>⟨by omega,λl=>?_⟩,λh=>Ke rfl h⟩;rw[c,KE];rfl
def TH (b:2000<=N){p:Pat}(hp:okPS p):∃e,CU N p=some e/\(e=0↔chk 40 [p]):=by
 obtain⟨r,a,k,h1,c,d,f,g⟩:=Bg7 (N:=1500) (by omega) 40 (Ce5 _) p hp N (by omega);unfold CU;refine B2 a ⟨_,rfl,λh=>?_,λh=>?_⟩
 all_goals grind[Bg6,Ke]
def AU3 {T A R:Type}{body:(A->Option R)->T->A->Option R}{k:A->Option R}{M0:R->Prop}(J:List T->A->Prop)(c:∀a,J [] a->∃r,k a=some r/\M0 r)
 (b:∀t L a self,J (t::L) a->(∀a',J L a' -> ∃r,self a' = some r/\M0 r)->∃r,body self t a=some r/\M0 r):∀(L:List T) (a:A),J L a->∃r,T1 L body k a=some r/\M0 r
 |[],a,h=>c a h
 |t::L,a,h=>b t L a _ h λa' h'=>AU3 J c b L a' h'
def AU4 {p:Pat}(hp:okS p.Is):∃e,Cf N p=some e/\(e=0↔TF p):=by
 obtain⟨a,b,f⟩:=hp;have m:=Ay6 f;have V:T6 N p.Is=some (vB a b):=by rw[f];grind[Aj9]
 have e0:((p.Is.Plus==0)&&(p.Is.Minus==0))=decide (p.Is.Plus=0/\p.Is.Minus=0):=by rw[Cf7];simp
 have fin:(TF p↔vS p.Is)->∃e,((T6 N p.Is).bind λy1=>ite (!y1) (some (14:Int)) (some 0))=some e/\(e=0↔TF p):=by
  intro i;rw[V];refine B2 rfl ?_;rw[i,m];cases vB a b
  all_goals simp_all
 have bad:∀{x:Int},x≠0->¬TF p->∃e,some x=some e/\(e=0↔TF p):=(by grind);unfold Cf;by_cases hk:p.Kind=0 \/ p.Kind=2 \/ p.Kind=6
 .refine ifT (by rcases hk with h|h|h<;>simp[h]) (ltX ?_);rw[e0];by_cases g1:p.Is.Plus=0/\p.Is.Minus=0
  case neg=>exact Br (ifT rfl (bad (by decide) λh=>g1 (h.2.1 (by omega)).1))
  refine Fe ?_;by_cases g2:p.Not=true
  .exact ifT g2 (ifT rfl (bad (by decide) λh=>by have:=(h.2.1 (by omega)).2;rw[g2]at this;grind))
  refine ifF g2 ?_;by_cases g3:p.Min=0
  case neg=>exact Br (ifT rfl (bad (by decide) λh=>g3 (h.2.2.2.1 (by omega)).1))
  refine Fe ?_;by_cases g4:p.Max=0
  case neg=>exact Br (ifT rfl (bad (by decide) λh=>g4 (h.2.2.2.1 (by omega)).2))
  refine Fe ?_;by_cases g5:p.L.n=0
  case neg=>exact Br (bad (by decide) λh=>g5 (h.2.2.1 (by omega) (by omega) (by omega)))
  refine Fe (fin ?_);exact⟨λh=>h.2.2.2.2.2,λh=>⟨by omega,by grind,λ_ _ _=>g5,λ_=>⟨g3,g4⟩,λc=>by omega,h⟩⟩
 refine Fe ?_;by_cases k1:p.Kind=1
 .refine Br (ltX ?_);refine Dt ?_;by_cases g3:p.Min=0
  case neg=>exact Br (ifT rfl (bad (by decide) λh=>g3 (h.2.2.2.1 (by omega)).1))
  refine Fe ?_;by_cases g4:p.Max=0
  case neg=>exact Br (ifT rfl (bad (by decide) λh=>g4 (h.2.2.2.1 (by omega)).2))
  refine Fe ?_;by_cases g5:p.L.n=0
  case neg=>exact Br (bad (by decide) λh=>g5 (h.2.2.1 (by omega) (by omega) (by omega)))
  refine Fe (fin ?_);exact⟨λh=>h.2.2.2.2.2,λh=>⟨by omega,by omega,λ_ _ _=>g5,λ_=>⟨g3,g4⟩,λc=>by omega,h⟩⟩
 refine Fe (ltX ?_);rw[e0];have tail:∀(x y:Int),(TF p↔(p.Is.Plus=0/\p.Is.Minus=0)/\p.Not=false/\x=0/\y=0/\vS p.Is)->∃e,(ite (((((decide (p.Is.Plus=0/\p.Is.Minus=0) != true)||p.Not)||(x != 0))||(y != 0))||(decide (0<0))) (some (2:Int)) ((T6 N p.Is).bind λy3=>ite (!y3) (some 14) (some 0)))=some e/\(e=0↔TF p):=by
  intro x y i;by_cases g:(p.Is.Plus=0/\p.Is.Minus=0)/\p.Not=false/\x=0/\y=0
  .grind
  refine ifT ?_ (by grind)
  grind
 by_cases k34:p.Kind=3 \/ p.Kind=4
 .refine ifT (by rcases k34 with h|h<;>simp[h]) (tail _ _ ?_);constructor
  .exact λh=>⟨(h.2.1 k1).1,(h.2.1 k1).2,(h.2.2.2.1 (by omega)).1,(h.2.2.2.1 (by omega)).2,h.2.2.2.2.2⟩
  rintro⟨h1,d,j,l,c⟩;exact⟨by omega,λ_=>⟨h1,d⟩,λh h'=>by omega,λ_=>⟨j,l⟩,λh=>by omega,c⟩
 refine Fe ?_;by_cases k5:p.Kind=5
 .refine Br ?_;by_cases g:p.L.n=1/\0<=p.Min/\p.Min<=32/\(p.Max = -1 \/ (p.Min<=p.Max/\p.Max<=32))
  .refine Fe (tail 0 0 ?_);constructor
   .exact λh=>⟨(h.2.1 k1).1,(h.2.1 k1).2,rfl,rfl,h.2.2.2.2.2⟩
   rintro⟨h1,d,j,l,c⟩;exact⟨by omega,λ_=>⟨h1,d⟩,by omega,λh=>Ke k5 h,λ_=>g,c⟩
  exact Br (bad (by decide) λh=>g (h.2.2.2.2.1 k5))
 exact Fe (bad (by decide) λh=>by have:=h.1;omega)
def Bg8 {x:Sl Pat}{m:Nat}(h:x.n=m+1):x.toList.reverse=x.g m::(x.take m).toList.reverse:=by
 grind[Sl.toList,List.range_succ,List.reverse_append]
def Bx0 (z:Sl Pat)(q:Pat):((z.push Pat.nil).upd z.n q).toList.reverse=q::z.toList.reverse:=by
 rw[Bg8 (m:=z.n) rfl];have e1:((z.push Pat.nil).upd z.n q).g z.n=q:=by simp
 have e2:(((z.push Pat.nil).upd z.n q).take z.n).toList=z.toList:=by
  unfold Sl.toList;refine Cf9 λi a=>?_
  have:i<z.n:=Ch1.1 a
  grind
 rw[e1,e2]
def Ay7 (q:Sl Pat)(c:q.n<N)(hs:q.n<1000000):E3 N q=some ((List.range q.n).reverse.map λ(i:Nat)=>((i:Int),q.g i)):=by
 unfold E3;have h:∀(m:Nat),m<=q.n->∀F,m<F->N3 F (λ(a:Int->Option (List (Int×Pat))) (x1:Int)=>
  if (decide (0<=x1)) then
   if ((0:Int)<=x1/\x1<(q.n:Int))then
    BI (x1,q.g x1.toNat) (
     a (wrap .i64 (x1-1))
     )
   else none
  else
   some []) ((m:Int)-1)=some ((List.range m).reverse.map λ(i:Nat)=>((i:Int),q.g i)):=by
  intro m
  induction m with
  |zero=>
   intro _ F b
   match F,b with
   |F+1,_=>rfl
  |succ m ih=>
   intro hm F b
   match F,b with
   |F+1,b=>rw[U2];rw[show ((m+1:Nat):Int)-1=(m:Int) by omega,Jk (by simp),Jk (by omega),Ut,ih (by omega) F (by omega),Us,Cl1,Ck6,Ct9,Cu3,Cf8];rfl
 rw[Ut]
 grind
def BM5 {k:Nat}(hk:k<=40){c:Sl Pat}{l:List Pat}:chk k ((c.take (min 41 c.n)).toList++l)↔chk k (c.toList++l):=by
 by_cases h:c.n<=41
 .rw[Cr0 h]
 constructor
 .intro a
  have:=TG _ _ a
  rw[Cg1,Y9]at this
  have:(c.take (min 41 c.n)).n=41:=Ck8 (by omega)
  omega
 intro a
 have:=TG _ _ a
 rw[Cg1,Y9]at this;omega
def YW (hN:2000<=N){p:Pat}(hp:okPS p):∃e,AW N p=some e/\(e=0↔chk 40 [p]):=by
 unfold AW;refine S9 (λi x3 x4=>x4=(i:Int)/\x3.n<=1+41*i/\(∀q∈x3.toList.reverse,okPS q)/\(chk 40 [p]↔chk (40-i) x3.toList.reverse)) 40 _ (by omega)
  ⟨rfl,by grind,λq l=>by rw[show (Sl.of [p]:Sl Pat).toList.reverse=[p] from rfl]at l;rw[Ck2.1 l];omega,Cp5⟩ ?_
 rintro x i x3 x4 hi ⟨rfl,h1,c,f⟩ hs;rcases hn:x3.n with _|m
 .refine Dt ⟨0,rfl,λ_=>f.2 ?_,λ_=>rfl⟩
  have:x3.toList.reverse=[]:=by unfold Sl.toList;rw[hn];rfl
  rw[this];exact Bg6 _
 rw[Bg8 hn]at f c;refine Br ?_;by_cases o:i=40
 .subst o;refine Ah ⟨12,rfl,by omega,λh=>?_⟩
  have:(x3.g m::(x3.take m).toList.reverse)=[]:=f.1 h
  grind
 refine Fe ?_;have hw:IntKind.i64.wrap (((m+1:Nat):Int)-1)=(m:Int):=by rw[Ut];omega
 simp only[hw,Us];refine Af (Af ?_);obtain⟨e,y,a⟩:=AU4 (N:=N) (c (x3.g m) (by simp)).is;refine B2 y ?_;rw[show 40-i=(39-i)+1 by omega]at f;by_cases r:e=0
 case neg=>exact Br ⟨e,rfl,λh=>Ke h r,λh=>Ke (a.2 (f.1 h).1) r⟩
 refine Fe ?_;have hc:(ite ((41:Int)<((x3.g m).L.n:Int)) (41:Int) ((x3.g m).L.n:Int))=((min 41 (x3.g m).L.n:Nat):Int):=by split<;>omega
 simp only[hc,Us];refine Af (B2 rfl (B2 (Ay7 _ (by grind) (by grind)) ?_));generalize s:(x3.g m).L.take (min 41 (x3.g m).L.n)=C;have a0:C.n<=41:=by rw[<- s];grind
 refine AU3 (λL z=>∃j,j<=C.n/\L=((List.range j).reverse.map λ(i:Nat)=>((i:Int),C.g i))/\z.n=m+(C.n-j)/\z.toList.reverse=C.toList.drop j++(x3.take m).toList.reverse) ?_ ?_ _ _ ⟨C.n,Ce5 _,rfl,by grind,by rw[KE];rfl⟩
 .rintro z ⟨j,hj,P,hz,b⟩;have u:j=0:=by
   simp_all
  subst u;rw[Cr9]at b;refine hs (by omega) _ _ ⟨Fl,by omega,λq l=>?_,?_⟩
  .rw[b]at l;rcases Cu4.1 l with h|h
   .obtain⟨i',d,rfl⟩:=Cl0.1 h;have d:=Ch1.1 d;rw[<- s]at d⊢;exact (c (x3.g m) (by simp)).L (by grind)
   grind
  rw[b,f,show 40-(i+1)=39-i by omega,<- s,BM5 (by omega)];exact⟨λh=>h.2,λh=>⟨a.1 r,h⟩⟩
 rintro t L z v ⟨j,hj,P,hz,b⟩ w;cases j with
 |zero=>grind
 |succ j=>rw[Cl1,Ck6,Ct9,Cu3,Cf8]at P;obtain⟨rfl,rfl⟩:=List.cons.inj P;have e1:(z.n:Int).toNat=z.n:=Us _;refine Br ?_;refine w _ ⟨j,by omega,rfl,by grind,?_⟩;rw[Bx0,b,IP C (i:=j) (by omega),Ce9]
def wOk (w:Sl Up):Prop:=w.n<=32/\∀i,i<w.n->vS (w.g i)
def Qs {w:Sl Up}(l:w.n<N)(hs:w.n<1000000){f:Up->Option Bool}{b:Nat->Bool}(m:∀i,i<w.n->f (w.g i)=some (b i)) :∃r,C0 N w f=some r/\(r=true ↔ ∃i,i<w.n/\b i=true):=by
 unfold C0 F6
 have:∃y,N3 N (λ(a:Int->Option Int) (x1:Int)=>
  if (decide (x1<(w.n:Int))) then
   if ((0:Int)<=x1/\x1<(w.n:Int))then
    (f (w.g x1.toNat)).bind λy3=>
    if y3 then
     some x1
    else
     a (wrap .i64 (x1+1))
   else none
  else
   some (-1)) 0=some y/\(0<=y ↔ ∃i,i<w.n/\b i=true):=by
  refine Z1 (λi x1=>x1=(i:Int)/\∀j,j<i->b j=false) w.n _ l (by grind) ?_;rintro d i x1 o ⟨rfl,h⟩ c;by_cases hl:i<w.n
  .refine Br (Af (B2 (by rw[Us];exact m i hl) ?_));cases hb:b i
   .refine Dt (c hl _ ⟨Fl,λj q=>?_⟩)
    grind
   grind
  refine Fe ⟨-1,rfl,λh=>Ke h (by decide),?_⟩
  grind
 grind
end Go.AM
