/- Part 9. -/
import Derived.Test.YtcoileenpgjmoaaGreatDoorEF
import Derived.Test.YtcoileenpgjmoaaGreatDoorEG
import Derived.Test.YtcoileenpgjmoaaGreatDoorEH
set_option linter.defProp false
set_option linter.unusedSimpArgs false
set_option linter.unusedVariables false
set_option linter.unusedSectionVars false
namespace Go.AM
def Lw:=@Option.bind_some
def Lp:=@Int.toNat_natCast
def Fc:=@decide_eq_true_eq
def Dn{c:Prop}{i:Decidable c}{α:Sort _}{a b:α}(h:¬c:=by simp;omega):(if c then a else b)=b:=Et h
def Cl{c:Prop}{i:Decidable c}{α:Sort _}{a b:α}(h:¬c:=by omega):(if c then a else b)=b:=Et h
def Cj{c:Prop}{i:Decidable c}{α:Sort _}{a b:α}(h:c:=by simp;omega):(if c then a else b)=a:=Ek h
def Cg{c:Prop}{i:Decidable c}{α:Sort _}{a b:α}(h:c:=by omega):(if c then a else b)=a:=Ek h
open IntKind (wrap)
def Bo7:=@List.flatMap_cons
def Br7:=@Classical.axiomOfChoice
def Bt2:=@List.reverse_append
def Bt3:=@List.length_reverse
def Bt4:=@List.filterMap_cons
def Bu2:=@BitVec.getLsbD_or
def Bv1:=@List.reverse_reverse
def Bv7:=@BitVec.getLsbD_and
def Bv8:=@UInt8.toNat_ofNat'
def Bw9:=@BitVec.eq_of_getLsbD_eq
def Bx0:=@Nat.testBit_two_pow_mul
def Bx1:=@List.cons.inj
def Bx8:=@Nat.testBit_lt_two_pow
def Bx9:=@List.reverse_singleton
def By3:=@List.singleton_append
def By4:=@List.mem_append
def By5:=@List.length_filter_le
def Bz0:=@BitVec.getLsbD_of_ge
def Bz5:=@List.length_take_le
def Bz6:=@List.flatMap_append
def BA5:=@BitVec.getLsbD_not
def BA6:=@Nat.lt_of_le_of_lt
open Go.Proofs
def AD4 {A R:Type}{body:(A->Option R)->A->Option R}(I:Nat->A->Prop)(n:Nat)(M0:R->Prop)
 (b:∀self i a,i<=n->I i a->(i<n->∀a',I (i+1) a' -> ∃r,self a' = some r/\M0 r)->∃r,body self a=some r/\M0 r) :
 ∀(N i:Nat) (a:A),i<=n->I i a->n-i<N->∃r,X5 N body a=some r/\M0 r
 |0,_,_,_,_,h=>by omega
 |N+1,i,a,hi,hI,h=>by rw[I0];exact b _ i a hi hI λc a' d=>AD4 I n M0 b N (i+1) a' c d (by omega)
def GE {A R:Type}{body:(A->Option R)->A->Option R}(I:Nat->A->Prop)(n:Nat)(M0:R->Prop){N:Nat}(c:n<N){a:A}(d:I 0 a)
 (b:∀self i a,i<=n->I i a->(i<n->∀a',I (i+1) a' -> ∃r,self a' = some r/\M0 r)->∃r,body self a=some r/\M0 r):∃r,X5 N body a=some r/\M0 r:=
 AD4 I n M0 b N 0 a (Bn9 _) d c
def W7 {A B R:Type}{body:(A->B->Option R)->A->B->Option R}(I:Nat->A->B->Prop)(n:Nat)(M0:R->Prop){N:Nat}(g:n<N){a:A}{b:B}(j:I 0 a b)
 (d:∀c i a b,i<=n->I i a b->(i<n->∀a' b',I (i+1) a' b' -> ∃r,c a' b' = some r/\M0 r)->∃r,body c a b=some r/\M0 r):∃r,Ca N body a b=some r/\M0 r:=
 AD4 (λi x=>I i x.1 x.2) n M0 (λc i x l m h=>d (λa b=>c (a,b)) i x.1 x.2 l m λhl a' b' f=>h hl (a',b') f) N 0 (a,b) (Bn9 _) j g
def Yj {A B C R:Type}{body:(A->B->C->Option R)->A->B->C->Option R}(I:Nat->A->B->C->Prop)(n:Nat)(M0:R->Prop){N:Nat}(j:n<N){a:A}{b:B}{c:C}(l:I 0 a b c)
 (f:∀d i a b c,i<=n->I i a b c->(i<n->∀a' b' c',I (i+1) a' b' c' -> ∃r,d a' b' c' = some r/\M0 r)->∃r,body d a b c=some r/\M0 r):∃r,Al7 N body a b c=some r/\M0 r:=
 AD4 (λi x=>I i x.1 x.2.1 x.2.2) n M0 (λd i x m o h=>f (λa b c=>d (a,b,c)) i x.1 x.2.1 x.2.2 m o λhl a' b' c' g=>h hl (a',b',c') g) N 0 (a,b,c) (Bn9 _) l j
def B8 {X R:Type}{Q:R->Prop}{o:Option X}{f:X->Option R}{x:X}(h:o=some x)(a:∃r,f x=some r/\Q r):∃r,o.bind f=some r/\Q r:=by subst h;exact a
def ltX {R A:Type}{Q:R->Prop}{k:A->Option R}{f:(A->Option R)->Option R}(h:∃r,f k=some r/\Q r):∃r,lt k f=some r/\Q r:=h
def ifT {R:Type}{Q:R->Prop}{p:Prop}[Decidable p]{a b:Option R}(h:p)(c:∃r,a=some r/\Q r):∃r,(if p then a else b)=some r/\Q r:=by rw[Ek h];exact c
def Aw{R:Type}{Q:R->Prop}{p:Prop}[Decidable p]{a b:Option R}(h2:∃ r,a=some r/\Q r)(h:p:=by decide):∃ r,(if p then a else b)=some r/\Q r:=ifT h h2
def Am{R:Type}{Q:R->Prop}{p:Prop}[Decidable p]{a b:Option R}(h2:∃ r,a=some r/\Q r)(h:p:=by simp):∃ r,(if p then a else b)=some r/\Q r:=ifT h h2
def Al{R:Type}{Q:R->Prop}{p:Prop}[Decidable p]{a b:Option R}(h2:∃ r,a=some r/\Q r)(h:p:=by simp;omega):∃ r,(if p then a else b)=some r/\Q r:=ifT h h2
def Af{R:Type}{Q:R->Prop}{p:Prop}[Decidable p]{a b:Option R}(h2:∃ r,a=some r/\Q r)(h:p:=by omega):∃ r,(if p then a else b)=some r/\Q r:=ifT h h2
def ifF {R:Type}{Q:R->Prop}{p:Prop}[Decidable p]{a b:Option R}(h:¬p)(c:∃r,b=some r/\Q r):∃r,(if p then a else b)=some r/\Q r:=by rw[Et h];exact c
def Bq{R:Type}{Q:R->Prop}{p:Prop}[Decidable p]{a b:Option R}(h2:∃ r,b=some r/\Q r)(h:¬p:=by decide):∃ r,(if p then a else b)=some r/\Q r:=ifF h h2
def Bm{R:Type}{Q:R->Prop}{p:Prop}[Decidable p]{a b:Option R}(h2:∃ r,b=some r/\Q r)(h:¬p:=by simp):∃ r,(if p then a else b)=some r/\Q r:=ifF h h2
def Bl{R:Type}{Q:R->Prop}{p:Prop}[Decidable p]{a b:Option R}(h2:∃ r,b=some r/\Q r)(h:¬p:=by simp;omega):∃ r,(if p then a else b)=some r/\Q r:=ifF h h2
def Ax{R:Type}{Q:R->Prop}{p:Prop}[Decidable p]{a b:Option R}(h2:∃ r,b=some r/\Q r)(h:¬p:=by omega):∃ r,(if p then a else b)=some r/\Q r:=ifF h h2
def D9 {n:Int}(h : -9223372036854775808<=n)(h' : n<=9223372036854775807):IntKind.i64.wrap n=n:=by
 by_cases a:0<=n
 .have h1:n % (2 ^ 64:Int)=n:=Bn6 a (by omega);unfold wrap;simp only[IntKind.bits,IntKind.signed,h1];rw[Et];simp;omega
 have h1:n % (2 ^ 64:Int)=n+2 ^ 64:=by rw[<- Int.add_emod_right];exact Bn6 (by omega) (by omega)
 unfold wrap;simp only[IntKind.bits,IntKind.signed,h1];rw[Ek]
 .omega
 simp;omega
def Mb {n:Int}(h : -9223372036854775808<=n:=by omega)(k : n<=9223372036854775807:=by omega) :IntKind.i64.wrap n=n:=D9 h k
def G1 {i:Nat}(h:i<1000000000000000000):IntKind.i64.wrap ((i:Int)+1)=((i+1:Nat):Int):=by rw[Mb];rfl
def Br{i:Nat}(h:i<1000000000000000000:=by omega):IntKind.i64.wrap ((i:Int)+1)=((i+1:Nat):Int):=G1 h
def AD5 {i:Nat}(a:1<=i)(h:i<1000000000000000000):IntKind.i64.wrap ((i:Int)-1)=((i-1:Nat):Int):=by rw[Mb];omega
def QZ {i j:Nat}(h:i+j<1000000000000000000):IntKind.i64.wrap ((i:Int)+(j:Int))=((i+j:Nat):Int):=by rw[Mb];rfl
end Go.AM
namespace Go.AM
variable {N:Nat}
open Go.Proofs
abbrev sOf (x y:BitVec 32):Kj:=⟨(x.toNat:Int),(y.toNat:Int)⟩
def okS (s:Kj):Prop:=∃p m:BitVec 32,s=sOf p m
def eq0 (x:BitVec 32):((x.toNat:Int)==0)=decide (x=0#32):=by
 rw[Bs6];simp only[beq_iff_eq,Fc];constructor
 .intro h;apply Bn7;show x.toNat=0;omega
 rintro rfl;rfl
def z32 (x:BitVec 32):x=0#32 ↔ ∀i,i<32->x.getLsbD i=false:=by
 constructor
 .rintro rfl i a;simp
 intro h;apply Bw9;intro i a;rw[h i a];simp
def Ap3 (x:BitVec 32):x.toNat<16777216 ↔ ∀i,24<=i->i<32->x.getLsbD i=false:=by
 constructor
 .intro h i a b;exact Bx8 (Bj1 h (Bs8 (n:=2) (i:=24) (by omega) a))
 intro h;refine Nat.lt_pow_two_of_testBit (n:=24) _ λi a=>?_;by_cases c:i<32
 .exact h i a c
 exact Bx8 (Bj1 x.isLt (Bs8 (by omega) (by omega)))
def vB (p m:BitVec 32):Bool:=decide (∀i:Fin 32,¬(p.getLsbD i=true/\m.getLsbD i=true)/\(24<=i.1->p.getLsbD i=false/\m.getLsbD i=false))
def AJ8 (p m:BitVec 32):vB p m=true ↔ ∀i,i<32->¬(p.getLsbD i=true/\m.getLsbD i=true)/\(24<=i->p.getLsbD i=false/\m.getLsbD i=false):=by rw[vB,Fc];exact⟨λh i a=>h ⟨i,a⟩,λh i=>h i.1 i.2⟩
def AD6 (p m:BitVec 32):p &&& m=0#32 ↔ ∀i,i<32->¬(p.getLsbD i=true/\m.getLsbD i=true):=by rw[z32];refine forall_congr' λi=>forall_congr' λa=>?_;rw[Bv7,Bool.and_eq_false_iff];cases p.getLsbD i<;>cases m.getLsbD i<;>simp
def Bd0 (p m:BitVec 32):vB p m=true↔p &&& m=0#32/\(p ||| m).toNat<16777216:=by
 rw[AJ8,AD6,Ap3];constructor
 .intro h;refine⟨λi a=>(h i a).1,λi h1 b=>?_⟩
  have:=(h i b).2 h1
  rw[Bu2,this.1,this.2];rfl
 rintro⟨h1,b⟩ i a;refine⟨h1 i a,λc=>?_⟩
 have:=b i c a
 rw[Bu2,Bool.or_eq_false_iff]at this;exact this
def Da (p m:BitVec 32):H5 N (sOf p m)=some (vB p m):=by unfold H5;rw[SK,Za,eq0];congr 1;rw[Bs6,Bd0];simp only[Bh0,Fc];exact⟨λh=>⟨h.1,by have:=h.2;omega⟩,λh=>⟨h.1,by have:=h.2;omega⟩⟩
def shr24 (x:BitVec 32):(shI .shr .u32 (x.toNat:Int) 24==0)=decide (x.toNat<16777216):=by
 rw[show (24:Int)=((24:Nat):Int) from rfl,AI5,Bs6];simp only[beq_iff_eq,Fc,Bw5,Bv9]
 have:=Nat.div_eq_zero_iff (a:=x.toNat) (b:=2 ^ 24)
 omega
def Wi (p m:BitVec 32):Cy N (sOf p m)=some (vB p m):=by unfold Cy;rw[SK,Za,eq0,shr24];congr 1;rw[Bs6,Bd0];simp only[Bh0,Fc]
def Wj (p m:BitVec 32):R5 N (sOf p m)=some (vB p m):=Wi (N:=N) p m
def Au2 (x y s:BitVec 32):BitVec 32:=(x &&& ~~~ s) ||| (y &&& s)
def AJ9 (p m a b s:BitVec 32):Dp N (sOf p m) (sOf a b) (s.toNat:Int)=some (sOf (Au2 p a s) (Au2 m b s)):=by unfold Dp;simp only[Ac0,SK,Za,Au2]
def chgE (p m c a b:BitVec 32):Kj×Int:=if vB p m=true/\vB a b then (if c.toNat<16777216/\c &&& (a ||| b)=0#32 then (sOf (Au2 p a (c ||| (a ||| b))) (Au2 m b (c ||| (a ||| b))),0)else (⟨0,0⟩,2))else (⟨0,0⟩,14)
def Ae8 (p m c a b:BitVec 32):Z9 N (sOf p m) (c.toNat:Int) (sOf a b)=some (chgE p m c a b):=by
 unfold Z9 chgE;rw[Da];simp only[Lw,lt,Da,Fj,Za,SK,AJ9];cases h1:vB p m
 .simp
 cases g:vB a b
 .simp
 by_cases d:c.toNat<16777216
 .have e:((c &&& (a ||| b)).toNat:Int) != 0 ↔ ¬(c &&& (a ||| b)=0#32):=by
   have:=eq0 (c &&& (a ||| b))
   simp only[bne_iff_ne,ne_eq];rw[<- Fc (p:=c &&& (a ||| b)=0#32),<- this];simp
  by_cases f:c &&& (a ||| b)=0#32
  .simp[d,f];omega
  have e':=e.2 f;rw[Et (by simp<;>omega),e'];simp[d,f]
 simp[d];omega
def takE (p m a b s:BitVec 32):Kj×Int:=if vB p m=true/\vB a b then (if s.toNat<16777216 then (sOf (Au2 p a s) (Au2 m b s),0)else (⟨0,0⟩,2))else (⟨0,0⟩,14)
def AD7 (p m a b s:BitVec 32):Cx N (sOf p m) (sOf a b) (s.toNat:Int)=some (takE p m a b s):=by
 unfold Cx takE;rw[Da];simp only[Lw,lt,Da,AJ9];cases h1:vB p m
 .simp
 cases d:vB a b
 .simp
 by_cases c:s.toNat<16777216
 .simp[c];omega
 simp[c];omega
end Go.AM
namespace Go.AM
open Go.Proofs
def vS (s:Kj):Prop:=∃p m:BitVec 32,s=sOf p m/\vB p m=true
def TO (p:Pat):Prop:= (0<=p.Kind/\p.Kind<=6)/\(p.Kind≠1->(p.Is.Plus=0/\p.Is.Minus=0)/\p.Not=false)/\(p.Kind≠3->p.Kind≠4->p.Kind≠5->p.L.n=0)/\(p.Kind≠5->p.Min=0/\p.Max=0) /\ (p.Kind=5->p.L.n=1/\0<=p.Min/\p.Min<=32/\(p.Max = -1 \/ (p.Min<=p.Max/\p.Max<=32)))/\vS p.Is
def Ap4 {s:Kj}{p m:BitVec 32}(h:s=sOf p m):vS s↔vB p m=true:=by
 constructor
 .rintro⟨q,r,e,a⟩;rw[h]at e;have e1:(p.toNat:Int)=q.toNat:=congrArg Kj.Plus e;have e2:(m.toNat:Int)=r.toNat:=congrArg Kj.Minus e;rw[Bn7 (show p.toNat=q.toNat by omega),Bn7 (show m.toNat=r.toNat by omega)];exact a
 exact λa=>⟨p,m,h,a⟩
def okPS:Pat->Prop
 |.nil=>True
 |.mk _ is _ _ _ n g=>okS is/\∀i,i<n->okPS (g i)
def okPS.is {p:Pat}(h:okPS p):okS p.Is:=by
 cases p with
 |nil=>exact⟨0#32,0#32,rfl⟩
 |mk _ is _ _ _ n g=>exact h.1
def okPS.L {p:Pat}(h:okPS p){i:Nat}(a:i<p.L.n):okPS (p.L.g i):=by
 cases p with
 |nil=>exact Eu a (by show ¬i<0;omega)
 |mk _ is _ _ _ n g=>exact h.2 i a
def chk:Nat->List Pat->Prop
 |0,l=>l=[]
 |_+1,[]=>True
 |k+1,p::l=>TO p/\chk k (p.L.toList++l)
def AS5:∀k,chk k []
 |0=>rfl
 |_+1=>trivial
def TP:∀(k:Nat) (l:List Pat),chk k l->l.length<=k
 |0,l,h=>by rw[show l=[] from h];exact Bh5 _
 |k+1,[],_=>Bn9 _
 |k+1,p::l,⟨_,h⟩=>by
  have:=TP k _ h
  rw[Bj2]at this;simp only[Bj5];omega
def Ae9 {α : Type}{s:Sl α}{i:Nat}(h:i<s.n):s.g i∈s.toList:=Bl0.2 ⟨i,Bk2.2 h,rfl⟩
def GF {α : Type}(s:Sl α):s.toList.length=s.n:=by simp[Sl.toList]
def Yk {α : Type}(s:Sl α){i:Nat}(h:i<s.n):s.toList.drop i=s.g i::s.toList.drop (i+1):=by
 have hl:i<s.toList.length:=by rw[GF];exact h
 rw[Bo8 hl];simp[Sl.toList]
def PP {α : Type}(s:Sl α):s.toList.drop s.n=[]:=Bm5 (by rw[GF];exact Bh5 _)
end Go.AM
namespace Go.AM
open Go.Proofs
def Ap5 (x:BitVec 64)(h:x≠0#64):Lib.ctz 64 x.toNat<64/\x.getLsbD (Lib.ctz 64 x.toNat)=true/\∀j,j<Lib.ctz 64 x.toNat->x.getLsbD j=false:=by
 have b:x.toNat≠0:=λe=>h (Bn7 (by simpa using e));obtain⟨m,hm,a⟩:=Lib.ctzFrom_spec 64 x.toNat (by omega) x.isLt;have e:Lib.ctz 64 x.toNat=Lib.ctzFrom 64 x.toNat:=by unfold Lib.ctz;rw[Et b]
 rw[e];refine⟨a,?_,λj c=>?_⟩
 .show x.toNat.testBit _=true;rw[hm,Bx0];simp[<- hm,Nat.testBit_zero]
 show x.toNat.testBit _=false;rw[hm,Bx0];simp[<- hm];omega
def Ho (x:BitVec 64)(i:Nat):List Int:=((List.range' i (64-i)).filter λj=>x.getLsbD j).map λ(j:Nat)=>(j:Int)
def RW {x:BitVec 64}{i:Nat}(h:∀j,j<64->x.getLsbD j=false):Ho x i=[]:=by
 unfold Ho;rw[List.filter_eq_nil_iff.2 λj a=>by
  have:=List.mem_range'.1 a
  simp;exact h j (by omega)]
 rfl
def RX {x:BitVec 64}{t:Nat}:∀(k i:Nat),t=i+k->t<64->x.getLsbD t=true->(∀j,j<t->x.getLsbD j=false)->Ho x i=(t:Int)::Ho x (t+1)
 |0,i,h,ht,hb,hl=>by
  obtain rfl:t=i:=by omega
  unfold Ho;rw[show 64-t=(64-(t+1))+1 by omega,Bu5,List.filter_cons_of_pos hb];rfl
 |k+1,i,h,ht,hb,hl=>by rw[<- RX k (i+1) (by omega) ht hb hl];unfold Ho;rw[show 64-i=(64-(i+1))+1 by omega,Bu5,List.filter_cons_of_neg (by simp;exact hl i (by omega))]
def Yl {x y:BitVec 64}{i:Nat}(h:∀j,i<=j->x.getLsbD j=y.getLsbD j):Ho x i=Ho y i:=by unfold Ho;rw[List.filter_congr λj a=>h j (by have:=List.mem_range'.1 a;omega)]
def Bg3 (M:Nat)(a:Int->Option (List Int))(x1:Int):Option (List Int):= if (x1 != 0) then (I3 M x1).bind λy3=>if (0:Int)<=y3 then Ak y3 (a (P0 .andNot .u64 x1 (shI .shl .u64 1 y3))) else none else some []
def Ap6 {x:BitVec 64}{M:Nat}{a:Int->Option (List Int)}(hx:x≠0#64):Bg3 M a (U x)=Ak ((Lib.ctz 64 x.toNat:Nat):Int) (a (U (x &&& ~~~(1#64 <<< Lib.ctz 64 x.toNat)))):=by
 have c:x.toNat≠0:=λe=>hx (Bn7 (by simpa using e));have b:=x.isLt;unfold Bg3;rw[Cj]
 have:I3 M (U x)=some ((Lib.ctz 64 x.toNat:Nat):Int):=by unfold I3;rw[Ek ⟨show (0:Int)<=(x.toNat:Int) by omega,show (x.toNat:Int)<18446744073709551616 by omega⟩];rfl
 rw[this,Lw,Cg,AC7 _ (Ap5 x hx).1,AC6]
def Wk {M:Nat}{a:Int->Option (List Int)}:Bg3 M a (U 0#64)=some []:=rfl
def AS6 (M:Nat):∀(k i:Nat) (x:BitVec 64),64-i<=k->(∀j,j<i->x.getLsbD j=false)->∀N,k<N->X5 N (Bg3 M) (U x)=some (Ho x i):=by
 intro k
 induction k with
 |zero=>
  intro i x hk hl N b;have g:x=0#64:=Bw9 λj a=>by simp;exact hl j (by omega)
  subst g
  match N,b with
  |N+1,_=>rw[RW λj a=>by simp,I0,Wk]
 |succ k ih=>
  intro i x hk hl N b
  match N,b with
  |N+1,b=>
   by_cases hx:x=0#64
   .subst hx;rw[RW λj a=>by simp,I0,Wk]
   obtain⟨h1,c,d⟩:=Ap5 x hx;have l:i<=Lib.ctz 64 x.toNat:=by
    by_cases m:Lib.ctz 64 x.toNat<i
    .rw[hl _ m]at c;cases c
    omega
   rw[RX (Lib.ctz 64 x.toNat-i) i (by omega) h1 c d,I0,Ap6 hx];generalize Lib.ctz 64 x.toNat=t at h1 c d l;have hb:∀j,j<64->(x &&& ~~~(1#64 <<< t)).getLsbD j=(x.getLsbD j && !decide (j=t)):=λj a=>by rw[Bv7,BA5,Ao7 h1 a];simp[a]
   have hc:Ho x (t+1)=Ho (x &&& ~~~(1#64 <<< t)) (t+1):=Yl λj a=>by
    by_cases f:j<64
    .rw[hb j f];have:¬j=t:=by omega
     simp[this]
    rw[Bz0 _ _ (by omega),Bz0 _ _ (by omega)]
   rw[ih (t+1) (x &&& ~~~(1#64 <<< t)) (by omega) (λj a=>by
    rw[hb j (by omega)];by_cases e:j=t
    .simp[e]
    rw[d j (by omega)];rfl) N (by omega),<- hc]
   rfl
def PQ (x:BitVec 64){N:Nat}(b:100<=N):T3 N (U x)=some (Ho x 0):=
 AS6 N 64 0 x (by omega) (λj a=>Eu a (by omega)) N (by omega)
def mem_bitsF {x:BitVec 64}{i:Nat}{y:Int}:y∈Ho x i ↔ ∃j:Nat,y=(j:Int)/\i<=j/\j<64/\x.getLsbD j=true:=by
 unfold Ho;simp only[Bl0,Br0,List.mem_range'_1];constructor
 .rintro⟨j,⟨h1,a⟩,rfl⟩;exact⟨j,rfl,h1.1,by omega,a⟩
 rintro⟨j,rfl,h1,a,b⟩;exact⟨j,⟨⟨h1,by omega⟩,b⟩,rfl⟩
def Wl {T A R:Type}{body:(A->Option R)->T->A->Option R}{k:A->Option R}{M0:R->Prop}(J:List T->A->Prop)(c:∀a,J [] a->∃r,k a=some r/\M0 r)
 (b:∀t L a self,J (t::L) a->(∀a',J L a' -> ∃r,self a' = some r/\M0 r)->∃r,body self t a=some r/\M0 r):∀(L:List T) (a:A),J L a->∃r,T2 L body k a=some r/\M0 r
 |[],a,h=>c a h
 |t::L,a,h=>b t L a _ h λa' h'=>Wl J c b L a' h'
def AD8 (f:Nat->Int)(i:Nat)(v:Int)(a:Nat):OM f i v a=if a=i then v else f a:=rfl
def UB (n:Nat)(z:BitVec 64):Prop:=∀b,b<64->z.getLsbD b=true->b<=n
def TU (n:Nat)(f:Nat->Int):Prop:=∀a,∃z:BitVec 64,f a=U z/\UB n z
def TU.zero (n:Nat):TU n (λ_=>0):=λa=>⟨0#64,rfl,λb _ h=>by simp at h⟩
def TU.upd {n:Nat}{f:Nat->Int}(h:TU n f)(i:Nat){z:BitVec 64}(b:UB n z):TU n (OM f i (U z)):=λa=>by
 rw[AD8];split
 .exact⟨z,rfl,b⟩
 exact h a
def UB.or {n:Nat}{u v:BitVec 64}(h:UB n u)(g:UB n v):UB n (u ||| v):=λb hb e=>by rw[Bu2,Bm2]at e;exact e.elim (h b hb) (g b hb)
def UB.one {n k:Nat}(h:k<=n)(hn:n<64):UB n (1#64 <<< k):=λb hb e=>by rw[Ao7 (by omega) hb,Fc]at e;omega
def Bd1 {N n:Nat}{x y:Nat->Int}(c:1000<=N)(hx:TU n x)(hy:TU n y):∃s,P4 N x y=some s/\TU n s:=by
 unfold P4;refine W7 (λi x1 x2=>x2=(i:Int)/\TU n x1) 33 _ (by omega) ⟨rfl,hx⟩ ?_;rintro b i x1 x2 d ⟨rfl,a⟩ hs;by_cases hl:i<33
 .refine Al (Af (Af (hs (by omega) _ _ ⟨Br,?_⟩)));obtain⟨u,e1,g1⟩:=a (0+(i:Int).toNat*1);obtain⟨v,e2,g2⟩:=hy (0+(i:Int).toNat*1);rw[e1,e2,or64];exact a.upd _ (g1.or g2)
 exact Bl ⟨x1,rfl,a⟩
def Kv {N n:Nat}(hn:n<=32)(c:1000<=N):∃s,S9 N (n:Int)=some s/\TU n s:=by
 unfold S9;rw[Br];refine W7 (λi x1 x2=>x2=(i:Int)/\TU n x1) (n+1) _ (by omega) ⟨rfl,TU.zero n⟩ ?_;rintro a i x1 x2 d ⟨rfl,b⟩ hs;by_cases hl:i<=n
 .refine Al (Af (hs (by omega) _ _ ⟨Br,?_⟩));rw[AC7 _ (by omega)];exact b.upd _ (UB.one hl (by omega))
 exact Bl ⟨x1,rfl,b⟩
def TQ {N n:Nat}{x y:Nat->Int}(hn:n<=32)(q:1000<=N)(hx:TU n x)(hy:TU n y):∃s,F1 N x y=some s/\TU n s:=by
 unfold F1;refine W7 (λi x3 x4=>x4=(i:Int)/\TU n x3) 33 _ (by omega) ⟨rfl,TU.zero n⟩ ?_;rintro g i x3 x4 r ⟨rfl,l⟩ hs;by_cases hl:i<33
 .refine Al (Af ?_);obtain⟨u,e1,g1⟩:=hx (0+(i:Int).toNat*1);refine B8 rfl (B8 (x:=Ho u 0) (by rw[e1];exact PQ u (by omega)) ?_);refine Wl (λL z=>TU n z/\∀t∈L,∃c:Nat,t=(c:Int)/\c<=n) ?_ ?_ _ _ ⟨l,λt ht=>?_⟩
  .exact λz m=>hs (by omega) _ _ ⟨Br,m.1⟩
  .rintro t L z d ⟨k1,k2⟩ f;obtain⟨c,rfl,hc⟩:=k2 t (by simp);refine Af (f _ ⟨?_,λt ht=>k2 t (by simp[ht])⟩);obtain⟨a,e2,g2⟩:=k1 (0+(i:Int).toNat*1);obtain⟨b,e3,g3⟩:=hy (0+(c:Int).toNat*1);rw[e2,e3,or64];exact k1.upd _ (g2.or g3)
  obtain⟨j,rfl,_,o,hb⟩:=mem_bitsF.1 ht;exact⟨j,rfl,g1 j o hb⟩
 exact Bl ⟨x3,rfl,l⟩
def AD9 (N:Nat)(x:Nat->Int):O8 N x=F1 N x x:=rfl
end Go.AM
namespace Go.AM
variable {N:Nat}
open Go.Proofs
def Bd2:∀m:Fin 33,shI .shr .i64 ((m.val:Nat):Int) 1=((m.val / 2:Nat):Int):=by decide +kernel
def Zz {N n:Nat}{x:Nat->Int}(hn:n<=32)(d:1000<=N)(hx:TU n x){k:Nat}(hk:k<=32):∃s,G4 N x (k:Int) (n:Int)=some s/\TU n s:=by
 unfold G4;obtain⟨y1,e1,h1⟩:=Kv (N:=N) hn d;refine B8 e1 ?_;refine Yj (λi x1 x2 x3=>x1=((k / 2 ^ i:Nat):Int)/\TU n x2/\TU n x3) 6 _ (by omega) ⟨by simp,hx,h1⟩ ?_;rintro l i x1 x2 x3 m ⟨rfl,f,g⟩ hs;have hm:k / 2 ^ i<=32:=Bl6 (Nat.div_le_self _ _) hk;have b2:=Bd2 ⟨k / 2 ^ i,by omega⟩;simp only at b2;have a:k / 2 ^ i / 2=k / 2 ^ (i+1):=by rw[Nat.div_div_eq_div_mul,Nat.pow_succ]
 obtain⟨sq,esq,b⟩:=TQ hn d f f;rw[<- AD9]at esq;by_cases j:k / 2 ^ i=0
 .exact ifF (by simp[j]) ⟨x3,rfl,g⟩
 have c:i<6:=by
  by_cases h:i<6
  .exact h
  exact Eu (Br8 (BA6 hk (Bj1 (by decide:32<2 ^ 6) (Bs8 (by omega) (by omega))))) j
 refine ifT (decide_eq_true (Int.natCast_pos.2 (Bz7 j))) ?_;obtain⟨t,et,ht⟩:=TQ hn d g f;split
 .exact B8 et (B8 esq (hs c _ _ _ ⟨by rw[b2,a],b,ht⟩))
 exact B8 esq (hs c _ _ _ ⟨by rw[b2,a],b,g⟩)
def AE0 (d:1000<=N){w:Sl Kj}(hw:w.n<=32)(c:Kj)(no:Bool):∃f,AA N ⟨c,no⟩ w=some f/\TU w.n f:=by
 unfold AA;refine W7 (λi x1 x2=>x2=(i:Int)/\TU w.n x1) w.n _ (by omega) ⟨rfl,TU.zero _⟩ ?_;rintro b i x1 x2 g ⟨rfl,a⟩ hs;by_cases hl:i<w.n
 .refine Al (Af ?_);rw[Br];split
  .refine Af (hs hl _ _ ⟨rfl,?_⟩);rw[AC7 _ (by omega)];exact a.upd _ (UB.one (by omega) (by omega))
  exact hs hl _ _ ⟨rfl,a⟩
 exact Bl ⟨x1,rfl,a⟩
def Ap7 {w:Sl Kj}(hw:w.n<=32)(e:Bool):∃f,BR N ⟨e⟩ w=some f/\TU w.n f:=by
 unfold BR;cases e
 .exact Bm (Aw ⟨_,rfl,(TU.zero w.n).upd 0 (z:=1#64 <<< 0) (UB.one (by omega) (by omega))⟩)
 refine ifT rfl (Af ⟨_,rfl,?_⟩);rw[AC7 _ (by omega)];exact (TU.zero w.n).upd _ (UB.one (by omega) (by omega))
def Bd3 (a:1000<=N){w:Sl Kj}(hw:w.n<=32){rec:Part->Sl Kj->Option (Nat->Int)}{m:Nat}(hm:m<=40){g:Nat->Part}
 (hc:∀i,i<m->∃f,rec (g i) w=some f/\TU w.n f):∃f,CO rec N ⟨⟨m,g⟩⟩ w=some f/\TU w.n f:=by
 unfold CO;obtain⟨y1,e1,h1⟩:=Kv (N:=N) hw a;refine B8 e1 ?_;refine W7 (λi x1 x2=>x2=(i:Int)/\TU w.n x1) m _ (by omega) ⟨rfl,h1⟩ ?_;rintro b i x1 x2 l ⟨rfl,c⟩ hs;by_cases hl:i<m
 .refine Al (ifT (by show (0:Int)<=i/\(i:Int)<m;omega) ?_);obtain⟨f,e2,d⟩:=hc i hl;obtain⟨s,e3,j⟩:=TQ hw a c d;exact B8 (by rw[Lp];exact e2) (B8 e3 (hs hl _ _ ⟨Br,j⟩))
 exact Bl ⟨x1,rfl,c⟩
def Bd4 (c:1000<=N){w:Sl Kj}{rec:Part->Sl Kj->Option (Nat->Int)}{m:Nat}(hm:m<=40){g:Nat->Part}
 (hc:∀i,i<m->∃f,rec (g i) w=some f/\TU w.n f):∃f,CP rec N ⟨⟨m,g⟩⟩ w=some f/\TU w.n f:=by
 unfold CP;refine W7 (λi x1 x2=>x2=(i:Int)/\TU w.n x1) m _ (by omega) ⟨rfl,TU.zero _⟩ ?_;rintro a i x1 x2 l ⟨rfl,b⟩ hs;by_cases hl:i<m
 .refine Al (ifT (by show (0:Int)<=i/\(i:Int)<m;omega) ?_);obtain⟨f,e2,d⟩:=hc i hl;obtain⟨s,e3,j⟩:=Bd1 c b d;exact B8 (by rw[Lp];exact e2) (B8 e3 (hs hl _ _ ⟨Br,j⟩))
 exact Bl ⟨x1,rfl,b⟩
def Bd5 (a:1000<=N){w:Sl Kj}(hw:w.n<=32){rec:Part->Sl Kj->Option (Nat->Int)}{pt:Part}{f:Nat->Int}(d:rec pt w=some f)(c:TU w.n f)
 {mn mx:Int}(i:0<=mn) (h1:mn<=32) (j:mx = -1 \/ (mn<=mx/\mx<=32)):∃s,CQ rec N ⟨pt,mn,mx⟩ w=some s/\TU w.n s:=by
 obtain⟨m,rfl⟩:∃m:Nat,mn=(m:Int):=⟨mn.toNat,by omega⟩;unfold CQ;refine B8 d ?_;obtain⟨y2,e2,t2⟩:=Zz hw a c (k:=m) (by omega);refine B8 e2 ?_;obtain⟨y3,e3,t3⟩:=Kv (N:=N) hw a;refine B8 e3 ?_;obtain⟨y4,e4,t4⟩:=Bd1 a c t3;refine B8 e4 ?_;have key:∀(K:Nat),K<=32->∃s,((G4 N y4 (K:Int) (w.n:Int)).bind λy5=>(F1 N y2 y5).bind λy6=>some y6)=some s/\TU w.n s:=by intro K g;obtain⟨y5,e5,t5⟩:=Zz hw a t4 (k:=K) g;obtain⟨y6,e6,t6⟩:=TQ hw a t2 t5;exact B8 e5 (B8 e6 ⟨y6,rfl,t6⟩)
 by_cases hx:mx<0
 .exact ifT (decide_eq_true hx) (key w.n hw)
 refine ifF (by simpa using hx) ?_;obtain⟨M,rfl⟩:∃M:Nat,mx=(M:Int):=⟨mx.toNat,by omega⟩;have b:IntKind.i64.wrap ((M:Int)-(m:Int))=((M-m:Nat):Int):=by rw[Mb];omega
 rw[show IntKind.i64.wrap ((⟨pt,(m:Int),(M:Int)⟩:Bc0).max-(⟨pt,(m:Int),(M:Int)⟩:Bc0).min)=((M-m:Nat):Int) from b];exact key (M-m) (by omega)
def okQ:Nat->Pat->Prop
 |0,_=>False
 |d+1,p=>TO p/\p.L.n<=40/\∀i,i<p.L.n->okQ d (p.L.g i)
def ZA:∀(d:Nat) (p:Pat),okQ d p->okQ (d+1) p
 |0,_,h=>h.elim
 |d+1,p,⟨h1,h2,h3⟩=>⟨h1,h2,λi a=>ZA d _ (h3 i a)⟩
def TR:∀(k:Nat) (l:List Pat),k<=40->chk k l->∀p∈l,okQ k p
 |0,l,_,h,p,hp=>by rw[show l=[] from h]at hp;cases hp
 |k+1,[],_,_,p,hp=>by cases hp
 |k+1,q::l,hk,⟨hn,h⟩,p,hp=>by
  have ih:=TR k _ (by omega) h;rcases Bi4.1 hp with rfl|hp
  .have hl:=TP k _ h;rw[Bj2,GF]at hl;exact⟨hn,by omega,λi a=>ih _ (Bk0 _ (Ae9 a))⟩
  exact ZA k p (ih p (Bj0 _ hp))
def vS.ok {s:Kj}(h:vS s):okS s:=by obtain⟨p,m,e,_⟩:=h;exact⟨p,m,e⟩
def AE1 (K:Nat)(pt:Part):Prop:=∀(w:Sl Kj),w.n<=32->∀M,K<=M->∃f,BU M pt w=some f/\TU w.n f
def RY {N:Nat}(q:1000<=N):∀(d:Nat),d<=40->∀(p:Pat),okQ d p->∀M,N+d<=M->∃pt,BS M p=some pt/\AE1 (N+d) pt
 |0,_,p,h,_,_=>h.elim
 |d+1,hd,p,⟨hn,hc,hch⟩,0,hM=>by omega
 |d+1,hd,p,⟨hn,hc,hch⟩,M+1,hM=>by
  show ∃pt,Z2 (BS M) M p=some pt/\_;unfold Z2;refine W7 (λi x1 x2=>x2=(i:Int)/\x1.n=i/\∀j,j<i->AE1 (N+d) (x1.g j)) p.L.n _ (by omega) ⟨rfl,rfl,λj c=>Eu c (by omega)⟩ ?_;rintro l i x1 x2 o ⟨rfl,t,b⟩ hs;by_cases hl:i<p.L.n
  .refine Al (Af ?_);obtain⟨pt,e,s⟩:=RY q d (by omega) (p.L.g i) (hch i hl) M (by omega);refine B8 (by rw[Lp];exact e) ?_;refine ifT (by show (x1.n+1)*16<=_/\x1.n+1<=_;omega) (hs hl _ _ ⟨Br,by show x1.n+1=i+1;omega,λj c=>?_⟩);show AE1 _ (if j<x1.n then x1.g j else pt);split
   .exact b j (by omega)
   exact s
  obtain rfl:i=p.L.n:=by omega
  have fin:∀(pt:Part),(∀(w:Sl Kj),w.n<=32->∀M,N+d<=M->∃f,BU (M+1) pt w=some f/\TU w.n f)->∃r,some pt=some r/\AE1 (N+(d+1)) r:=by intro pt h;refine⟨pt,rfl,λw hw M' a=>?_⟩;obtain⟨M'',rfl⟩:∃M'',M' = M'' + 1:=⟨M' - 1,by omega⟩;exact h w hw M'' (by omega)
  refine Bm ?_;by_cases k1:p.Kind=1
  .exact ifT (by simp[k1]) (fin _ λw hw M' a=>AE0 (N:=M') (by omega) hw _ _)
  refine ifF (by simp[k1]) ?_;by_cases k2:p.Kind=2
  .exact ifT (by simp[k2]) (fin _ λw hw M' a=>Ap7 (N:=M') hw false)
  refine ifF (by simp[k2]) ?_;by_cases k6:p.Kind=6
  .exact ifT (by simp[k6]) (fin _ λw hw M' a=>Ap7 (N:=M') hw true)
  refine ifF (by simp[k6]) ?_;by_cases k4:p.Kind=4
  .exact ifT (by simp[k4]) (fin _ λw hw M' a=>Bd4 (N:=M') (by omega) (rec:=BU M') (m:=x1.n) (g:=x1.g) (by omega) λi o=>b i (by omega) w hw M' (by omega))
  refine ifF (by simp[k4]) ?_;by_cases k5:p.Kind=5
  .obtain⟨g1,g2,g3,g4⟩:=hn.2.2.2.2.1 k5;refine ifT (by simp[k5]) (Af (fin _ λw hw M' a=>?_));obtain⟨f,e,h⟩:=b 0 (by omega) w hw M' (by omega);exact Bd5 (N:=M') (by omega) hw (rec:=BU M') e h g2 g3 g4
  exact ifF (by simp[k5]) (fin _ λw hw M' a=>Bd3 (N:=M') (by omega) hw (rec:=BU M') (m:=x1.n) (g:=x1.g) (by omega) λi o=>b i (by omega) w hw M' (by omega))
end Go.AM
namespace Go.AM
variable {N:Nat}
open IntKind (wrap)
open Go.Proofs
def Af0 {p:Pat}(hp:okS p.Is):∃e,BP N p=some e/\(e=0↔TO p):=by
 obtain⟨a,b,i⟩:=hp;have m:=Ap4 i;have V:R5 N p.Is=some (vB a b):=by rw[i];exact Wj a b
 have e0:((p.Is.Plus==0)&&(p.Is.Minus==0))=decide (p.Is.Plus=0/\p.Is.Minus=0):=by rw[Bs6];simp
 have fin:(TO p↔vS p.Is)->∃e,((R5 N p.Is).bind λy1=>if (!y1) then some (14:Int)else some 0)=some e/\(e=0↔TO p):=by
  intro c;rw[V];refine B8 rfl ?_;rw[c,m];cases vB a b
  .exact ifT rfl ⟨14,rfl,by simp⟩
  exact Bm ⟨0,rfl,by simp⟩
 have bad:∀{x:Int},x≠0->¬TO p->∃e,some x=some e/\(e=0↔TO p):=λhx h=>⟨_,rfl,λd=>Eu d hx,λd=>Eu d h⟩;unfold BP;by_cases hk:p.Kind=0 \/ p.Kind=2 \/ p.Kind=6
 .refine ifT (by rcases hk with h|h|h<;>simp[h]) (ltX ?_);rw[e0];by_cases g1:p.Is.Plus=0/\p.Is.Minus=0
  case neg=>exact ifT (by simp[g1]) (ifT rfl (bad (by decide) λh=>g1 (h.2.1 (by omega)).1))
  refine ifF (by simp[g1]) ?_;by_cases g2:p.Not=true
  .exact ifT g2 (ifT rfl (bad (by decide) λh=>by have:=(h.2.1 (by omega)).2;rw[g2]at this;cases this))
  refine ifF g2 ?_;by_cases g3:p.Min=0
  case neg=>exact ifT (by simp[g3]) (ifT rfl (bad (by decide) λh=>g3 (h.2.2.2.1 (by omega)).1))
  refine ifF (by simp[g3]) ?_;by_cases g4:p.Max=0
  case neg=>exact ifT (by simp[g4]) (ifT rfl (bad (by decide) λh=>g4 (h.2.2.2.1 (by omega)).2))
  refine ifF (by simp[g4]) ?_;by_cases g5:p.L.n=0
  case neg=>exact Al (bad (by decide) λh=>g5 (h.2.2.1 (by omega) (by omega) (by omega)))
  refine Bl (fin ?_);exact⟨λh=>h.2.2.2.2.2,λh=>⟨by omega,λ_=>⟨g1,by simpa using g2⟩,λ_ _ _=>g5,λ_=>⟨g3,g4⟩,λf=>by omega,h⟩⟩
 refine ifF (by simp only[not_or]at hk;simp[hk]) ?_;by_cases k1:p.Kind=1
 .refine ifT (by simp[k1]) (ltX ?_);refine Bm ?_;by_cases g3:p.Min=0
  case neg=>exact ifT (by simp[g3]) (ifT rfl (bad (by decide) λh=>g3 (h.2.2.2.1 (by omega)).1))
  refine ifF (by simp[g3]) ?_;by_cases g4:p.Max=0
  case neg=>exact ifT (by simp[g4]) (ifT rfl (bad (by decide) λh=>g4 (h.2.2.2.1 (by omega)).2))
  refine ifF (by simp[g4]) ?_;by_cases g5:p.L.n=0
  case neg=>exact Al (bad (by decide) λh=>g5 (h.2.2.1 (by omega) (by omega) (by omega)))
  refine Bl (fin ?_);exact⟨λh=>h.2.2.2.2.2,λh=>⟨by omega,λh1=>Eu k1 h1,λ_ _ _=>g5,λ_=>⟨g3,g4⟩,λf=>by omega,h⟩⟩
 refine ifF (by simp[k1]) (ltX ?_);rw[e0];have tail:∀(x y:Int),(TO p↔(p.Is.Plus=0/\p.Is.Minus=0)/\p.Not=false/\x=0/\y=0/\vS p.Is)->∃e,(if (((((decide (p.Is.Plus=0/\p.Is.Minus=0) != true)||p.Not)||(x != 0))||(y != 0))||(decide (0<0))) then some (2:Int)else
  (R5 N p.Is).bind λy3=>if (!y3) then some 14 else some 0)=some e/\(e=0↔TO p):=by
  intro x y c;by_cases g:(p.Is.Plus=0/\p.Is.Minus=0)/\p.Not=false/\x=0/\y=0
  .obtain⟨g1,g2,g3,g4⟩:=g;exact ifF (by simp[g1,g2,g3,g4]) (fin (c.trans ⟨λh=>h.2.2.2.2,λh=>⟨g1,g2,g3,g4,h⟩⟩))
  refine ifT ?_ (bad (by decide) λh=>g ⟨(c.1 h).1,(c.1 h).2.1,(c.1 h).2.2.1,(c.1 h).2.2.2.1⟩);simp only[Bm2,bne_iff_ne,ne_eq,Fc];by_cases g1:p.Is.Plus=0/\p.Is.Minus=0
  .by_cases g2:p.Not=true
   .simp[g2]
   by_cases g3:x=0
   .have:¬y=0:=λg4=>g ⟨g1,by simpa using g2,g3,g4⟩
    simp[this]
   simp[g3]
  simp[g1]
 by_cases k34:p.Kind=3 \/ p.Kind=4
 .refine ifT (by rcases k34 with h|h<;>simp[h]) (tail _ _ ?_);constructor
  .exact λh=>⟨(h.2.1 k1).1,(h.2.1 k1).2,(h.2.2.2.1 (by omega)).1,(h.2.2.2.1 (by omega)).2,h.2.2.2.2.2⟩
  rintro⟨h1,d,j,l,f⟩;exact⟨by omega,λ_=>⟨h1,d⟩,λh h'=>by omega,λ_=>⟨j,l⟩,λh=>by omega,f⟩
 refine ifF (by simp only[not_or]at k34;simp[k34]) ?_;by_cases k5:p.Kind=5
 .refine ifT (by simp[k5]) ?_;by_cases g:p.L.n=1/\0<=p.Min/\p.Min<=32/\(p.Max = -1 \/ (p.Min<=p.Max/\p.Max<=32))
  .refine ifF (by simp only[Bm2,Bh0,bne_iff_ne,ne_eq,Fc];omega) (tail 0 0 ?_);constructor
   .exact λh=>⟨(h.2.1 k1).1,(h.2.1 k1).2,rfl,rfl,h.2.2.2.2.2⟩
   rintro⟨h1,d,j,l,f⟩;exact⟨by omega,λ_=>⟨h1,d⟩,λ_ _ h=>Eu k5 h,λh=>Eu k5 h,λ_=>g,f⟩
  exact ifT (by simp only[Bm2,Bh0,bne_iff_ne,ne_eq,Fc];omega) (bad (by decide) λh=>g (h.2.2.2.2.1 k5))
 exact ifF (by simp[k5]) (bad (by decide) λh=>by have:=h.1;omega)
def Ap8 {x:Sl Pat}{m:Nat}(h:x.n=m+1):x.toList.reverse=x.g m::(x.take m).toList.reverse:=by unfold Sl.toList;rw[h,Bs5,Bp2,Bt2];rfl
def AE2 (z:Sl Pat)(q:Pat):((z.push Pat.nil).upd z.n q).toList.reverse=q::z.toList.reverse:=by
 rw[Ap8 (m:=z.n) rfl];have e1:((z.push Pat.nil).upd z.n q).g z.n=q:=by simp
 have e2:(((z.push Pat.nil).upd z.n q).take z.n).toList=z.toList:=by
  unfold Sl.toList;refine Bj8 λi a=>?_
  have:i<z.n:=Bk2.1 a
  show (if i=z.n then q else if i<z.n then z.g i else Pat.nil)=z.g i;rw[Cl,Ek this]
 rw[e1,e2]
def Ym (q:Sl Pat)(c:q.n<N)(hs:q.n<1000000):E3 N q=some ((List.range q.n).reverse.map λ(i:Nat)=>((i:Int),q.g i)):=by
 unfold E3;have h:∀(m:Nat),m<=q.n->∀F,m<F->X5 F (λ(a:Int->Option (List (Int×Pat))) (x1:Int)=>
  if (decide (0<=x1)) then
   if ((0:Int)<=x1/\x1<(q.n:Int))then
    Ak (x1,q.g x1.toNat) (
     a (wrap .i64 (x1-1))
     )
   else none
  else
   some []) ((m:Int)-1)=some ((List.range m).reverse.map λ(i:Nat)=>((i:Int),q.g i)):=by
  intro m
  induction m with
  |zero=>
   intro _ F b
   match F,b with
   |F+1,_=>rfl
  |succ m ih=>
   intro hm F b
   match F,b with
   |F+1,b=>rw[I0];rw[show ((m+1:Nat):Int)-1=(m:Int) by omega,Ek (by simp),Cg,Mb,ih (by omega) F (by omega),Lp,Bs5,Bt2,Bx9,By3,Bi8];rfl
 rw[Mb];exact h q.n (Bh5 _) N c
def AS7 {k:Nat}(hk:k<=40){c:Sl Pat}{l:List Pat}:chk k ((c.take (min 41 c.n)).toList++l)↔chk k (c.toList++l):=by
 by_cases h:c.n<=41
 .rw[Nat.min_eq_right h]
 constructor
 .intro a
  have:=TP _ _ a
  rw[Bj2,GF]at this
  have:(c.take (min 41 c.n)).n=41:=Bq8 (by omega)
  omega
 intro a
 have:=TP _ _ a
 rw[Bj2,GF]at this;omega
def TT (hN:2000<=N){p:Pat}(hp:okPS p):∃e,AB N p=some e/\(e=0↔chk 40 [p]):=by
 unfold AB;refine W7 (λi x3 x4=>x4=(i:Int)/\x3.n<=1+41*i/\(∀q∈x3.toList.reverse,okPS q)/\(chk 40 [p]↔chk (40-i) x3.toList.reverse)) 40 _ (by omega)
  ⟨rfl,by show 1<=_;omega,λq l=>by rw[show (Sl.of [p]:Sl Pat).toList.reverse=[p] from rfl]at l;rw[Bm6.1 l];exact hp,Bt0⟩ ?_
 rintro x i x3 x4 hi ⟨rfl,h1,c,f⟩ hs;rcases hn:x3.n with _|m
 .refine Bm ⟨0,rfl,λ_=>f.2 ?_,λ_=>rfl⟩
  have:x3.toList.reverse=[]:=by unfold Sl.toList;rw[hn];rfl
  rw[this];exact AS5 _
 rw[Ap8 hn]at f c;refine ifT (decide_eq_true (by omega)) ?_;by_cases r:i=40
 .subst r;refine Am ⟨12,rfl,λh=>Eu h (by decide),λh=>?_⟩
  have:(x3.g m::(x3.take m).toList.reverse)=[]:=f.1 h
  cases this
 refine Bl ?_;have hw:IntKind.i64.wrap (((m+1:Nat):Int)-1)=(m:Int):=by rw[Mb];omega
 simp only[hw,Lp];refine Af (Af ?_);obtain⟨e,y,a⟩:=Af0 (N:=N) (c (x3.g m) (by simp)).is;refine B8 y ?_;rw[show 40-i=(39-i)+1 by omega]at f;by_cases o:e=0
 case neg=>exact ifT (by simp[o]) ⟨e,rfl,λh=>Eu h o,λh=>Eu (a.2 (f.1 h).1) o⟩
 refine ifF (by simp[o]) ?_;have hc:(if (41:Int)<((x3.g m).L.n:Int)then (41:Int)else ((x3.g m).L.n:Int))=((min 41 (x3.g m).L.n:Nat):Int):=by split<;>omega
 simp only[hc,Lp];refine Af (B8 rfl (B8 (Ym _ (by show min 41 _<N;omega) (by show min 41 _<1000000;omega)) ?_));generalize s:(x3.g m).L.take (min 41 (x3.g m).L.n)=C;have a0:C.n<=41:=by rw[<- s];exact Nat.min_le_left _ _
 refine Wl (λL z=>∃j,j<=C.n/\L=((List.range j).reverse.map λ(i:Nat)=>((i:Int),C.g i))/\z.n=m+(C.n-j)/\z.toList.reverse=C.toList.drop j++(x3.take m).toList.reverse) ?_ ?_ _ _ ⟨C.n,Bh5 _,rfl,by show m=_;omega,by rw[PP];rfl⟩
 .rintro z ⟨j,hj,hL,hz,b⟩;have u:j=0:=by
   cases j with
   |zero=>rfl
   |succ j=>simp[Bs5]at hL
  subst u;rw[Bw0]at b;refine hs (by omega) _ _ ⟨Br,by omega,λq l=>?_,?_⟩
  .rw[b]at l;rcases By4.1 l with h|h
   .obtain⟨i',d,rfl⟩:=Bl0.1 h;have d:=Bk2.1 d;rw[<- s]at d⊢;exact (c (x3.g m) (by simp)).L (Bj1 d (Nat.min_le_right _ _))
   exact c q (by simp[h])
  rw[b,f,show 40-(i+1)=39-i by omega,<- s,AS7 (by omega)];exact⟨λh=>h.2,λh=>⟨a.1 o,h⟩⟩
 rintro t L z v ⟨j,hj,hL,hz,b⟩ w;cases j with
 |zero=>simp at hL
 |succ j=>rw[Bs5,Bt2,Bx9,By3,Bi8]at hL;obtain⟨rfl,rfl⟩:=Bx1 hL;have e1:(z.n:Int).toNat=z.n:=Lp _;refine ifT ⟨⟨⟨by show (z.n+1)*64<=_;omega,by show z.n+1<=_;omega⟩,by show (0:Int)<=_/\(z.n:Int)<((z.n+1:Nat):Int);omega⟩,by show z.n<z.n+1;omega⟩ ?_;refine w _ ⟨j,by omega,rfl,by show z.n+1=_;omega,?_⟩;rw[AE2,b,Yk C (i:=j) (by omega),Bj7]
end Go.AM
namespace Go.AM
open IntKind (wrap)
open Go.Proofs
def wOk (w:Sl Kj):Prop:=w.n<=32/\∀i,i<w.n->vS (w.g i)
def Ng {N:Nat}{w:Sl Kj}(m:w.n<N)(hs:w.n<1000000){f:Kj->Option Bool}{b:Nat->Bool}(o:∀i,i<w.n->f (w.g i)=some (b i)) :∃r,B7 N w f=some r/\(r=true ↔ ∃i,i<w.n/\b i=true):=by
 unfold B7 F0
 have:∃y,X5 N (λ(a:Int->Option Int) (x1:Int)=>
  if (decide (x1<(w.n:Int))) then
   if ((0:Int)<=x1/\x1<(w.n:Int))then
    (f (w.g x1.toNat)).bind λy3=>
    if y3 then
     some x1
    else
     a (wrap .i64 (x1+1))
   else none
  else
   some (-1)) 0=some y/\(0<=y ↔ ∃i,i<w.n/\b i=true):=by
  refine GE (λi x1=>x1=(i:Int)/\∀j,j<i->b j=false) w.n _ m ⟨rfl,λj c=>Eu c (by omega)⟩ ?_;rintro l i x1 q ⟨rfl,h⟩ d;by_cases hl:i<w.n
  .refine Al (Af (B8 (by rw[Lp];exact o i hl) ?_));cases hb:b i
   .refine Bm (d hl _ ⟨Br,λj c=>?_⟩);by_cases e:j=i
    .subst e;exact hb
    exact h j (by omega)
   exact ifT rfl ⟨i,rfl,λ_=>⟨i,hl,hb⟩,λ_=>by omega⟩
  refine Bl ⟨-1,rfl,λh=>Eu h (by decide),?_⟩;rintro⟨j,c,hb⟩;rw[h j (by omega)]at hb;cases hb
 obtain⟨y,e,hy⟩:=this;exact B8 e ⟨_,rfl,by rw[Fc];exact hy⟩
def Wm {N:Nat}(v:3000<=N){p:Pat}(hp:okPS p){w:Sl Kj}(hs:w.n<1000000/\w.n+1000<N)(hw:∀i,i<w.n->okS (w.g i)) :∃r,Ba N p w=some r/\(r.2=0->wOk w/\TU w.n r.1):=by
 unfold Ba;obtain⟨e,d,hc⟩:=TT (N:=N) (by omega) hp;refine B8 d ?_;by_cases j:e=0
 case neg=>exact ifT (by simp[j]) ⟨_,rfl,λh=>Eu h j⟩
 refine ifF (by simp[j]) ?_;by_cases hn:32<w.n
 .exact Al ⟨_,rfl,λh=>Eu h (by decide)⟩
 refine Bl ?_;have q:∀i,∃b:Bool,i<w.n->W3 N (w.g i)=some b/\(b=true ↔ ¬vS (w.g i)):=by
  intro i;by_cases a:i<w.n
  .obtain⟨x,y,d⟩:=hw i a;refine⟨!vB x y,λ_=>⟨?_,?_⟩⟩
   .unfold W3;rw[d,Wj];rfl
   rw[Ap4 d];cases vB x y<;>simp
  exact⟨false,λh=>Eu h a⟩
 obtain⟨b,hb⟩:=Br7 q;obtain⟨r,s,l⟩:=Ng (N:=N) (by omega) hs.1 (f:=λu1=>W3 N u1) λi a=>(hb i a).1;refine B8 s ?_;by_cases c:r=true
 .exact ifT c ⟨_,rfl,λh=>Eu h (by decide)⟩
 refine ifF c ?_;have m:wOk w:=⟨by omega,λi a=>Bk9 λo=>c (l.2 ⟨i,a,(hb i a).2.2 o⟩)⟩;obtain⟨pt,ep,t⟩:=RY (N:=1000) (by omega) 40 (Bh5 _) p (TR 40 [p] (Bh5 _) (hc.1 j) p (by simp)) N (by omega);obtain⟨f,ef,u⟩:=t w (by omega) N (by omega);exact B8 ep (B8 ef ⟨_,rfl,λ_=>⟨m,u⟩⟩)
end Go.AM
namespace Go.AM
variable {N:Nat}
open Go.Proofs
def Ap9 (f:3000<=N){p:Pat}(hp:okPS p){w:Sl Kj}(hs:w.n<1000000/\w.n+1000<N)(hw:∀i,i<w.n->okS (w.g i))(k:Nat) :∃r,CR N p w (k:Int)=some r/\(r.1.n≠0->wOk w):=by
 unfold CR;obtain⟨y,e,h1⟩:=Wm f hp hs hw;refine B8 e (ltX ?_);by_cases c:y.2=0
 case neg=>exact ifF (by simp[c]) (ifT (by simp[c]) ⟨_,rfl,λh=>Eu rfl h⟩)
 refine ifT (by simp[c]) ?_;obtain⟨a,j⟩:=h1 c;have hn:=a.1;unfold AX;split
 .exact B8 rfl (Aw ⟨_,rfl,λh=>Eu rfl h⟩)
 refine B8 rfl (Bm ?_);rw[Br];refine W7 (λi x2 x3=>x3=(i:Int)/\x2.n<=i) (w.n+1) _ (by omega) ⟨rfl,Bh5 _⟩ ?_;rintro d i x2 x3 l ⟨rfl,g1⟩ b;by_cases hl:i<=w.n
 .refine Al (Af ?_);split
  .exact ifT (by show (x2.n+1)*8<=_/\x2.n+1<=_;omega) (b (by omega) _ _ ⟨Br,by show x2.n+1<=_;omega⟩)
  exact b (by omega) _ _ ⟨Br,by omega⟩
 exact Bl ⟨_,rfl,λ_=>a⟩
def Yn (L:List Int)(hL:L.length<1000):∃s,O9 N L=some s/\s.n=L.length:=by
 unfold O9 J4
 have:∃s:Sl Int,T2 L (λ(a:Sl Int->Option (Sl Int)) (x1:Int) (z1:Sl Int)=>
  if (Kl 8 (z1.n+(Sl.of [x1]:Sl Int).n))then
   a (z1.push x1)
  else none
  ) (λ(z1:Sl Int)=>some z1) Iy=some s/\s.n=L.length:=by
  refine Wl (λl z=>z.n+l.length=L.length) (λz h=>⟨z,rfl,by simpa using h⟩) (λt l z b h hs=>?_) L _ (by simp);simp only[Bj5]at h;exact ifT (by show (z.n+1)*8<=_/\z.n+1<=_;omega) (hs _ (by show z.n+1+l.length=_;omega))
 obtain⟨s,e,hn⟩:=this;exact B8 e ⟨s,rfl,hn⟩
def AS8 (c:3000<=N){p:Pat}(hp:okPS p){w:Sl Kj}(hs:w.n<1000000/\w.n+1000<N)(hw:∀i,i<w.n->okS (w.g i))(k:Nat) :∃r,Fl N p w (k:Int)=some r/\(r.1.n≠0->k<=w.n):=by
 unfold Fl;obtain⟨y,e,h1⟩:=Wm c hp hs hw;refine B8 e (ltX ?_);by_cases a:y.2=0
 case neg=>exact ifF (by simp[a]) (ifT (by simp[a]) ⟨_,rfl,λh=>Eu rfl h⟩)
 refine ifT (by simp[a]) ?_;obtain⟨b,d⟩:=h1 a;have hn:=b.1;unfold AX;by_cases f:w.n<k
 .rw[Cj];exact B8 rfl (Aw ⟨_,rfl,λh=>Eu rfl h⟩)
 rw[Dn];refine B8 rfl (Bm (Af ?_));obtain⟨u,e1,g1⟩:=d (0+(k:Int).toNat*1);refine B8 rfl (B8 (x:=Ho u 0) (by rw[e1];exact PQ u (by omega)) ?_);obtain⟨s,es,_⟩:=Yn (N:=N) (Ho u 0) (by unfold Ho;rw[Bj9];exact BA6 (By5 _ _) (by simp))
 exact B8 es ⟨_,rfl,λ_=>by omega⟩
end Go.AM
namespace Go.AM
open IntKind (wrap)
open Go.Proofs
def Bd6 (w:Sl Kj)(e:Int):Prop:=(32<w.n/\e=11) \/ (w.n<=32/\(∃i,i<w.n/\¬vS (w.g i))/\e=14) \/ (wOk w/\e=0)
def Bd7 {w:Sl Kj}{e e' : Int}(h:Bd6 w e)(h' : Bd6 w e'):e=e':=by
 rcases h with⟨h1,a⟩ | ⟨h1,⟨i,b,c⟩,a⟩ | ⟨h1,a⟩<;>rcases h' with⟨g1,g2⟩ | ⟨g1,⟨j,d,gv⟩,g2⟩ | ⟨g1,g2⟩
 .omega
 .omega
 .have:=g1.1;omega
 .omega
 .omega
 .exact Eu (g1.2 i b) c
 .have:=h1.1;omega
 .exact Eu (h1.2 j d) gv
 omega
def IO {w:Sl Kj}{e:Int}(h:Bd6 w e):e=0↔wOk w:=by
 rcases h with⟨h1,a⟩ | ⟨h1,⟨i,b,c⟩,a⟩ | ⟨h1,a⟩
 .exact⟨λh=>by omega,λh=>by have:=h.1;omega⟩
 .exact⟨λh=>by omega,λh=>Eu (h.2 i b) c⟩
 exact⟨λ_=>h1,λ_=>a⟩
def Aq0 {N:Nat}(o:1000<=N){w:Sl Kj}(hw:∀i,i<w.n->okS (w.g i))(V:Kj->Option Bool)(f:∀p m:BitVec 32,V (sOf p m)=some (vB p m)) :∃e,(if (decide (32<(w.n:Int))) then
 some (11:Int)
 else
  X5 N (λa (x1:Int)=>
   if (decide (x1<(w.n:Int))) then
    if ((0:Int)<=x1/\x1<(w.n:Int))then
     (V (w.g x1.toNat)).bind λy3=>
     if (!y3) then
      some 14
     else
      a (wrap .i64 (x1+1))
    else none
   else
    some 0
   ) 0)=some e/\Bd6 w e:=by
 by_cases hn:32<w.n
 .exact Al ⟨11,rfl,.inl ⟨hn,rfl⟩⟩
 refine Bl ?_;refine GE (λi x1=>x1=(i:Int)/\∀j,j<i->vS (w.g j)) w.n _ (by omega) ⟨rfl,λj b=>Eu b (by omega)⟩ ?_;rintro d i x1 q ⟨rfl,h⟩ hs;by_cases hl:i<w.n
 .obtain⟨p,m,c⟩:=hw i hl;refine Al (Af (B8 (by rw[Lp,c];exact f p m) ?_));cases hb:vB p m
  .refine ifT rfl ⟨14,rfl,.inr (.inl ⟨by omega,⟨i,hl,λl=>?_⟩,rfl⟩)⟩
   have:=(Ap4 c).1 l;rw[hb]at this;cases this
  refine Bm (hs hl _ ⟨Br,λj b=>?_⟩);by_cases e:j=i
  .subst e;exact (Ap4 c).2 hb
  exact h j (by omega)
 exact Bl ⟨0,rfl,.inr (.inr ⟨⟨by omega,λj b=>h j (by omega)⟩,rfl⟩)⟩
def LH {N:Nat}(a:1000<=N){w:Sl Kj}(hw:∀i,i<w.n->okS (w.g i)):∃e,W8 N w=some e/\Bd6 w e:=
 Aq0 a hw (Cy N) λp m=>Wi p m
end Go.AM
namespace Go.AM
open Go.Proofs
def AS9 {N:Nat}{s c:Kj}(hs:okS s)(hc:okS c):∃b,S0 N s c=some b:=by
 obtain⟨p,m,rfl⟩:=hs;obtain⟨a,b,rfl⟩:=hc;unfold S0;rw[Da];simp only[Lw,lt,Da]
 repeat' split
 all_goals exact⟨_,rfl⟩
def okL (l:Law):Prop:=okPS l.Left/\okPS l.Right/\∀i,i<l.If.n->okS (l.If.g i)
def okW (w:Sl Kj):Prop:=w.n<1000/\∀i,i<w.n->okS (w.g i)
def Aq1 {N:Nat}(a:3000<=N){l:Law}(hl:okL l)(hk:l.If.n<=4){w:Sl Kj}(hw:okW w)(i:Nat)(f:i<2000) :∃b,Aa N (i:Int) l w=some b/\(b=true->wOk w/\i+l.If.n<=w.n):=by
 unfold Aa;have hs:w.n<1000000/\w.n+1000<N:=⟨by have:=hw.1;omega,by have:=hw.1;omega⟩;obtain⟨y1,e1,h1⟩:=Ap9 (N:=N) a hl.1 hs hw.2 i;refine B8 e1 ?_;by_cases c:y1.1.n=0
 .exact ifT (by simp[c]) ⟨false,rfl,by simp⟩
 refine Bl ?_;rw[QZ (by omega)];obtain⟨y2,e2,d⟩:=AS8 (N:=N) a hl.2.1 hs hw.2 (i+l.If.n);refine B8 e2 ⟨_,rfl,λh=>⟨h1 c,d ?_⟩⟩;rw[Fc]at h;omega
end Go.AM
namespace Go.AM
open IntKind (wrap)
open Go.Proofs
def hitL (l:Law)(w:Sl Kj):Nat->List Int->Prop
 |_,[]=>True
 |i,t::L=>∃j:Nat,t=(j:Int)/\i<=j/\j+l.If.n<=w.n/\wOk w/\hitL l w (j+1) L
def hitL.le {l:Law}{w:Sl Kj}{i j:Nat}(h:i<=j):∀{L:List Int},hitL l w j L->hitL l w i L
 |[],_=>trivial
 |t::L,⟨k,h1,h2,h3⟩=>⟨k,h1,by omega,h3⟩
def Aq2 {N:Nat}(x:3000<=N){l:Law}(hl:okL l)(hk:l.If.n<=4){w:Sl Kj}(hw:okW w)(i:Nat)(u:i<1500):∃L,AD N l w (i:Int)=some L/\hitL l w i L:=by
 unfold AD;show ∃L,(some (l,w)).bind _=some L/\_;rw[Lw];simp only[]
 suffices h:∀(k i:Nat),i<1501->w.n+1-i<=k->∀F,k<F->∃r,X5 F (λ(a:Int->Option (List Int)) (x2:Int)=>
  if (decide ((wrap .i64 (x2+(l.If.n:Int)))<=(w.n:Int))) then
   X5 N (λ(c:Int->Option (List Int)) (x4:Int)=>
    if (decide (x4<(l.If.n:Int))) then
     if ((0:Int)<=x4/\x4<(l.If.n:Int))then
      if ((0:Int)<=(wrap .i64 (x2+x4))/\(wrap .i64 (x2+x4))<(w.n:Int))then
       (S0 N (w.g (wrap .i64 (x2+x4)).toNat) (l.If.g x4.toNat)).bind λq=>
       if (!q) then
        a (wrap .i64 (x2+1))
       else
        c (wrap .i64 (x4+1))
      else none
     else none
    else
     (Aa N x2 l w).bind λs=>
     if s then
      Ak x2 (
       a (wrap .i64 (x2+1))
       )
     else
      a (wrap .i64 (x2+1))
    ) 0
  else
   some []
  ) (i:Int)=some r/\hitL l w i r from h (w.n+1-i) i (by omega) (Bh5 _) N (by have:=hw.1;omega)
 have y:=hw.1;intro k
 induction k with
 |zero=>
  intro i u t F m
  match F,m with
  |F+1,_=>rw[I0,QZ (by omega)];exact Bl ⟨_,rfl,trivial⟩
 |succ k ih=>
  intro i u t F m
  match F,m with
  |F+1,m=>
   rw[I0,QZ (by omega)];by_cases hn:i+l.If.n<=w.n
   case neg=>exact Bl ⟨_,rfl,trivial⟩
   refine Al ?_;obtain⟨r,o,d⟩:=ih (i+1) (by omega) (by omega) F (by omega);rw[<- Br]at o;refine GE (λj x1=>x1=(j:Int)) l.If.n _ (by omega) rfl ?_;rintro v j x1 z rfl hs;by_cases f:j<l.If.n
   .rw[QZ (by omega)];refine Al (Af (Af ?_));obtain⟨b,eb⟩:=AS9 (N:=N) (hw.2 (i+j) (by omega)) (hl.2.2 j f);refine B8 (by rw[Lp,Lp];exact eb) ?_;cases b
    .exact ifT rfl ⟨r,o,d.le (by omega)⟩
    exact Bm (hs f _ (Br))
   refine Bl ?_;obtain⟨b,eb,hb⟩:=Aq1 x hl hk hw i (by omega);refine B8 eb ?_;cases b
   .exact Bm ⟨r,o,d.le (by omega)⟩
   exact ifT rfl ⟨(i:Int)::r,by rw[o];rfl,i,rfl,Bh5 _,hn,(hb rfl).1,d⟩
def AK0 {N:Nat}(a:3000<=N){l:Law}(hl:okL l)(hk:l.If.n<=4){w:Sl Kj}(hw:okW w)(i:Nat)(c:i<1500) :∃b,DV N l w (i:Int)=some b/\(b=true->i+l.If.n<=w.n/\wOk w):=by
 unfold DV;obtain⟨L,h1,d⟩:=Aq2 a hl hk hw i c;refine B8 (x:=(l,w,(i:Int))) rfl (B8 h1 ?_)
 match L,d with
 |[],_=>exact⟨false,rfl,by simp⟩
 |t::L,⟨j,h3,h4,h5,h6,_⟩=>exact⟨t==(i:Int),rfl,λe=>⟨by have:=eq_of_beq e;omega,h6⟩⟩
end Go.AM
namespace Go.AM
variable {N:Nat}
open Go.Proofs
def okO (x:Ej):Prop:=okS x.Set/\(∃c:BitVec 32,x.Clear=(c.toNat:Int))/\∃t:BitVec 32,x.Take=(t.toNat:Int)
def AK1 {p m a b s:BitVec 32}(h1:vB p m=true)(d:vB a b=true):vB (Au2 p a s) (Au2 m b s)=true:=by rw[AJ8]at *;intro i c;have g1:=h1 i c;have g2:=d i c;simp only[Au2,Bu2,Bv7,BA5];revert g1 g2;cases s.getLsbD i<;>cases p.getLsbD i<;>cases m.getLsbD i<;>cases a.getLsbD i<;>cases b.getLsbD i<;>simp[c]
def vS0:vS (⟨0,0⟩:Kj):=⟨0#32,0#32,rfl,by decide +kernel⟩
def Aq3 {s t:Kj}{c:Int}(hs:okS s)(hc:∃b:BitVec 32,c=(b.toNat:Int))(ht:okS t):∃y,Z9 N s c t=some y/\vS y.1:=by
 obtain⟨p,m,rfl⟩:=hs;obtain⟨a,b,rfl⟩:=ht;obtain⟨d,rfl⟩:=hc;refine⟨_,Ae8 p m d a b,?_⟩;unfold chgE;split
 .rename_i h;split
  .exact⟨_,_,rfl,AK1 h.1 h.2⟩
  exact vS0
 exact vS0
def AT0 {s t:Kj}{c:Int}(hs:okS s)(hc:∃b:BitVec 32,c=(b.toNat:Int))(ht:okS t):∃y,Cx N s t c=some y/\vS y.1:=by
 obtain⟨p,m,rfl⟩:=hs;obtain⟨a,b,rfl⟩:=ht;obtain⟨d,rfl⟩:=hc;refine⟨_,AD7 p m a b d,?_⟩;unfold takE;split
 .rename_i h;split
  .exact⟨_,_,rfl,AK1 h.1 h.2⟩
  exact vS0
 exact vS0
def Bd8 (l:Law):Prop:=l.Out.n<=6/\∀i,i<l.Out.n->okO (l.Out.g i)/\(l.Out.g i).From<l.If.n/\((l.Out.g i).Take≠0->0<=(l.Out.g i).Of/\(l.Out.g i).Of<l.If.n)
def AT1 (hN:1000<=N){l:Law}(o:Bd8 l){cut:Sl Kj}(hn:cut.n=l.If.n)(hc:∀i,i<cut.n->okS (cut.g i)) :∃s,DU N l cut=some s/\s.n=l.Out.n/\∀i,i<s.n->vS (s.g i):=by
 have v:=o.1;unfold DU;refine W7 (λi x1 x2=>x2=(i:Int)/\x1.n=i/\∀j,j<x1.n->vS (x1.g j)) l.Out.n _ (by omega) ⟨rfl,rfl,λj q=>Eu q (Bi3 j)⟩ ?_;rintro r i x1 x2 hi ⟨rfl,h1,t⟩ hs;by_cases a:i<l.Out.n
 .obtain⟨⟨b,c,d⟩,w,f⟩:=o.2 i a;have x:okS (⟨(if (decide (0<=(l.Out.g i).From)) then (cut.g (l.Out.g i).From.toNat).Plus else 0),(if (decide (0<=(l.Out.g i).From)) then (cut.g (l.Out.g i).From.toNat).Minus else 0)⟩:Kj):=by
   by_cases u:0<=(l.Out.g i).From
   .simp only[u,decide_true,Ew];exact hc _ (by omega)
   simp only[u,decide_false,Bh3,Ex];exact⟨0#32,0#32,rfl⟩
  obtain⟨y,e1,hy⟩:=Aq3 (N:=N) x c b;have nx:∀z,vS z->_:=λz m=>hs a (x1.push z) _ ⟨Br,by show x1.n+1=_;omega,λj q=>by
   show vS (if j<x1.n then x1.g j else z);split
   .exact t j (by assumption)
   exact m⟩
  have sz:∀z:Kj,(x1.n+(Sl.of [z]:Sl Kj).n)*8<=140737488355328/\x1.n+(Sl.of [z]:Sl Kj).n<=140737488355328:=λz=>by show (x1.n+1)*8<=_/\x1.n+1<=_;omega
  refine Al (Af ?_);rw[Lp];refine ifT (λh=>by have:=of_decide_eq_true h;omega) (B8 e1 ?_);by_cases ht:(l.Out.g i).Take=0
  .exact ifF (by simp[ht]) (ifT (sz _) (nx _ hy))
  obtain⟨g1,g2⟩:=f ht;obtain⟨z,e3,m⟩:=AT0 (N:=N) hy.ok d (hc (l.Out.g i).Of.toNat (by omega));exact ifT (by simp[ht]) (Af (B8 e3 (ifT (sz _) (nx _ m))))
 exact Bl ⟨_,rfl,by omega,t⟩
end Go.AM
namespace Go.AM
open Go.Proofs
def AE3 {N:Nat}{x:Ej}(hx:okO x)(k:Int):∃b,Bb N x k=some b:=by
 obtain⟨⟨a,b,c⟩,_⟩:=hx;unfold Bb;simp only[lt,c,Da,Lw]
 repeat' split
 all_goals exact⟨_,rfl⟩
end Go.AM
namespace Go.AM
open Go.Proofs
def Aq4 {N:Nat}{s:Str}:∃b,Dr N s=some b:=by
 unfold Dr lt;dsimp only;split
 .split
  .unfold DE;rename_i h;have h:=of_decide_eq_true h;rw[Ek ⟨by omega,by decide,by decide⟩];exact⟨_,rfl⟩
  exact⟨_,rfl⟩
 exact⟨_,rfl⟩
end Go.AM
namespace Go.AM
variable {N:Nat}
open IntKind (wrap)
open Go.Proofs
def Wn {s:Sl Ej}(m:s.n<N)(hs:s.n<1000000){f:Ej->Option Bool}{b:Nat->Bool}(o:∀i,i<s.n->f (s.g i)=some (b i)) :∃r,D2 N s f=some r/\(r=true ↔ ∃i,i<s.n/\b i=true):=by
 unfold D2 F7
 have:∃y,X5 N (λ(a:Int->Option Int) (x1:Int)=>
  if (decide (x1<(s.n:Int))) then
   if ((0:Int)<=x1/\x1<(s.n:Int))then
    (f (s.g x1.toNat)).bind λy3=>
    if y3 then
     some x1
    else
     a (wrap .i64 (x1+1))
   else none
  else
   some (-1)) 0=some y/\(0<=y ↔ ∃i,i<s.n/\b i=true):=by
  refine GE (λi x1=>x1=(i:Int)/\∀j,j<i->b j=false) s.n _ m ⟨rfl,λj c=>Eu c (by omega)⟩ ?_;rintro l i x1 q ⟨rfl,h⟩ d;by_cases hl:i<s.n
  .refine Al (Af (B8 (by rw[Lp];exact o i hl) ?_));cases hb:b i
   .refine Bm (d hl _ ⟨Br,λj c=>?_⟩);by_cases e:j=i
    .subst e;exact hb
    exact h j (by omega)
   exact ifT rfl ⟨i,rfl,λ_=>⟨i,hl,hb⟩,λ_=>by omega⟩
  refine Bl ⟨-1,rfl,λh=>Eu h (by decide),?_⟩;rintro⟨j,c,hb⟩;rw[h j (by omega)]at hb;cases hb
 obtain⟨y,e,hy⟩:=this;exact B8 e ⟨_,rfl,by rw[Fc];exact hy⟩
def TV (l:Law):Prop:=okL l/\l.Name.length<1100000/\l.If.n<1100000/\l.Out.n<1100000/\∀i,i<l.Out.n->okO (l.Out.g i)
def Af1 {s:Kj}(hs:okS s):∃b,H5 N s=some b/\(b=true↔vS s):=by obtain⟨p,m,e⟩:=hs;exact⟨vB p m,by rw[e];exact Da p m,(Ap4 e).symm⟩
def AE4 {x:Ej}(hx:okO x){k:Int}(h:Bb N x k=some true):x.From<k/\(x.Take≠0->0<=x.Of/\x.Of<k):=by
 obtain⟨⟨a,b,c⟩,_,_⟩:=hx;unfold Bb at h;simp only[lt,c,Da,Lw]at h;by_cases h1:x.From < -1
 .simp[h1]at h
 by_cases d:k<=x.From
 .simp[h1,d]at h
 refine⟨by omega,λht=>?_⟩;simp only[h1,d,decide_false,Bh3,Ex]at h;by_cases f:(!vB a b)=true
 .rw[Ek f]at h;cases h
 rw[Et f]at h;split at h
 .cases h
 rw[Et (by simp[ht])]at h;simpa using h
def chkAll (N:Nat)(l:Law):Prop:=Dr N l.Name=some true/\chk 40 [l.Left]/\chk 40 [l.Right]/\l.If.n<=4/\l.Out.n<=6/\l.If.n+l.Out.n≠0/\1<=l.Mode/\l.Mode<=3/\(∀i,i<l.If.n->vS (l.If.g i))/\∀i,i<l.Out.n->Bb N (l.Out.g i) l.If.n=some true
def lawE (N:Nat)(l:Law)(e:Int):Prop:=(e=0/\chkAll N l) \/ (e=17/\¬chkAll N l)
def lawF (l:Law):Prop:=okL l/\chk 40 [l.Left]/\chk 40 [l.Right]/\l.If.n<=4/\Bd8 l/\l.If.n+l.Out.n≠0/\1<=l.Mode/\l.Mode<=3
def chkAll.f {N:Nat}{l:Law}(hl:TV l)(h:chkAll N l):lawF l:=by obtain⟨_,h1,b,c,d,g,j,m,o,n⟩:=h;exact⟨hl.1,h1,b,c,⟨d,λi a=>⟨hl.2.2.2.2 i a,AE4 (hl.2.2.2.2 i a) (n i a)⟩⟩,g,j,m⟩
def IZ (hN:3000000<=N){l:Law}(hl:TV l):∃e,AC N l=some e/\lawE N l e:=by
 have u:=hl.2.1;have v:=hl.2.2.1;have x:=hl.2.2.2.1;unfold AC;obtain⟨b0,e0⟩:=Aq4 (N:=N) (s:=l.Name);refine B8 e0 ?_;cases b0
 .exact ifT rfl ⟨17,rfl,.inr ⟨rfl,λh=>by have:=h.1;rw[e0]at this;cases this⟩⟩
 refine Bm ?_;obtain⟨y2,e2,o⟩:=TT (N:=N) (by omega) hl.1.1;refine B8 e2 ?_;by_cases c2:y2=0
 case neg=>exact ifT (by simpa using c2) ⟨17,rfl,.inr ⟨rfl,λh=>c2 (o.2 h.2.1)⟩⟩
 refine ifF (by simp[c2]) ?_;obtain⟨y3,e3,q⟩:=TT (N:=N) (by omega) hl.1.2.1;refine B8 e3 ?_;by_cases c3:y3=0
 case neg=>exact ifT (by simpa using c3) ⟨17,rfl,.inr ⟨rfl,λh=>c3 (q.2 h.2.2.1)⟩⟩
 refine ifF (by simp[c3]) ?_;by_cases c4:4<l.If.n
 .exact Al ⟨17,rfl,.inr ⟨rfl,λh=>by have:=h.2.2.2.1;omega⟩⟩
 refine Bl ?_;by_cases c5:6<l.Out.n
 .exact Al ⟨17,rfl,.inr ⟨rfl,λh=>by have:=h.2.2.2.2.1;omega⟩⟩
 refine Bl ?_;rw[QZ (by omega)];by_cases c6:l.If.n+l.Out.n=0
 .exact ifT (by rw[c6];rfl) ⟨17,rfl,.inr ⟨rfl,λh=>h.2.2.2.2.2.1 c6⟩⟩
 refine Bl ?_;by_cases c7:l.Mode<1 \/ 3<l.Mode
 .exact Al ⟨17,rfl,.inr ⟨rfl,λh=>by have g1:=h.2.2.2.2.2.2.1;have g2:=h.2.2.2.2.2.2.2.1;omega⟩⟩
 refine Bl ?_;have y:∀i,∃b,i<l.If.n->Bd N (l.If.g i)=some b/\(b=true ↔ ¬vS (l.If.g i)):=by
  intro i;by_cases a:i<l.If.n
  .obtain⟨b,eb,hb⟩:=Af1 (N:=N) (hl.1.2.2 i a);refine⟨!b,λ_=>⟨by unfold Bd;rw[eb];rfl,?_⟩⟩;rw[<- hb];simp
  exact⟨false,λh=>Eu h a⟩
 obtain⟨f,j⟩:=Br7 y;obtain⟨y4,e4,r⟩:=Ng (N:=N) (w:=l.If) (by omega) (by omega) (f:=λu1=>Bd N u1) (λi a=>(j i a).1);refine B8 e4 ?_;cases c:y4
 case true=>obtain⟨i,a,hb⟩:=r.1 c;exact ifT rfl ⟨17,rfl,.inr ⟨rfl,λh=>(j i a).2.1 hb (h.2.2.2.2.2.2.2.2.1 i a)⟩⟩
 refine Bm ?_;have z:∀i,∃b,i<l.Out.n->Bc N (l.Out.g i) (l.If.n:Int)=some b/\(b=true ↔ ¬Bb N (l.Out.g i) l.If.n=some true):=by
  intro i;by_cases a:i<l.Out.n
  .obtain⟨b,eb⟩:=AE3 (N:=N) (hl.2.2.2.2 i a) (l.If.n:Int);refine⟨!b,λ_=>⟨by unfold Bc;rw[eb];rfl,?_⟩⟩;rw[eb];simp
  exact⟨false,λh=>Eu h a⟩
 obtain⟨g,m⟩:=Br7 z;obtain⟨y5,e5,t⟩:=Wn (N:=N) (s:=l.Out) (by omega) (by omega) (f:=λu2=>Bc N u2 (l.If.n:Int)) (λi a=>(m i a).1);refine B8 e5 ?_;cases d:y5
 case true=>obtain⟨i,a,hb⟩:=t.1 d;exact ifT rfl ⟨17,rfl,.inr ⟨rfl,λh=>(m i a).2.1 hb (h.2.2.2.2.2.2.2.2.2 i a)⟩⟩
 refine Bm ⟨0,rfl,.inl ⟨rfl,e0,o.1 c2,q.1 c3,by omega,by omega,c6,by omega,by omega,λi a=>?_,λi a=>?_⟩⟩
 .refine Bk9 λhn=>?_
  have:=r.2 ⟨i,a,(j i a).2.2 hn⟩
  rw[c]at this;cases this
 refine Bk9 λhn=>?_
 have:=t.2 ⟨i,a,(m i a).2.2 hn⟩
 rw[d]at this;cases this
end Go.AM
namespace Go.AM
variable {N:Nat}
open IntKind (wrap)
open Go.Proofs
def nf:(!false)=true:=rfl
def app0 {α : Type}{s t:Sl α}(h:s.n=0):s.app t=t:=by cases t;simp[Sl.app,h]
def AK2 {α : Type}[Inhabited α](s:Sl (Sl α)):Nat->Sl α
 |0=>Sl.nil
 |k+1=>(AK2 s k).app (s.g k)
def AK3 {α : Type}[Inhabited α](s:Sl (Sl α)){B:Nat}:∀k,(∀i,i<k->(s.g i).n<=B)->(AK2 s k).n<=k*B
 |0,_=>by simp[AK2]
 |k+1,h=>by
  have:=AK3 s k λi a=>h i (by omega)
  have:=h k (by omega)
  show (AK2 s k).n+(s.g k).n<=_;rw[Bu4];omega
def Yo {s:Sl (Sl Kj)}(hn:s.n<1000)(d:1000<=N)(hs:∀i,i<s.n->(s.g i).n<=3000000) :B1 N s=some (AK2 s s.n):=by
 suffices h:∃r,B1 N s=some r/\r=AK2 s s.n by obtain⟨r,h,rfl⟩:=h;exact h
 unfold B1;refine W7 (λ(i:Nat) (x1 x2:Int)=>x2=(i:Int)/\0<=x1/\x1<=(i:Int)*3000000) s.n _ (by omega) ⟨rfl,Int.le_refl 0,by simp⟩ ?_;rintro b i x1 x2 c ⟨rfl,f,h1⟩ a;by_cases hl:i<s.n
 .have:=hs i hl
  refine Al (Af ?_);rw[Lp,Mb];exact Bl (a hl _ _ ⟨Br,by omega,by omega⟩)
 refine Bl (B8 (x:=Sl.nil) ?_ ?_)
 .unfold J8;rw[Cg]
 refine W7 (λi x1 x2=>x2=(i:Int)/\x1=AK2 s i) s.n _ (by omega) ⟨rfl,rfl⟩ ?_;rintro b i x1 x2 c ⟨rfl,rfl⟩ a;by_cases hl:i<s.n
 .have g1:=hs i hl;have g2:=AK3 s i (B:=3000000) λj l=>hs j (by omega);refine Al (ifT ⟨by omega,?_⟩ (a hl _ _ ⟨Br,?_⟩))
  .rw[Lp];omega
  rw[Lp];rfl
 exact Bl ⟨_,rfl,by congr 1;omega⟩
def repl (w:Sl Kj)(i k:Nat)(y:Sl Kj):Sl Kj:=((w.take i).app y).app (w.drop (i+k))
abbrev vW (s:Sl Kj):Prop:=∀j,j<s.n->vS (s.g j)
def ZB {s t:Sl Kj}(h:vW s)(h' : vW t):vW (s.app t):=λj a=>by
 have a:j<s.n+t.n:=a;show vS (if j<s.n then s.g j else t.g (j-s.n));split
 .exact h j (by assumption)
 exact h' _ (by omega)
def Aq5 {s:Sl Kj}(h:vW s)(k:Nat):vW (s.drop k):=λj a=>h _ (by have a:j<s.n-k:=a;omega)
def Aq6 {s:Sl Kj}(h:vW s){k:Nat}(hk:k<=s.n):vW (s.take k):=λj a=>h _ (by have a:j<k:=a;omega)
def AK4 (a:1000<=N){l:Law}(b:Bd8 l){w:Sl Kj}(hw:vW w){i:Nat}(d:i+l.If.n<=w.n) :∃s,DU N l (w.sub i (i+l.If.n))=some s/\s.n=l.Out.n/\vW s:=
 AT1 a b (cut:=w.sub i (i+l.If.n)) (by show i+l.If.n-i=_;omega) λj c=>(hw (i+j) (by have:j<i+l.If.n-i:=c;omega)).ok
def cat3 (a b c:Sl Kj):AK2 (Sl.of [a,b,c]:Sl (Sl Kj)) 3=(a.app b).app c:=by show ((Jf.app a).app b).app c=_;rw[app0 (s:=Jf) rfl]
def Aq7 (d:1000<=N){a b c:Sl Kj}(ha:a.n<=3000000)(hb:b.n<=3000000)(hc:c.n<=3000000):B1 N (Sl.of [a,b,c]:Sl (Sl Kj))=some ((a.app b).app c):=by
 have h:=Yo (N:=N) (s:=(Sl.of [a,b,c]:Sl (Sl Kj))) (by show 3<1000;omega) d λi f=>by
  match i,f with
  |0,_=>exact ha
  |1,_=>exact hb
  |2,_=>exact hc
 rw[h];exact congrArg some (cat3 a b c)
def RZ (a:1000<=N){l:Law}(b:Bd8 l){w:Sl Kj}(c:w.n<1000)(hw:vW w){i:Nat}(d:i+l.If.n<=w.n) :∃s,T9 N l w (i:Int)=some s/\s.n=w.n-l.If.n+l.Out.n/\vW s:=by
 obtain⟨y,h1,g,f⟩:=AK4 a b hw d;have j:=b.1;refine⟨repl w i l.If.n y,?_,by show i+y.n+(w.n-(i+l.If.n))=_;omega,ZB (ZB (Aq6 hw (by omega)) f) (Aq5 hw _)⟩;unfold T9;rw[QZ (by omega),Cg,Lp,Lp,h1,Lw,Cg,
  Aq7 a (by show i<=_;omega) (by omega) (by show w.n-(i+l.If.n)<=_;omega)]
 rfl
abbrev ZC:=List (Int×Sl Kj)
def vL (L:ZC):Prop:=∀x∈L,vW x.2
def Wo:vL []:=λx hx=>Eu hx (by simp)
def Yp {x:Int×Sl Kj}{L:ZC}(h:vW x.2)(hL:vL L):vL (x::L):=λy hy=>by
 rcases Bi4.1 hy with rfl|hy
 .exact h
 exact hL y hy
def Aq8 (N:Nat)(l:Law)(a:Sl Kj->Int->Option ZC)(x5:Sl Kj)(x6:Int):Option ZC:= if (decide ((wrap .i64 (x6+(l.If.n:Int)))<=(x5.n:Int))) then (DV N l x5 x6).bind λc=>if (!c) then a x5 (wrap .i64 (x6+1)) else (T9 N l x5 x6).bind λb=>Ak (x6,b) (if ((l.If.n:Int)==0) then a b (wrap .i64 ((wrap .i64 (x6+(l.Out.n:Int)))+1)) else a b (wrap .i64 (x6+(l.Out.n:Int)))) else some []
def AE5 (g:3000<=N){l:Law}(o:lawF l):∀(m:Nat) (w:Sl Kj) (i:Nat),w.n<=100->vW w->i<=200->w.n+1<=i+m->∀M,m<M->∃L,Ca M (Aq8 N l) w i=some L/\vL L/\L.length<=m:=by
 obtain⟨hl,_,_,hk,d,q,_,_⟩:=o;have v:=d.1;intro m
 induction m with
 |zero=>intro w i hn a r hm M t;obtain⟨M,rfl⟩:∃K,M=K+1:=⟨M-1,by omega⟩;rw[CH,Aq8,QZ (by omega),Dn];exact⟨[],rfl,Wo,Bh5 _⟩
 |succ m ih=>
  intro w i hn a r hm M t;obtain⟨M,rfl⟩:∃K,M=K+1:=⟨M-1,by omega⟩;rw[CH,Aq8,QZ (by omega)];by_cases hle:i+l.If.n<=w.n
  case neg=>rw[Dn];exact⟨[],rfl,Wo,by simp⟩
  obtain⟨b,e1,h1⟩:=AK0 g hl hk (w:=w) ⟨by omega,λj u=>(a j u).ok⟩ i (by omega);rw[Cj,e1,Lw];cases b
  .rw[Ek nf,Br];obtain⟨L,g1,g2,g3⟩:=ih w (i+1) hn a (by omega) (by omega) M (by omega);exact⟨L,g1,g2,by omega⟩
  have f:=(h1 rfl).2.1;obtain⟨s,r1,r2,r3⟩:=RZ (N:=N) (by omega) d (by omega) a hle;rw[Et (by simp),r1,Lw,QZ (by omega),Br];obtain⟨L,g1,g2,g3⟩:=ih s (if l.If.n=0 then i+l.Out.n+1 else i+l.Out.n) (by omega) r3 (by split<;>omega) (by split<;>omega) M (by omega);refine⟨((i:Int),s)::L,?_,Yp r3 g2,by simp;omega⟩;by_cases c:l.If.n=0
  .rw[Ek c]at g1;rw[Ek (by simp[c]),g1];rfl
  rw[Et c]at g1;rw[Et (by simp[c]),g1];rfl
def AT2 (N:Nat)(l:Law)(a:Sl Kj->Int->Option ZC)(x7:Sl Kj)(x8:Int):Option ZC:= if (decide (0<=x8)) then (DV N l x7 x8).bind λc=>if (!c) then a x7 (wrap .i64 (x8-1)) else (T9 N l x7 x8).bind λb=>Ak (x8,b) (a b (wrap .i64 (x8-(if (l.If.n:Int)<1 then 1 else (l.If.n:Int))))) else some []
def AT3 (q:3000<=N){l:Law}(r:lawF l):∀(m:Nat) (w:Sl Kj) (i:Int),w.n<=100->vW w -> -100<=i->i+1<=m->m<=200->∀M,m<M->∃L,Ca M (AT2 N l) w i=some L/\vL L/\L.length<=m:=by
 obtain⟨hl,_,_,hk,f,t,_,_⟩:=r;have y:=f.1;intro m
 induction m with
 |zero=>intro w i hn a u hm c M v;obtain⟨M,rfl⟩:∃K,M=K+1:=⟨M-1,by omega⟩;rw[CH,AT2,Dn];exact⟨[],rfl,Wo,Bh5 _⟩
 |succ m ih=>
  intro w i hn a u hm c M v;obtain⟨M,rfl⟩:∃K,M=K+1:=⟨M-1,by omega⟩;rw[CH,AT2];by_cases hle:0<=i
  case neg=>rw[Dn];exact⟨[],rfl,Wo,by simp⟩
  obtain⟨k,rfl⟩:∃k:Nat,i=(k:Int):=⟨i.toNat,by omega⟩;obtain⟨b,e1,h1⟩:=AK0 q hl hk (w:=w) ⟨by omega,λj x=>(a j x).ok⟩ k (by omega);rw[Ek (by simp),e1,Lw];cases b
  .rw[Ek nf,Mb];obtain⟨L,g1,g2,g3⟩:=ih w ((k:Int)-1) hn a (by omega) (by omega) (by omega) M (by omega);exact⟨L,g1,g2,by omega⟩
  obtain⟨hle,d⟩:=h1 rfl;have g:=d.1;obtain⟨s,r1,r2,r3⟩:=RZ (N:=N) (by omega) f (by omega) a hle;rw[Et (by simp),r1,Lw];obtain⟨L,g1,g2,g3⟩:=ih s (if l.If.n=0 then (k:Int)-1 else (k:Int)-l.If.n) (by omega) r3 (by split<;>omega) (by split<;>omega) (by omega) M (by omega);refine⟨((k:Int),s)::L,?_,Yp r3 g2,by simp;omega⟩;by_cases o:l.If.n=0
  .rw[Ek o]at g1;rw[Cg,Mb,g1];rfl
  rw[Et o]at g1;rw[Cl,Mb,g1];rfl
end Go.AM
namespace Go.AM
open IntKind (wrap)
open Go.Proofs
abbrev AllS:=Sl Kj×Int×Int
def Af2 (N:Nat)(l:Law)(q0:Sl Kj)(a:AllS->Option ZC)(x1:Int)(z1:AllS):Option ZC:= if (decide (x1<z1.2.1)) then a (z1.1,z1.2.1,z1.2.2) else if (((0:Int)<=(wrap .i64 (x1+z1.2.2))/\(wrap .i64 (x1+z1.2.2))<=(z1.1.n:Int))/\((0:Int)<=x1/\x1<=(wrap .i64 (x1+(l.If.n:Int)))/\(wrap .i64 (x1+(l.If.n:Int)))<=(q0.n:Int)))then (DU N l (q0.sub x1.toNat (wrap .i64 (x1+(l.If.n:Int))).toNat)).bind λy6=>if ((0:Int)<=(wrap .i64 (x1+(l.If.n:Int)))/\(wrap .i64 (x1+(l.If.n:Int)))<=(q0.n:Int))then (B1 N (Sl.of [z1.1.take (wrap .i64 (x1+z1.2.2)).toNat,y6,q0.drop (wrap .i64 (x1+(l.If.n:Int))).toNat]:Sl (Sl Kj))).bind λy7=>Ak (x1,y7) (a (y7,wrap .i64 (x1+(if (l.If.n:Int)<1 then 1 else (l.If.n:Int))),wrap .i64 ((wrap .i64 (z1.2.2+(l.Out.n:Int)))-(l.If.n:Int)))) else none else none
def Aq9 {N:Nat}(f:3000<=N){l:Law}(a:Bd8 l)(hk:l.If.n<=4){w:Sl Kj}(b:vW w):∀(L:List Int) (i:Nat) (acc:Sl Kj) (next sh:Int),hitL l w i L->i<=33->vW acc->(acc.n:Int)=w.n+sh->0<=next->0<=next+sh->sh<=6*i ->
 ∃R,T2 L (Af2 N l w) (λ_=>some []) (acc,next,sh)=some R/\vL R/\R.length<=L.length
 |[],i,acc,next,sh,_,_,_,_,_,_,_=>⟨[],rfl,Wo,Bh5 _⟩
 |t::L,i,acc,next,sh,⟨j,et,h2,h3,h4,h5⟩,hi,ha,hn,h0,hs,h6=>by
  subst et;have m:=h4.1;have o:=a.1;show ∃R,Af2 N l w (T2 L (Af2 N l w) λ_=>some []) (j:Int) (acc,next,sh)=some R/\_;unfold Af2;by_cases g:(j:Int)<next
  .obtain⟨R,r1,r2,r3⟩:=Aq9 f a hk b L (j+1) acc next sh h5 (by omega) ha hn h0 hs (by omega)
   exact ifT (by simpa using g) ⟨R,r1,r2,by simp;omega⟩
  obtain⟨y,p1,p3,p4⟩:=AK4 (N:=N) (by omega) a b h3;obtain⟨k,ek⟩:∃k:Nat,(j:Int)+sh=(k:Int):=⟨((j:Int)+sh).toNat,by omega⟩;have es:wrap .i64 ((j:Int)+sh)=(k:Int):=by rw[Mb,ek]
  simp only[es];rw[QZ (by omega)];simp only[Lp];refine ifF (by simpa using g) (Af (B8 p1 (Af ?_)));refine B8 (Aq7 (by omega) (by show k<=_;omega) (by omega) (by show w.n-(j+l.If.n)<=_;omega)) ?_;have c:vW (((acc.take k).app y).app (w.drop (j+l.If.n))):=ZB (ZB (Aq6 ha (by omega)) p4) (Aq5 b _);have d:(((acc.take k).app y).app (w.drop (j+l.If.n))).n=k+y.n+(w.n-(j+l.If.n)):=rfl;generalize ((acc.take k).app y).app (w.drop (j+l.If.n))=z at c d;have en:wrap .i64 ((j:Int)+(if (l.If.n:Int)<1 then 1 else (l.If.n:Int)))=(j:Int)+(if (l.If.n:Int)<1 then 1 else (l.If.n:Int)):=D9 (by split<;>omega) (by split<;>omega);have eh:wrap .i64 ((wrap .i64 (sh+(l.Out.n:Int)))-(l.If.n:Int))=sh+l.Out.n-l.If.n:=by rw[Mb (n:=sh+(l.Out.n:Int)),Mb]
  rw[en,eh];obtain⟨R,r1,r2,r3⟩:=Aq9 f a hk b L (j+1) z ((j:Int)+(if (l.If.n:Int)<1 then 1 else (l.If.n:Int))) (sh+l.Out.n-l.If.n) h5 (by omega) c (by omega) (by split<;>omega) (by split<;>omega) (by omega);exact⟨((j:Int),z)::R,by show Ak _ (T2 L (Af2 N l w) (λ_=>some []) _)=_;rw[r1];rfl,Yp c r2,by simp;omega⟩
abbrev DocS:=(Sl Int)×(Sl (Sl Kj))×Int
def Wp:∀(L:ZC) (x:Sl Int) (y:Sl (Sl Kj)),x.n+L.length<=100000->y.n+L.length<=100000->vL L->(∀i,i<y.n->wOk (y.g i)) ->
 ∃r,T2 L (λ(a:Sl Int×Sl (Sl Kj)->Option DocS) (x1:Int×(Sl Kj)) (z1:(Sl Int)×(Sl (Sl Kj)))=>
  if (decide (32<(x1.2.n:Int))) then
   some (Iy,(Sl.nil:Sl (Sl Kj)),11)
  else
   if (Kl 8 (z1.1.n+(Sl.of [x1.1]:Sl Int).n))then
    if (Kl 24 (z1.2.n+(Sl.of [x1.2]:Sl (Sl Kj)).n))then
     a (z1.1.push x1.1,z1.2.push x1.2)
    else none
   else none
  ) (λ(z1:(Sl Int)×(Sl (Sl Kj)))=>
   some (z1.1,z1.2,0)
  ) (x,y)=some r/\(r.2.2=11 \/ (r.2.2=0/\r.2.1.n<=100000/\∀i,i<r.2.1.n->wOk (r.2.1.g i)))
 |[],x,y,_,hy,_,h=>⟨_,rfl,.inr ⟨rfl,hy,h⟩⟩
 |(p,v)::L,x,y,hx,hy,hL,h=>by
  simp only[Bj5]at hx hy;by_cases b:32<v.n
  .exact⟨_,Ek (decide_eq_true (show (32:Int)<(v.n:Int) by omega)),.inl rfl⟩
  obtain⟨r,r1,r2⟩:=Wp L (x.push p) (y.push v) (by show x.n+1+_<=_;omega) (by show y.n+1+_<=_;omega) (λz c=>hL z (Bi1 _ c)) λi d=>by
   show wOk (if i<y.n then y.g i else v);split
   .exact h i (by assumption)
   exact⟨by omega,hL (p,v) (by simp)⟩
  refine⟨r,?_,r2⟩;rw[T2,Dn,Ek (by show (x.n+1)*8<=_/\x.n+1<=_;omega),Ek (by show (y.n+1)*24<=_/\y.n+1<=_;omega)];exact r1
def hitL.len {l:Law}{w:Sl Kj}:∀{L:List Int}{i:Nat},hitL l w i L->L.length<=w.n+1-i
 |[],i,_=>Bn9 _
 |t::L,i,⟨j,_,h2,h3,_,h5⟩=>by have:=hitL.len h5;simp;omega
def vOk {w:Sl Kj}(h:wOk w):okW w:=⟨by have:=h.1;omega,λi a=>(h.2 i a).ok⟩
def AE6 (N:Nat)(l:Law):Prop:=TV l/\chkAll N l
def AE7 {N:Nat}(o:3000000<=N){l:Law}(hl:AE6 N l){w:Sl Kj}(a:wOk w) :∃r,Fn N l w=some r/\(r.2.2=11 \/ (r.2.2=0/\r.2.1.n<=100000/\∀i,i<r.2.1.n->wOk (r.2.1.g i))):=by
 obtain⟨e,e1,q⟩:=IZ o hl.1;obtain⟨e',e3,b⟩:=LH (N:=N) (by omega) λi c=>(a.2 i c).ok;obtain rfl:e=0:=q.elim (·.1) λh=>Eu hl.2 h.2;obtain rfl:=(IO b).2 a;obtain⟨d,_,_,hk,s,t,u,v⟩:=id (hl.2.f hl.1);have j:=hl.2.f hl.1;have hn:=a.1;have key:∃L,Ds N w l (l.If.n:Int) (l.Out.n:Int)=some L/\vL L/\L.length<=100:=by
  unfold Ds;by_cases c1:l.Mode=1
  .refine ifT (by simp[c1]) ?_;obtain⟨H,h1,m⟩:=Aq2 (N:=N) (by omega) d hk (vOk a) 0 (by omega);obtain⟨R,r1,r2,r3⟩:=Aq9 (N:=N) (by omega) s hk a.2 H 0 w 0 0 m (by omega) a.2 (by omega) (by omega) (by omega) (by omega)
   have:=m.len
   show ∃R,(AD N l w ((0:Nat):Int)).bind (λL1=>T2 L1 (Af2 N l w) (λ_=>some []) (w,0,0))=some R/\_;exact B8 h1 ⟨R,r1,r2,by omega⟩
  refine ifF (by simp[c1]) ?_;by_cases c2:l.Mode=2
  .obtain⟨L,g1,g2,g3⟩:=AE5 (N:=N) (by omega) j (w.n+1) w 0 (by omega) a.2 (by omega) (by omega) N (by omega);exact ifT (by simp[c2]) ⟨L,g1,g2,by omega⟩
  obtain⟨L,g1,g2,g3⟩:=AT3 (N:=N) (by omega) j (w.n+1) w ((w.n:Int)-(l.If.n:Int)) (by omega) a.2 (by omega) (by omega) (by omega) N (by omega);refine ifF (by simp[c2]) (Al ⟨L,?_,g2,by omega⟩);rw[Mb];exact g1
 obtain⟨L,g1,g2,g3⟩:=key;have hc:Fm N l w=some 0:=by unfold Fm;rw[e1,Lw,Et (by decide),e3];try rfl
 unfold Fn;rw[hc,Lw,Et (by decide),LA,Lw];show ∃r,(Ds N w l (l.If.n:Int) (l.Out.n:Int)).bind _=some r/\_;rw[g1,Lw];exact Wp L _ _ (by show 0+_<=_;omega) (by show 0+_<=_;omega) g2 λi c=>Eu c (Bi3 i)
def AT4 {N:Nat}(b:3000000<=N){l:Law}(hl:AE6 N l){w:Sl Kj}(hw:wOk w):∃v e,X9 N l w=some (v,e)/\(e=11 \/ (e=0/\wOk v)):=by
 obtain⟨⟨x,y,e⟩,h1,h⟩:=AE7 b hl hw;have c:=hw.1;unfold X9;rw[h1,Lw];rcases h with h|⟨h,a,d⟩
 .obtain rfl:e=11:=h;exact⟨_,_,Ek (show ((11:Int) != 0)=true by decide),.inl rfl⟩
 obtain rfl:e=0:=h;replace a:y.n<=100000:=a;rw[Et (show ¬((0:Int) != 0)=true by decide)];by_cases hy:y.n=0
 .rw[Et (by simp[hy])];unfold A8;rw[Cg];exact⟨w,0,rfl,.inr ⟨rfl,hw⟩⟩
 have e1:wrap .i64 ((y.n:Int)-1)=((y.n-1:Nat):Int):=AD5 (by omega) (by omega);dsimp only;rw[e1,Lp,Cj,Cg];exact⟨_,_,rfl,.inr ⟨rfl,d (y.n-1) (show y.n-1<y.n by omega)⟩⟩
end Go.AM
namespace Go.AM
variable {N:Nat}
open IntKind (wrap)
open Go.Proofs
def Wq {s:Sl Law}(m:s.n<N)(hs:s.n<1000000){f:Law->Option Bool}{b:Nat->Bool}(o:∀i,i<s.n->f (s.g i)=some (b i)) :∃r,D3 N s f=some r/\(r=true ↔ ∃i,i<s.n/\b i=true):=by
 unfold D3 F8
 have:∃y,X5 N (λ(a:Int->Option Int) (x1:Int)=>
  if (decide (x1<(s.n:Int))) then
   if ((0:Int)<=x1/\x1<(s.n:Int))then
    (f (s.g x1.toNat)).bind λy3=>
    if y3 then
     some x1
    else
     a (wrap .i64 (x1+1))
   else none
  else
   some (-1)) 0=some y/\(0<=y ↔ ∃i,i<s.n/\b i=true):=by
  refine GE (λi x1=>x1=(i:Int)/\∀j,j<i->b j=false) s.n _ m ⟨rfl,λj c=>Eu c (by omega)⟩ ?_;rintro l i x1 q ⟨rfl,h⟩ d;by_cases hl:i<s.n
  .refine Al (Af (B8 (by rw[Lp];exact o i hl) ?_));cases hb:b i
   .refine Bm (d hl _ ⟨Br,λj c=>?_⟩);by_cases e:j=i
    .subst e;exact hb
    exact h j (by omega)
   exact ifT rfl ⟨i,rfl,λ_=>⟨i,hl,hb⟩,λ_=>by omega⟩
  refine Bl ⟨-1,rfl,λh=>Eu h (by decide),?_⟩;rintro⟨j,c,hb⟩;rw[h j (by omega)]at hb;cases hb
 obtain⟨y,e,hy⟩:=this;exact B8 e ⟨_,rfl,by rw[Fc];exact hy⟩
def Nh (N:Nat)(laws:Sl Law):Prop:=laws.n<=64/\∀i,i<laws.n->chkAll N (laws.g i)
def Db (laws:Sl Law):Prop:=∀i,i<laws.n->TV (laws.g i)
def Ar0 (j:3000000<=N){laws:Sl Law}(hl:Db laws):∃e,BW N laws=some e/\(e=0↔Nh N laws):=by
 unfold BW;by_cases hn:64<laws.n
 .exact Al ⟨12,rfl,λh=>(by cases h),λh=>Eu h.1 (by omega)⟩
 refine Bl ?_;have l:∀i,∃b,i<laws.n->T4 N (laws.g i)=some b/\(b=true ↔ ¬chkAll N (laws.g i)):=by
  intro i;by_cases a:i<laws.n
  .obtain⟨e,e1,m⟩:=IZ j (hl i a);refine⟨e != 0,λ_=>⟨by unfold T4;rw[e1];rfl,?_⟩⟩;rcases m with⟨rfl,h⟩ | ⟨rfl,h⟩
   .exact⟨λh=>Eu h (by decide),λg=>Eu h g⟩
   exact⟨λ_=>h,λ_=>by decide⟩
  exact⟨false,λh=>Eu h a⟩
 obtain⟨f,c⟩:=Br7 l;obtain⟨r,e1,h1⟩:=Wq (N:=N) (s:=laws) (by omega) (by omega) (f:=λu1=>T4 N u1) (λi a=>(c i a).1);refine B8 e1 ?_;cases d:r
 .refine Bm ⟨0,rfl,λ_=>⟨by omega,λi a=>Bk9 λhn=>?_⟩,λ_=>rfl⟩
  have:=h1.2 ⟨i,a,(c i a).2.2 hn⟩
  rw[d]at this;cases this
 refine ifT rfl ⟨17,rfl,λh=>(by cases h),λh=>?_⟩;obtain⟨i,a,hb⟩:=h1.1 d;exact Eu (h.2 i a) ((c i a).2.1 hb)
def Af3 (d:3000000<=N){laws:Sl Law}(hl:Db laws){w:Sl Kj}(hw:∀i,i<w.n->okS (w.g i)) :∃e,BX N laws (Sl.of [w]:Sl (Sl Kj))=some e/\(e=0↔Nh N laws/\wOk w):=by
 unfold BX;obtain⟨e,e1,h1⟩:=Ar0 d hl;refine B8 e1 ?_;by_cases a:e=0
 case neg=>exact ifT (by simpa using a) ⟨e,rfl,λh=>Eu h a,λh=>Eu (h1.2 h.1) a⟩
 refine ifF (by simp[a]) (ifF (by show ¬decide ((256:Int)<((1:Nat):Int))=true;decide) ?_);refine GE (λi x1=>x1=(i:Int)/\(0<i->wOk w)) 1 _ (by omega) ⟨rfl,λh=>Eu h (by omega)⟩ ?_;rintro b i x1 j ⟨rfl,h⟩ hs;by_cases f:i<1
 .obtain rfl:i=0:=by omega
  obtain⟨e,e1,c⟩:=LH (N:=N) (by omega) hw;refine ifT (by show decide (((0:Nat):Int)<((1:Nat):Int))=true;decide) (ifT (by show (0:Int)<=((0:Nat):Int)/\((0:Nat):Int)<((1:Nat):Int);omega) (B8 e1 ?_));by_cases a:e=0
  .exact ifF (by simp[a]) (hs (by omega) _ ⟨rfl,λ_=>(IO c).1 a⟩)
  exact ifT (by simpa using a) ⟨e,rfl,λh=>Eu h a,λh=>Eu ((IO c).2 h.2) a⟩
 exact ifF (by show ¬decide ((i:Int)<((1:Nat):Int))=true;simp;omega) ⟨0,rfl,λ_=>⟨h1.1 a,h (by omega)⟩,λ_=>rfl⟩
def Ni (N:Nat)(c:Int)(q1:Sl Law)(a:Sl Kj->Int->Option ZC)(x1:Sl Kj)(x2:Int):Option ZC:= if (decide (x2<(q1.n:Int))) then if ((0:Int)<=x2/\x2<(q1.n:Int))then (X9 N (q1.g x2.toNat) x1).bind λy4=>if (y4.2 != 0) then if y4.2=c then some []else none else Ak (wrap .i64 (x2+1),y4.1) (a y4.1 (wrap .i64 (x2+1))) else none else if c=0 then some []else none
def PR {c:Int}{laws:Sl Law}{a:Sl Kj->Int->Option ZC}{w:Sl Kj}{i:Nat}(d:i<laws.n)(b:laws.n<=64){y:Sl Kj×Int}(h:X9 N (laws.g i) w=some y) :Ni N c laws a w (i:Int)=if (y.2 != 0) then (if y.2=c then some []else none)else Ak (((i+1:Nat):Int),y.1) (a y.1 ((i+1:Nat):Int)):=by unfold Ni;rw[Ek (show decide ((i:Int)<(laws.n:Int))=true by simp;omega),Cg,Lp,h,Lw,Br]
def Af4:Sl Kj->ZC->Sl Kj
 |w,[]=>w
 |_,(_,v)::L=>Af4 v L
def TW:∀(L:ZC) (w:Sl Kj),T2 L (λ(a:Sl Kj->Option (Sl Kj)) (x1:Int×(Sl Kj)) (z1:Sl Kj)=>a x1.2) (λ(z1:Sl Kj)=>some z1) w=some (Af4 w L)
 |[],w=>rfl
 |(p,v)::L,w=>TW L v
def EH (N:Nat):List Law->Sl Kj->Option (Sl Kj)
 |[],w=>some w
 |l::L,w=>match X9 N l w with
  |some y=>if y.2=0 then EH N L y.1 else none
  |none=>none
def Wr {N:Nat}{B:List Law}:∀(A:List Law) (w:Sl Kj),EH N (A++B) w=(EH N A w).bind (EH N B)
 |[],w=>rfl
 |l::A,w=>by
  show EH N (List.cons l (A++B)) w=_;simp only[EH];cases X9 N l w with
  |none=>rfl
  |some y=>
   dsimp only;split
   .exact Wr A y.1
   rfl
def Ar1 {α : Type}{s:Sl α}{i:Nat}(h:i<s.n):s.toList.drop i=s.g i::s.toList.drop (i+1):=by rw[Bo8 (by simpa[Sl.toList]using h)];simp[Sl.toList]
def Ar2 (f:3000000<=N){laws:Sl Law}(hl:Db laws)(b:Nh N laws):∀(m i:Nat) (w:Sl Kj),wOk w->i<=laws.n->laws.n<=i+m->∀M,m<M ->
 (∃L,Ca M (Ni N 0 laws) w i=some L/\wOk (Af4 w L)/\EH N (laws.toList.drop i) w=some (Af4 w L)) \/ (∃L,Ca M (Ni N 0 laws) w i=none/\Ca M (Ni N 11 laws) w i=some L/\EH N (laws.toList.drop i) w=none):=by
 have c:=b.1;intro m
 induction m with
 |zero=>intro i w hw j hm M l;obtain⟨M,rfl⟩:∃K,M=K+1:=⟨M-1,by omega⟩;exact .inl ⟨[],by rw[CH,Ni,Dn,Ek rfl],hw,by rw[Bm5 (by simp[Sl.toList];omega)];rfl⟩
 |succ m ih=>
  intro i w hw j hm M l;obtain⟨M,rfl⟩:∃K,M=K+1:=⟨M-1,by omega⟩;by_cases a:i<laws.n
  case neg=>exact .inl ⟨[],by rw[CH,Ni,Dn,Ek rfl],hw,by rw[Bm5 (by simp[Sl.toList];omega)];rfl⟩
  obtain⟨v,e,g1,g2⟩:=AT4 f ⟨hl i a,b.2 i a⟩ hw;rw[CH,CH,PR a c g1,PR a c g1,Ar1 a];have d:∀L,EH N (laws.g i::L) w=if e=0 then EH N L v else none:=λL=>by simp only[EH];rw[g1]
  rcases g2 with rfl|⟨rfl,g2⟩
  .exact .inr ⟨[],rfl,rfl,by rw[d,Et (by decide)]⟩
  rw[Et (by simp),Et (by simp)];rcases ih (i+1) v g2 (by omega) (by omega) M (by omega)with⟨L,a1,a2,a3⟩ | ⟨L,a1,a2,a3⟩
  .exact .inl ⟨((i+1:Nat),v)::L,by dsimp only;rw[a1];rfl,a2,by rw[d,Ek rfl];exact a3⟩
  exact .inr ⟨((i+1:Nat),v)::L,by dsimp only;rw[a1];rfl,by dsimp only;rw[a2];rfl,by rw[d,Ek rfl];exact a3⟩
def PS (l:3000000<=N){laws:Sl Law}(hl:Db laws){w:Sl Kj}(hw:∀i,i<w.n->okS (w.g i)):∃r,N4 N laws w=some r/\(r.2=0->wOk r.1)/\(Nh N laws->wOk w->(r.2=0/\EH N laws.toList w=some r.1) \/ (r.2≠0/\EH N laws.toList w=none)):=by
 obtain⟨e,e1,m⟩:=Af3 l hl hw;unfold N4;rw[e1,Lw];by_cases d:e=0
 case neg=>exact⟨_,Ek (by simpa using d),λh=>Eu h d,λh1 o=>Eu (m.2 ⟨h1,o⟩) d⟩
 rw[Et (by simp[d])];obtain⟨f,j⟩:=m.1 d;have q:=f.1;have s:=j.1;have b:∀c,K5 N c laws w=(Ak (0,w) (Ca N (Ni N c laws) w ((0:Nat):Int))).bind λL1=>T2 L1 (λ(a:Sl Kj->Option (Sl Kj)) (x1:Int×(Sl Kj)) (z1:Sl Kj)=>a x1.2) (λ(z1:Sl Kj)=>some z1) Jf:=by intro c;unfold K5 DF Cc A8;rw[Lw,Ek (by dsimp only;omega),Lw];rfl
 unfold Cd;rw[b,b];rcases Ar2 l hl f laws.n 0 w j (by omega) (by omega) N (by omega)with⟨L,g1,g2,g3⟩ | ⟨L,g1,g2,g3⟩
 .rw[g1]
  have:(Ak (0,w) (some L)).bind (λL1=>T2 L1 (λ(a:Sl Kj->Option (Sl Kj)) (x1:Int×(Sl Kj)) (z1:Sl Kj)=>a x1.2) (λ(z1:Sl Kj)=>some z1) Jf)=some (Af4 w L):=TW _ _
  rw[this];exact⟨_,rfl,λ_=>g2,λ_ _=>.inl ⟨rfl,g3⟩⟩
 rw[g1,g2]
 have:(Ak (0,w) (some L)).bind (λL1=>T2 L1 (λ(a:Sl Kj->Option (Sl Kj)) (x1:Int×(Sl Kj)) (z1:Sl Kj)=>a x1.2) (λ(z1:Sl Kj)=>some z1) Jf)=some (Af4 w L):=TW _ _
 rw[this];exact⟨_,rfl,λh=>(by cases h),λ_ _=>.inr ⟨by show (11:Int)≠0;decide,g3⟩⟩
end Go.AM
namespace Go.AM
open Go.Proofs
def PT {α : Type}(s:Sl α)(a : α):(s.push a).toList=s.toList++[a]:=by
 show (List.range (s.n+1)).map (λi=>if i<s.n then s.g i else a)=_;rw[Bs5,Bp2];congr 1
 .exact Bj8 λi b=>Ek (Bk2.1 b)
 simp
def Ai {α : Type}(s:Sl α):s.toList.length=s.n:=by simp[Sl.toList]
def Ar3 {N:Nat}{x y:Sl Kj}(d:x.n<N)(hs:x.n<10000000):∃b,O7 N x y=some b:=by
 have h:∃b,E5 N x y=some b/\True:=by
  unfold E5;by_cases hn:x.n=y.n
  case neg=>exact Al ⟨false,rfl,trivial⟩
  refine ifF (by simp[hn]) ?_;refine GE (λi x1=>x1=(i:Int)) x.n _ d rfl ?_;rintro c i x1 f rfl a;by_cases hl:i<x.n
  .refine Al (Af ?_);split
   .exact⟨false,rfl,trivial⟩
   exact a hl _ (Br)
  exact Bl ⟨true,rfl,trivial⟩
 obtain⟨b,h,_⟩:=h;exact⟨b,by unfold O7;rw[h];rfl⟩
end Go.AM
namespace Go.AM
variable {N:Nat}
open IntKind (wrap)
open Go.Proofs
abbrev Bd9 (y:Int):Bool:=((((decide (97<=y))&&(decide (y<=122)))||((decide (65<=y))&&(decide (y<=90))))||((decide (48<=y))&&(decide (y<=57))))||(y==45)
def NG (s:Str):Bool:=(decide (1<=s.length)&&decide (s.length<=24))&&s.all λc=>Bd9 ((c.toNat:Nat):Int)
def ZD {α : Type}{o:Option α}{a : α}(h:∃r,o=some r/\r=a):o=some a:=by obtain⟨r,h,rfl⟩:=h;exact h
def Ar4 (l:1000<=N){s:Str}(hb:NG s=true){let_:Int->Option Bool}(hl:∀y,let_ y=some (Bd9 y)){fin:Bool}(f:1<=s.length->s.length<=24->fin=true) :X5 N (λ(a:Int->Option Bool) (x1:Int)=>
  if (decide (x1<(s.length:Int))) then
   if ((0:Int)<=x1/\x1<(s.length:Int))then
    (let_ (Ib s x1)).bind λy3=>
    if (!y3) then
     some false
    else
     a (wrap .i64 (x1+1))
   else none
  else
   some fin
 ) 0=some true:=by
 unfold NG at hb;rw[Bh0,Bh0,Fc,Fc,Bh7]at hb;obtain⟨⟨h1,g⟩,j⟩:=hb;refine ZD (GE (λi x1=>x1=(i:Int)) s.length _ (by omega) rfl ?_);rintro d i x1 m rfl c;by_cases b:i<s.length
 .have eb:Ib s (i:Int)=((s[i].toNat:Nat):Int):=by simp[Ib,b]
  refine Al (Af (B8 (hl _) ?_));rw[eb,j s[i] (Bu6 b)];exact Bm (c b _ (Br))
 exact Bl ⟨_,rfl,f h1 g⟩
def Ar5 (a:1000<=N){s:Str}(hb:NG s=true):DW N s=some true:=by unfold DW;exact Ar4 a hb (λy=>rfl) λ_ _=>by simp;omega
def AE8 (a:1000<=N){s:Str}(hb:NG s=true):EM N s=some true:=by unfold EM;exact Ar4 a hb (λy=>rfl) λ_ _=>by simp;omega
def Be0 (t:Sl Node)(v:Nat):Prop:=(v=0->(t.g 0).Nu = -1)/\(0<v->0<=(t.g v).Nu/\(t.g v).Nu<v)/\NG (t.g v).Name=true/\∀u,u<v->(t.g u).Name≠(t.g v).Name
def Ee (t:Sl Node):Prop:=1<=t.n/\t.n<=63/\∀v,v<t.n->Be0 t v
def Mm {ν : Type}{k s:Str}{v : ν}:∀es:List (Str × ν),P1 eqS s (Dd eqS k v es)=if s=k then some v else P1 eqS s es
 |[]=>by simp only[Dd,P1];by_cases h:s=k<;>simp[eqS,h]
 |(a,x)::es=>by
  simp only[Dd];by_cases h:k=a
  .subst h;rw[Ek (by simp[eqS])];simp only[P1];by_cases b:s=k<;>simp[eqS,b]
  rw[Et (by simp[eqS,h])];simp only[P1];rw[Mm es];by_cases b:s=k
  .subst b;simp[eqS,h]
  simp[b]
def AE9 (q:3000000<=N){t:Sl Node}(ht:Ee t):Dt N t=some 0:=by
 obtain⟨s,o,hk⟩:=ht;unfold Dt;refine ZD (ifT (λ_ _=>by omega) (ifF (by simp[(hk 0 (by omega)).1 rfl];omega) ?_));refine GE (λi x1=>x1=(i:Int)) t.n _ (by omega) rfl ?_;rintro c i x1 u rfl hs;by_cases d:i<t.n
 case neg=>exact Bl ⟨0,rfl,rfl⟩
 obtain⟨k1,k2,k3,k4⟩:=hk i d;have a:=AE8 (N:=N) (by omega) k3;refine Al (ltX ?_);dsimp only;rw[Lp,a];have rest:∃r,(if (false:Bool) then some 16 else
  X5 N (λ(b:Int->Option Int) (x7:Int)=>
   if (decide (x7<(i:Int))) then
    if (((0:Int)<=x7/\x7<(t.n:Int))/\((0:Int)<=(i:Int)/\(i:Int)<(t.n:Int)))then
     if (((t.g x7.toNat).Name==(t.g i).Name) != false) then
      some 16
     else
      b (wrap .i64 (x7+1))
    else none
   else
    c (wrap .i64 ((i:Int)+1))
   ) 0)=some r/\r=0:=by
  refine Bm ?_;refine GE (λk x7=>x7=(k:Int)) i _ (by omega) rfl ?_;rintro l k x7 hk rfl m;by_cases f:k<i
  .refine Al (Af ?_);rw[Lp];exact ifF (by simp[k4 k f]) (m f _ (Br))
  exact Bl (hs d _ (Br))
 by_cases j:0<i
 .have:=k2 j
  exact Al (Af (Bl (Af (Bl (Af (B8 rfl rest))))))
 exact Bl (Af (B8 rfl rest))
def NS (d:3000000<=N){t:Sl Node}(ht:Ee t):W9 N t=some 0:=by
 obtain⟨f,c,hk⟩:=ht;unfold W9;refine ZD (Bl ?_);refine W7 (λi (x2:List (Str×Bool)) x3=>x3=(i:Int)/\∀s,(∀u,u<i->(t.g u).Name≠s)->P1 eqS s x2=none) t.n _ (by omega) ⟨rfl,λs _=>rfl⟩ ?_;rintro b i x2 x3 j ⟨rfl,hm⟩ hs;by_cases a:i<t.n
 case neg=>exact Bl ⟨0,rfl,rfl⟩
 obtain⟨k1,k2,k3,k4⟩:=hk i a;have e1:(if 0<wrap .i64 ((i:Int)-1)then (0:Int)else wrap .i64 ((i:Int)-1))=if i=0 then -1 else 0:=by rw[Mb];split<;>split<;>omega
 refine Al (Af (ltX ?_));dsimp only;rw[Lp,e1,Ar5 (N:=N) (by omega) k3,hm _ k4];have hp:(t.g i).Nu<i/\(if i=0 then -1 else 0)<=(t.g i).Nu:=by
  by_cases e:i=0
  .subst e;have:=k1 rfl;rw[Ek rfl];omega
  have:=k2 (by omega);rw[Et e];omega
 refine Bl (Bl (B8 rfl (Bm ?_)));rw[CJ];refine Bm (hs a _ _ ⟨Br,λs h=>?_⟩);rw[Mm,Et λe=>h i (by omega) e.symm];exact hm s λu l=>h u (by omega)
end Go.AM
namespace Go.AM
variable {N:Nat}
open IntKind (wrap)
open Go.Proofs
structure wkH (h:Ns):Prop where
 tree:Ee h.Tree
 ten:h.Tree.n<=10
 ln:h.Laws.n<=64
 laws:∀i,i<h.Laws.n->TV (h.Laws.g i)
 on:h.On.n=h.Tree.n
 row:∀v,v<h.On.n->(h.On.g v).n<=5
 rng:∀v,v<h.On.n->∀k,k<(h.On.g v).n->0<=(h.On.g v).g k/\(h.On.g v).g k<h.Laws.n
structure okH (N:Nat) (h:Ns):Prop where
 tree:Ee h.Tree
 ten:h.Tree.n<=10
 ln:h.Laws.n<=64
 laws:∀i,i<h.Laws.n->AE6 N (h.Laws.g i)
 on:h.On.n=h.Tree.n
 row:∀v,v<h.On.n->(h.On.g v).n<=5
 rng:∀v,v<h.On.n->∀k,k<(h.On.g v).n->0<=(h.On.g v).g k/\(h.On.g v).g k<h.Laws.n
 chk:K0 N h=some 0
def GG {t:Sl Node}(ht:Ee t){v:Nat}(a:v<t.n):(v=0/\(t.g v).Nu = -1) \/ ∃p:Nat,p<v/\(t.g v).Nu=(p:Int):=by
 have hk:=ht.2.2 v a;by_cases b:v=0
 .subst b;exact .inl ⟨rfl,hk.1 rfl⟩
 obtain⟨g1,g2⟩:=hk.2.1 (by omega);exact .inr ⟨(t.g v).Nu.toNat,by omega,by omega⟩
def AF0 (hN:3000000<=N){h:Ns}(f:wkH h):AE N h=some 0:=by
 have x:=f.ten;have hn:=f.on;unfold AE;refine ZD (Af ?_);refine Yj (λi (x4:Sl Int) (x5:Bool) x6=>x6=(i:Int)/\x4.n=h.On.n/\(∀v,v<i->0<=x4.g v/\x4.g v<=5*(v+1))/\x5=false) h.On.n _ (by omega) ⟨rfl,by show ((h.On.n:Nat):Int).toNat=_;omega,λv m=>Eu m (by omega),rfl⟩ ?_;rintro j i x4 x5 x6 hle ⟨rfl,hx,hp,rfl⟩ hs;by_cases c:i<h.On.n
 case neg=>exact Bl (Bm ⟨0,rfl,rfl⟩)
 have w:=f.row i c;refine Al (ifT (by rw[Lp];omega) (Af (ltX ?_)));rw[Lp];have rest:∀z:Sl Int,z.n=h.On.n->(∀v,v<i->z.g v=x4.g v)->0<=z.g i/\z.g i<=5*(i+1)->∃r,(if (((0:Int)<=(i:Int)/\(i:Int)<(z.n:Int))/\i<z.n)then
  if (decide (64<(z.g i))) then
   some 2
  else
   Ca N (λ(d:Bool->Int->Option Int) (b:Bool) (a:Int)=>
    if (decide (a<((h.On.g i).n:Int))) then
     if ((0:Int)<=a/\a<((h.On.g i).n:Int))then
      d ((b||(decide (((h.On.g i).g a.toNat)<0)))||(decide ((h.Laws.n:Int)<=((h.On.g i).g a.toNat)))) (wrap .i64 (a+1))
     else none
    else
     j z b (wrap .i64 ((i:Int)+1))
    ) false 0
  else none)=some r/\r=0:=by
  intro z y o q;refine Af (Bl ?_);refine W7 (λk (b:Bool) a=>a=(k:Int)/\b=false) (h.On.g i).n _ (by omega) ⟨rfl,rfl⟩ ?_;rintro s k b a hk ⟨rfl,rfl⟩ t;by_cases l:k<(h.On.g i).n
  .have:=f.rng i c k l
   refine Al (Af (t l _ _ ⟨Br,?_⟩));rw[Lp,decide_eq_false (by omega),decide_eq_false (by omega)];rfl
  refine Bl (hs c _ _ _ ⟨Br,y,λv m=>?_,rfl⟩);by_cases e:v=i
  .subst e;exact q
  rw[o v (by omega)];exact hp v (by omega)
 rcases GG f.tree (v:=i) (by omega)with⟨_,e⟩ | ⟨p,u,e⟩
 .rw[e];refine Bq (rest _ hx (λv m=>?_) ?_)
  .show (if v=i then _ else x4.g v)=_;rw[Cl]
  show 0<=(if i=i then ((h.On.g i).n:Int)else _)/\(if i=i then ((h.On.g i).n:Int)else _)<=_;rw[Ek rfl];omega
 have a0:=hp p u;rw[e];refine Am (ifT ?_ ?_)
 .show ((((((0:Int)<=(i:Int)/\(i:Int)<(x4.n:Int))/\i<x4.n)/\(0:Int)<=(p:Int)/\(p:Int)<(x4.n:Int))/\(p:Int).toNat<x4.n)/\(0:Int)<=(i:Int)/\(i:Int)<(x4.n:Int))/\i<x4.n;omega
 rw[Lp];refine rest _ hx (λv m=>?_) ?_
 .show (if v=i then _ else if v=i then _ else x4.g v)=_;rw[Cl,Cl]
 have e:((x4.upd i ((h.On.g i).n:Int)).upd i (wrap .i64 (((x4.upd i ((h.On.g i).n:Int)).g i)+((x4.upd i ((h.On.g i).n:Int)).g p)))).g i=((h.On.g i).n:Int)+x4.g p:=by show (if i=i then wrap .i64 ((if i=i then ((h.On.g i).n:Int)else _)+(if p=i then _ else x4.g p))else _)=_;rw[Ek rfl,Ek rfl,Cl,Mb]
 rw[e];omega
def ZE {ν : Type}{k:Str}{v : ν}:∀{es:List (Str × ν)},P1 eqS k es=none->(Dd eqS k v es).length=es.length+1
 |[],_=>rfl
 |(a,x)::es,h=>by
  simp only[P1]at h;simp only[Dd];by_cases e:eqS k a=true
  .rw[Ek e]at h;cases h
  rw[Et e]at h;rw[Et e,Bj5,ZE h];rfl
def Sa (d:3000000<=N){h:Ns}(c:wkH h):∃e,K0 N h=some e/\((e=0->∀i,i<h.Laws.n->chkAll N (h.Laws.g i))/\((∀i,i<h.Laws.n->chkAll N (h.Laws.g i))->(∀u v,u<v->v<h.Laws.n->(h.Laws.g u).Name≠(h.Laws.g v).Name)->e=0)):=by
 have o:=c.ln;unfold K0;refine B8 (NS d c.tree) (Bq (Bl ?_));refine W7 (λi (x1:List (Str×Int)) x2=>x2=(i:Int)/\(∀j,j<i->chkAll N (h.Laws.g j))/\((∀u v,u<v->v<h.Laws.n->(h.Laws.g u).Name≠(h.Laws.g v).Name)->(∀s,(∀u,u<i->(h.Laws.g u).Name≠s)->P1 eqS s x1=none)/\x1.length=i)) h.Laws.n _ (by omega) ⟨rfl,λj f=>Eu f (by omega),λ_=>⟨λs _=>rfl,rfl⟩⟩ ?_;rintro l i x1 x2 hle ⟨rfl,hc,hm⟩ hs;by_cases a:i<h.Laws.n
 .obtain⟨y,y1,hy⟩:=IZ d (c.laws i a);refine Al (Af (B8 (by rw[Lp];exact y1) ?_));rcases hy with⟨rfl,hy⟩ | ⟨rfl,hy⟩
  case inr=>exact Aw ⟨17,rfl,λe=>(by cases e),λg=>Eu (g i a) hy⟩
  refine Bq ?_;have b : ∀j,j<i+1->chkAll N (h.Laws.g j):=λj f=>by
   by_cases e:j=i
   .subst e;exact hy
   exact hc j (by omega)
  rw[Lp];rcases g:P1 eqS (h.Laws.g i).Name x1 with _|v
  .rw[CJ];refine hs a _ _ ⟨Br,b,λD=>⟨λs hs=>?_,by rw[ZE g,(hm D).2]⟩⟩;rw[Mm,Et λe=>hs i (by omega) e.symm];exact (hm D).1 s λu m=>hs u (by omega)
  rw[EX];exact hs a _ _ ⟨Br,b,λD=>by have:=(hm D).1 _ λu m=>D u i m a;rw[g]at this;cases this⟩
 refine Bl ?_;rw[Xo];have b : ∀i,i<h.Laws.n->chkAll N (h.Laws.g i):=λj f=>hc j (by omega);by_cases hl:x1.length<h.Laws.n
 .exact Al ⟨6,rfl,λe=>(by cases e),λ_ D=>(by have:=(hm D).2;omega)⟩
 exact Bl (ifF (by simp[c.on]) (B8 (AF0 d c) ⟨0,rfl,λ_=>b,λ_ _=>rfl⟩))
def AK5 {h:Ns}(a:wkH h)(c:∀i,i<h.Laws.n->chkAll N (h.Laws.g i))(hc:K0 N h=some 0):okH N h:=⟨a.tree,a.ten,a.ln,λi b=>⟨a.laws i b,c i b⟩,a.on,a.row,a.rng,hc⟩
end Go.AM
namespace Go.AM
variable {N:Nat}
open IntKind (wrap)
open Go.Proofs
def Ar6 {t:Sl Node}(ht:Ee t){u:Nat}(a:u<t.n) : -1<=(t.g u).Nu/\(t.g u).Nu<u:=by
 rcases GG ht a with⟨b,e⟩ | ⟨p,hp,e⟩
 .rw[e];omega
 rw[e];omega
inductive Up (t:Sl Node):Nat->List Int->Prop
 |root {v:Nat}(h:(t.g v).Nu = -1):Up t v [(v:Int)]
 |step {v p:Nat}{L:List Int}(h:(t.g v).Nu=(p:Int)) (hL:Up t p L):Up t v ((v:Int)::L)
def Up.det {t:Sl Node}{v:Nat}{L:List Int}(h:Up t v L):∀{L' : List Int},Up t v L' -> L=L':=by
 induction h with
 |root h1=>
  intro L' g;cases g with
  |root _=>rfl
  |step h2 _=>omega
 |step h1 _ ih=>
  intro L' g;cases g with
  |root h2=>omega
  | @step _ q _ h2 g=>have e:(_:Int)=(q:Int):=h1.symm.trans h2;rw[Int.natCast_inj.1 e]at ih;rw[ih g]
def PU {α : Type}{s:Sl α}{i:Nat}(h:i<s.n):s.toList.take (i+1)=s.toList.take i++[s.g i]:=by rw[List.take_add_one];simp[Sl.toList,h]
def AK6 (q:3000000<=N){t:Sl Node}(ht:Ee t){v:Nat}(r:v<t.n):∃L,T0 N (v:Int) t=some L/\L.length<=64/\(∀x∈L,∃u:Nat,x=(u:Int)/\u<t.n)/\Up t v L.reverse:=by
 have l:=ht.2.1;unfold T0;refine W7 (λi (x1:Int) (x2:Sl Int)=>-1<=x1/\x1<t.n/\x1+i<=v/\x2.n=i/\(∀j,j<x2.n->∃u:Nat,x2.g j=(u:Int)/\u<t.n)/\((x1 = -1/\Up t v x2.toList) \/ (0<=x1/\∀L,Up t x1.toNat L->Up t v (x2.toList++L)))) (v+1) _ (by omega) ⟨by omega,by omega,by omega,rfl,λj c=>Eu c (Bi3 j),.inr ⟨by omega,λL h=>h⟩⟩ ?_;rintro d i x1 x2 s ⟨h1,y,z,h4,f,a⟩ hs;by_cases hx:0<=x1
 .obtain⟨u,rfl⟩:∃u:Nat,x1=u:=⟨x1.toNat,by omega⟩;refine Am (ifT ⟨by show (x2.n+1)*8<=_/\x2.n+1<=_;omega,by omega⟩ ?_);have a:∀L,Up t u L->Up t v (x2.toList++L):=a.elim (λh=>Eu h.1 (by omega)) (λh=>h.2);rw[Lp];have hp:=Ar6 ht (u:=u) (by omega);refine hs (by omega) _ _ ⟨hp.1,by omega,by omega,by show x2.n+1=_;omega,λj c=>?_,?_⟩
  .show ∃w:Nat,(if j<x2.n then x2.g j else (u:Int))=w/\w<t.n;split
   .exact f j (by assumption)
   exact⟨u,rfl,by omega⟩
  rw[PT];rcases GG ht (v:=u) (by omega)with⟨_,e⟩ | ⟨p,_,e⟩
  .exact .inl ⟨e,a _ (.root e)⟩
  refine .inr ⟨by omega,λL hL=>?_⟩;rw[e,Lp]at hL;rw[Bp9];exact a _ (.step e hL)
 refine Bl ?_;have a:Up t v x2.toList:=a.elim (λh=>h.2) (λh=>Eu h.1 hx);have hb:∀(m M:Nat),m<=x2.n->m<M->X5 M (λ(b:Int->Option (List Int)) (x3:Int)=>
  if (decide (0<=x3)) then
   if (((0:Int)<=x3/\x3<(x2.n:Int))/\x3.toNat<x2.n)then
    Ak (x2.g x3.toNat) (
     b (wrap .i64 (x3-1))
     )
   else none
  else
   some []
  ) ((m:Int)-1)=some (x2.toList.take m).reverse:=by
  intro m
  induction m with
  |zero=>intro M _ o;obtain⟨M,rfl⟩:∃K,M=K+1:=⟨M-1,by omega⟩;rw[I0,Et (by decide)];rfl
  |succ m ih=>intro M hm o;obtain⟨M,rfl⟩:∃K,M=K+1:=⟨M-1,by omega⟩;rw[PU (by omega),Bt2,I0,show ((m+1:Nat):Int)-1=(m:Int) by omega,Ek (by simp),Cg,Mb,ih M (by omega) (by omega),Lp];rfl
 rw[Mb];have hm:=hb x2.n N (Bh5 _) (by omega);rw[Bo5 (by rw[Ai];exact Bh5 _)]at hm;refine⟨_,hm,by rw[Bt3,Ai];omega,λx hx=>?_,by rw[Bv1];exact a⟩;obtain⟨j,c,rfl⟩:=Bl0.1 (Br9.1 hx);exact f j (Bk2.1 c)
abbrev Mn (h:Ns)(x:Int):List Int:=(h.On.g x.toNat).toList
def AK7 {α : Type}(s t:Sl α):(s.app t).toList=s.toList++t.toList:=by
 show (List.range (s.n+t.n)).map (λi=>if i<s.n then s.g i else t.g (i-s.n))=_;rw[List.range_add,Bp2];congr 1
 .exact Bj8 λi a=>Ek (Bk2.1 a)
 rw[Bo3];exact Bj8 λi _=>(Et (show ¬s.n+i<s.n by omega)).trans (congrArg t.g (Nat.add_sub_cancel_left ..))
abbrev Be1 (h:Ns)(s:Sl Int):Prop:=∀k,k<s.n->0<=s.g k/\s.g k<h.Laws.n
def AT5 (j:3000000<=N){h:Ns}(b:okH N h){v:Nat}(l:v<h.Tree.n):∃s,Ab N h (v:Int)=some (s,0)/\s.n<=1000/\Be1 h s/\∃L,Up h.Tree v L/\s.toList=L.reverse.flatMap (Mn h):=by
 have m:=b.on;obtain⟨L,l1,l2,l3,l4⟩:=AK6 j b.tree l;unfold Ab;rw[b.chk,Lw,Et (by decide),U8,Lw,Dn,Be,Lw];show ∃s,(T0 N (v:Int) h.Tree).bind _=_/\_;rw[l1,Lw];have key:∃r:Sl Int×Int,T2 L (λ(a:Sl Int->Option ((Sl Int)×Int)) (x1:Int) (z1:Sl Int)=>
  if (((0:Int)<=x1/\x1<(h.On.n:Int))/\(Kl 8 (z1.n+(h.On.g x1.toNat).n)))then
   a (z1.app (h.On.g x1.toNat))
  else none
  ) (λ(z1:Sl Int)=>
   some (z1,0)
  ) Iy=some r/\(r.2=0/\r.1.n<=1000/\Be1 h r.1/\r.1.toList=L.flatMap (Mn h)):=by
  refine Wl (λ(R:List Int) (z:Sl Int)=>z.n+5*R.length<=1000/\Be1 h z/\(∀x∈R,∃u:Nat,x=(u:Int)/\u<h.Tree.n)/\z.toList++R.flatMap (Mn h)=L.flatMap (Mn h)) (λz c=>⟨_,rfl,rfl,by have:=c.1;simp at this;omega,c.2.1,by simpa using c.2.2.2⟩) ?_ L _ ⟨by show 0+_<=_;omega,λk hk=>Eu hk (Bi3 k),l3,rfl⟩;rintro x R z d ⟨h1,o,f,q⟩ hs;obtain⟨u,rfl,t⟩:=f x (by simp);have i:=b.row u (by omega);simp only[Bj5]at h1;rw[Lp];refine Af (hs _ ⟨by show z.n+(h.On.g u).n+_<=_;omega,λk hk=>?_,λy hy=>f y (by simp[hy]),by rw[AK7,<- q,Bo7,Bp9,Mn,Lp]⟩);have hk:k<z.n+(h.On.g u).n:=hk;show 0<=(if k<z.n then z.g k else (h.On.g u).g (k-z.n))/\(if k<z.n then z.g k else (h.On.g u).g (k-z.n))<_;split
  .exact o k (by assumption)
  exact b.rng u (by omega) _ (by omega)
 obtain⟨⟨s,e⟩,k1,k2,k3,k4,k5⟩:=key;obtain rfl:e=0:=k2;exact⟨s,k1,k3,k4,_,l4,by rw[Bv1];exact k5⟩
def Mo:∀(d:Nat) (p:Pat),okQ d p->∀M,100+d<=M->S1 M p=some p
 |0,p,h,M,_=>h.elim
 |d+1,p,h,0,hM=>by omega
 |d+1,p,h,M+1,hM=>by
  show T1 (S1 M) M p=some p;unfold T1;have hn:=h.2.1;refine ZD (GE (λi x2=>x2=(i:Int)) p.L.n _ (by omega) rfl ?_);rintro a i x2 b rfl hs;by_cases hl:i<p.L.n
  .refine Al (Af ?_);rw[Lp];exact B8 (Mo d (p.L.g i) (h.2.2 i hl) M (by omega)) (Af (hs hl _ (Br)))
  exact Bl (Af ⟨_,rfl,rfl⟩)
def Ws (a:3000000<=N){l:Law}(hl:AE6 N l):T5 N l=some l:=by obtain⟨h1,b,c,d⟩:=hl.1;obtain⟨_,c1,c2,c3,c4,_⟩:=hl.2;unfold T5 A8 H4;rw[Mo 40 l.Left (TR 40 _ (by omega) c1 _ (by simp)) N (by omega),Mo 40 l.Right (TR 40 _ (by omega) c2 _ (by simp)) N (by omega),Lw,Lw,Cg,Lw,Cg];rfl
def Gd {α : Type}[Inhabited α](l:List α):Sl α:=l.foldl Sl.push Sl.nil
def Mp {α : Type}[Inhabited α](l:List α)(x : α):Gd (l++[x])=(Gd l).push x:=List.foldl_append
def Hq {α : Type}[Inhabited α](l:List α):(Gd l).toList=l:=by
 have:∀(l:List α) (s:Sl α),(l.foldl Sl.push s).toList=s.toList++l:=by
  intro l
  induction l with
  |nil=>intro s;simp
  |cons x l ih=>intro s;rw[Bs3,ih,PT];simp
 exact this l Sl.nil
def Yq {α : Type}[Inhabited α](l:List α):(Gd l).n=l.length:=by rw[<- Ai,Hq]
abbrev FA (h:Ns)(l:List Int):List Law:=l.map λx=>h.Laws.g x.toNat
def Ar7 (c:3000000<=N){h:Ns}(d:okH N h){l:Sl Int}(hn:l.n<=1000)(hl:Be1 h l):R6 N h l=some (Gd (FA h l.toList)):=by
 unfold R6;refine ZD (W7 (λi (x1:Sl Law) x2=>x2=(i:Int)/\x1=Gd (FA h (l.toList.take i))) l.n _ (by omega) ⟨rfl,rfl⟩ ?_);rintro b i x1 x2 hle ⟨rfl,rfl⟩ hs;have hx:(Gd (FA h (l.toList.take i))).n<=i:=by rw[Yq,Bj9];exact Bz5 _ _
 by_cases a:i<l.n
 .have f:=hl i a;refine Al ?_;rw[Lp];exact ifT ⟨by omega,f⟩ (B8 (Ws c (d.laws (l.g i).toNat (by omega))) (ifT (by show (_+1)*200<=_/\_+1<=_;omega) (hs a _ _ ⟨Br,by rw[PU a];show _=Gd (List.map _ (_++[l.g i]));rw[Bp2];exact (Mp _ _).symm⟩)))
 exact Bl ⟨_,rfl,by rw[Bo5 (by rw[Ai];omega)]⟩
def TX {h:Ns}(a:okH N h){l:List Int}(hl:∀x∈l,0<=x/\x<h.Laws.n):Db (Gd (FA h l)):=λj b=>by
 have hm:(Gd (FA h l)).g j∈(Gd (FA h l)).toList:=Bl0.2 ⟨j,Bk2.2 b,rfl⟩;rw[Hq]at hm;obtain⟨x,hx,e⟩:=Bl0.1 hm
 have:=hl x hx
 rw[<- e];exact (a.laws x.toNat (by omega)).1
def TY {h:Ns}{s:Sl Int}(hs:Be1 h s):∀x∈s.toList,0<=x/\x<h.Laws.n:=λx hx=>by obtain⟨j,a,rfl⟩:=Bl0.1 hx;exact hs j (Bk2.1 a)
def AT6 (b:3000000<=N){h:Ns}(a:okH N h){v:Nat}(c:v<h.Tree.n):∃L,Up h.Tree v L/\R7 N h (v:Int)=some (Gd (FA h (L.reverse.flatMap (Mn h))),0)/\Db (Gd (FA h (L.reverse.flatMap (Mn h)))):=by obtain⟨l,l1,l2,l3,L,l4,l5⟩:=AT5 b a c;refine⟨L,l4,?_,by rw[<- l5];exact TX a (TY l3)⟩;unfold R7;rw[l1,Lw];show (R6 N h l).bind _=_;rw[Ar7 b a l2 l3,l5];rfl
def Up.len {t:Sl Node}{v:Nat}{L:List Int}(h:Up t v L):Ee t->v<t.n->L.length<=v+1:=by
 induction h with
 |root _=>exact λ_ _=>by simp
 |step h1 _ ih=>
  intro ht a
  have:=(Ar6 ht a).2
  have:=ih ht (by omega)
  rw[Bj5];omega
def Up.mem {t:Sl Node}{v:Nat}{L:List Int}(h:Up t v L):v<t.n->Ee t->∀x∈L,∃u:Nat,u<t.n/\x=(u:Int):=by
 induction h with
 |root _=>exact λa _ x hx=>⟨_,a,Bm6.1 hx⟩
 |step h1 _ ih=>
  intro a ht x hx;rcases Bi4.1 hx with e|hx
  .exact⟨_,a,e⟩
  exact ih (by have:=(Ar6 ht a).2;omega) ht x hx
def ZF {h:Ns}(a:okH N h){l:List Int}(hn:l.length<=64)(hl:∀x∈l,0<=x/\x<h.Laws.n):Nh N (Gd (FA h l)):=⟨by rw[Yq,Bj9];exact hn,λj b=>by
 have hm:(Gd (FA h l)).g j∈(Gd (FA h l)).toList:=Bl0.2 ⟨j,Bk2.2 b,rfl⟩;rw[Hq]at hm;obtain⟨x,hx,e⟩:=Bl0.1 hm
 have:=hl x hx
 rw[<- e];exact (a.laws x.toNat (by omega)).2⟩
def Be2 (d:3000000<=N){h:Ns}(a:okH N h){w:Sl Kj}(hw:wOk w){v:Nat}(hv:v<h.Tree.n):∃r L,X0 N h w (v:Int)=some r/\Up h.Tree v L/\((r.2=0/\wOk r.1/\EH N (FA h (L.reverse.flatMap (Mn h))) w=some r.1) \/ (r.2≠0/\EH N (FA h (L.reverse.flatMap (Mn h))) w=none)):=by
 have hon:=a.on;obtain⟨L,l1,l2,l3,l4⟩:=AK6 d a.tree hv
 suffices ∃r,X0 N h w (v:Int)=some r/\((r.2=0/\wOk r.1/\EH N (FA h (L.flatMap (Mn h))) w=some r.1) \/ (r.2≠0/\EH N (FA h (L.flatMap (Mn h))) w=none)) by obtain⟨r,r1,r2⟩:=this;exact⟨r,_,r1,l4,by rw[Bv1];exact r2⟩
 unfold X0 CT;rw[a.chk,Lw,Et (by decide)];obtain⟨e,e1,he⟩:=LH (N:=N) (by omega) λi f=>(hw.2 i f).ok;obtain rfl:=(IO he).2 hw;rw[e1];simp only[Lw];refine Bq ?_;rw[U8,Lw];refine Bl ?_;rw[Be,Lw];refine B8 l1 ?_;refine Wl (λ(R:List Int) (z:Sl Kj)=>wOk z/\(∀x∈R,∃u:Nat,x=(u:Int)/\u<h.Tree.n)/\EH N (FA h (L.flatMap (Mn h))) w=EH N (FA h (R.flatMap (Mn h))) z) (λz o=>⟨_,rfl,.inl ⟨rfl,o.1,o.2.2⟩⟩) ?_ L _ ⟨hw,l3,rfl⟩;rintro x R z q ⟨h1,s,j⟩ hs;obtain⟨u,rfl,hu⟩:=s x (by simp);have t:=a.row u (by omega);have b:=TY (a.rng u (by omega));have s1:=Ar7 d a (l:=h.On.g u) (by omega) (a.rng u (by omega));obtain⟨r,r1,r2,r3⟩:=PS d (TX a b) (w:=z) λi f=>(h1.2 i f).ok;have r3:=r3 (ZF a (by rw[Ai];omega) b) h1;rw[Hq]at r3;have hc:EH N (FA h (((u:Int)::R).flatMap (Mn h))) z=(EH N (FA h (h.On.g u).toList) z).bind (EH N (FA h (R.flatMap (Mn h)))):=by rw[Bo7,Mn,Lp,<- Wr,<- Bp2]
 rw[hc]at j;rw[Lp];refine Af (B8 s1 (B8 r1 ?_));rcases r3 with⟨c,m⟩ | ⟨c,m⟩
 .exact ifF (by simp[c]) (hs _ ⟨r2 c,λy hy=>s y (by simp[hy]),by rw[j,m];rfl⟩)
 exact ifT (by simpa using c) ⟨_,rfl,.inr ⟨c,by rw[j,m];rfl⟩⟩
end Go.AM
namespace Go.AM
variable {N:Nat}
open IntKind (wrap)
open Go.Proofs
def TZ (t:Sl Node)(v:Nat):Prop:=∀u,0<u->u<t.n->(t.g u).Nu≠(v:Int)
open Classical in
noncomputable def Q9 (t:Sl Node):Nat->Sl Int
 |0=>Iy
 |i+1=>if TZ t i then (Q9 t i).push (i:Int)else Q9 t i
def PW {t:Sl Node}{i:Nat}(h:TZ t i):Q9 t (i+1)=(Q9 t i).push (i:Int):=Ek h
def Ua {t:Sl Node}{i:Nat}(h:¬TZ t i):Q9 t (i+1)=Q9 t i:=Et h
def Yr (t:Sl Node):∀i,(Q9 t i).n<=i
 |0=>Bh5 0
 |i+1=>by
  have:=Yr t i
  by_cases h:TZ t i
  .rw[PW h];show (Q9 t i).n+1<=i+1;omega
  rw[Ua h];omega
def IP (t:Sl Node):∀i k,k<(Q9 t i).n->∃v:Nat,v<i/\(Q9 t i).g k=(v:Int)
 |0,k,hk=>Eu hk (Bi3 k)
 |i+1,k,hk=>by
  by_cases h:TZ t i
  .rw[PW h]at hk⊢;have hk:k<(Q9 t i).n+1:=hk;show ∃v:Nat,v<i+1/\(if k<(Q9 t i).n then (Q9 t i).g k else (i:Int))=(v:Int);by_cases a:k<(Q9 t i).n
   .rw[Ek a];obtain⟨v,h1,b⟩:=IP t i k a;exact⟨v,by omega,b⟩
   rw[Et a];exact⟨i,by omega,rfl⟩
  rw[Ua h]at hk⊢;obtain⟨v,h1,b⟩:=IP t i k hk;exact⟨v,by omega,b⟩
def AF1 (s:3000000<=N){t:Sl Node}(ht:Ee t):∃X,AF N t=some X/\(X.n=t.n/\∀v,v<t.n->((X.g v).n=0↔TZ t v)):=by
 have o:=ht.2.1;unfold AF;refine Af (W7 (λi x (X:Sl (Sl Int))=>x=(i:Int)/\X.n=t.n/\∀v,v<t.n->(((X.g v).n=0 ↔ ∀u,0<u->u<i->(t.g u).Nu≠(v:Int))/\(X.g v).n<=i)) t.n _ (by omega)
  ⟨rfl,rfl,λv b=>⟨⟨λ_ u h1 a=>Eu a (Bi3 u),λ_=>rfl⟩,Bh5 0⟩⟩ ?_)
 rintro l i x X hle ⟨rfl,c,f⟩ hs;by_cases hl:i<t.n
 case neg=>
  obtain rfl:i=t.n:=by omega
  exact Bm ⟨X,rfl,c,λv b=>(f v b).1⟩
 refine ifT (by simpa using hl) (Af ?_);rw[Lp,Br];rcases GG ht hl with⟨q,h1⟩ | ⟨p,hp,e⟩
 .subst q;rw[h1];refine ifT (by show Int.toNat (-1)<X.n;rw[c];exact hl) (ltX (Bm (hs hl _ _ ⟨rfl,c,λv b=>?_⟩)));have e:(X.upd (Int.toNat (-1)) (X.g (Int.toNat (-1)))).g v=X.g v:=by
   show (if v=_ then X.g (Int.toNat (-1))else X.g v)=X.g v;split
   .rename_i e;rw[e]
   rfl
  rw[e];obtain⟨g1,g2⟩:=f v b;exact⟨g1.trans ⟨λ_ u h1 a=>Eu a (by omega),λ_ u h1 a=>Eu a (by omega)⟩,by omega⟩
 rw[e,Lp];have j:p<t.n:=by omega
 have m:=(f p j).2;refine Af (ltX (Al (ifT ⟨⟨by omega,by rw[c];omega⟩,by omega,by omega⟩ (hs hl _ _ ⟨rfl,c,λv b=>?_⟩))));show ((if v=p then (X.g p).push (i:Int)else X.g v).n=0↔_)/\(if v=p then (X.g p).push (i:Int)else X.g v).n<=i+1;by_cases d:v=p
 .subst d;rw[Ek rfl];refine⟨⟨λh=>Eu h (Nat.succ_ne_zero _),λh=>Eu e (h i (by omega) (by omega))⟩,?_⟩;show (X.g v).n+1<=i+1;omega
 rw[Et d];obtain⟨g1,g2⟩:=f v b;refine⟨g1.trans ⟨λh u h1 a=>?_,λh u h1 a=>h u h1 (by omega)⟩,by omega⟩;by_cases r:u=i
 .subst r;rw[e];omega
 exact h u h1 (by omega)
def Be3 {R:Type}{Q:R->Prop}{a:Sl Int->Int->Option R}{t:Sl Node}{i:Nat}(c:i<1000){b:Bool}(hb:b=true↔TZ t i)(h:∃r,a (Q9 t (i+1)) ((i+1:Nat):Int)=some r/\Q r) :∃r,(if b then
  if (Kl 8 ((Q9 t i).n+(Sl.of [(i:Int)]:Sl Int).n))then
   a ((Q9 t i).push (i:Int)) (wrap .i64 ((i:Int)+1))
  else none
  else a (Q9 t i) (wrap .i64 ((i:Int)+1)))=some r/\Q r:=by
 have hn:=Yr t i;rw[Br];by_cases hk:TZ t i
 .rw[PW hk]at h;exact ifT (hb.2 hk) (ifT ⟨by show ((Q9 t i).n+1)*8<=_;omega,by show (Q9 t i).n+1<=_;omega⟩ h)
 rw[Ua hk]at h;exact ifF (λg=>hk (hb.1 g)) h
def Ys (c:3000000<=N){t:Sl Node}(ht:Ee t):∃r,CU N t=some r/\r=Q9 t t.n:=by
 have d:=ht.2.1;unfold CU;obtain⟨X,e,a,hk⟩:=AF1 c ht;refine B8 e (W7 (λi x1 x2=>x2=(i:Int)/\x1=Q9 t i) t.n _ (by omega) ⟨rfl,rfl⟩ ?_);rintro b i x1 x2 hle ⟨rfl,rfl⟩ hs;by_cases hl:i<t.n
 .refine ifT (by rw[a];simpa using hl) (Af ?_);rw[Lp];exact Be3 (by omega) (by rw[<- hk i hl];simp) (hs hl _ _ ⟨rfl,rfl⟩)
 obtain rfl:i=t.n:=by omega
 exact ifF (by rw[a];simp) ⟨_,rfl,rfl⟩
def AF2 (l:3000000<=N){t:Sl Node}(ht:Ee t){v:Nat}(m:v<t.n):∃r,BY N t (v:Int)=some r/\(r.n=0↔TZ t v):=by
 have f:=ht.2.1;unfold BY;refine W7 (λi (x1:Sl Int) x2=>x2=(i:Int)/\x1.n<=i/\(x1.n=0 ↔ ∀u,0<u->u<i->(t.g u).Nu≠(v:Int))) t.n _ (by omega) ⟨rfl,Bh5 0,λ_ u h1 a=>Eu a (Bi3 u),λ_=>rfl⟩ ?_;rintro b i x1 x2 hle ⟨rfl,hn,c⟩ hs;by_cases hl:i<t.n
 .refine ifT (by simpa using hl) (Af ?_);rw[Lp,Br];by_cases hp:(t.g i).Nu=(v:Int)
  .have d:0<i:=by
    rcases GG ht hl with⟨d,h1⟩ | ⟨p,hp,e⟩
    .rw[h1]at hp;omega
    omega
   refine ifT (by simpa using hp) (ifT ⟨by show (x1.n+1)*8<=_;omega,by show x1.n+1<=_;omega⟩ (hs hl _ _ ⟨rfl,by show x1.n+1<=i+1;omega,λh=>Eu h (Nat.succ_ne_zero _),λh=>Eu hp (h i d (by omega))⟩))
  refine ifF (by simpa using hp) (hs hl _ _ ⟨rfl,by omega,c.trans ⟨λh u h1 a=>?_,λh u h1 a=>h u h1 (by omega)⟩⟩);by_cases j:u=i
  .subst j;exact hp
  exact h u h1 (by omega)
 obtain rfl:i=t.n:=by omega
 exact Bm ⟨_,rfl,c⟩
def IQ (a:3000000<=N){t:Sl Node}(ht:Ee t):U0 N t=some (Q9 t t.n,0)/\X1 N t=some (Q9 t t.n,0):=by
 have c:=ht.2.1;unfold U0 X1;rw[NS a ht,AE9 a ht,Lw,Lw,Et (by decide),Et (by decide)];obtain⟨r,g1,rfl⟩:=Ys a ht;refine⟨by rw[g1];rfl,ZD (W7 (λi x1 x2=>x2=(i:Int)/\x1=Q9 t i) t.n _ (by omega) ⟨rfl,rfl⟩ ?_)⟩;rintro b i x1 x2 hle ⟨rfl,rfl⟩ hs;by_cases hl:i<t.n
 .refine ifT (by simpa using hl) ?_;obtain⟨r,k1,k2⟩:=AF2 a ht hl;exact B8 k1 (Be3 (by omega) (by rw[<- k2];simp) (hs hl _ _ ⟨rfl,rfl⟩))
 obtain rfl:i=t.n:=by omega
 exact Bm ⟨_,rfl,rfl⟩
def Kw {t:Sl Node}(ht:Ee t):(Q9 t t.n).n<=63:=by have:=Yr t t.n;have:=ht.2.1;omega
end Go.AM
namespace Go.AM
variable {N:Nat}
open IntKind (wrap)
open Go.Proofs
def Be4 {t:Sl Node}(ht:Ee t):∀(M v:Nat),v+2<=M->v<t.n->∃L,X5 M (λ(a:Int->Option (List Int)) (x1:Int)=>
 if (decide (0<=x1)) then
  Ak x1 (
   if ((0:Int)<=x1/\x1<(t.n:Int))then
    a (t.g x1.toNat).Nu
   else none
   )
 else
  some []) (v:Int)=some L/\L.length<=v+1/\Up t v L
 |0,v,hM,_=>by omega
 |M+1,v,hM,hv=>by
  rw[I0,Ek (by simp),Cg,Lp];rcases GG ht hv with⟨_,e⟩ | ⟨p,hp,e⟩
  .obtain⟨M,rfl⟩:∃K,M=K+1:=⟨M-1,by omega⟩;rw[e,I0,Et (by decide)];exact⟨[(v:Int)],rfl,by simp,.root e⟩
  obtain⟨L,l1,l2,l3⟩:=Be4 ht M p (by omega) (by omega);rw[e,l1];exact⟨(v:Int)::L,rfl,by simp;omega,.step e l3⟩
def Be5 {x:Sl Int}(hn:x.n<100000)(d:x.n<N):∃s,I4 N x=some s/\s.toList=x.toList.reverse:=by
 unfold I4;refine Yj (λi (x1:Sl Int) x2 x3=>x2=(i:Int)/\x3=(x.n:Int)-1-(i:Int)/\x1.n=x.n/\∀j,j<x.n->x1.g j=if j<i \/ x.n-1-i<j then x.g (x.n-1-j)else x.g j) x.n _ d ⟨rfl,(Mb).trans (by omega),rfl,λj a=>(Cl).symm⟩ ?_;rintro c i x1 x2 x3 f ⟨rfl,rfl,hx,a⟩ hs;by_cases hl:(i:Int)<(x.n:Int)-1-(i:Int)
 .have e3:((x.n:Int)-1-(i:Int)).toNat=x.n-1-i:=by omega
  refine ifT (by simpa using hl) (ifT (by rw[Sl.upd];dsimp only;omega) ?_);rw[Lp,e3];refine hs (by omega) _ _ _ ⟨Br,by rw[Mb];omega,hx,λj b=>?_⟩;show (if j=x.n-1-i then x1.g i else if j=i then x1.g (x.n-1-i)else x1.g j)=_;by_cases e1:j=x.n-1-i
  .rw[Ek e1,Cg,a i (by omega),Cl,show x.n-1-j=i by omega]
  rw[Et e1];by_cases e2:j=i
  .rw[Ek e2,Cg,a _ (by omega),Cl,e2]
  rw[Et e2,a j b];by_cases e4:j<i \/ x.n-1-i<j
  .rw[Ek e4,Cg]
  rw[Et e4,Cl]
 refine ifF (by simpa using hl) ⟨_,rfl,Bx2 (by rw[Bt3,Ai,Ai,hx]) λj h1 l=>?_⟩;have h1:j<x.n:=by rw[Ai]at h1;omega
 rw[List.getElem_reverse];simp only[Sl.toList,List.getElem_map,Bv6,Bj9,Bu1];rw[a j h1];by_cases e4:j<i \/ x.n-1-i<j
 .rw[Ek e4]
 rw[Et e4,show x.n-1-j=j by omega]
def AT7 (c:3000000<=N){t:Sl Node}(ht:Ee t){v:Nat}(d:v<t.n):∃s L,Fs N t (v:Int)=some (s,0)/\s.n<=64/\s.toList=L.reverse/\Up t v L:=by
 have f:=ht.2.1;have hc:DX N t (Sl.of [(v:Int)]:Sl Int)=some 0:=by
  unfold DX;rw[NS c ht,Lw,Et (by decide)];refine ZD (GE (λi x=>x=(i:Int)) 1 _ (by omega) rfl ?_);rintro a i x l rfl hs;by_cases hl:i<1
  .obtain rfl:i=0:=by omega
   exact Am (Am (Bl (hs hl _ (Br))))
  exact Bl ⟨_,rfl,rfl⟩
 obtain⟨L,l1,l2,l3⟩:=Be4 ht N v (by omega) d;have b:∃z,G5 N L=some z/\z.toList=L:=by unfold G5;refine Wl (λR (z:Sl Int)=>z.n+R.length=L.length/\z.toList++R=L) (λz b=>⟨z,rfl,by simpa using b.2⟩) ?_ L _ ⟨by simp,rfl⟩;rintro x R z a ⟨h1,g⟩ hs;simp only[Bj5]at h1;exact ifT (by show (z.n+1)*8<=_/\z.n+1<=_;omega) (hs _ ⟨by show z.n+1+_=_;omega,by rw[PT,<- g];simp⟩)
 obtain⟨z,z1,z2⟩:=b;have j:z.n=L.length:=by rw[<- z2,Ai]
 obtain⟨s,s1,s2⟩:=Be5 (N:=N) (x:=z) (by omega) (by omega);refine⟨s,L,?_,by have:=congrArg List.length s2;rw[Ai,Bt3,Ai]at this;omega,by rw[s2,z2],l3⟩;unfold Fs;rw[hc,Lw,Et (by decide),LD,Lw];show (Fq N (v:Int) t).bind _=_;unfold Fq;rw[l1,Lw];unfold U1;rw[z1,Lw,Lw,s1];rfl
def lineP (h:Ns)(v:Nat)(X:Sl Law):Prop:=∃L,Up h.Tree v L/\X=Gd (FA h (L.reverse.flatMap (Mn h)))
def lineP.ok {N:Nat}{h:Ns}(a:okH N h){v:Nat}(b:v<h.Tree.n){X:Sl Law}(d:lineP h v X):Nh N X:=by
 obtain⟨L,l1,rfl⟩:=d;have f:=a.on;have g:=a.ten;have hm:=l1.mem b a.tree;have hl:=l1.len a.tree b;have len:∀M:List Int,(∀x∈M,∃u:Nat,u<h.Tree.n/\x=(u:Int))->(M.flatMap (Mn h)).length<=5*M.length:=by
  intro M
  induction M with
  |nil=>exact λ_=>Bh5 _
  |cons x M ih=>
   intro c;obtain⟨u,i,rfl⟩:=c x (by simp)
   have:=ih λy hy=>c y (by simp[hy])
   have:=a.row u (by omega)
   rw[Bo7,Bj2,Bj5,Mn,Lp,Ai];omega
 have j:=len L.reverse λx hx=>hm x (Br9.1 hx);rw[Bt3]at j;refine ZF a (by omega) λx hx=>?_;obtain⟨y,hy,hx⟩:=Bu7.1 hx;obtain⟨u,i,rfl⟩:=hm y (Br9.1 hy);rw[Mn,Lp]at hx;exact TY (a.rng u (by omega)) x hx
def lineP.laws {N:Nat}{h:Ns}(a:okH N h){v:Nat}(b:v<h.Tree.n){X:Sl Law}(c:lineP h v X):Db X:=by obtain⟨L,l1,rfl⟩:=c;have d:=a.on;refine TX a λx hx=>?_;obtain⟨y,hy,hx⟩:=Bu7.1 hx;obtain⟨u,f,rfl⟩:=l1.mem b a.tree y (Br9.1 hy);rw[Mn,Lp]at hx;exact TY (a.rng u (by omega)) x hx
def Af5 (hN:3000000<=N){h:Ns}(f:okH N h):∃X,Z5 N h (-1)=some X/\(X.n=(Q9 h.Tree h.Tree.n).n/\∀k,k<X.n->lineP h ((Q9 h.Tree h.Tree.n).g k).toNat (X.g k)):=by
 have a3:=Kw f.tree;have hon:=f.on;have t:∀k,k<(Q9 h.Tree h.Tree.n).n->∃u:Nat,u<h.Tree.n/\(Q9 h.Tree h.Tree.n).g k=(u:Int):=λk hk=>IP h.Tree h.Tree.n k hk;unfold Z5;refine B8 (IQ hN f.tree).1 ?_;generalize Q9 h.Tree h.Tree.n=s at a3 t;refine ifT (by dsimp only;omega) (ifT (by dsimp only;omega) ?_);dsimp only;refine Yj (λi (K:Nat) (X:Sl (Sl Law)) y=>i=K/\y=(i:Int)/\X.n=s.n/\∀k,(k<i->lineP h (s.g k).toNat (X.g k))/\(i<=k->X.g k=Sl.nil)) s.n _ (by omega) ⟨rfl,rfl,rfl,λk=>⟨λh=>Eu h (Bi3 k),λ_=>rfl⟩⟩ ?_;rintro self i K X y hle ⟨rfl,rfl,hX,b⟩ hs;by_cases hl:i<s.n
 case neg=>exact Bl (ifT ⟨by omega,hX⟩ ⟨_,rfl,hX,λk hk=>(b k).1 (by omega)⟩)
 obtain⟨u,hu,x⟩:=t i hl;obtain⟨w,L,w1,w2,w3,w4⟩:=AT7 hN f.tree hu;have a0:=w4.mem hu f.tree;refine Al (Af ?_);rw[Lp,x];refine B8 w1 ?_;dsimp only;refine W7 (λm (X' : Sl (Sl Law)) z=>z=(m:Int)/\X'.n=s.n/\X'.g i=Gd (FA h ((w.toList.take m).flatMap (Mn h)))/\((w.toList.take m).flatMap (Mn h)).length<=5*m/\∀k,k≠i->X'.g k=X.g k) w.n _ (by omega) ⟨rfl,hX,(b i).2 (Bh5 i),Bn9 _,λk _=>rfl⟩ ?_;rintro self2 m X' z hm ⟨rfl,a1,j,hn',l⟩ hs2;by_cases o:m<w.n
 case neg=>
  rw[Bo5 (by rw[Ai];omega),w3]at j;refine Bl (ifT ⟨rfl,hl⟩ (hs hl _ _ _ ⟨rfl,Br,a1,λk=>⟨λh=>?_,λh=>?_⟩⟩))
  .by_cases e:k=i
   .subst e;rw[x];exact⟨L,w4,j⟩
   rw[l k e];exact (b k).1 (by omega)
  rw[l k (by omega)];exact (b k).2 (by omega)
 obtain⟨v,hv,a2⟩:=a0 (w.g m) (Br9.1 (w3 ▸ Bl0.2 ⟨m,Bk2.2 o,rfl⟩));have hrow:=f.row v (by omega);have hT:(w.toList.take (m+1)).flatMap (Mn h)=(w.toList.take m).flatMap (Mn h)++(h.On.g v).toList:=by rw[PU o,Bz6,a2];simp[Mn]
 refine Al ?_;rw[Lp,a2,Lp];refine Af ?_;refine W7 (λq (X'' : Sl (Sl Law)) z=>z=(q:Int)/\X''.n=s.n/\X''.g i=Gd (FA h ((w.toList.take m).flatMap (Mn h)++(h.On.g v).toList.take q))/\∀k,k≠i->X''.g k=X.g k) (h.On.g v).n _ (by omega) ⟨rfl,a1,by rw[j,Bu3,Bl8],l⟩ ?_;rintro self3 q X'' z hq ⟨rfl,c,a,d⟩ hs3;by_cases r:q<(h.On.g v).n
 case neg=>rw[Bo5 (show (h.On.g v).toList.length<=q by rw[Ai];omega)]at a;exact Bl (hs2 o _ _ ⟨Br,c,by rw[a,hT],by rw[hT,Bj2,Ai];omega,d⟩)
 have hvq:=f.rng v (by omega) q r;have hb:(X''.g i).n<=5*m+q:=by
  rw[a,Yq,Bj9,Bj2]
  have:=Bz5 q (h.On.g v).toList
  omega
 refine Al (Af ?_);rw[Lp];refine Al (Af (Af (Af (hs3 r _ _ ⟨Br,c, ?_,λk hk=>?_⟩))))
 .show (if i=i then (X''.g i).push _ else _)=_;rw[Ek rfl,a,PU r,<- Bp9];show _=Gd (List.map _ (_++[(h.On.g v).g q]));rw[Bp2];exact (Mp _ _).symm
 show (if k=i then _ else X''.g k)=_;rw[Et hk];exact d k hk
def Bg4 (p:Int):Str:=[UInt8.ofNat (wrap .u8 p).toNat,UInt8.ofNat (wrap .u8 (shI .shr .u32 p 8)).toNat,UInt8.ofNat (wrap .u8 (shI .shr .u32 p 16)).toNat]
def Ag6 (s:Kj):Str:=Bg4 s.Plus++Bg4 s.Minus
def Ub (s:Sl Int):Ac2 s=s.toList.map λi=>UInt8.ofNat i.toNat:=by show _=((List.range s.n).map s.g).map _;rw[Bo3];rfl
def Wt (s t:Sl Int):Ac2 (s.app t)=Ac2 s++Ac2 t:=by rw[Ub,Ub,Ub,AK7,Bp2]
def Be6 (d:3000000<=N){w:Sl Kj}(c:w.n<=32):DZ N w=some (w.toList.flatMap Ag6):=by
 refine ZD ?_;unfold DZ;refine W7 (λm (x1:Sl Int) x2=>x2=(m:Int)/\x1.n=6*m/\Ac2 x1=(w.toList.take m).flatMap Ag6) w.n _ (by omega) ⟨rfl,rfl,rfl⟩ ?_;rintro a m x1 x2 hm ⟨rfl,f,b⟩ hs;by_cases hl:m<w.n
 .refine Al (Af (ifT (by show (x1.n+3)*1<=_/\x1.n+3<=_;omega) (ifT (by show (x1.n+3+3)*1<=_/\x1.n+3+3<=_;omega) (hs hl _ _ ⟨Br,by show x1.n+3+3=_;omega,?_⟩))));rw[Wt,Wt,b,PU hl,Bz6,Bp9,Lp];simp only[Bo7,List.flatMap_nil,Bl8];rfl
 exact Bl ⟨_,rfl,by rw[b,Bo5 (by rw[Ai];omega)]⟩
abbrev Yt:List Kj:=[⟨2,5⟩,⟨3,4⟩,⟨5,2⟩]
def AT8:∀s∈Yt,∀t∈Yt,Ag6 s=Ag6 t->s=t:=by decide +kernel
def ZG:∀(L M:List Kj),(∀s∈L,s∈Yt)->(∀s∈M,s∈Yt)->L.flatMap Ag6=M.flatMap Ag6->L=M
 |[],[],_,_,_=>rfl
 |[],b::M,_,_,h=>by
  have:=congrArg List.length h
  simp[Bo7,Ag6,Bg4]at this
 |a::L,[],_,_,h=>by
  have:=congrArg List.length h
  simp[Bo7,Ag6,Bg4]at this
 |a::L,b::M,hL,hM,h=>by rw[Bo7,Bo7]at h;obtain⟨h1,c⟩:=List.append_inj h rfl;rw[AT8 a (hL a (by simp)) b (hM b (by simp)) h1,ZG L M (λs hs=>hL s (by simp[hs])) (λs hs=>hM s (by simp[hs])) c]
def wrd (w:Sl Kj):Prop:=∃L:List Kj,(∀s∈L,s∈Yt)/\w=Gd L
def wrd.inj {v w:Sl Kj}(a:wrd v)(hw:wrd w)(h:v.toList.flatMap Ag6=w.toList.flatMap Ag6):v=w:=by obtain⟨L,l1,rfl⟩:=a;obtain⟨M,m1,rfl⟩:=hw;rw[Hq,Hq]at h;rw[ZG L M l1 m1 h]
def drv (N:Nat)(X:Sl (Sl Law))(k:Nat)(w:Sl Kj):G8:=match N4 N (X.g k) w with
 |some r=>⟨r.2==0,r.1⟩
 |none=>⟨false,w⟩
def Ar8 (a:3000000<=N){X:Sl (Sl Law)}{k:Nat}(b:Db (X.g k)){w:Sl Kj}(hw:wOk w):∃r,N4 N (X.g k) w=some r/\drv N X k w=⟨r.2==0,r.1⟩/\(r.2=0->wOk r.1)/\(Nh N (X.g k)->(r.2=0/\EH N (X.g k).toList w=some r.1) \/ (r.2≠0/\EH N (X.g k).toList w=none)):=by obtain⟨r,r1,r2,r3⟩:=PS a b (w:=w) λi c=>(hw.2 i c).ok;refine⟨r,r1,?_,r2,λh=>r3 h hw⟩;unfold drv;rw[r1]
def AT9 (N:Nat)(X:Sl (Sl Law))(M:Sl (List (Str×G8))):Prop:=M.n=X.n/\∀k,∀a f,(a,f)∈M.g k->∀w,wrd w->w.toList.flatMap Ag6=a->f=drv N X k w
def Wu {k:Str}{v:G8}:∀{es:List (Str×G8)},P1 eqS k es=some v->(k,v)∈es
 |[],h=>by cases h
 |(a,x)::es,h=>by
  unfold P1 at h;by_cases e:eqS k a=true
  .rw[Ek e]at h;obtain rfl:=Bl3 h;rw[show k=a by simpa[eqS]using e];simp
  rw[Et e]at h;exact Bi1 _ (Wu h)
def ZH {k a:Str}{v f:G8}:∀{es:List (Str×G8)},(a,f)∈Dd eqS k v es->(a,f)∈es \/ (a=k/\f=v)
 |[],h=>by simp only[Dd,Bm6,Bh4]at h;exact .inr h
 |(b,x)::es,h=>by
  unfold Dd at h;by_cases e:eqS k b=true
  .rw[Ek e]at h;rcases Bi4.1 h with h|h
   .simp only[Bh4]at h;exact .inr h
   exact .inl (Bi1 _ h)
  rw[Et e]at h;rcases Bi4.1 h with h|h
  .exact .inl (by rw[h];simp)
  exact (ZH h).imp (Bi1 _) id
def AU0 (l:3000000<=N){X:Sl (Sl Law)}{p:G8}(hp:p.Has=true->wrd p.W/\wOk p.W){k:Nat}(hk:k<X.n)(m:Db (X.g k)){M:Sl (List (Str×G8))}(i:AT9 N X M) :∃M',J5 N p (k:Int) M X=some (if p.Has then (drv N X k p.W).W else Sl.nil,p.Has&&(drv N X k p.W).Has,M')/\AT9 N X M':=by
 have j:=i.1;unfold J5;by_cases b:p.Has=true
 case neg=>exact⟨M,by rw[Ek (by simpa using b),Et b,show p.Has=false by simpa using b];rfl,i⟩
 obtain⟨hc,hw⟩:=hp b;rw[Et (by simp[b]),Lp,Cg,Cg,Be6 l hw.1,Lw,Ek b,b,Bool.true_and];cases ha:P1 eqS (p.W.toList.flatMap Ag6) (M.g k)with
 |some v=>have e:=i.2 k _ v (Wu ha) p.W hc rfl;exact⟨M,by rw[<- e];rfl,i⟩
 |none=>
  obtain⟨r,r1,r2,r3,_⟩:=Ar8 l m hw;rw[CJ,Cg,r1,Lw,r2];refine⟨_,rfl,j,λq a f hm w c d=>?_⟩;replace hm:(a,f)∈(if q=k then Dd eqS _ (⟨r.2==0,r.1⟩:G8) (M.g k)else M.g q):=hm;by_cases e:q=k
  .rw[Ek e]at hm;rcases ZH hm with hm|⟨e1,e2⟩
   .subst e;exact i.2 q a f hm w c d
   rw[e2,e,c.inj hc (d.trans e1),r2]
  rw[Et e]at hm;exact i.2 q a f hm w c d
end Go.AM
namespace Go.AM
variable {N:Nat}
open IntKind (wrap)
open Go.Proofs
abbrev okF (f:G8):Prop:=wOk f.W/\(f.Has=false->f.W.n=0)
structure okE (p:Sl G8) (l:Sl Pb) (F:Nat):Prop where
 n:l.n<=256
 pn:p.n=l.n
 pf:∀i,i<p.n->okF (p.g i)
 fn:∀i,i<l.n->(l.g i).Nw.n=F
 ff:∀i,i<l.n->∀k,k<(l.g i).Nw.n->okF ((l.g i).Nw.g k)
 nm:∀i,i<l.n->NG (l.g i).Gloss=true
def ZI {l:Sl G8}(c:l.n<N)(hn:l.n<1000000)(hl:∀i,i<l.n->okF (l.g i)):Ac N l=some true:=by
 have h:D8 N l (λ(u1:G8)=>Ce N u1)=some (-1):=by
  unfold D8;refine ZD (GE (λi x1=>x1=(i:Int)) l.n _ c rfl ?_);rintro b i x1 j rfl hs;by_cases a:i<l.n
  .refine Al (Af (B8 rfl ?_));rw[Lp];have d:=(hl i a).2;refine ifF ?_ (hs a _ (Br));cases f:(l.g i).Has
   .rw[d f];simp
   simp
  exact Bl ⟨_,rfl,rfl⟩
 unfold Ac E8;rw[h];rfl
def ZJ (d:1000<=N){l:Sl G8}(hn:l.n<1000)(hl:∀i,i<l.n->okF (l.g i)):Ad N l=some 0:=by
 unfold Ad;refine ZD (GE (λi x1=>x1=(i:Int)) l.n _ (by omega) rfl ?_);rintro b i x1 f rfl hs;by_cases a:i<l.n
 .obtain⟨hw,_⟩:=hl i a;obtain⟨e,e1,c⟩:=LH (N:=N) (by omega) λk hk=>(hw.2 k hk).ok;obtain rfl:=(IO c).2 hw;exact Al (Af (B8 (by rw[Lp];exact e1) (Bq (hs a _ (Br)))))
 exact Bl ⟨_,rfl,rfl⟩
def Ar9 (b:3000000<=N){s:Str}(hs:NG s=true):BZ N s=some true:=by
 unfold BZ;rw[NS b (t:=Sl.of [⟨-1,s⟩]) ⟨Bh5 1,by show 1<=63;omega,λv a=>?_⟩];rfl;obtain rfl:v=0:=by have a:v<1:=a;omega
 exact⟨λ_=>rfl,λh=>Eu h (by omega),hs,λu c=>Eu c (by omega)⟩
def Wv (g:3000000<=N){h:Ns}(c:okH N h){p:Sl G8}{l:Sl Pb}(hl:okE p l (Q9 h.Tree h.Tree.n).n):U9 N h p l=some 0:=by
 have o:=Kw c.tree;have hn:=hl.n;have q:=hl.pn;have r:Z4 N l (((Q9 h.Tree h.Tree.n).n:Nat):Int)=some 0:=by
  unfold Z4;refine ZD (GE (λi x1=>x1=(i:Int)) l.n _ (by omega) rfl ?_);rintro b i x1 j rfl hs;by_cases a:i<l.n
  .have m:=hl.fn i a;refine Al (Af (ltX ?_));rw[Lp];exact ifF (by simp[m]) (B8 (ZI (by omega) (by omega) (hl.ff i a)) (Bq (hs a _ (Br))))
  refine Bl (GE (λi x1=>x1=(i:Int)) l.n _ (by omega) rfl ?_);rintro d i x1 j rfl f;by_cases a:i<l.n
  .exact Al (Af (B8 (by rw[Lp];exact Ar9 g (hl.nm i a)) (Bq (f a _ (Br)))))
  exact Bl ⟨_,rfl,rfl⟩
 unfold U9;refine ZD (B8 (c.chk) (Bq (B8 (IQ g c.tree).1 (Bl (ltX ?_)))));refine Bl (B8 (ZI (by omega) (by omega) hl.pf) (Bq ?_));refine B8 r (Bq (B8 (ZJ (by omega) (by omega) hl.pf) (Bq ?_)));refine GE (λi x1=>x1=(i:Int)) l.n _ (by omega) rfl ?_;rintro b i x1 j rfl hs;by_cases a:i<l.n
 .have m:=hl.fn i a;exact Al (Af (B8 (by rw[Lp];exact ZJ (by omega) (by omega) (hl.ff i a)) (Bq (hs a _ (Br)))))
 exact Bl ⟨_,rfl,rfl⟩
def AF3 (i:Nat):Nat->Nat->List A2_int
 |0,_=>[]
 |m+1,k=>⟨(i:Int),(k:Int)⟩::AF3 i m (k+1)
def Hr (w:Nat->Nat):Nat->Nat->List A2_int
 |0,_=>[]
 |m+1,i=>AF3 i (w i) 0++Hr w m (i+1)
def NT {i:Nat}{q:A2_int}:∀{m k:Nat},q∈AF3 i m k->∃j:Nat,q=⟨(i:Int),(j:Int)⟩/\k<=j/\j<k+m
 |0,_,h=>by cases h
 |m+1,k,h=>by
  rcases Bi4.1 h with rfl|h
  .exact⟨k,rfl,by omega,by omega⟩
  obtain⟨j,e,a⟩:=NT h;exact⟨j,e,by omega,by omega⟩
def PX {w:Nat->Nat}{q:A2_int}:∀{m i:Nat},q∈Hr w m i->∃a b:Nat,q=⟨(a:Int),(b:Int)⟩/\(i<=a/\a<i+m)/\b<w a
 |0,_,h=>by cases h
 |m+1,i,h=>by
  rcases By4.1 h with h|h
  .obtain⟨j,e,c⟩:=NT h;exact⟨i,j,e,by omega,by omega⟩
  obtain⟨a,b,e,ha,hb⟩:=PX h;exact⟨a,b,e,by omega,hb⟩
def ZK {i:Nat}:∀m k,(AF3 i m k).length=m
 |0,_=>rfl
 |m+1,k=>congrArg (· + 1) (ZK m (k+1))
def PY {w:Nat->Nat}:∀{m i:Nat},(∀a,a<i+m->w a<=63)->(Hr w m i).length<=m*63
 |0,_,_=>Bn9 _
 |m+1,i,h=>by have h1:=PY (w:=w) (m:=m) (i:=i+1) λa ha=>h a (by omega);have b:=h i (by omega);rw[Hr,Bj2,ZK];omega
abbrev fwL (l:Sl Pb)(i:Nat):Nat:=(l.g i).Nw.n
abbrev frm (l:Sl Pb)(q:A2_int):G8:=(l.g q.a0.toNat).Nw.g q.a1.toNat
abbrev atP (l:Sl Pb)(q:A2_int):CD×Sl Kj:=(⟨q.a0,q.a1⟩,(frm l q).W)
def AK8 {l:Sl Pb}{i:Nat}(c:i<l.n){R:List (CD×Sl Kj)}{rest:Option (List (CD×Sl Kj))}(b:rest=some R)(hn:(l.g i).Nw.n<100000):∀(m M k:Nat),k+m=(l.g i).Nw.n->m<M->X5 M (λ(a:Int->Option (List (CD×Sl Kj))) (x4:Int)=>
 if (decide (x4<((l.g i).Nw.n:Int))) then
  if ((0:Int)<=x4/\x4<((l.g i).Nw.n:Int))then
   if ((l.g i).Nw.g x4.toNat).Has then
    Ak ((⟨(i:Int),x4⟩:CD),((l.g i).Nw.g x4.toNat).W) (
     a (wrap .i64 (x4+1))
     )
   else
    a (wrap .i64 (x4+1))
  else none
 else
  rest) (k:Int)=some (((AF3 i m k).filter λq=>(frm l q).Has).map (atP l)++R)
 |0,M,k,hk,hM=>by obtain⟨M,rfl⟩:∃K,M=K+1:=⟨M-1,by omega⟩;rw[I0,Dn];exact b
 |m+1,M,k,hk,hM=>by obtain⟨M,rfl⟩:∃K,M=K+1:=⟨M-1,by omega⟩;have h1:=AK8 c b hn m M (k+1) (by omega) (by omega);rw[I0,Cj,Cg,Lp,Br,h1,AF3,Bx5];simp only[frm,Lp];split<;>rfl
def AU1 {l:Sl Pb}{F:Nat}(o:1000000<=N)(hn:l.n<=256)(r:F<=63)(c:∀i,i<l.n->(l.g i).Nw.n=F):Y0 N l=some (((Hr (fwL l) l.n 0).filter λq=>(frm l q).Has).map (atP l)):=by
 have key:∀(m M i:Nat),i+m=l.n->m<M->X5 M (λ(b:Int->Option (List (CD×Sl Kj))) (x2:Int)=>
  if (decide (x2<(l.n:Int))) then
   if ((0:Int)<=x2/\x2<(l.n:Int))then
    X5 N (λa (x4:Int)=>
     if (decide (x4<((l.g x2.toNat).Nw.n:Int))) then
      if ((0:Int)<=x4/\x4<((l.g x2.toNat).Nw.n:Int))then
       if ((l.g x2.toNat).Nw.g x4.toNat).Has then
        Ak ((⟨x2,x4⟩:CD),((l.g x2.toNat).Nw.g x4.toNat).W) (
         a (wrap .i64 (x4+1))
         )
       else
        a (wrap .i64 (x4+1))
      else none
     else
      b (wrap .i64 (x2+1))
     ) 0
   else none
  else
   some []) (i:Int)=some (((Hr (fwL l) m i).filter λq=>(frm l q).Has).map (atP l)):=by
  intro m
  induction m with
  |zero=>intro M i d f;obtain⟨M,rfl⟩:∃K,M=K+1:=⟨M-1,by omega⟩;rw[I0,Dn];rfl
  |succ m ih=>intro M i d f;obtain⟨M,rfl⟩:∃K,M=K+1:=⟨M-1,by omega⟩;have j:=c i (by omega);rw[I0,Cj,Cg,Lp,Br,Hr,List.filter_append,Bp2];exact AK8 (by omega) (ih M (i+1) (by omega) (by omega)) (by omega) _ N 0 (Bl7 _) (by show (l.g i).Nw.n<N;omega)
 exact key l.n N 0 (by omega) (by omega)
def badB (N:Nat)(p:Sl G8)(X:Sl (Sl Law))(c:Int)(a:(Sl (List (Str×G8)))×(Sl A4)->Option (Sl A4×Int))(x1:CD×(Sl Kj))(z1:(Sl (List (Str×G8)))×(Sl A4)):Option (Sl A4×Int):= if ((0:Int)<=x1.1.entry/\x1.1.entry<(p.n:Int))then (J5 N (p.g x1.1.entry.toNat) x1.1.leaf z1.1 X).bind λy8=>if (!y8.2.1) then if (Kl 32 (z1.2.n+(Sl.of [(⟨x1.1.entry,x1.1.leaf,2,c⟩:A4)]:Sl A4).n))then a (y8.2.2,z1.2.push (⟨x1.1.entry,x1.1.leaf,2,c⟩:A4)) else none else (O7 N y8.1 x1.2).bind λy9=>if (!y9) then if (Kl 32 (z1.2.n+(Sl.of [(⟨x1.1.entry,x1.1.leaf,1,c⟩:A4)]:Sl A4).n))then a (y8.2.2,z1.2.push (⟨x1.1.entry,x1.1.leaf,1,c⟩:A4)) else none else a (y8.2.2,z1.2) else none
def kdX (N:Nat)(X:Sl (Sl Law))(p f:G8)(k:Nat):Option Int:= if f.Has then (if (p.Has&&(drv N X k p.W).Has) then (if O7 N (drv N X k p.W).W f.W=some true then none else some 1)else some 2)else none
def exQ (N:Nat)(X:Sl (Sl Law))(p:Sl G8)(l:Sl Pb)(c:Int)(q:A2_int):Option A4:=(kdX N X (p.g q.a0.toNat) (frm l q) q.a1.toNat).map λt=>⟨q.a0,q.a1,t,c⟩
def AK9 {N:Nat}(j:3000000<=N){p:Sl G8}{l:Sl Pb}{F:Nat}(hl:okE p l F)(hw:∀i,i<p.n->(p.g i).Has=true->wrd (p.g i).W){X:Sl (Sl Law)}(x2:X.n=F)(x3:∀k,k<X.n->Db (X.g k)){c:Int}:∀(R:List A2_int) (M:Sl (List (Str×G8))) (z:Sl A4),AT9 N X M->z.n+R.length<=16128->(∀q∈R,(∃i k:Nat,q=⟨(i:Int),(k:Int)⟩/\i<l.n/\k<(l.g i).Nw.n)/\(frm l q).Has=true) ->
 ∃y,T2 (R.map (atP l)) (badB N p X c) (λz1=>some (z1.2,0)) (M,z)=some y/\(y.2=0/\y.1.toList=z.toList++R.filterMap (exQ N X p l c))
 |[],M,z,_,_,_=>⟨_,rfl,rfl,by simp⟩
 |q::R,M,z,h3,o,h5=>by
  obtain⟨⟨i,k,rfl,u,hk⟩,s⟩:=h5 q (by simp);have o:z.n+(R.length+1)<=16128:=o;have v:=hl.pn;have a : k<X.n:=by rw[x2,<- hl.fn i u];exact hk
  have f:=(hl.pf i (by omega)).1;obtain⟨M',r1,r2⟩:=AU0 j (p:=p.g i) (λh=>⟨hw i (by omega) h,f⟩) a (x3 k a) h3;obtain⟨r,_,d2,d3,_⟩:=Ar8 j (X:=X) (k:=k) (x3 k a) f;have ih:=AK9 (c:=c) j hl hw x2 x3 R M';have ih:=λz' m=>ih z' r2 m λq w=>h5 q (by simp[w]);have b:(0:Int)<=(i:Int)/\(i:Int)<(p.n:Int):=by omega
  have rr:=(show J5 N (p.g (i:Int).toNat) (k:Int) M X=J5 N (p.g i) (k:Int) M X by rw[Lp]).trans r1;simp only[frm,Lp]at s;have go:∀t:Int,exQ N X p l c ⟨(i:Int),(k:Int)⟩=some ⟨(i:Int),(k:Int),t,c⟩->∃y,T2 (R.map (atP l)) (badB N p X c) (λz1=>some (z1.2,0)) (M',z.push ⟨(i:Int),(k:Int),t,c⟩)=some y/\(y.2=0/\y.1.toList=z.toList++((⟨(i:Int),(k:Int)⟩:A2_int)::R).filterMap (exQ N X p l c)):=λt ht=>by obtain⟨y,y1,y2,y3⟩:=ih (z.push ⟨(i:Int),(k:Int),t,c⟩) (by show z.n+1+_<=_;omega);exact⟨y,y1,y2,by rw[y3,PT,Bt4,ht];simp⟩
  have ex:exQ N X p l c ⟨(i:Int),(k:Int)⟩=(kdX N X (p.g i) ((l.g i).Nw.g k) k).map λt=>⟨(i:Int),(k:Int),t,c⟩:=rfl;rw[kdX,Ek s]at ex;have sz:(z.n+(Sl.of [(⟨(i:Int),(k:Int),2,c⟩:A4)]:Sl A4).n)*32<=140737488355328/\z.n+(Sl.of [(⟨(i:Int),(k:Int),2,c⟩:A4)]:Sl A4).n<=140737488355328:=by show (z.n+1)*32<=_/\z.n+1<=_;omega
  by_cases hb:((p.g i).Has&&(drv N X k (p.g i).W).Has)=true
  case neg=>exact ifT b (B8 rr (ifT (show (!((p.g i).Has&&(drv N X k (p.g i).W).Has))=true by rw[Bool.eq_false_iff.2 hb];rfl) (ifT sz (go 2 (by rw[ex,Et hb];rfl)))))
  rw[Ek hb]at ex;have d:(p.g i).Has=true/\(drv N X k (p.g i).W).Has=true:=by simpa using hb
  have a0:(drv N X k (p.g i).W).W.n<=32:=by rw[d2]at d⊢;exact (d3 (by simpa using d.2)).1
  rw[Ek d.1]at rr;obtain⟨e,e1⟩:=Ar3 (N:=N) (x:=(drv N X k (p.g i).W).W) (y:=((l.g i).Nw.g k).W) (by omega) (by omega);rw[e1]at ex;have e1' : O7 N (drv N X k (p.g i).W).W ((l.g (i:Int).toNat).Nw.g (k:Int).toNat).W=some e:=by rw[Lp,Lp];exact e1
  cases e
  .exact ifT b (B8 rr (ifF (by simp[hb]) (B8 e1' (ifT rfl (ifT sz (go 1 ex))))))
  obtain⟨y,y1,y2,y3⟩:=ih z (by omega);exact ifT b (B8 rr (ifF (by simp[hb]) (B8 e1' (Bq ⟨y,y1,y2,by rw[y3,Bt4,ex];rfl⟩))))
def AU2 (o:3000000<=N){h:Ns}(j:okH N h){p:Sl G8}{l:Sl Pb}(hl:okE p l (Q9 h.Tree h.Tree.n).n)(hw:∀i,i<p.n->(p.g i).Has=true->wrd (p.g i).W) :∃X:Sl (Sl Law),X.n=(Q9 h.Tree h.Tree.n).n/\(∀k,k<X.n->lineP h ((Q9 h.Tree h.Tree.n).g k).toNat (X.g k))/\∀c:Int,0<=c/\c<=1073741824->∃b,Ea N h p l c=some (b,0)/\b.toList=(Hr (fwL l) l.n 0).filterMap (exQ N X p l c):=by
 obtain⟨X,x1,x2,x3⟩:=Af5 o j;have d:=Kw j.tree;have hn:=hl.n;have a1:=AU1 (N:=N) (by omega) hl.n d hl.fn;have x4:∀k,k<X.n->Db (X.g k):=λk hk=>by obtain⟨v,u,e⟩:=IP h.Tree h.Tree.n k (by omega);exact (x3 k hk).laws j (by rw[e];exact u)
 refine⟨X,x2,x3,λc hc=>?_⟩;have t:=PY (w:=fwL l) (m:=l.n) (i:=0) λa hx=>by show (l.g a).Nw.n<=_;rw[hl.fn a (by omega)];exact d
 have r:=By5 (λq=>(frm l q).Has) (Hr (fwL l) l.n 0);obtain⟨⟨b,e⟩,y1,y2,y3⟩:=AK9 (c:=c) o hl hw x2 x4 ((Hr (fwL l) l.n 0).filter λq=>(frm l q).Has) ⟨X.n,λ_=>[]⟩ Sl.nil ⟨rfl,λk a f hm=>by cases hm⟩ (by show 0+_<=_;omega) (λq s=>by obtain⟨h1,x⟩:=Br0.1 s;obtain⟨a,b,e,ha,hb⟩:=PX h1;exact⟨⟨a,b,e,by omega,hb⟩,x⟩)
 obtain rfl:e=0:=y2;refine⟨b,?_,?_⟩
 .unfold Ea;rw[Wv o j hl,Lw,Et (by decide),Dn,x1,Lw,Bf,Lw,a1,Lw];exact y1
 have y3:b.toList=((Hr (fwL l) l.n 0).filter λq=>(frm l q).Has).filterMap (exQ N X p l c):=y3;rw[y3,List.filterMap_filter];congr 1;funext q;split
 .rfl
 rename_i s;unfold exQ kdX;rw[Et s];rfl
end Go.AM
namespace Go.AM
open IntKind (wrap)
open Go.Proofs
def AF4 {N:Nat}(hN:3000000<=N){h:Ns}(a:okH N h){u k:Nat}(hu:u<h.Tree.n)(hk:k+1<(h.On.g u).n) :∃r,R8 N h (u:Int) (k:Int)=some r/\(r.2=0/\r.1.Tree=h.Tree/\wkH r.1):=by
 have h63:=a.tree.2.1;have t:=a.ln;have hon:=a.on;have ho:=a.row u (by omega);unfold R8;have eP:wrap .i64 (((h.On.g u).n:Int)-1)=(((h.On.g u).n-1:Nat):Int):=AD5 (by omega) (by omega);refine B8 a.chk (Bq (B8 rfl ?_));rw[Lp,Lp,eP];have d:((decide (0<=(u:Int)))&&(decide ((u:Int)<(h.Tree.n:Int))))=true:=by simp;omega
 rw[d];refine ifT (λ_ _=>by omega) (Bl ?_);refine B8 (x:=h.Tree) (Cg) ?_;refine W7 (λi (x1:Sl Law) x2=>x2=(i:Int)/\x1.n=i/\Db x1) h.Laws.n _ (by omega) ⟨rfl,rfl,λj b=>Eu b (Bi3 j)⟩ ?_;rintro y i x1 x2 hle ⟨rfl,hx,b⟩ hs;by_cases f:i<h.Laws.n
 .have q1:=Ws hN (a.laws i f);refine Al (Af ?_);rw[Lp];refine B8 q1 (ifT (by show (x1.n+1)*200<=_/\x1.n+1<=_;omega) (hs f _ _ ⟨Br,by show x1.n+1=_;omega,λj m=>?_⟩));show TV (if j<x1.n then x1.g j else h.Laws.g i);split
  .exact b j (by assumption)
  exact (a.laws i f).1
 refine Bl ?_;clear hs;refine W7 (λv (x3:Sl (Sl Int)) x4=>x4=(v:Int)/\x3.n=v/\∀j,j<v->x3.g j=h.On.g j) h.On.n _ (by omega) ⟨rfl,rfl,λj b=>Eu b (by omega)⟩ ?_;rintro o v x3 x4 hv ⟨rfl,hx3,c⟩ q;by_cases l:v<h.On.n
 .have z:=a.row v l;refine Al (Af ?_);rw[Lp];refine B8 (x:=h.On.g v) (Cg) (ifT (by show (x3.n+1)*24<=_/\x3.n+1<=_;omega) (q l _ _ ⟨Br,by show x3.n+1=_;omega,λj m=>?_⟩));show (if j<x3.n then x3.g j else h.On.g v)=_;by_cases e:j=v
  .subst e;rw[Cl]
  rw[Cg];exact c j (by omega)
 have eK:wrap .i64 ((k:Int)+1)=((k+1:Nat):Int):=Br;rw[eK,Lp,c u (by omega)];refine Bl (Af (Af ⟨_,rfl,rfl,rfl,a.tree,a.ten,by show x1.n<=64;omega,b,by show x3.n=h.Tree.n;omega,λw hw=>?_,λw hw=>?_⟩))
 .have hw:w<x3.n:=hw;show (if w=u then _ else x3.g w).n<=5;split
  .exact ho
  rw[c w (by omega)];exact a.row w (by omega)
 have hw:w<x3.n:=hw;show ∀j,j<(if w=u then _ else x3.g w).n->0<=(if w=u then _ else x3.g w).g j/\(if w=u then _ else x3.g w).g j<(x1.n:Int);have s:x1.n=h.Laws.n:=by omega
 rw[s];split
 .intro j b;have b:j<(h.On.g u).n:=b;have r:=a.rng u (by omega);show 0<=(if j=k+1 then (h.On.g u).g k else if j=k then (h.On.g u).g (k+1)else (h.On.g u).g j)/\(if j=k+1 then (h.On.g u).g k else if j=k then (h.On.g u).g (k+1)else (h.On.g u).g j)<_;split
  .exact r k (by omega)
  split
  .exact r _ hk
  exact r j b
 rw[c w (by omega)];exact a.rng w (by omega)
def AF5 {N:Nat}(a:3000000<=N){h:Ns}(b:wkH h){v:Nat}(d:v<h.Tree.n):∃r,R7 N h (v:Int)=some r/\Db r.1:=by
 obtain⟨e,e1,e2,_⟩:=Sa a b;by_cases c:e=0
 .subst c;obtain⟨s,_,s1,s2⟩:=AT6 a (AK5 b (e2 rfl) e1) d;exact⟨_,s1,s2⟩
 unfold R7 Ab R6;rw[e1,Lw,Ek (by simpa using c),Lw];obtain⟨M,rfl⟩:∃K,N=K+1:=⟨N-1,by omega⟩;rw[CH,Et (by show ¬decide ((0:Int)<((0:Nat):Int))=true;decide)];exact⟨_,rfl,λj f=>Eu f (Bi3 j)⟩
end Go.AM
namespace Go.AM
variable {N:Nat}
open IntKind (wrap)
open Go.Proofs
def AL0 (c:3000000<=N){laws:Sl Law}(hl:Db laws){p f:G8}(hp:wOk p.W):∃b,I6 N laws p f=some b:=by
 unfold I6;by_cases h:((!p.Has)||(!f.Has))=true
 .exact⟨false,Ek h⟩
 rw[Et h];obtain⟨⟨v,e⟩,r1,r2,_⟩:=PS c hl (w:=p.W) λi d=>(hp.2 i d).ok;rw[r1,Lw];by_cases a:e=0
 .subst a;have g:v.n<=32:=(r2 rfl).1;obtain⟨b,hb⟩:=Ar3 (N:=N) (x:=v) (y:=f.W) (by omega) (by omega);exact⟨b,by show ((O7 N v f.W).bind λy3=>some y3)=some b;rw[hb];rfl⟩
 exact⟨false,by dsimp only;rw[lt,Et (by simpa using a)]⟩
def AF6 (L:Sl (Sl Law))(m:Nat):Prop:=L.n=m/\∀k,Db (L.g k)
def ZL (b:3000000<=N){h:Ns}(a:wkH h):∃L,Q8 N h=some L/\AF6 L (Q9 h.Tree h.Tree.n).n:=by
 have f:=Kw a.tree;unfold Q8;rw[(IQ b a.tree).1,Lw];refine W7 (λi x1 x2=>x2=(i:Int)/\AF6 x1 i) (Q9 h.Tree h.Tree.n).n _ (by omega) ⟨rfl,rfl,λk j l=>Eu l (Bi3 j)⟩ ?_;rintro c i x1 x2 hle ⟨rfl,hn,d⟩ hs;by_cases hl:i<(Q9 h.Tree h.Tree.n).n
 .obtain⟨v,m,e⟩:=IP h.Tree h.Tree.n i hl;obtain⟨s,s1,s2⟩:=AF5 b a m;refine ifT (by simpa using hl) (ifT (by dsimp only;omega) ?_);rw[Lp];refine B8 (by show R7 N h ((Q9 h.Tree h.Tree.n).g i)=_;rw[e];exact s1) (ifT (by show (x1.n+1)*24<=_/\x1.n+1<=_;omega) (hs hl _ _ ⟨Br,by show x1.n+1=_;omega,λk=>?_⟩));show Db (if k<x1.n then x1.g k else s.1);split
  .exact d k
  exact s2
 obtain rfl:i=(Q9 h.Tree h.Tree.n).n:=by omega
 exact Bm ⟨x1,rfl,hn,d⟩
def inR (l:Sl Pb)(q:A2_int):Prop:=∃i k:Nat,q=⟨(i:Int),(k:Int)⟩/\i<l.n/\k<(l.g i).Nw.n
def ZM {N:Nat}(o:3000000<=N){p:C0}{laws:Sl (Sl Law)}{i:Nat}(r:i<p.Nv.n)(j:p.Nr.n=p.Nv.n)(d:wOk (p.Nr.g i).W)(a:AF6 laws (p.Nv.g i).Nw.n)(u:(p.Nv.g i).Nw.n<100000)
 {rest:Option (List A2_int)}{R:List A2_int}(s:rest=some R) (hR:∀q∈R,inR p.Nv q):∀(m M k:Nat),k+m=(p.Nv.g i).Nw.n->m<M->∃R',X5 M (λ(c:Int->Option (List A2_int)) (x4:Int)=>
  if (decide (x4<((p.Nv.g i).Nw.n:Int))) then
   if ((0:Int)<=x4/\x4<((p.Nv.g i).Nw.n:Int))then
    if (((0:Int)<=x4/\x4<(laws.n:Int))/\((0:Int)<=(i:Int)/\(i:Int)<(p.Nr.n:Int)))then
     (I6 N (laws.g x4.toNat) (p.Nr.g i) ((p.Nv.g i).Nw.g x4.toNat)).bind λy9=>
     if y9 then
      Ak (⟨(i:Int),x4⟩:A2_int) (
       c (wrap .i64 (x4+1))
       )
     else
      c (wrap .i64 (x4+1))
    else none
   else none
  else
   rest
  ) (k:Int)=some R' /\ (∀q∈R',inR p.Nv q)/\R'.length<=m+R.length
 |_,0,_,_,hM=>Eu hM (Bi3 _)
 |0,M+1,k,hk,_=>by rw[I0,Dn];exact⟨R,s,hR,by omega⟩
 |m+1,M+1,k,hk,hM=>by
  obtain⟨R',h1,t,w⟩:=ZM o r j d a u s hR m M (k+1) (by omega) (by omega);obtain⟨b,hb⟩:=AL0 (p:=p.Nr.g i) (f:=(p.Nv.g i).Nw.g k) o (a.2 k) d;have v:=a.1;rw[I0,Cj,Cg,Cg,Lp,hb,Lw,Br,h1];cases b
  .exact⟨R',by rw[Et (by decide)],t,by omega⟩
  refine⟨⟨(i:Int),(k:Int)⟩::R',by rw[Ek rfl];rfl,λq l=>?_,by simp;omega⟩;rcases Bi4.1 l with rfl|l
  .exact⟨i,k,rfl,r,by omega⟩
  exact t q l
def AF7 (o:3000000<=N){p:C0}{laws:Sl (Sl Law)}{F:Nat}(hn:p.Nv.n<=256)(v:F<=63)(d:p.Nr.n=p.Nv.n)(f:∀i,i<p.Nr.n->wOk (p.Nr.g i).W)(r:∀i,i<p.Nv.n->(p.Nv.g i).Nw.n=F)(c:AF6 laws F) :∃R,CZ N p laws=some R/\(∀q∈R,inR p.Nv q)/\R.length<=16128:=by
 have key:∀(m M i:Nat),i+m=p.Nv.n->m<M->∃R,X5 M (λ(b:Int->Option (List A2_int)) (x2:Int)=>
  if (decide (x2<(p.Nv.n:Int))) then
   if ((0:Int)<=x2/\x2<(p.Nv.n:Int))then
    X5 N (λa (x4:Int)=>
     if (decide (x4<((p.Nv.g x2.toNat).Nw.n:Int))) then
      if ((0:Int)<=x4/\x4<((p.Nv.g x2.toNat).Nw.n:Int))then
       if (((0:Int)<=x4/\x4<(laws.n:Int))/\((0:Int)<=x2/\x2<(p.Nr.n:Int)))then
        (I6 N (laws.g x4.toNat) (p.Nr.g x2.toNat) ((p.Nv.g x2.toNat).Nw.g x4.toNat)).bind λy9=>
        if y9 then
         Ak (⟨x2,x4⟩:A2_int) (
          a (wrap .i64 (x4+1))
          )
        else
         a (wrap .i64 (x4+1))
       else none
      else none
     else
      b (wrap .i64 (x2+1))
     ) 0
   else none
  else
   some []) (i:Int)=some R/\(∀q∈R,inR p.Nv q)/\R.length<=m*63:=by
  intro m
  induction m with
  |zero=>intro M i hk s;obtain⟨M,rfl⟩:∃M',M=M' + 1:=⟨M-1,by omega⟩;rw[I0,Dn];exact⟨[],rfl,λq t=>by simp at t,by simp⟩
  |succ m ih=>intro M i hk s;obtain⟨M,rfl⟩:∃M',M=M' + 1:=⟨M-1,by omega⟩;obtain⟨R,h1,j,u⟩:=ih M (i+1) (by omega) (by omega);have l:=r i (by omega);obtain⟨R',g1,g2,g3⟩:=ZM o (p:=p) (laws:=laws) (i:=i) (by omega) d (f i (by omega)) (by rw[l];exact c) (by omega) h1 j F N 0 (by omega) (by omega);rw[I0,Cj,Cg,Lp,Br];exact⟨R',g1,g2,by omega⟩
 obtain⟨R,h1,j,u⟩:=key p.Nv.n N 0 (by omega) (by omega);exact⟨R,h1,j,by omega⟩
def Af6 {R:List A2_int}(h:R.length<=16128):∃s,N5 N R=some s/\s.toList=R:=by
 have key:∀(R:List A2_int) (z:Sl A2_int),z.n+R.length<=20000->∃s,T2 R (λ(a:Sl A2_int->Option (Sl A2_int)) (x1:A2_int) (z1:Sl A2_int)=>
  if (Kl 16 (z1.n+(Sl.of [x1]:Sl A2_int).n))then
   a (z1.push x1)
  else none
  ) (λ(z1:Sl A2_int)=>some z1) z=some s/\s.toList=z.toList++R:=by
  intro R
  induction R with
  |nil=>exact λz _=>⟨z,rfl,by simp⟩
  |cons x R ih=>intro z c;have c:z.n+(R.length+1)<=20000:=c;obtain⟨s,h1,b⟩:=ih (z.push x) (by show z.n+1+R.length<=_;omega);refine⟨s,?_,by rw[b,PT];simp⟩;show (if _ then _ else none)=_;rw[Ek (by show (z.n+1)*16<=_/\z.n+1<=_;omega)];exact h1
 obtain⟨s,h1,b⟩:=key R (Sl.nil:Sl A2_int) (by show 0+_<=_;omega);refine⟨s,?_,b⟩;unfold N5 H1;rw[h1];rfl
end Go.AM
namespace Go.AM
variable {N:Nat}
open IntKind (wrap)
open Go.Proofs
def exG (h g:Ns):Prop:=g.Tree=h.Tree/\wkH g
def As0 {N:Nat}(d:3000000<=N){h:Ns}(b:okH N h){v:Nat}(f:v<h.Tree.n){rest:Option (List (A2_int×Ns))}{R:List (A2_int×Ns)}(i:rest=some R)(hR:∀q∈R,exG h q.2) :∀(m M k:Nat),k+m=(h.On.g v).n-1->m<M->∃R',X5 M (λ(a:Int->Option (List (A2_int×Ns))) (x4:Int)=>
  if (decide (x4<(wrap .i64 (((h.On.g v).n:Int)-1)))) then
   (R8 N h (v:Int) x4).bind λy9=>
   Ak ((⟨(v:Int),x4⟩:A2_int),y9.1) (
    a (wrap .i64 (x4+1))
    )
  else
   rest
  ) (k:Int)=some R' /\ (∀q∈R',exG h q.2)/\R'.length<=m+R.length
 |_,0,_,_,hM=>Eu hM (Bi3 _)
 |0,M+1,k,hk,_=>by have j:=b.row v (by have:=b.on;omega);rw[I0,Mb (n:=((h.On.g v).n:Int)-1),Dn];exact⟨R,i,hR,by omega⟩
 |m+1,M+1,k,hk,hM=>by
  have j:=b.row v (by have:=b.on;omega);obtain⟨R',h1,l,o⟩:=As0 d b f i hR m M (k+1) (by omega) (by omega);obtain⟨g,g1,_,g2⟩:=AF4 d b f (k:=k) (by omega);refine⟨(⟨(v:Int),(k:Int)⟩,g.1)::R', ?_,λq c=>?_,by simp;omega⟩
  .rw[I0,Ek (by rw[Mb (n:=((h.On.g v).n:Int)-1)];simp;omega),g1,Lw,Br,h1];rfl
  rcases Bi4.1 c with rfl|c
  .exact g2
  exact l q c
def AU3 (f:3000000<=N){p:C0}(c:okH N p.Ns):∃R,Y4 N p=some R/\(∀q∈R,exG p.Ns q.2)/\R.length<=4032:=by
 have j:=c.tree.2.1;have l:=c.on;have key:∀(m M i:Nat),i+m=p.Ns.On.n->m<M->∃R,X5 M (λ(a:Int->Option (List (A2_int×Ns))) (x2:Int)=>
  if (decide (x2<(p.Ns.On.n:Int))) then
   if ((0:Int)<=x2/\x2<(p.Ns.On.n:Int))then
    X5 N (λb (x4:Int)=>
     if (decide (x4<(wrap .i64 (((p.Ns.On.g x2.toNat).n:Int)-1)))) then
      (R8 N p.Ns x2 x4).bind λy9=>
      Ak ((⟨x2,x4⟩:A2_int),y9.1) (
       b (wrap .i64 (x4+1))
       )
     else
      a (wrap .i64 (x2+1))
     ) 0
   else none
  else
   some []) (i:Int)=some R/\(∀q∈R,exG p.Ns q.2)/\R.length<=m*64:=by
  intro m
  induction m with
  |zero=>intro M i hk o;obtain⟨M,rfl⟩:∃M',M=M' + 1:=⟨M-1,by omega⟩;rw[I0,Dn];exact⟨[],rfl,λq r=>by simp at r,by simp⟩
  |succ m ih=>intro M i hk o;obtain⟨M,rfl⟩:∃M',M=M' + 1:=⟨M-1,by omega⟩;obtain⟨R,h1,d,s⟩:=ih M (i+1) (by omega) (by omega);have t:=c.row i (by omega);obtain⟨R',g1,g2,g3⟩:=As0 f c (v:=i) (by omega) h1 d ((p.Ns.On.g i).n-1) N 0 (by omega) (by omega);rw[I0,Cj,Cg,Lp,Br];exact⟨R',g1,g2,by omega⟩
 obtain⟨R,h1,d,s⟩:=key p.Ns.On.n N 0 (by omega) (by omega);exact⟨R,h1,d,by omega⟩
structure AF8 (N:Nat) (p:C0):Prop where
 chk:X2 N p=some 0
 hist:okH N p.Ns
 Nq:okE p.Nr p.Nv (Q9 p.Ns.Tree p.Ns.Tree.n).n
def Be7 {h:Ns}(a:okH N h):wkH h:=⟨a.tree,a.ten,a.ln,λi b=>(a.laws i b).1,a.on,a.row,a.rng⟩
def Be8 {α : Type}{s:Sl α}{k:Nat}(h:k<s.n):s.g k∈s.toList:=Bl0.2 ⟨k,Bk2.2 h,rfl⟩
def AF9 (c:3000000<=N){p:C0}(hp:AF8 N p):∃s,Bh N p=some (s,0)/\s.n<=10000:=by
 have ha:=hp.Nq;have j:=hp.hist;have hn:=ha.n;have l:=ha.pn;have m:=Kw j.tree
 suffices ∃r,Bh N p=some r/\(r.2=0/\r.1.n<=10000) by obtain⟨⟨s,e⟩,r1,r2,r3⟩:=this;obtain rfl:e=0:=r2;exact⟨s,r1,r3⟩
 unfold Bh;refine B8 hp.chk (Bq ?_);obtain⟨L,l1,l2⟩:=ZL c (Be7 j);refine B8 l1 (B8 rfl ?_);obtain⟨R,f1,f2,f3⟩:=AF7 c (p:=p) (laws:=L) hn m l (λi o=>(ha.pf i o).1) ha.fn l2;obtain⟨G,c1,c2⟩:=Af6 (N:=N) f3;refine B8 f1 (B8 c1 (B8 rfl ?_));obtain⟨X,e1,e2,e3⟩:=AU3 c j;refine B8 e1 ?_;have hG:∀i,i<G.n->inR p.Nv (G.g i):=λi o=>f2 _ (by rw[<- c2];exact Be8 o);have hGn:G.n<=16128:=by have:=congrArg List.length c2;rw[Ai]at this;omega
 refine Wl (λ(L:List (A2_int×Ns)) (z:Sl GH)=>(∀q∈L,exG p.Ns q.2)/\z.n+L.length<=4032) (λz d=>⟨(z,0),rfl,rfl,by have:=d.2;simp at this;show z.n<=_;omega⟩) ?_ X (Sl.nil:Sl GH) ⟨e2,by show 0+_<=_;omega⟩;rintro x Y z w ⟨hx,d⟩ hs;have d:z.n+(Y.length+1)<=4032:=d;obtain⟨g1,g2⟩:=hx x (by simp);obtain⟨L',m1,m2⟩:=ZL c g2;rw[g1]at m2;refine B8 m1 ?_;refine GE (λi x5=>x5=(i:Int)) G.n _ (by omega) rfl ?_;rintro t i x5 hle rfl u;by_cases hl:i<G.n
 .obtain⟨a,b,ge,ga,gb⟩:=hG i hl;refine ifT (by simpa using hl) (Af ?_);rw[Lp,ge];have hF:=ha.fn a ga;have hL':=m2.1;obtain⟨y,hy⟩:=AL0 (p:=p.Nr.g a) (f:=(p.Nv.g a).Nw.g b) c (m2.2 b) (ha.pf a (by omega)).1;refine ifT (by dsimp only;rw[Lp];omega) ?_;refine B8 (x:=y) (by simpa using hy) ?_;cases y
  .exact ifT rfl (ifT (by show (z.n+1)*32<=_/\z.n+1<=_;omega) (hs _ ⟨λq v=>hx q (Bi1 _ v),by show z.n+1+Y.length<=_;omega⟩))
  exact Bq (u hl _ (Br))
 exact ifF (by simpa using hl) (hs z ⟨λq v=>hx q (Bi1 _ v),by omega⟩)
def AU4 (a:3000000<=N){p:C0}(hp:AF8 N p)(hw:∀i,i<p.Nr.n->(p.Nr.g i).Has=true->wrd (p.Nr.g i).W):∃X:Sl (Sl Law),X.n=(Q9 p.Ns.Tree p.Ns.Tree.n).n/\(∀k,k<X.n->lineP p.Ns ((Q9 p.Ns.Tree p.Ns.Tree.n).g k).toNat (X.g k)) /\
 ∀c:Int,0<=c/\c<=1073741824->∃b s,U3 N p c=some (⟨b,s⟩,0)/\b.toList=(Hr (fwL p.Nv) p.Nv.n 0).filterMap (exQ N X p.Nr p.Nv c):=by
 obtain⟨X,x1,x2,x3⟩:=AU2 a hp.hist hp.Nq hw;obtain⟨s,s1,_⟩:=AF9 a hp;refine⟨X,x1,x2,λc hc=>?_⟩;obtain⟨b,b1,b2⟩:=x3 c hc;refine⟨b,s,?_,b2⟩;unfold U3 CW;rw[hp.chk,Lw,Et (by decide),Dn,Lw,Et (by decide),b1,Lw,s1,Lw]
end Go.AM
namespace Go.AM
open Go.Proofs
def dep:Nat->Pat->Prop
 |0,_=>False
 |d+1,p=>p.L.n<=40/\∀i,i<p.L.n->dep d (p.L.g i)
def AL1:∀(d:Nat) (p:Pat),dep d p->∀e,d<=e->dep e p
 |0,_,h,_,_=>h.elim
 |d+1,p,h,0,he=>by omega
 |d+1,p,h,e+1,he=>⟨h.1,λi a=>AL1 d _ (h.2 i a) e (by omega)⟩
def Ww {N:Nat}(o:1000<=N):∀(d:Nat),d<=40->∀(p:Pat) (M:Nat),N+d+2<=M->∃r:Nat,Cn M p ((40-d:Nat):Int)=some (r:Int)/\40-d<r/\r<=41/\(r<=40->dep (d+1) p)
 |d,hd,p,0,hM=>by omega
 |d,hd,p,M+1,hM=>by
  have:∃x,Cn (M+1) p ((40-d:Nat):Int)=some x/\∃r:Nat,x=(r:Int)/\40-d<r/\r<=41/\(r<=40->dep (d+1) p):=by
   show ∃x,CN (Cn M) M p _=some x/\_;unfold CN;rw[Br];refine W7 (λi x1 x2=>x2=(i:Int)/\∃k:Nat,x1=(k:Int)/\40-d+1+i<=k/\k<=41/\i<=p.L.n/\(k<=40->∀j,j<i->dep d (p.L.g j))) 41 _ (by omega) ⟨rfl,40-d+1,rfl,by omega,by omega,by omega,λ_ j b=>Eu b (by omega)⟩ ?_;rintro f i x1 x2 q ⟨rfl,k,rfl,h1,c,s,l⟩ hs;by_cases hc:i<p.L.n/\k<=40
   .refine ifT (by simp only[Bh0,Fc];omega) (Af ?_);obtain⟨r,m,r1,r2,r3⟩:=Ww o (40-k) (by omega) (p.L.g i) M (by omega);rw[show ((40-(40-k):Nat):Int)=(k:Int) by omega]at m;refine B8 (by rw[Lp];exact m) (hs (by omega) _ _ ⟨Br,r,rfl,by omega,r2,by omega,λa j b=>?_⟩);by_cases e:j=i
    .subst e;exact AL1 _ _ (r3 a) d (by omega)
    exact l hc.2 j (by omega)
   refine ifF (by simp only[Bh0,Fc];omega) ⟨_,rfl,k,rfl,by omega,c,λhk=>⟨by omega,λj b=>l hk j (by omega)⟩⟩
  obtain⟨x,h1,r,rfl,c⟩:=this;exact⟨r,h1,c⟩
def PZ:∀(d:Nat) (p:Pat),dep d p->∀M,100+d<=M->∃r,AY M p=some r
 |0,p,h,M,_=>h.elim
 |d+1,p,h,0,hM=>by omega
 |d+1,p,h,M+1,hM=>by
  suffices ∃r,AY (M+1) p=some r/\True by obtain⟨r,h,_⟩:=this;exact⟨r,h⟩
  show ∃x,Ay (AY M) M p=some x/\_;unfold Ay;have hn:=h.1;refine W7 (λi x1 x2=>x2=(i:Int)) p.L.n _ (by omega) rfl ?_;rintro a i x1 x2 c rfl hs;by_cases hl:i<p.L.n
  .obtain⟨r,b⟩:=PZ d (p.L.g i) (h.2 i hl) M (by omega);exact Al (Af (B8 (by rw[Lp];exact b) (hs hl _ _ (Br))))
  exact Bl ⟨_,rfl,trivial⟩
def Uc {N:Nat}(b:2000<=N)(p:Pat):∃r:Nat,Dq N p=some (r:Int)/\(r<=40->dep 41 p):=by obtain⟨r,h1,_,_,a⟩:=Ww (N:=1000) (by omega) 40 (by omega) p N (by omega);exact⟨r,by unfold Dq;rw[show Cn N p 0=some (r:Int) from h1];rfl,a⟩
def AG0 {N:Nat}(f:2000<=N)(laws:Sl Law):∃r,EL N laws=some r:=by
 suffices ∃r,EL N laws=some r/\True by obtain⟨r,h,_⟩:=this;exact⟨r,h⟩
 unfold EL;refine W7 (λi x1 x2=>x2=(i:Int)) 301 _ (by omega) rfl ?_;rintro d i x1 x2 s rfl hs;by_cases hc:i<laws.n/\i<=300
 .refine ifT (by simp only[Bh0,Fc];omega) (Af ?_);refine W7 (λj x7 x8=>x8=(j:Int)) 2 _ (by omega) rfl ?_;rintro b j x7 x8 t rfl a;by_cases hl:j<2
  .refine ifT (by show decide ((j:Int)<((2:Nat):Int))=true;simp;omega) (ifT (by show (0:Int)<=(j:Int)/\(j:Int)<((2:Nat):Int);omega) ?_);obtain⟨r,l,m⟩:=Uc f ((Sl.of [(laws.g (i:Int).toNat).Left,(laws.g (i:Int).toNat).Right]:Sl Pat).g (j:Int).toNat);refine B8 l ?_;by_cases c:r<=40
   .obtain⟨q,o⟩:=PZ 41 _ (m c) N (by omega);exact Al (B8 o (a hl _ _ (Br)))
   exact Bl (a hl _ _ (Br))
  exact ifF (by show ¬decide ((j:Int)<((2:Nat):Int))=true;simp;omega) (hs (by omega) _ _ (Br))
 exact ifF (by simp only[Bh0,Fc];omega) ⟨_,rfl,trivial⟩
end Go.AM
namespace Go.AM
open IntKind (wrap)
open Go.Proofs
def As1 {N:Nat}(t:3000000<=N)(h:Ns):∃b,Fx N h=some b/\True:=by
 unfold Fx;by_cases hb:(((decide (70<(h.Tree.n:Int)))||(decide (70<(h.Laws.n:Int))))||(decide (70<(h.On.n:Int))))=true
 .exact ifT hb ⟨_,rfl,trivial⟩
 refine ifF hb ?_;have o : h.Laws.n<=70/\h.On.n<=70:=by simp at hb;omega
 refine GE (λi x=>x=(i:Int)) h.On.n _ (by omega) rfl ?_;rintro l i x q rfl hs;by_cases d:i<h.On.n
 .refine Al (Af ?_);by_cases m:(decide (70<((h.On.g (i:Int).toNat).n:Int)))=true
  .exact ifT m ⟨_,rfl,trivial⟩
  exact ifF m (hs d _ (Br))
 refine Bl ?_;refine GE (λi x=>x=(i:Int)) h.Laws.n _ (by omega) rfl ?_;rintro f i x q rfl j;by_cases d:i<h.Laws.n
 .rw[Br];refine Al (Af ?_);obtain⟨r,s⟩:=AG0 (N:=N) (by omega) (h.Laws.sub (i:Int).toNat ((i+1:Nat):Int).toNat);refine B8 s ?_;have last:∀z3:Bool,∃r,(if z3 then some false else f ((i+1:Nat):Int))=some r/\True:=λz=>by
   cases z
   .exact Bm (j d _ rfl)
   exact ifT rfl ⟨_,rfl,trivial⟩
  refine ltX ?_;by_cases g1:(decide (4<r))=true
  .exact ifT g1 (last _)
  refine ifF g1 ?_;by_cases g2:(decide (20<((h.Laws.g (i:Int).toNat).If.n:Int)))=true
  .exact ifT g2 (last _)
  refine ifF g2 ?_;by_cases g3:(decide (20<((h.Laws.g (i:Int).toNat).Out.n:Int)))=true
  .exact ifT g3 (last _)
  refine ifF g3 ?_;obtain⟨a,ha,_⟩:=Uc (N:=N) (by omega) (h.Laws.g (i:Int).toNat).Left;refine B8 ha ?_;by_cases g4:(decide (41<(a:Int)))=true
  .exact ifT g4 (last _)
  refine ifF g4 ?_;obtain⟨c,hc,_⟩:=Uc (N:=N) (by omega) (h.Laws.g (i:Int).toNat).Right;exact B8 hc (last _)
 exact Bl ⟨_,rfl,trivial⟩
structure Ud (x:Small):Prop where
 par:∀i,i<x.Parents.n->∃k:Nat,x.Parents.g i=(k:Int)/\k<256
 laws:Db x.Laws
 on:∀i,i<x.On.n->∃k:Nat,x.On.g i=(k:Int)/\k<65536
def ZN {n:Nat}(h:n<256):IntKind.u8.wrap (n:Int)=n:=by have h1:((n:Int) % (2 ^ 8:Int))=n:=Bn6 (by omega) (by omega);unfold wrap;simp only[IntKind.bits,IntKind.signed,h1,Bq6,Bh3,Ex]
def As2 (a j:Nat):Str:=[UInt8.ofNat (a+j)]
def As3 {a j:Nat}(h:a+j<256):[UInt8.ofNat (wrap .u8 ((a:Int)+(wrap .u8 (j:Int)))).toNat]=As2 a j:=by rw[ZN (by omega),<- Int.natCast_add,ZN h,Lp];rfl
def ZO {a i j:Nat}(b:a+i<256)(c:a+j<256)(h:As2 a i=As2 a j):i=j:=by
 have:=congrArg UInt8.toNat (Bx1 h).1
 rw[Bv8,Bv8]at this;omega
def As4:∀j:Fin 10,NG (As2 97 j.val)=true:=by decide +kernel
def AU5 (x:Small):Nat->Node
 |0=>⟨-1,[114]⟩
 |j+1=>⟨(((x.Parents.g j).toNat % (j+1):Nat):Int),As2 97 (j+1)⟩
def AV7 (x:Small)(j:Nat):Law:=⟨As2 65 j,(x.Laws.g j).Left,(x.Laws.g j).Right,(x.Laws.g j).If,(x.Laws.g j).Out,(x.Laws.g j).Mode⟩
def As5 {x:Small}(hx:Ud x){j:Nat}(d:j<x.Laws.n):TV (AV7 x j):=by obtain⟨⟨a,b,c⟩,l,f,g,i⟩:=hx.laws j d;exact⟨⟨a,b,c⟩,by show 1<_;omega,f,g,i⟩
def AG1 {x:Small}{t:Sl Node}(hn:t.n<=10)(ht:∀j,j<t.n->t.g j=AU5 x j){v:Nat}(c:v<t.n):Be0 t v:=by
 have a:∀j,j<t.n->0<j->(AU5 x j).Name=As2 97 j:=λj _ d=>by obtain⟨k,rfl⟩:∃k,j=k+1:=⟨j-1,by omega⟩;rfl
 have b:∀j,j<10->([114]:Str)≠As2 97 j:=λj f h=>by
  have:=congrArg UInt8.toNat (Bx1 h).1
  rw[Bv8]at this;have e:(114:UInt8).toNat=114:=rfl;omega
 refine⟨λh=>by rw[ht 0 (by omega)];rfl,λd=>?_,?_,λu i=>?_⟩
 .obtain⟨k,rfl⟩:∃k,v=k+1:=⟨v-1,by omega⟩;rw[ht _ c];show 0<=(((x.Parents.g k).toNat % (k+1):Nat):Int)/\(((x.Parents.g k).toNat % (k+1):Nat):Int)<((k+1:Nat):Int)
  have:=Bq9 (x.Parents.g k).toNat (show 0<k+1 by omega)
  omega
 .rw[ht _ c];by_cases d:v=0
  .subst d;show NG [114]=true;decide +kernel
  rw[a v c (by omega)];exact As4 ⟨v,by omega⟩
 rw[ht _ c,ht u (by omega),a v c (by omega)];by_cases d:u=0
 .subst d;exact b v (by omega)
 rw[a u (by omega) (by omega)];exact λh=>by have:=ZO (by omega) (by omega) h;omega
def AG2 {N:Nat}(hN:3000000<=N){x:Small}(hx:Ud x) :∃r:Ns×Bool,Z7 N x=some r/\((r.2=false/\r.1.Tree.n=0) \/ okH N r.1):=by
 unfold Z7;refine W7 (λi (x1:Sl Node) x2=>x2=((i+1:Nat):Int)/\x1.n=i+1/\∀j,j<i+1->x1.g j=AU5 x j) 9 _ (by omega) ⟨rfl,rfl,λj s=>by obtain rfl:j=0:=(by omega);rfl⟩ ?_;rintro self i x1 x2 hi ⟨rfl,hn1,h1⟩ hs;by_cases hlt:i+1<=x.Parents.n/\i+1<10
 .obtain⟨k,hk,a0⟩:=hx.par i (by omega);have e1:wrap .i64 (((i+1:Nat):Int)-1)=(i:Int):=by rw[AD5 (by omega) (by omega)];rfl
  refine Al ?_;rw[e1,Lp,hk,Mb (n:=(k:Int))];refine ifT ⟨⟨by omega,by omega⟩,by omega⟩ (ifT (by show (x1.n+1)*24<=_/\x1.n+1<=_;omega) (hs (by omega) _ _ ⟨Br,by show x1.n+1=_;omega,λj s=>?_⟩));show (if j<x1.n then x1.g j else _)=_;by_cases e:j<x1.n
  .rw[Ek e];exact h1 j (by omega)
  obtain rfl:j=i+1:=by omega
  rw[Et e];have e2:[UInt8.ofNat (wrap .u8 (97+(wrap .u8 ((i+1:Nat):Int)))).toNat]=As2 97 (i+1):=As3 (a:=97) (by omega);rw[e2];show (⟨_,_⟩:Node)=⟨(((x.Parents.g i).toNat % (i+1):Nat):Int),As2 97 (i+1)⟩;rw[hk,Lp];rfl
 refine Bl ?_;clear hs;refine W7 (λi (x4:Sl Law) x5=>x5=(i:Int)/\x4.n=i/\∀j,j<i->x4.g j=AV7 x j/\j<x.Laws.n/\chkAll N (AV7 x j)) 6 _ (by omega) ⟨rfl,rfl,λj s=>Eu s (by omega)⟩ ?_;rintro self2 m x4 x5 hm ⟨rfl,hn4,z⟩ a1;by_cases a2:m<x.Laws.n/\m<6
 .obtain⟨a3,hm6⟩:=a2;have e2:[UInt8.ofNat (wrap .u8 (65+(wrap .u8 (m:Int)))).toNat]=As2 65 m:=As3 (a:=65) (by omega);have hin:=As5 hx a3;refine Al (Af ?_);rw[Lp,e2];obtain⟨b,hb,_⟩:=As1 hN (⟨(Sl.nil:Sl Node),(Sl.of [AV7 x m]:Sl Law),(Sl.nil:Sl (Sl Int))⟩:Ns);have hl:Fy N (AV7 x m)=some b:=by unfold Fy;rw[hb];rfl
  refine B8 hl (ltX ?_);cases b
  .exact ifT rfl (ifT rfl ⟨_,rfl,.inl ⟨rfl,rfl⟩⟩)
  refine Bq ?_;obtain⟨e,he,hE⟩:=IZ hN hin;refine B8 he ?_;rcases hE with⟨rfl,hc⟩ | ⟨rfl,_⟩
  .refine Bq (ifT (by show (x4.n+1)*200<=_/\x4.n+1<=_;omega) (a1 hm6 _ _ ⟨Br,by show x4.n+1=_;omega,λj s=>?_⟩));show (if j<x4.n then x4.g j else AV7 x m)=_/\_;by_cases e:j<x4.n
   .rw[Ek e];exact z j (by omega)
   obtain rfl:j=m:=by omega
   rw[Et e];exact⟨rfl,a3,hc⟩
  exact Aw ⟨_,rfl,.inl ⟨rfl,rfl⟩⟩
 refine Bl ?_;clear a1;have hL1:wrap .i64 ((x4.n:Int)+1)=((x4.n+1:Nat):Int):=Br;rw[hL1];refine W7 (λv (f:Sl (Sl Int)) a4=>a4=(v:Int)/\f.n=v/\∀u,u<v->(f.g u).n<=5/\∀j,j<(f.g u).n->0<=(f.g u).g j/\(f.g u).g j<x4.n) x1.n _ (by omega) ⟨rfl,rfl,λj s=>Eu s (by omega)⟩ ?_;rintro self5 v f a4 o ⟨rfl,hn10,t⟩ hs5;by_cases hvl:v<x1.n
 .obtain⟨c,hc,hc2⟩:∃c:Nat,Ed N x.On (v:Int)=some (c:Int)/\c<65536:=by
   unfold Ed;by_cases h:v<x.On.n
   .obtain⟨k,hk,a0⟩:=hx.on v h;exact⟨k,by rw[Cj,Cg,Lp,hk,Mb],a0⟩
   exact⟨0,by rw[Dn];rfl,by omega⟩
  refine Al (B8 hc ?_);refine W7 (λq (l:Sl Int) a5=>l.n=q/\(∃d:Nat,a5=(d:Int)/\d<65536)/\∀j,j<l.n->0<=l.g j/\l.g j<x4.n) 5 _ (by omega) ⟨rfl,⟨c,rfl,hc2⟩,λj s=>Eu s (Bi3 j)⟩ ?_;rintro self6 q l a5 hq ⟨hn14,⟨d,rfl,hd⟩,a6⟩ hs6;refine Af ?_;have em:(d:Int).tmod ((x4.n+1:Nat):Int)=((d % (x4.n+1):Nat):Int):=rfl;have ed:(d:Int).tdiv ((x4.n+1:Nat):Int)=((d / (x4.n+1):Nat):Int):=rfl;rw[em,ed];have a7:=Bq9 d (show 0<x4.n+1 by omega);have a8:=Nat.div_le_self d (x4.n+1);generalize d / (x4.n+1)=d1 at a8;generalize d % (x4.n+1)=m1 at a7;by_cases g:m1≠0/\q<5
  .rw[AD5 (by omega) (by omega),Mb (n:=(d1:Int))];refine Al (ifT ⟨⟨by omega,by show (l.n+1)*8<=_;omega,by show l.n+1<=_;omega⟩,by omega⟩ (hs6 (by omega) _ _ ⟨by show l.n+1=_;omega,⟨_,rfl,by omega⟩,λj s=>?_⟩));show 0<=(if j<l.n then l.g j else _)/\(if j<l.n then l.g j else _)<_;by_cases e:j<l.n
   .rw[Ek e];exact a6 j e
   rw[Et e];omega
  refine Bl (ifT (by show (f.n+1)*24<=_/\f.n+1<=_;omega) (hs5 hvl _ _ ⟨Br,by show f.n+1=_;omega,λu hu=>?_⟩));show (if u<f.n then f.g u else l).n<=5/\∀j,j<(if u<f.n then f.g u else l).n->0<=(if u<f.n then f.g u else l).g j/\(if u<f.n then f.g u else l).g j<_;by_cases e:u<f.n
  .rw[Ek e];exact t u (by omega)
  rw[Et e];exact⟨by omega,a6⟩
 obtain rfl:v=x1.n:=by omega
 have w:Ee x1:=⟨by omega,by omega,λv o=>AG1 (by omega) (λj s=>h1 j (by omega)) o⟩;have hw:wkH (⟨x1,x4,f⟩:Ns):=⟨w,by show x1.n<=10;omega,by show x4.n<=64;omega,λi y=>?_,by show f.n=x1.n;omega,λv o=>(t v (by have o:v<f.n:=o;omega)).1,λv o=>(t v (by have o:v<f.n:=o;omega)).2⟩
 .have hc:∀i,i<x4.n->chkAll N (x4.g i):=λi y=>by rw[(z i (by omega)).1];exact (z i (by omega)).2.2
  obtain⟨e,e1,_,e2⟩:=Sa hN hw;obtain rfl:=e2 hc λu v huv o hn=>by
   have o:v<x4.n:=o;have hn:(x4.g u).Name=(x4.g v).Name:=hn;rw[(z u (by omega)).1,(z v (by omega)).1]at hn
   have:=ZO (a:=65) (by omega) (by omega) hn
   omega
  exact Bm ⟨_,rfl,.inr (AK5 hw hc e1)⟩
 have y:i<x4.n:=y;show TV (x4.g i);obtain⟨e,hil,_⟩:=z i (by omega);rw[e];exact As5 hx hil
end Go.AM
namespace Go.AM
variable {N:Nat}
open IntKind (wrap)
open Go.Proofs
def As6 {n:Nat}(h:n<4294967296):IntKind.u32.wrap (n:Int)=n:=by have h1:((n:Int) % (2 ^ 32:Int))=n:=Bn6 (by omega) (by omega);unfold wrap;simp only[IntKind.bits,IntKind.signed,h1,Bq6,Bh3,Ex]
def wrd.push {w:Sl Kj}(hw:wrd w){z:Kj}(a:z∈Yt):wrd (w.push z):=by obtain⟨L,l1,rfl⟩:=hw;exact⟨L++[z],λs hs=>(By4.1 hs).elim (l1 s) λh=>Bm6.1 h ▸ a,(Mp L z).symm⟩
def As7 (o:1000<=N){s:Str}(hs:s.length<=32):∃w,S2 N s=some w/\wOk w/\wrd w:=by
 unfold S2;refine W7 (λi (x1:Sl Kj) x2=>x2=(i:Int)/\x1.n=i/\vW x1/\wrd x1) s.length _ (by omega) ⟨rfl,rfl,λj d=>Eu d (Bi3 j),[],by simp,rfl⟩ ?_;rintro a i x1 x2 q ⟨rfl,h1,f,l⟩ b;by_cases hl:i<s.length
 .have nx:∀z:Kj,vS z->z∈Yt->∃r,(if (Kl 8 (x1.n+(Sl.of [z]:Sl Kj).n))then a (x1.push z) (wrap .i64 ((i:Int)+1))else none)=some r/\(wOk r/\wrd r):=λz m c=>
   ifT (by show (x1.n+1)*8<=_/\x1.n+1<=_;omega) (b hl _ _ ⟨Br,by show x1.n+1=_;omega,λj d=>by
    show vS (if j<x1.n then x1.g j else z);split
    .exact f j (by assumption)
    exact m,l.push c⟩)
  refine Al (Af ?_);split
  .exact nx _ ⟨2#32,5#32,rfl,by decide +kernel⟩ (by simp)
  split
  .exact nx _ ⟨3#32,4#32,rfl,by decide +kernel⟩ (by simp)
  exact nx _ ⟨5#32,2#32,rfl,by decide +kernel⟩ (by simp)
 exact Bl ⟨x1,rfl,⟨by omega,f⟩,l⟩
def ifC {R:Type}{Q:R->Prop}{p:Prop}[Decidable p]{a b:Option R}(h1:∃r,a=some r/\Q r)(c:∃r,b=some r/\Q r):∃r,(if p then a else b)=some r/\Q r:=by
 split
 .exact h1
 exact c
def Yu:wOk Jf:=⟨Bn9 _,λi a=>Eu a (Bi3 i)⟩
def AU6 (a:1000<=N){s:Str}(hs:s.length<=32):∃f,Bi N s=some f/\okF f/\(f.Has=true->wrd f.W):=by
 unfold Bi;obtain⟨w,w1,w2,w3⟩:=As7 a hs;split
 .exact⟨_,rfl,⟨Yu,λ_=>rfl⟩,λh=>by cases h⟩
 exact B8 w1 ⟨_,rfl,⟨w2,λh=>by cases h⟩,λ_=>w3⟩
def Wx (x:3000000<=N){h:Ns}(y:okH N h){lv:Sl Int}(hl:lv.n<=63)(q:∀k,k<lv.n->∃u:Nat,u<h.Tree.n/\lv.g k=(u:Int)){n:Int}{s:Str}(hs:s.length<=32){K:Sl G8->Option (C0×Bool)}{Q:C0×Bool->Prop}
 (z:∀fs:Sl G8,fs.n=lv.n->(∀k,k<fs.n->okF (fs.g k))->∃r,K fs=some r/\Q r) (p0:C0) (hQ:Q (p0,false)):∃r,Ca N (λ(c:Sl G8->Int->Option (C0×Bool)) (a:Sl G8) (b:Int)=>
  if (decide (b<(lv.n:Int))) then
   (S2 N s).bind λd=>
   if (0:Int)<=(wrap .i64 (10+(wrap .i64 (2*(b.tmod 8)))))then
    if (((shI .shr .u32 n (wrap .i64 (10+(wrap .i64 (2*(b.tmod 8)))))).tmod 4)==0) then
     if (Kl 32 (a.n+(Sl.of [(⟨false,Jf⟩:G8)]:Sl G8).n))then
      c (a.push (⟨false,Jf⟩:G8)) (wrap .i64 (b+1))
     else none
    else
     if (if (((shI .shr .u32 n (wrap .i64 (10+(wrap .i64 (2*(b.tmod 8)))))).tmod 4)==1) then ((shI .shr .u32 n (wrap .i64 (10+(wrap .i64 (2*(b.tmod 8)))))).tmod 4)==1 else ((shI .shr .u32 n (wrap .i64 (10+(wrap .i64 (2*(b.tmod 8)))))).tmod 4)==2) then
      if (((0:Int)<=b/\b<(lv.n:Int))/\b.toNat<lv.n)then
       (X0 N h d (lv.g b.toNat)).bind λj=>
       if (j.2 != 0) then
        some (p0,false)
       else
        if (Kl 32 (a.n+(Sl.of [(⟨true,j.1⟩:G8)]:Sl G8).n))then
         c (a.push (⟨true,j.1⟩:G8)) (wrap .i64 (b+1))
        else none
      else none
     else
      if (Kl 32 (a.n+(Sl.of [(⟨true,d⟩:G8)]:Sl G8).n))then
       c (a.push (⟨true,d⟩:G8)) (wrap .i64 (b+1))
      else none
   else none
  else K a
  ) (Sl.nil:Sl G8) 0=some r/\Q r:=by
 obtain⟨w,w1,w2,_⟩:=As7 (N:=N) (by omega) hs;refine W7 (λi (a:Sl G8) b=>b=(i:Int)/\a.n=i/\∀k,k<a.n->okF (a.g k)) lv.n _ (by omega) ⟨rfl,rfl,λk hk=>Eu hk (Bi3 k)⟩ ?_;rintro l i a b hi ⟨rfl,h1,v⟩ t;by_cases m:i<lv.n
 case neg=>exact Bl (z _ (by omega) v)
 have nx:∀f:G8,okF f->∃r,(if (Kl 32 (a.n+(Sl.of [f]:Sl G8).n))then l (a.push f) (wrap .i64 ((i:Int)+1))else none)=some r/\Q r:=λf hf=>
  ifT (by show (a.n+1)*32<=_/\a.n+1<=_;omega) (t m _ _ ⟨Br,by show a.n+1=_;omega,λk hk=>by
   show okF (if k<a.n then a.g k else f);split
   .exact v k (by assumption)
   exact hf⟩)
 have hm:(i:Int).tmod 8=((i % 8:Nat):Int):=rfl;have hm8:=Bq9 i (show 0<8 by omega);refine Al (B8 w1 (ifT (by rw[hm,Mb (n:=2*_),Mb];omega) ?_));refine ifC (nx _ ⟨Yu,λ_=>rfl⟩) (ifC ?_ (nx ⟨true,w⟩ ⟨w2,λe=>by cases e⟩))
 obtain⟨u,hu,eu⟩:=q i m;rw[Lp,eu];obtain⟨r,_,r1,_,r2⟩:=Be2 x y w2 hu;have r2:r.2=0->wOk r.1:=λo=>r2.elim (λh=>h.2.1) λh=>Eu o h.1;refine Af (B8 r1 ?_);by_cases o:r.2=0
 .exact ifF (by simp[o]) (nx ⟨true,r.1⟩ ⟨r2 o,λe=>by cases e⟩)
 exact ifT (by simpa using o) ⟨_,rfl,hQ⟩
structure As8 (x:An9):Prop where
 H:Ud x.H
 L:∀i,i<x.L.n->∃b:BitVec 32,x.L.g i=(b.toNat:Int)
def Af7:(Dw 4194304).isSome=true:=by decide +kernel
def Sb:Sl Str:=(Dw 4194304).getD Sl.nil
def AG3:Dw 4194304=some Sb:=by obtain⟨v,a⟩:=Bi2.1 Af7;unfold Sb;rw[a];rfl
def AG4 (h:Ns)(p:Sl G8)(e:Sl Pb):Ec 4194304 ⟨Sb,Sl.nil,Sl.nil,h,p,e⟩=some 0:=by
 have:Ec 4194304 ⟨Sb,Sl.nil,Sl.nil,⟨Sl.nil,Sl.nil,Sl.nil⟩,Sl.nil,Sl.nil⟩=some 0:=by decide +kernel
 exact this
def AG5:∀i:Fin 4,NG [103,UInt8.ofNat (wrap .u8 (48+(wrap .u8 ((i.val:Nat):Int)))).toNat]=true:=by decide +kernel
def AG6 {h:Ns}{p:Sl G8}{l:Sl Pb}(a:okH 4194304 h)(hl:okE p l (Q9 h.Tree h.Tree.n).n):AF8 4194304 ⟨Sb,Sl.nil,Sl.nil,h,p,l⟩:=⟨by unfold X2;rw[AG4,Lw,Et (by decide)];show (U9 4194304 h p l).bind _=_;rw[Wv (by omega) a hl];rfl,a,hl⟩
structure casP (p:C0):Prop where
 ok:AF8 4194304 p
 fe:p.Feats=Sb
 so:p.Sounds=Sl.nil
 ma:p.Marks=Sl.nil
 wd:∀i,i<p.Nr.n->(p.Nr.g i).Has=true->wrd (p.Nr.g i).W
def AG7 {x:An9}(hx:As8 x):∃r,AL 4194304 x=some r/\(r.2=true->casP r.1):=by
 have y:3000000<=4194304:=by omega
 unfold AL;obtain⟨⟨h,ok⟩,m1,m2⟩:=AG2 y hx.H;refine B8 m1 ?_;have bad:∀{e:Sl Int×Int},(ok=false \/ e.2≠0)->((!ok)||(e.2 != 0))=true:=λ{e} g=>by
  rcases g with g|g
  .simp[g]
  simp[g]
 rcases m2 with⟨g1,g2⟩ | c
 .obtain rfl:ok=false:=g1
  have:∃r,X1 4194304 h.Tree=some r:=by unfold X1 Dt;have g2:h.Tree.n=0:=g2;rw[g2];exact⟨_,rfl⟩
  obtain⟨r,hr⟩:=this;exact B8 hr (ifT (bad (.inl rfl)) ⟨_,rfl,λe=>by cases e⟩)
 have c:okH 4194304 h:=c;refine B8 (IQ y c.tree).2 ?_;have d:=Kw c.tree;have u:=@AG6 h;have l:=λk hk=>IP h.Tree h.Tree.n k hk;generalize Q9 h.Tree h.Tree.n=lv at d u l;by_cases hb:ok=true
 case neg=>exact ifT (bad (.inl (by simpa using hb))) ⟨_,rfl,λe=>by cases e⟩
 subst hb;refine Bm (B8 AG3 ?_);refine Yj (λi (x7:Sl G8) (x8:Sl Pb) x9=>x9=(i:Int)/\x7.n=i/\x8.n=i/\(∀k,k<x7.n->okF (x7.g k)/\((x7.g k).Has=true->wrd (x7.g k).W))/\∀k,k<x8.n->(x8.g k).Nw.n=lv.n/\(∀j,j<(x8.g k).Nw.n->okF ((x8.g k).Nw.g j))/\NG (x8.g k).Gloss=true) 4 _ (by omega) ⟨rfl,rfl,rfl,λk hk=>Eu hk (Bi3 k),λk hk=>Eu hk (Bi3 k)⟩ ?_;rintro v i x7 x8 x9 hi ⟨rfl,h7,h8,m,a⟩ hs;by_cases o:i<x.L.n/\i<4
 case neg=>exact Bl ⟨_,rfl,λ_=>⟨u c ⟨by omega,by omega,λk hk=>(m k hk).1,λk hk=>(a k hk).1,λk hk=>(a k hk).2.1,λk hk=>(a k hk).2.2⟩,by dsimp only,by dsimp only,by dsimp only,λk hk=>(m k hk).2⟩⟩
 obtain⟨b,hb⟩:=hx.L i o.1;refine Al (Af ?_);rw[Lp,hb];refine W7 (λk (t:Str) w=>w=(k:Int)/\t.length=k) 4 _ (by omega) ⟨rfl,rfl⟩ ?_;rintro z k t w hk ⟨rfl,h16⟩ a0;have hm:((b.toNat:Nat):Int).tmod 4=((b.toNat % 4:Nat):Int):=rfl;have hm4:=Bq9 b.toNat (show 0<4 by omega);rw[hm,Mb (n:=((b.toNat % 4:Nat):Int))];by_cases hkl:k<=b.toNat % 4
 .have e1:wrap .i64 (2+(wrap .i64 (2*(k:Int))))=((2+2*k:Nat):Int):=by rw[Mb (n:=2*_),Mb];omega
  have e2:(shI .shr .u32 (b.toNat:Int) ((2+2*k:Nat):Int)).tmod 4=(((b >>> (2+2*k)).toNat % 4:Nat):Int):=by rw[AI5];rfl
  have hq:=Bq9 (b >>> (2+2*k)).toNat (show 0<4 by omega);rw[e1,e2];generalize (b >>> (2+2*k)).toNat % 4=q at hq;have e3:wrap .u32 ((q:Int)+1)=((q+1:Nat):Int):=As6 (n:=q+1) (by omega);have h4:(([112,98,97,97]:Str).length:Int)=4:=rfl;rw[e3,h4,Lp,Lp];have hd:((([112,98,97,97]:Str).take (q+1)).drop q).length=1:=by rw[Bi5,Bo0];show min (q+1) 4-q=1;omega
  exact Al (ifT ⟨⟨⟨by omega,by omega⟩,by omega,by omega,by omega⟩,by rw[hd];omega⟩ (a0 (by omega) _ _ ⟨Br,by rw[Bj2,hd];omega⟩))
 refine Bl ?_;obtain⟨f,f1,f2,f3⟩:=AU6 (N:=4194304) (by omega) (s:=t) (by omega);refine B8 f1 (ltX ?_);have a1:=AG5 ⟨i,o.2⟩;have K:∀z3:Bool×Sl Kj,okF ⟨z3.1,z3.2⟩/\(z3.1=true->wrd z3.2)->∀fs:Sl G8,fs.n=lv.n->(∀k,k<fs.n->okF (fs.g k))->∃r,(if (Kl 32 (x7.n+(Sl.of [(⟨z3.1,z3.2⟩:G8)]:Sl G8).n))then
  if (Kl 40 (x8.n+(Sl.of [(⟨[103,UInt8.ofNat (wrap .u8 (48+(wrap .u8 (i:Int)))).toNat],fs⟩:Pb)]:Sl Pb).n))then
   v (x7.push (⟨z3.1,z3.2⟩:G8)) (x8.push (⟨[103,UInt8.ofNat (wrap .u8 (48+(wrap .u8 (i:Int)))).toNat],fs⟩:Pb)) (wrap .i64 ((i:Int)+1))
  else none
  else none)=some r/\(r.2=true->casP r.1):=by
  intro z3 hz fs a2 a3;refine ifT (by show (x7.n+1)*32<=_/\x7.n+1<=_;omega) (ifT (by show (x8.n+1)*40<=_/\x8.n+1<=_;omega) (hs o.2 _ _ _ ⟨Br,by show x7.n+1=_;omega,by show x8.n+1=_;omega,λk hk=>?_,λk hk=>?_⟩))
  .show okF (if k<x7.n then x7.g k else _)/\((if k<x7.n then x7.g k else _).Has=true->wrd (if k<x7.n then x7.g k else _).W);split
   .exact m k (by assumption)
   exact hz
  show (if k<x8.n then x8.g k else _).Nw.n=lv.n/\(∀j,j<(if k<x8.n then x8.g k else _).Nw.n->okF ((if k<x8.n then x8.g k else _).Nw.g j))/\NG (if k<x8.n then x8.g k else _).Gloss=true;split
  .exact a k (by assumption)
  exact⟨a2,a3,a1⟩
 split
 .exact Wx y c d l (by omega) (K (false,Sl.nil) ⟨⟨Yu,λ_=>rfl⟩,λe=>by cases e⟩) _ (λe=>by cases e)
 exact Wx y c d l (by omega) (K (f.Has,f.W) ⟨f2,f3⟩) _ (λe=>by cases e)
end Go.AM
namespace Go.AM
set_option maxRecDepth 100000
def Mq:AK 4194304=some true:=by decide +kernel
end Go.AM
namespace Go.AM
open IntKind (wrap)
open Go.Proofs
abbrev mpE:=List (A2_int×Int)
def ndK:mpE->Prop
 |[]=>True
 |(a,_)::es=>(∀e∈es,e.1≠a)/\ndK es
def eqK2 {a b:A2_int}:E4 a b=true↔a=b:=⟨Zy a b,λh=>by subst h;simp[E4]⟩
def Wy {k:A2_int}{v:Int}:∀{m:mpE},ndK m->ndK (Dd E4 k v m)/\∀e,e∈Dd E4 k v m↔e=(k,v) \/ (e∈m/\e.1≠k)
 |[],_=>⟨⟨by simp,trivial⟩,λe=>by simp[Dd]⟩
 |(a,x)::es,⟨h1,h2⟩=>by
  simp only[Dd];by_cases h:k=a
  .subst h;rw[Ek (eqK2.2 rfl)];refine⟨⟨h1,h2⟩,λe=>?_⟩;constructor
   .intro b;rcases Bi4.1 b with rfl|b
    .exact .inl rfl
    exact .inr ⟨Bi1 _ b,h1 e b⟩
   rintro (rfl|⟨b,hk⟩)
   .simp
   rcases Bi4.1 b with rfl|b
   .exact Eu rfl hk
   exact Bi1 _ b
  rw[Et λg=>h (eqK2.1 g)];obtain⟨g1,g2⟩:=Wy (k:=k) (v:=v) h2;refine⟨⟨λe b=>?_,g1⟩,λe=>?_⟩
  .rcases (g2 e).1 b with rfl|⟨b,_⟩
   .exact h
   exact h1 e b
  rw[Bi4,g2,Bi4];constructor
  .rintro (rfl|rfl|⟨b,hk⟩)
   .exact .inr ⟨.inl rfl,λg=>h g.symm⟩
   .exact .inl rfl
   exact .inr ⟨.inr b,hk⟩
  rintro (rfl|⟨rfl|b,hk⟩)
  .exact .inr (.inl rfl)
  .exact .inl rfl
  exact .inr (.inr ⟨b,hk⟩)
def As9 {k:A2_int}{v:Int}:∀{m:mpE},ndK m->(k,v)∈m->P1 E4 k m=some v
 |(a,x)::es,⟨h1,h2⟩,h=>by
  simp only[P1];rcases Bi4.1 h with e|h
  .cases e;rw[Ek (eqK2.2 rfl)]
  rw[Et λg=>h1 _ h (eqK2.1 g)];exact As9 h2 h
abbrev Jg (e:A4):A2_int:=⟨e.Pb,e.Np⟩
def ZP {k:A2_int}{v:Int}:∀{m:mpE},P1 E4 k m=some v->(k,v)∈m
 |[],h=>by cases h
 |(a,x)::es,h=>by
  simp only[P1]at h;by_cases e:E4 k a=true
  .rw[Ek e]at h;rw[eqK2.1 e,Bl3 h];simp
  rw[Et e]at h;exact Bi1 _ (ZP h)
def Qa {N:Nat}(hN:3000000<=N){p:C0}{b:Sl A4}{s:Sl GH}{c:Gs}(hb:b.n<=16128)(hcn:c.Bad.n<=50000)(t:U3 N p 0=some (⟨b,s⟩,0)) :∃r,J0 N p c=some (r,0)/\(r=true↔(∀j,j<c.Bad.n->∃i,i<b.n/\Jg (c.Bad.g j)=Jg (b.g i))/\∀i,i<b.n->∃j,j<c.Bad.n/\Jg (b.g i)=Jg (c.Bad.g j)):=by
 suffices ∃y,J0 N p c=some y/\(y.2=0/\(y.1=true↔(∀j,j<c.Bad.n->∃i,i<b.n/\Jg (c.Bad.g j)=Jg (b.g i))/\∀i,i<b.n->∃j,j<c.Bad.n/\Jg (b.g i)=Jg (c.Bad.g j))) by obtain⟨⟨r,e⟩,y1,y2,y3⟩:=this;obtain rfl:e=0:=y2;exact⟨r,y1,y3⟩
 unfold J0;refine B8 t (ifF (show ¬((0:Int) != 0)=true by decide) ?_);refine W7 (λj (m:mpE) x2=>x2=(j:Int)/\ndK m/\∀e,e∈m↔e.2=0/\∃i,i<j/\e.1=Jg (b.g i)) b.n _ (by omega) ⟨rfl,trivial,λe=>⟨λh=>(by cases h),fun⟨_,i,a,_⟩=>Eu a (Bi3 i)⟩⟩ ?_;rintro l j m x2 hj ⟨rfl,hm,d⟩ hs;by_cases hl:j<b.n
 .refine ifT (by simpa using hl) (ifT (by dsimp only;omega) (hs hl _ _ ⟨Br,(Wy hm).1,λe=>?_⟩));dsimp only;rw[Lp,(Wy hm).2,d];constructor
  .rintro (rfl|⟨⟨t,i,a,e1⟩,_⟩)
   .exact⟨rfl,j,by omega,rfl⟩
   exact⟨t,i,by omega,e1⟩
  rintro⟨t,i,a,e1⟩;by_cases hk:e.1=Jg (b.g j)
  .exact .inl (Prod.ext hk t)
  refine .inr ⟨⟨t,i,?_,e1⟩,hk⟩
  have:i≠j:=λg=>hk (g ▸ e1)
  omega
 refine ifF (by simpa using hl) ?_;obtain rfl:j=b.n:=by omega
 refine W7 (λj (m:mpE) x2=>x2=(j:Int)/\ndK m/\(∀e,e∈m->(0<=e.2/\e.2<=j)/\(∃i,i<b.n/\e.1=Jg (b.g i))/\(0<e.2 ↔ ∃q,q<j/\e.1=Jg (c.Bad.g q)))/\(∀i,i<b.n->∃v,(Jg (b.g i),v)∈m)/\∀q,q<j->∃i,i<b.n/\Jg (c.Bad.g q)=Jg (b.g i)) c.Bad.n _ (by omega)
  ⟨rfl,hm,λe f=>⟨by rw[((d e).1 f).1];omega,((d e).1 f).2,λh=>Eu h (by rw[((d e).1 f).1];decide),fun⟨q,u,_⟩=>Eu u (Bi3 q)⟩,λi a=>⟨0,(d _).2 ⟨rfl,i,a,rfl⟩⟩,λi a=>Eu a (Bi3 i)⟩ ?_
 clear hs hm d;rintro l j m x4 hj ⟨rfl,hm,d,hA,hB⟩ hs;by_cases hl:j<c.Bad.n
 .refine Al (Af ?_);rw[Lp];show ∃r,Nm (P1 E4 (Jg (c.Bad.g j)) m) _ _=_/\_;cases hk:P1 E4 (Jg (c.Bad.g j)) m with
  |none=>refine⟨_,rfl,rfl,λh=>(by cases h),λh=>?_⟩;obtain⟨i,a,e⟩:=h.1 j hl;obtain⟨v,o⟩:=hA i a;rw[e,As9 hm o]at hk;cases hk
  |some v=>
   have o:=ZP hk;obtain⟨hv1,⟨i0,x,e0⟩,hv3⟩:=d _ o;have hv2:0<=v/\v<=(j:Int):=hv1;have ew:wrap .i64 (v+1)=v+1:=Mb;show ∃r,l (Dd E4 (Jg (c.Bad.g j)) (wrap .i64 (v+1)) m) _=_/\_;rw[ew];have u2:=λe=>(Wy (k:=Jg (c.Bad.g j)) (v:=v+1) hm).2 e;refine hs hl _ _ ⟨Br,(Wy hm).1,λe f=>?_,λi a=>?_,λq u=>?_⟩
   .rcases (u2 e).1 f with rfl|⟨f,hne⟩
    .exact⟨by dsimp only;omega,⟨i0,x,e0⟩,λ_=>⟨j,by omega,rfl⟩,λ_=>by dsimp only;omega⟩
    obtain⟨g1,g2,g3⟩:=d e f;refine⟨by omega,g2,λh=>?_,fun⟨q,u,e⟩=>?_⟩
    .obtain⟨q,u,e⟩:=g3.1 h;exact⟨q,by omega,e⟩
    refine g3.2 ⟨q,?_,e⟩
    have:q≠j:=λg=>hne (g ▸ e)
    omega
   .by_cases g:Jg (b.g i)=Jg (c.Bad.g j)
    .exact⟨v+1,(u2 _).2 (.inl (by rw[g]))⟩
    obtain⟨w,hw⟩:=hA i a;exact⟨w,(u2 _).2 (.inr ⟨hw,g⟩)⟩
   by_cases g:q=j
   .subst g;exact⟨i0,x,e0⟩
   exact hB q (by omega)
 obtain rfl:j=c.Bad.n:=by omega
 refine Bm ⟨_,rfl,rfl,?_⟩;show (!(m.any λe=>e.2==0))=true↔_;rw[Bi7,List.any_eq_false];constructor
 .refine λh=>⟨hB,λi a=>?_⟩;obtain⟨v,o⟩:=hA i a;have h1:=(d _ o).1.1;have z:=h _ o;have h1:0<=v:=h1;have z:v≠0:=by simpa using z
  have h3:0<v:=by omega
  exact (d _ o).2.2.1 h3
 intro h e f z;have z:e.2=0:=by simpa using z
 obtain⟨_,⟨i,a,e1⟩,h3⟩:=d e f;obtain⟨q,u,e2⟩:=h.2 i a
 have:=h3.2 ⟨q,u,e1.trans e2⟩
 omega
end Go.AM
