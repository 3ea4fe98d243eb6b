/- Part 9. -/
import Derived.Test.YtndjjecpdipknaaGreatDoorWF
import Derived.Test.YtndjjecpdipknaaGreatDoorWH
import Derived.Test.YtndjjecpdipknaaGreatDoorWD
import Derived.Lib.Join
import Derived.Lib.ItoaNum
set_option linter.defProp false
set_option linter.unusedSimpArgs false
set_option linter.unusedVariables false
set_option linter.unusedSectionVars false
namespace Go.AM
variable {N:Nat}
def Lf:=@decide_eq_true_eq
def Ee{c:Prop}{i:Decidable c}{α:Sort _}{a b:α}(h:¬c:=by simp):(if c then a else b)=b:=Hj h
def Eb{c:Prop}{i:Decidable c}{α:Sort _}{a b:α}(h:¬c:=by omega):(if c then a else b)=b:=Hj h
def Cr{c:Prop}{i:Decidable c}{α:Sort _}{a b:α}(h:c:=by simp;omega):(if c then a else b)=a:=Gy h
def Cq{c:Prop}{i:Decidable c}{α:Sort _}{a b:α}(h:c:=by omega):(if c then a else b)=a:=Gy h
open IntKind (wrap)
def BD4:=@Bool.eq_iff_iff
def BF8:=@Bool.not_eq_true
def BH6:=@BitVec.eq_of_getLsbD_eq
def BH8:=@BitVec.getLsbD_or
def BJ9:=@BitVec.getLsbD_and
def BL8:=@List.find?_eq_none
def BM4:=@Bool.and_eq_false_iff
def BM8:=@Bool.or_eq_false_iff
def BN1:=@List.reverse_append
def BO3:=@Classical.axiomOfChoice
def BO4:=@List.not_mem_nil
def BP2:=@Nat.testBit_lt_two_pow
def BP3:=@List.reverse_singleton
def BP7:=@List.singleton_append
def BQ7:=@List.length_pos_iff
def BS0:=@Go.Lib.join_one
def BS1:=@Nat.pow_succ
open Go.Proofs
def Av4 {A R:Type}{body:(A->Option R)->A->Option R}(I:Nat->A->Prop)(n:Nat)(J3:R->Prop)
 (b:∀self i a,i<=n->I i a->(i<n->∀a',I (i+1) a' -> ∃r,self a' = some r/\J3 r)->∃r,body self a=some r/\J3 r) :
 ∀(N i:Nat) (a:A),i<=n->I i a->n-i<N->∃r,R6 N body a=some r/\J3 r
 |0,_,_,_,_,h=>by omega
 |N+1,i,a,hi,hI,h=>by rw[PM];exact b _ i a hi hI λc a' d=>Av4 I n J3 b N (i+1) a' c d (by omega)
def BH {A R:Type}{body:(A->Option R)->A->Option R}(I:Nat->A->Prop)(n:Nat)(J3:R->Prop){N:Nat}(c:n<N){a:A}(d:I 0 a)
 (b:∀self i a,i<=n->I i a->(i<n->∀a',I (i+1) a' -> ∃r,self a' = some r/\J3 r)->∃r,body self a=some r/\J3 r):∃r,R6 N body a=some r/\J3 r:=
 Av4 I n J3 b N 0 a (BG6 _) d c
def Ev {A B R:Type}{body:(A->B->Option R)->A->B->Option R}(I:Nat->A->B->Prop)(n:Nat)(J3:R->Prop){N:Nat}(g:n<N){a:A}{b:B}(j:I 0 a b)
 (d:∀c i a b,i<=n->I i a b->(i<n->∀a' b',I (i+1) a' b' -> ∃r,c a' b' = some r/\J3 r)->∃r,body c a b=some r/\J3 r):∃r,Co N body a b=some r/\J3 r:=
 Av4 (λi x=>I i x.1 x.2) n J3 (λc i x l m h=>d (λa b=>c (a,b)) i x.1 x.2 l m λhl a' b' f=>h hl (a',b') f) N 0 (a,b) (BG6 _) j g
def Bu1 {A B C R:Type}{body:(A->B->C->Option R)->A->B->C->Option R}(I:Nat->A->B->C->Prop)(n:Nat)(J3:R->Prop){N:Nat}(j:n<N){a:A}{b:B}{c:C}(l:I 0 a b c)
 (f:∀d i a b c,i<=n->I i a b c->(i<n->∀a' b' c',I (i+1) a' b' c' -> ∃r,d a' b' c' = some r/\J3 r)->∃r,body d a b c=some r/\J3 r):∃r,AZ3 N body a b c=some r/\J3 r:=
 Av4 (λi x=>I i x.1 x.2.1 x.2.2) n J3 (λd i x m o h=>f (λa b c=>d (a,b,c)) i x.1 x.2.1 x.2.2 m o λhl a' b' c' g=>h hl (a',b',c') g) N 0 (a,b,c) (BG6 _) l j
def loop4 {A B C D R:Type}{body:(A->B->C->D->Option R)->A->B->C->D->Option R}(I:Nat->A->B->C->D->Prop)(n:Nat)(J3:R->Prop){N:Nat}(l:n<N){a:A}{b:B}{c:C}{d:D}(m:I 0 a b c d)
 (g:∀f i a b c d,i<=n->I i a b c d->(i<n->∀a' b' c' d',I (i+1) a' b' c' d' -> ∃r,f a' b' c' d' = some r/\J3 r)->∃r,body f a b c d=some r/\J3 r):∃r,fix4 N body a b c d=some r/\J3 r:=
 Av4 (λi x=>I i x.1 x.2.1 x.2.2.1 x.2.2.2) n J3 (λf i x o q h=>g (λa b c d=>f (a,b,c,d)) i x.1 x.2.1 x.2.2.1 x.2.2.2 o q λhl a' b' c' d' j=>h hl (a',b',c',d') j) N 0 (a,b,c,d) (BG6 _) m l
def E8 {X R:Type}{Q:R->Prop}{o:Option X}{f:X->Option R}{x:X}(h:o=some x)(a:∃r,f x=some r/\Q r):∃r,o.bind f=some r/\Q r:=by subst h;exact a
def ltX {R A:Type}{Q:R->Prop}{k:A->Option R}{f:(A->Option R)->Option R}(h:∃r,f k=some r/\Q r):∃r,lt k f=some r/\Q r:=h
def ifT {R:Type}{Q:R->Prop}{p:Prop}[Decidable p]{a b:Option R}(h:p)(c:∃r,a=some r/\Q r):∃r,(if p then a else b)=some r/\Q r:=by rw[Gy h];exact c
def Al{R:Type}{Q:R->Prop}{p:Prop}[Decidable p]{a b:Option R}(h2:∃ r,a=some r/\Q r)(h:p:=by decide):∃ r,(if p then a else b)=some r/\Q r:=ifT h h2
def Ak{R:Type}{Q:R->Prop}{p:Prop}[Decidable p]{a b:Option R}(h2:∃ r,a=some r/\Q r)(h:p:=by simp):∃ r,(if p then a else b)=some r/\Q r:=ifT h h2
def Ad{R:Type}{Q:R->Prop}{p:Prop}[Decidable p]{a b:Option R}(h2:∃ r,a=some r/\Q r)(h:p:=by simp;omega):∃ r,(if p then a else b)=some r/\Q r:=ifT h h2
def Ac{R:Type}{Q:R->Prop}{p:Prop}[Decidable p]{a b:Option R}(h2:∃ r,a=some r/\Q r)(h:p:=by omega):∃ r,(if p then a else b)=some r/\Q r:=ifT h h2
def ifF {R:Type}{Q:R->Prop}{p:Prop}[Decidable p]{a b:Option R}(h:¬p)(c:∃r,b=some r/\Q r):∃r,(if p then a else b)=some r/\Q r:=by rw[Hj h];exact c
def Bu{R:Type}{Q:R->Prop}{p:Prop}[Decidable p]{a b:Option R}(h2:∃ r,b=some r/\Q r)(h:¬p:=by decide):∃ r,(if p then a else b)=some r/\Q r:=ifF h h2
def Bd{R:Type}{Q:R->Prop}{p:Prop}[Decidable p]{a b:Option R}(h2:∃ r,b=some r/\Q r)(h:¬p:=by simp):∃ r,(if p then a else b)=some r/\Q r:=ifF h h2
def Bc{R:Type}{Q:R->Prop}{p:Prop}[Decidable p]{a b:Option R}(h2:∃ r,b=some r/\Q r)(h:¬p:=by simp;omega):∃ r,(if p then a else b)=some r/\Q r:=ifF h h2
def Bb{R:Type}{Q:R->Prop}{p:Prop}[Decidable p]{a b:Option R}(h2:∃ r,b=some r/\Q r)(h:¬p:=by omega):∃ r,(if p then a else b)=some r/\Q r:=ifF h h2
def W9 {n:Int}(h : -9223372036854775808<=n)(h' : n<=9223372036854775807):IntKind.i64.wrap n=n:=by
 by_cases a:0<=n
 .have h1:n % (2 ^ 64:Int)=n:=BI9 a (by omega);unfold wrap;simp only[IntKind.bits,IntKind.signed,h1];rw[Hj];simp;omega
 have h1:n % (2 ^ 64:Int)=n+2 ^ 64:=by rw[<- Int.add_emod_right];exact BI9 (by omega) (by omega)
 unfold wrap;simp only[IntKind.bits,IntKind.signed,h1];rw[Gy]
 .omega
 simp;omega
def Qv {n:Int}(h : -9223372036854775808<=n:=by omega)(k : n<=9223372036854775807:=by omega) :IntKind.i64.wrap n=n:=W9 h k
def F7 {i:Nat}(h:i<1000000000000000000):IntKind.i64.wrap ((i:Int)+1)=((i+1:Nat):Int):=by rw[Qv];rfl
def Bv{i:Nat}(h:i<1000000000000000000:=by omega):IntKind.i64.wrap ((i:Int)+1)=((i+1:Nat):Int):=F7 h
def Bu2 {i:Nat}(a:1<=i)(h:i<1000000000000000000):IntKind.i64.wrap ((i:Int)-1)=((i-1:Nat):Int):=by rw[Qv];omega
def Bu3 {i j:Nat}(h:i+j<1000000000000000000):IntKind.i64.wrap ((i:Int)+(j:Int))=((i+j:Nat):Int):=by rw[Qv];rfl
def okP:Nat->Pat->Prop
 |0,_=>False
 |d+1,p=>p.L.n<=40/\(p.Kind=5->p.L.n=1/\0<=p.Min/\p.Min<=32/\(p.Max = -1 \/ (p.Min<=p.Max/\p.Max<=32)))/\∀i,i<p.L.n->okP d (p.L.g i)
abbrev sOf (x y:BitVec 32):Qj:=⟨(x.toNat:Int),(y.toNat:Int)⟩
def okS (s:Qj):Prop:=∃p m:BitVec 32,s=sOf p m
def eq0 (x:BitVec 32):((x.toNat:Int)==0)=decide (x=0#32):=by
 rw[BD4];simp only[beq_iff_eq,Lf];constructor
 .intro h;apply BK1;show x.toNat=0;omega
 rintro rfl;rfl
def z32 (x:BitVec 32):x=0#32 ↔ ∀i,i<32->x.getLsbD i=false:=by
 constructor
 .rintro rfl i a;simp
 intro h;apply BH6;intro i a;rw[h i a];simp
def AH3 (x:BitVec 32)(i:Nat):(G6 .and .u32 (shI .shr .u32 (x.toNat:Int) (i:Int)) 1==1)=x.getLsbD i:=by
 rw[AZ2,show (1:Int)=((1#32).toNat:Int) from rfl,Ha];have h:(x >>> i &&& 1#32)=(BitVec.ofBool (x.getLsbD i)).setWidth 32:=by
  apply BH6;intro j b;simp only[BJ9,BitVec.getLsbD_ushiftRight,BitVec.getLsbD_setWidth,BitVec.getLsbD_ofBool];by_cases a:j=0
  .subst a;simp
  have:(1#32).getLsbD j=false:=by rw[BitVec.getLsbD_one];simp[a]
  simp[this,a]
 rw[h];cases x.getLsbD i<;>rfl
def Ro (x:BitVec 32):x.toNat<16777216 ↔ ∀i,24<=i->i<32->x.getLsbD i=false:=by
 constructor
 .intro h i a b;exact BP2 (BB0 h (BG1 (n:=2) (i:=24) (by omega) a))
 intro h;refine Nat.lt_pow_two_of_testBit (n:=24) _ λi a=>?_;by_cases c:i<32
 .exact h i a c
 exact BP2 (BB0 x.isLt (BG1 (by omega) (by omega)))
def vB (p m:BitVec 32):Bool:=decide (∀i:Fin 32,¬(p.getLsbD i=true/\m.getLsbD i=true)/\(24<=i.1->p.getLsbD i=false/\m.getLsbD i=false))
def Am6 (p m:BitVec 32):vB p m=true ↔ ∀i,i<32->¬(p.getLsbD i=true/\m.getLsbD i=true)/\(24<=i->p.getLsbD i=false/\m.getLsbD i=false):=by rw[vB,Lf];exact⟨λh i a=>h ⟨i,a⟩,λh i=>h i.1 i.2⟩
def Am7 (p m:BitVec 32):p &&& m=0#32 ↔ ∀i,i<32->¬(p.getLsbD i=true/\m.getLsbD i=true):=by rw[z32];refine forall_congr' λi=>forall_congr' λa=>?_;rw[BJ9,BM4];cases p.getLsbD i<;>cases m.getLsbD i<;>simp
def Bu4 (p m:BitVec 32):vB p m=true↔p &&& m=0#32/\(p ||| m).toNat<16777216:=by
 rw[Am6,Am7,Ro];constructor
 .intro h;refine⟨λi a=>(h i a).1,λi h1 b=>?_⟩
  have:=(h i b).2 h1
  rw[BH8,this.1,this.2];rfl
 rintro⟨h1,b⟩ i a;refine⟨h1 i a,λc=>?_⟩
 have:=b i c a
 rw[BH8,BM8]at this;exact this
def Bu5 (p m:BitVec 32):vB p m=true↔p &&& m=0#32/\p.toNat<16777216/\m.toNat<16777216:=by rw[Am6,Am7,Ro,Ro];exact⟨λh=>⟨λi a=>(h i a).1,λi h1 b=>((h i b).2 h1).1,λi h1 b=>((h i b).2 h1).2⟩,fun⟨h1,b,d⟩ i a=>⟨h1 i a,λc=>⟨b i c a,d i c a⟩⟩⟩
def MJ (p m:BitVec 32):G2 N (sOf p m)=some (vB p m):=by unfold G2;rw[Ha,PL,eq0];congr 1;rw[BD4,Bu4];simp only[By5,Lf];exact⟨λh=>⟨h.1,by have:=h.2;omega⟩,λh=>⟨h.1,by have:=h.2;omega⟩⟩
def shr24 (x:BitVec 32):(shI .shr .u32 (x.toNat:Int) 24==0)=decide (x.toNat<16777216):=by
 rw[show (24:Int)=((24:Nat):Int) from rfl,AZ2,BD4];simp only[beq_iff_eq,Lf,BN9,BN4]
 have:=Nat.div_eq_zero_iff (a:=x.toNat) (b:=2 ^ 24)
 omega
def YI (p m:BitVec 32):Ce N (sOf p m)=some (vB p m):=by unfold Ce;rw[Ha,PL,eq0,shr24];congr 1;rw[BD4,Bu4];simp only[By5,Lf]
def AH4 (p m:BitVec 32):R9 N (sOf p m)=some (vB p m):=YI (N:=N) p m
def Ub (p m:BitVec 32):V5 N (sOf p m)=some (vB p m):=by unfold V5;rw[Ha,eq0];congr 1;rw[BD4,Bu5];simp only[By5,Lf];exact⟨λh=>⟨h.1.1,by have:=h.1.2;omega,by have:=h.2;omega⟩,λh=>⟨⟨h.1,by have:=h.2.1;omega⟩,by have:=h.2.2;omega⟩⟩
def Nw (p m:BitVec 32)(n:1000<=N):N5 N (sOf p m)=some (vB p m):=by
 suffices h:∃r,N5 N (sOf p m)=some r/\r=vB p m by obtain⟨r,h,rfl⟩:=h;exact h
 unfold N5;refine BH (λi x1=>x1=(i:Int)/\∀j,j<i->¬(p.getLsbD j=true/\m.getLsbD j=true)/\(24<=j->p.getLsbD j=false/\m.getLsbD j=false)) 32 _ (by omega) ⟨rfl,λj d=>Ij d (by omega)⟩ ?_;rintro g i x1 o ⟨rfl,h1⟩ hs;by_cases hl:i<32
 .refine Ad (Ac ?_);simp only[AH3];have e24:decide ((24:Int)<=(i:Int))=decide (24<=i):=decide_eq_decide.2 (by omega);rw[e24];by_cases hb:¬(p.getLsbD i=true/\m.getLsbD i=true)/\(24<=i->p.getLsbD i=false/\m.getLsbD i=false)
  .refine ifF ?_ (hs hl _ ⟨Bv,λj d=>?_⟩)
   .intro h;obtain⟨l,f⟩:=hb;revert h l f;by_cases c:24<=i
    .intro h l f;obtain⟨a,b⟩:=f c;simp[a,b]at h
    cases p.getLsbD i<;>cases m.getLsbD i<;>simp[c]
   by_cases e:j=i
   .subst e;exact hb
   exact h1 j (by omega)
  refine ifT ?_ ⟨false,rfl,?_⟩
  .revert hb;by_cases c:24<=i
   .cases p.getLsbD i<;>cases m.getLsbD i<;>simp[c]
   cases p.getLsbD i<;>cases m.getLsbD i<;>simp[c]
  symm;rw[<- BF8,Am6];exact λh=>hb (h i hl)
 refine Bc ⟨true,rfl,?_⟩;symm;rw[Am6];exact λj d=>h1 j (by omega)
def vS (s:Qj):Prop:=∃p m:BitVec 32,s=sOf p m/\vB p m=true
def ST (p:Pat):Prop:= (0<=p.Kind/\p.Kind<=6)/\(p.Kind≠1->(p.Is.Plus=0/\p.Is.Minus=0)/\p.Not=false)/\(p.Kind≠3->p.Kind≠4->p.Kind≠5->p.L.n=0)/\(p.Kind≠5->p.Min=0/\p.Max=0) /\ (p.Kind=5->p.L.n=1/\0<=p.Min/\p.Min<=32/\(p.Max = -1 \/ (p.Min<=p.Max/\p.Max<=32)))/\vS p.Is
def Av5 {s:Qj}{p m:BitVec 32}(h:s=sOf p m):vS s↔vB p m=true:=by
 constructor
 .rintro⟨q,r,e,a⟩;rw[h]at e;have e1:(p.toNat:Int)=q.toNat:=congrArg Qj.Plus e;have e2:(m.toNat:Int)=r.toNat:=congrArg Qj.Minus e;rw[BK1 (show p.toNat=q.toNat by omega),BK1 (show m.toNat=r.toNat by omega)];exact a
 exact λa=>⟨p,m,h,a⟩
def okPS:Pat->Prop
 |.nil=>True
 |.mk _ is _ _ _ n g=>okS is/\∀i,i<n->okPS (g i)
def okPS.is {p:Pat}(h:okPS p):okS p.Is:=by
 cases p with
 |nil=>exact⟨0#32,0#32,rfl⟩
 |mk _ is _ _ _ n g=>exact h.1
def okPS.L {p:Pat}(h:okPS p){i:Nat}(a:i<p.L.n):okPS (p.L.g i):=by
 cases p with
 |nil=>exact Ij a (by show ¬i<0;omega)
 |mk _ is _ _ _ n g=>exact h.2 i a
def chk:Nat->List Pat->Prop
 |0,l=>l=[]
 |_+1,[]=>True
 |k+1,p::l=>ST p/\chk k (p.L.toList++l)
def AH5:∀k,chk k []
 |0=>rfl
 |_+1=>trivial
def Wh:∀(k:Nat) (l:List Pat),chk k l->l.length<=k
 |0,l,h=>by rw[show l=[] from h];exact Bz5 _
 |k+1,[],_=>BG6 _
 |k+1,p::l,⟨_,h⟩=>by
  have:=Wh k _ h
  rw[Bz6]at this;simp only[BA2];omega
def Am8:∀(d:Nat) (p:Pat),okP d p->okP (d+1) p
 |0,_,h=>h.elim
 |d+1,p,⟨h1,h2,h3⟩=>⟨h1,h2,λi a=>Am8 d _ (h3 i a)⟩
def Av6 {α : Type}{s:Sl α}{i:Nat}(h:i<s.n):s.g i∈s.toList:=BE0.2 ⟨i,BC0.2 h,rfl⟩
def GO {α : Type}(s:Sl α):s.toList.length=s.n:=by simp[Sl.toList]
def AH6:∀(k:Nat) (l:List Pat),k<=40->chk k l->∀p∈l,okP k p
 |0,l,_,h,p,hp=>by rw[show l=[] from h]at hp;cases hp
 |k+1,[],_,_,p,hp=>by cases hp
 |k+1,q::l,hk,⟨hn,h⟩,p,hp=>by
  have ih:=AH6 k _ (by omega) h;rcases BC1.1 hp with rfl|hp
  .have hl:=Wh k _ h;rw[Bz6,GO]at hl;exact⟨by omega,λa=>hn.2.2.2.2.1 a,λi b=>ih _ (BB9 _ (Av6 b))⟩
  exact Am8 k p (ih p (BA9 _ hp))
def AV6 {p:Pat}(hp:okS p.Is):∃e,GH N p=some e/\(e=0↔ST p):=by
 obtain⟨a,b,f⟩:=hp;have i:=Av5 f;unfold GH ST;by_cases h1:0<=p.Kind/\p.Kind<=6
 case neg=>exact Ad ⟨2,rfl,by simp;omega⟩
 refine Bc ?_;have e0:((p.Is.Plus==0)&&(p.Is.Minus==0))=decide (p.Is.Plus=0/\p.Is.Minus=0):=by rw[BD4];simp
 rw[e0];by_cases c:p.Kind≠1->(p.Is.Plus=0/\p.Is.Minus=0)/\p.Not=false
 case neg=>
  refine ifT ?_ ⟨2,rfl,by simp[c]⟩;simp only[By5,BA4,bne_iff_ne,ne_eq,BF8,decide_eq_false_iff_not];rw[Classical.not_imp]at c;refine⟨c.1,?_⟩;by_cases h:p.Is.Plus=0/\p.Is.Minus=0
  .right
   cases hn:p.Not
   .exact Ij ⟨h,hn⟩ c.2
   rfl
  exact .inl h
 refine ifF ?_ (ltX ?_)
 .simp only[By5,BA4,bne_iff_ne,ne_eq,BF8,decide_eq_false_iff_not];rintro⟨g1,g2⟩;obtain⟨g3,g4⟩:=c g1;rcases g2 with g2|g2
  .exact g2 g3
  rw[g4]at g2;cases g2
 have rest:(p.Kind≠3->p.Kind≠4->p.Kind≠5->p.L.n=0)->∃e,(if ((p.Kind != 5)&&((p.Min != 0)||(p.Max != 0))) then some (2:Int)else
  lt (λ(z2:Bool)=>if z2 then some 2 else (V5 N p.Is).bind λy1=>if (!y1) then some 14 else some 0) λk2=>
   if (p.Kind==5) then if (((p.L.n:Nat):Int) != 1) then k2 true else if (decide (p.Min<0)) then k2 true else if (decide (32<p.Min)) then k2 true else
    if (p.Max != (-1)) then if (decide (p.Max<p.Min)) then k2 true else k2 (decide (32<p.Max))else k2 false else k2 false)=some e /\
  (e=0↔(0<=p.Kind/\p.Kind<=6)/\(p.Kind≠1->(p.Is.Plus=0/\p.Is.Minus=0)/\p.Not=false)/\(p.Kind≠3->p.Kind≠4->p.Kind≠5->p.L.n=0)/\(p.Kind≠5->p.Min=0/\p.Max=0) /\
   (p.Kind=5->p.L.n=1/\0<=p.Min/\p.Min<=32/\(p.Max = -1 \/ (p.Min<=p.Max/\p.Max<=32)))/\vS p.Is):=by
  intro j;by_cases d:p.Kind≠5->p.Min=0/\p.Max=0
  case neg=>refine ifT ?_ ⟨2,rfl,by simp[d]⟩;rw[Classical.not_imp]at d;simp only[By5,BA4,bne_iff_ne,ne_eq];omega
  refine ifF ?_ (ltX ?_)
  .simp only[By5,BA4,bne_iff_ne,ne_eq];rintro⟨g1,g2⟩
   have:=d g1
   omega
  have last:(p.Kind=5->p.L.n=1/\0<=p.Min/\p.Min<=32/\(p.Max = -1 \/ (p.Min<=p.Max/\p.Max<=32)))->∃e,(if false then some (2:Int)else (V5 N p.Is).bind λy1=>if (!y1) then some 14 else some 0)=some e /\
   (e=0↔(0<=p.Kind/\p.Kind<=6)/\(p.Kind≠1->(p.Is.Plus=0/\p.Is.Minus=0)/\p.Not=false)/\(p.Kind≠3->p.Kind≠4->p.Kind≠5->p.L.n=0)/\(p.Kind≠5->p.Min=0/\p.Max=0) /\
    (p.Kind=5->p.L.n=1/\0<=p.Min/\p.Min<=32/\(p.Max = -1 \/ (p.Min<=p.Max/\p.Max<=32)))/\vS p.Is):=by
   intro g;refine Bd ?_;rw[i,f,Ub];refine E8 rfl ?_;cases l:vB a b
   .exact ifT rfl ⟨14,rfl,by simp⟩
   exact Bd ⟨0,rfl,by rw[<- f];exact⟨λ_=>⟨h1,c,j,d,g,rfl⟩,λ_=>rfl⟩⟩
  have bad:¬(p.Kind=5->p.L.n=1/\0<=p.Min/\p.Min<=32/\(p.Max = -1 \/ (p.Min<=p.Max/\p.Max<=32)))->∃e,(if true then some (2:Int)else (V5 N p.Is).bind λy1=>if (!y1) then some 14 else some 0)=some e /\
   (e=0↔(0<=p.Kind/\p.Kind<=6)/\(p.Kind≠1->(p.Is.Plus=0/\p.Is.Minus=0)/\p.Not=false)/\(p.Kind≠3->p.Kind≠4->p.Kind≠5->p.L.n=0)/\(p.Kind≠5->p.Min=0/\p.Max=0) /\
    (p.Kind=5->p.L.n=1/\0<=p.Min/\p.Min<=32/\(p.Max = -1 \/ (p.Min<=p.Max/\p.Max<=32)))/\vS p.Is):=λg=>ifT rfl ⟨2,rfl,⟨λh=>Ij h (by decide),λh=>Ij h.2.2.2.2.1 g⟩⟩
  by_cases k5:p.Kind=5
  .refine ifT (by simp[k5]) ?_;by_cases g1:p.L.n=1
   case neg=>exact Ad (bad λh=>g1 (h k5).1)
   refine Bc ?_;by_cases g2:p.Min<0
   .exact ifT (by simpa using g2) (bad λh=>by have:=h k5;omega)
   refine ifF (by simpa using g2) ?_;by_cases g3:32<p.Min
   .exact ifT (by simpa using g3) (bad λh=>by have:=h k5;omega)
   refine ifF (by simpa using g3) ?_;by_cases g4:p.Max = -1
   .exact ifF (by simp[g4]) (last λ_=>⟨g1,by omega,by omega,.inl g4⟩)
   refine ifT (by simp[g4]) ?_;by_cases g5:p.Max<p.Min
   .exact ifT (by simpa using g5) (bad λh=>by have:=h k5;omega)
   refine ifF (by simpa using g5) ?_;by_cases g6:32<p.Max
   .rw[decide_eq_true g6];exact bad λh=>by have:=h k5;omega
   rw[decide_eq_false g6];exact last λ_=>⟨g1,by omega,by omega,.inr ⟨by omega,by omega⟩⟩
  exact ifF (by simp[k5]) (last λh=>Ij h k5)
 by_cases k3:p.Kind=3
 .exact ifF (by simp[k3]) (Bd (rest λh=>Ij k3 h))
 refine ifT (by simp[k3]) ?_;by_cases k4:p.Kind=4
 .exact ifF (by simp[k4]) (Bd (rest λ_ h=>Ij k4 h))
 refine ifT (by simp[k4]) ?_;by_cases k5:p.Kind=5
 .exact ifF (by simp[k5]) (Bd (rest λ_ _ h=>Ij k5 h))
 refine ifT (by simp[k5]) ?_;by_cases hn:p.L.n=0
 .exact Bc (rest λ_ _ _=>hn)
 exact Ad ⟨2,rfl,⟨λh=>Ij h (by decide),λh=>Ij (h.2.2.1 k3 k4 k5) hn⟩⟩
def Ly {α : Type}(s:Sl α){i:Nat}(h:i<s.n):s.toList.drop i=s.g i::s.toList.drop (i+1):=by
 have hl:i<s.toList.length:=by rw[GO];exact h
 rw[BI5 hl];simp[Sl.toList]
def Jt {α : Type}(s:Sl α):s.toList.drop s.n=[]:=BG5 (by rw[GO];exact Bz5 _)
def AH7 {N:Nat}(o:1000<=N):∀(d:Nat),d<=40->∀(p:Pat),okPS p->∀M,N+d+1<=M->∃r,ED M p ((40-d:Nat):Int)=some r /\
 ∃k:Nat,r.1=(k:Int)/\40-d<=k/\k<=40/\(r.2=0->40-d<k/\∀l,chk d (p::l)↔chk (40-k) l)/\(r.2≠0->∀l,¬chk d (p::l))
 |d,hd,p,hp,0,hM=>by omega
 |0,hd,p,hp,M+1,hM=>by show ∃r,AC (ED M) M p _=some r/\_;unfold AC;exact Ak ⟨_,rfl,40,rfl,by omega,by omega,λh=>Ij h (by decide),λ_ l h=>by cases h⟩
 |d+1,hd,p,hp,M+1,hM=>by
  show ∃r,AC (ED M) M p _=some r/\_;unfold AC;refine Bc ?_;obtain⟨e,q,hn⟩:=AV6 (N:=M) hp.is;refine E8 q ?_;by_cases c:e=0
  case neg=>exact ifT (by simp[c]) ⟨_,rfl,40-(d+1),rfl,Bz5 _,by omega,λh=>Ij h c,λ_ l h=>c (hn.2 h.1)⟩
  refine ifF (by simp[c]) ?_;have a:=hn.1 c;rw[Bv];refine Ev (λi x1 x2=>x2=(i:Int)/\∃k:Nat,x1=(k:Int)/\40-(d+1)+1+i<=k/\k<=40/\i<=p.L.n/\∀l,chk (d+1) (p::l)↔chk (40-k) (p.L.toList.drop i++l)) 41 _ (by omega)
   ⟨rfl,40-(d+1)+1,rfl,by omega,by omega,by omega,λl=>by rw[show 40-(40-(d+1)+1)=d by omega];exact⟨λh=>h.2,λh=>⟨a,h⟩⟩⟩ ?_
  rintro j i x1 x2 t ⟨rfl,k,rfl,h1,s,u,f⟩ hs;by_cases hl:i<p.L.n
  .refine Ad (Ac ?_);obtain⟨r,m,k',r1,r2,r3,r4,r5⟩:=AH7 o (40-k) (by omega) (p.L.g i) (hp.L hl) M (by omega);rw[show ((40-(40-k):Nat):Int)=(k:Int) by omega]at m;refine E8 (by rw[By6];exact m) ?_;by_cases b:r.2=0
   .refine ifF (by simp[b]) (hs (by omega) _ _ ⟨Bv,k',r1,by have:=(r4 b).1;omega,r3,by omega,λl=>?_⟩);rw[f,Ly _ hl,BA0];exact (r4 b).2 _
   refine ifT (by simp[b]) ⟨_,rfl,k',r1,by omega,r3,λh=>Ij h b,λ_ l hc=>?_⟩;rw[f,Ly _ hl,BA0]at hc;exact r5 b _ hc
  obtain rfl:i=p.L.n:=by omega
  refine Bd ⟨_,rfl,k,rfl,by omega,s,λ_=>⟨by omega,λl=>?_⟩,λh=>Ij rfl h⟩;rw[f,Jt];rfl
def YJ (f:2000<=N){p:Pat}(hp:okPS p):∃e,CY N p=some e/\(e=0↔chk 40 [p]):=by
 obtain⟨r,b,k,h1,g,i,c,d⟩:=AH7 (N:=1500) (by omega) 40 (Bz5 _) p hp N (by omega);unfold CY;refine E8 b ⟨_,rfl,λh=>?_,λh=>?_⟩
 .exact ((c h).2 []).2 (AH5 _)
 by_cases a:r.2=0
 .exact a
 exact Ij h (d a [])
def Bu6 {T A R:Type}{body:(A->Option R)->T->A->Option R}{k:A->Option R}{J3:R->Prop}(J:List T->A->Prop)(c:∀a,J [] a->∃r,k a=some r/\J3 r)
 (b:∀t L a self,J (t::L) a->(∀a',J L a' -> ∃r,self a' = some r/\J3 r)->∃r,body self t a=some r/\J3 r):∀(L:List T) (a:A),J L a->∃r,Cp L body k a=some r/\J3 r
 |[],a,h=>c a h
 |t::L,a,h=>b t L a _ h λa' h'=>Bu6 J c b L a' h'
def Av7 {p:Pat}(hp:okS p.Is):∃e,By N p=some e/\(e=0↔ST p):=by
 obtain⟨a,b,i⟩:=hp;have m:=Av5 i;have V:R9 N p.Is=some (vB a b):=by rw[i];exact AH4 a b
 have e0:((p.Is.Plus==0)&&(p.Is.Minus==0))=decide (p.Is.Plus=0/\p.Is.Minus=0):=by rw[BD4];simp
 have fin:(ST p↔vS p.Is)->∃e,((R9 N p.Is).bind λy1=>if (!y1) then some (14:Int)else some 0)=some e/\(e=0↔ST p):=by
  intro c;rw[V];refine E8 rfl ?_;rw[c,m];cases vB a b
  .exact ifT rfl ⟨14,rfl,by simp⟩
  exact Bd ⟨0,rfl,by simp⟩
 have bad:∀{x:Int},x≠0->¬ST p->∃e,some x=some e/\(e=0↔ST p):=λhx h=>⟨_,rfl,λd=>Ij d hx,λd=>Ij d h⟩;unfold By;by_cases hk:p.Kind=0 \/ p.Kind=2 \/ p.Kind=6
 .refine ifT (by rcases hk with h|h|h<;>simp[h]) (ltX ?_);rw[e0];by_cases g1:p.Is.Plus=0/\p.Is.Minus=0
  case neg=>exact ifT (by simp[g1]) (ifT rfl (bad (by decide) λh=>g1 (h.2.1 (by omega)).1))
  refine ifF (by simp[g1]) ?_;by_cases g2:p.Not=true
  .exact ifT g2 (ifT rfl (bad (by decide) λh=>by have:=(h.2.1 (by omega)).2;rw[g2]at this;cases this))
  refine ifF g2 ?_;by_cases g3:p.Min=0
  case neg=>exact ifT (by simp[g3]) (ifT rfl (bad (by decide) λh=>g3 (h.2.2.2.1 (by omega)).1))
  refine ifF (by simp[g3]) ?_;by_cases g4:p.Max=0
  case neg=>exact ifT (by simp[g4]) (ifT rfl (bad (by decide) λh=>g4 (h.2.2.2.1 (by omega)).2))
  refine ifF (by simp[g4]) ?_;by_cases g5:p.L.n=0
  case neg=>exact Ad (bad (by decide) λh=>g5 (h.2.2.1 (by omega) (by omega) (by omega)))
  refine Bc (fin ?_);exact⟨λh=>h.2.2.2.2.2,λh=>⟨by omega,λ_=>⟨g1,by simpa using g2⟩,λ_ _ _=>g5,λ_=>⟨g3,g4⟩,λf=>by omega,h⟩⟩
 refine ifF (by simp only[not_or]at hk;simp[hk]) ?_;by_cases k1:p.Kind=1
 .refine ifT (by simp[k1]) (ltX ?_);refine Bd ?_;by_cases g3:p.Min=0
  case neg=>exact ifT (by simp[g3]) (ifT rfl (bad (by decide) λh=>g3 (h.2.2.2.1 (by omega)).1))
  refine ifF (by simp[g3]) ?_;by_cases g4:p.Max=0
  case neg=>exact ifT (by simp[g4]) (ifT rfl (bad (by decide) λh=>g4 (h.2.2.2.1 (by omega)).2))
  refine ifF (by simp[g4]) ?_;by_cases g5:p.L.n=0
  case neg=>exact Ad (bad (by decide) λh=>g5 (h.2.2.1 (by omega) (by omega) (by omega)))
  refine Bc (fin ?_);exact⟨λh=>h.2.2.2.2.2,λh=>⟨by omega,λh1=>Ij k1 h1,λ_ _ _=>g5,λ_=>⟨g3,g4⟩,λf=>by omega,h⟩⟩
 refine ifF (by simp[k1]) (ltX ?_);rw[e0];have tail:∀(x y:Int),(ST p↔(p.Is.Plus=0/\p.Is.Minus=0)/\p.Not=false/\x=0/\y=0/\vS p.Is)->∃e,(if (((((decide (p.Is.Plus=0/\p.Is.Minus=0) != true)||p.Not)||(x != 0))||(y != 0))||(decide (0<0))) then some (2:Int)else
  (R9 N p.Is).bind λy3=>if (!y3) then some 14 else some 0)=some e/\(e=0↔ST p):=by
  intro x y c;by_cases g:(p.Is.Plus=0/\p.Is.Minus=0)/\p.Not=false/\x=0/\y=0
  .obtain⟨g1,g2,g3,g4⟩:=g;exact ifF (by simp[g1,g2,g3,g4]) (fin (c.trans ⟨λh=>h.2.2.2.2,λh=>⟨g1,g2,g3,g4,h⟩⟩))
  refine ifT ?_ (bad (by decide) λh=>g ⟨(c.1 h).1,(c.1 h).2.1,(c.1 h).2.2.1,(c.1 h).2.2.2.1⟩);simp only[BA4,bne_iff_ne,ne_eq,Lf];by_cases g1:p.Is.Plus=0/\p.Is.Minus=0
  .by_cases g2:p.Not=true
   .simp[g2]
   by_cases g3:x=0
   .have:¬y=0:=λg4=>g ⟨g1,by simpa using g2,g3,g4⟩
    simp[this]
   simp[g3]
  simp[g1]
 by_cases k34:p.Kind=3 \/ p.Kind=4
 .refine ifT (by rcases k34 with h|h<;>simp[h]) (tail _ _ ?_);constructor
  .exact λh=>⟨(h.2.1 k1).1,(h.2.1 k1).2,(h.2.2.2.1 (by omega)).1,(h.2.2.2.1 (by omega)).2,h.2.2.2.2.2⟩
  rintro⟨h1,d,j,l,f⟩;exact⟨by omega,λ_=>⟨h1,d⟩,λh h'=>by omega,λ_=>⟨j,l⟩,λh=>by omega,f⟩
 refine ifF (by simp only[not_or]at k34;simp[k34]) ?_;by_cases k5:p.Kind=5
 .refine ifT (by simp[k5]) ?_;by_cases g:p.L.n=1/\0<=p.Min/\p.Min<=32/\(p.Max = -1 \/ (p.Min<=p.Max/\p.Max<=32))
  .refine ifF (by simp only[BA4,By5,bne_iff_ne,ne_eq,Lf];omega) (tail 0 0 ?_);constructor
   .exact λh=>⟨(h.2.1 k1).1,(h.2.1 k1).2,rfl,rfl,h.2.2.2.2.2⟩
   rintro⟨h1,d,j,l,f⟩;exact⟨by omega,λ_=>⟨h1,d⟩,λ_ _ h=>Ij k5 h,λh=>Ij k5 h,λ_=>g,f⟩
  exact ifT (by simp only[BA4,By5,bne_iff_ne,ne_eq,Lf];omega) (bad (by decide) λh=>g (h.2.2.2.2.1 k5))
 exact ifF (by simp[k5]) (bad (by decide) λh=>by have:=h.1;omega)
def AH8 {x:Sl Pat}{m:Nat}(h:x.n=m+1):x.toList.reverse=x.g m::(x.take m).toList.reverse:=by unfold Sl.toList;rw[h,BH9,BK3,BN1];rfl
def AV7 (z:Sl Pat)(q:Pat):((z.push Pat.nil).upd z.n q).toList.reverse=q::z.toList.reverse:=by
 rw[AH8 (m:=z.n) rfl];have e1:((z.push Pat.nil).upd z.n q).g z.n=q:=by simp
 have e2:(((z.push Pat.nil).upd z.n q).take z.n).toList=z.toList:=by
  unfold Sl.toList;refine BB8 λi a=>?_
  have:i<z.n:=BC0.1 a
  show (if i=z.n then q else if i<z.n then z.g i else Pat.nil)=z.g i;rw[Eb,Gy this]
 rw[e1,e2]
def Af2 (q:Sl Pat)(c:q.n<N)(hs:q.n<1000000):E4 N q=some ((List.range q.n).reverse.map λ(i:Nat)=>((i:Int),q.g i)):=by
 unfold E4;have h:∀(m:Nat),m<=q.n->∀F,m<F->R6 F (λ(a:Int->Option (List (Int×Pat))) (x1:Int)=>
  if (decide (0<=x1)) then
   if ((0:Int)<=x1/\x1<(q.n:Int))then
    JQ (x1,q.g x1.toNat) (
     a (wrap .i64 (x1-1))
     )
   else none
  else
   some []) ((m:Int)-1)=some ((List.range m).reverse.map λ(i:Nat)=>((i:Int),q.g i)):=by
  intro m
  induction m with
  |zero=>
   intro _ F b
   match F,b with
   |F+1,_=>rfl
  |succ m ih=>
   intro hm F b
   match F,b with
   |F+1,b=>rw[PM];rw[show ((m+1:Nat):Int)-1=(m:Int) by omega,Gy (by simp),Cq,Qv,ih (by omega) F (by omega),By6,BH9,BN1,BP3,BP7,BA3];rfl
 rw[Qv];exact h q.n (Bz5 _) N c
def Bj1 {k:Nat}(hk:k<=40){c:Sl Pat}{l:List Pat}:chk k ((c.take (min 41 c.n)).toList++l)↔chk k (c.toList++l):=by
 by_cases h:c.n<=41
 .rw[BO6 h]
 constructor
 .intro a
  have:=Wh _ _ a
  rw[Bz6,GO]at this
  have:(c.take (min 41 c.n)).n=41:=BI7 (by omega)
  omega
 intro a
 have:=Wh _ _ a
 rw[Bz6,GO]at this;omega
def Am9 (hN:2000<=N){p:Pat}(hp:okPS p):∃e,Aq N p=some e/\(e=0↔chk 40 [p]):=by
 unfold Aq;refine Ev (λi x3 x4=>x4=(i:Int)/\x3.n<=1+41*i/\(∀q∈x3.toList.reverse,okPS q)/\(chk 40 [p]↔chk (40-i) x3.toList.reverse)) 40 _ (by omega)
  ⟨rfl,by show 1<=_;omega,λq l=>by rw[show (Sl.of [p]:Sl Pat).toList.reverse=[p] from rfl]at l;rw[BH3.1 l];exact hp,BL1⟩ ?_
 rintro x i x3 x4 hi ⟨rfl,h1,c,f⟩ hs;rcases hn:x3.n with _|m
 .refine Bd ⟨0,rfl,λ_=>f.2 ?_,λ_=>rfl⟩
  have:x3.toList.reverse=[]:=by unfold Sl.toList;rw[hn];rfl
  rw[this];exact AH5 _
 rw[AH8 hn]at f c;refine ifT (decide_eq_true (by omega)) ?_;by_cases r:i=40
 .subst r;refine Ak ⟨12,rfl,λh=>Ij h (by decide),λh=>?_⟩
  have:(x3.g m::(x3.take m).toList.reverse)=[]:=f.1 h
  cases this
 refine Bc ?_;have hw:IntKind.i64.wrap (((m+1:Nat):Int)-1)=(m:Int):=by rw[Qv];omega
 simp only[hw,By6];refine Ac (Ac ?_);obtain⟨e,y,a⟩:=Av7 (N:=N) (c (x3.g m) (by simp)).is;refine E8 y ?_;rw[show 40-i=(39-i)+1 by omega]at f;by_cases o:e=0
 case neg=>exact ifT (by simp[o]) ⟨e,rfl,λh=>Ij h o,λh=>Ij (a.2 (f.1 h).1) o⟩
 refine ifF (by simp[o]) ?_;have hc:(if (41:Int)<((x3.g m).L.n:Int)then (41:Int)else ((x3.g m).L.n:Int))=((min 41 (x3.g m).L.n:Nat):Int):=by split<;>omega
 simp only[hc,By6];refine Ac (E8 rfl (E8 (Af2 _ (by show min 41 _<N;omega) (by show min 41 _<1000000;omega)) ?_));generalize s:(x3.g m).L.take (min 41 (x3.g m).L.n)=C;have a0:C.n<=41:=by rw[<- s];exact Nat.min_le_left _ _
 refine Bu6 (λL z=>∃j,j<=C.n/\L=((List.range j).reverse.map λ(i:Nat)=>((i:Int),C.g i))/\z.n=m+(C.n-j)/\z.toList.reverse=C.toList.drop j++(x3.take m).toList.reverse) ?_ ?_ _ _ ⟨C.n,Bz5 _,rfl,by show m=_;omega,by rw[Jt];rfl⟩
 .rintro z ⟨j,hj,hL,hz,b⟩;have u:j=0:=by
   cases j with
   |zero=>rfl
   |succ j=>simp[BH9]at hL
  subst u;rw[BN5]at b;refine hs (by omega) _ _ ⟨Bv,by omega,λq l=>?_,?_⟩
  .rw[b]at l;rcases List.mem_append.1 l with h|h
   .obtain⟨i',d,rfl⟩:=BE0.1 h;have d:=BC0.1 d;rw[<- s]at d⊢;exact (c (x3.g m) (by simp)).L (BB0 d (Nat.min_le_right _ _))
   exact c q (by simp[h])
  rw[b,f,show 40-(i+1)=39-i by omega,<- s,Bj1 (by omega)];exact⟨λh=>h.2,λh=>⟨a.1 o,h⟩⟩
 rintro t L z v ⟨j,hj,hL,hz,b⟩ w;cases j with
 |zero=>simp at hL
 |succ j=>rw[BH9,BN1,BP3,BP7,BA3]at hL;obtain⟨rfl,rfl⟩:=List.cons.inj hL;have e1:(z.n:Int).toNat=z.n:=By6 _;refine ifT ⟨⟨⟨by show (z.n+1)*64<=_;omega,by show z.n+1<=_;omega⟩,by show (0:Int)<=_/\(z.n:Int)<((z.n+1:Nat):Int);omega⟩,by show z.n<z.n+1;omega⟩ ?_;refine w _ ⟨j,by omega,rfl,by show z.n+1=_;omega,?_⟩;rw[AV7,b,Ly C (i:=j) (by omega),BA0]
def wOk (w:Sl Qj):Prop:=w.n<=32/\∀i,i<w.n->vS (w.g i)
def YK {w:Sl Qj}(m:w.n<N)(hs:w.n<1000000){f:Qj->Option Bool}{b:Nat->Bool}(o:∀i,i<w.n->f (w.g i)=some (b i)) :∃r,B8 N w f=some r/\(r=true ↔ ∃i,i<w.n/\b i=true):=by
 unfold B8 E9
 have:∃y,R6 N (λ(a:Int->Option Int) (x1:Int)=>
  if (decide (x1<(w.n:Int))) then
   if ((0:Int)<=x1/\x1<(w.n:Int))then
    (f (w.g x1.toNat)).bind λy3=>
    if y3 then
     some x1
    else
     a (wrap .i64 (x1+1))
   else none
  else
   some (-1)) 0=some y/\(0<=y ↔ ∃i,i<w.n/\b i=true):=by
  refine BH (λi x1=>x1=(i:Int)/\∀j,j<i->b j=false) w.n _ m ⟨rfl,λj c=>Ij c (by omega)⟩ ?_;rintro l i x1 q ⟨rfl,h⟩ d;by_cases hl:i<w.n
  .refine Ad (Ac (E8 (by rw[By6];exact o i hl) ?_));cases hb:b i
   .refine Bd (d hl _ ⟨Bv,λj c=>?_⟩);by_cases e:j=i
    .subst e;exact hb
    exact h j (by omega)
   exact ifT rfl ⟨i,rfl,λ_=>⟨i,hl,hb⟩,λ_=>by omega⟩
  refine Bc ⟨-1,rfl,λh=>Ij h (by decide),?_⟩;rintro⟨j,c,hb⟩;rw[h j (by omega)]at hb;cases hb
 obtain⟨y,e,hy⟩:=this;exact E8 e ⟨_,rfl,by rw[Lf];exact hy⟩
def Af3 {A R:Type}{body:(A->Option R)->A->Option R}(st:Nat->A)(p:Nat->Bool)(n:Nat)(Ah5:Option R)(bad:Nat->Option R)
 (hb:∀self i,i<=n->(∀j,j<i->p j=true)->body self (st i)=if i<n then (if p i then self (st (i+1))else bad i)else Ah5) :
 ∀(N i:Nat),i<=n->(∀j,j<i->p j=true)->n-i<N->R6 N body (st i)=match (List.range n).find? (λi=>!p i)with|some i=>bad i|none=>Ah5
 |0,_,_,_,h=>by omega
 |N+1,i,hi,hp,h=>by
  rw[PM,hb _ i hi hp];by_cases h1:i<n
  .rw[Gy h1];by_cases a:p i=true
   .rw[Gy a];exact Af3 st p n Ah5 bad hb N (i+1) h1 (λj b=>by
     by_cases e:j=i
     .subst e;exact a
     exact hp j (by omega)) (by omega)
   rw[Hj a]
   have:(List.range n).find? (λi=>!p i)=some i:=by rw[List.find?_range_eq_some];simp only[BA7,Bool.not_not];exact⟨by simpa using a,BC0.2 h1,λj b=>by simpa using hp j b⟩
   rw[this]
  rw[Hj h1]
  have:(List.range n).find? (λi=>!p i)=none:=by
   rw[BL8];intro j b
   have:=hp j (by have:=BC0.1 b;omega)
   simp[this]
  rw[this]
def AV8 {R:Type}(p:Nat->Bool)(n:Nat)(Ah5 bad:Option R):(match (List.range n).find? (λi=>!p i)with|some i=>bad|none=>Ah5)=if (List.range n).all p then Ah5 else bad:=by
 by_cases h:(List.range n).all p=true
 .rw[Gy h]
  have:(List.range n).find? (λi=>!p i)=none:=by
   rw[BL8];intro j a
   have:=Bz2.1 h j a
   simp[this]
  rw[this]
 rw[Hj h];cases e:(List.range n).find? (λi=>!p i)with
 |none=>rw[BL8]at e;exact Ij (Bz2.2 λj a=>by simpa using e j a) h
 |some i=>rfl
def Dp {A R:Type}{body:(A->Option R)->A->Option R}(st:Nat->A)(p:Nat->Bool)(n:Nat)(Ah5 bad:Option R){N:Nat}(a:n<N)
 (hb:∀self i,i<=n->(∀j,j<i->p j=true)->body self (st i)=if i<n then (if p i then self (st (i+1))else bad)else Ah5) :
 R6 N body (st 0)=if (List.range n).all p then Ah5 else bad:=by
 rw[Af3 st p n Ah5 (λ_=>bad) hb N 0 (by omega) (λj b=>by omega) (by omega),AV8]
def CA (c:Int):Bool:=decide (97<=c)&&decide (c<=122)||decide (48<=c)&&decide (c<=57)
def HE (s:Str):Bool:=decide (1<=s.length)&&decide (s.length<=16)&&decide (97<=D7 s 0)&&decide (D7 s 0<=122)&&(List.range s.length).all λi=>CA (D7 s i)
def AH9 (s:Str)(hs:s.length<N)(b:s.length<1000000000):DJ N s=some (HE s):=by
 unfold DJ;rw[Gy ⟨by simp only[decide_eq_false_iff_not];omega,by simp only[decide_eq_false_iff_not];omega⟩];by_cases hc:((((decide (((s.length:Nat):Int)<1))||(decide (16<((s.length:Nat):Int))))||(decide ((D7 s 0)<97)))||(decide (122<(D7 s 0))))=true
 .rw[Gy hc];simp only[BA4,Lf]at hc;simp only[HE,By4];symm;rw[<- BF8];simp only[By5,Lf];omega
 rw[Hj hc];simp only[BA4,Lf]at hc;refine (Dp (λi:Nat=>(i:Int)) (λi=>CA (D7 s i)) s.length (some true) (some false) hs λa i g _=>?_).trans ?_
 .simp only[Lf];by_cases h:i<s.length
  .rw[Cq,Cq,Gy h,Bv];simp only[Ch,By8];show (if (!CA (D7 s i)) then _ else _)=_;cases CA (D7 s i)<;>simp
  rw[Eb,Hj h]
 have h1:decide (1<=s.length)=true:=by simp;omega
 have c:decide (s.length<=16)=true:=by simp;omega
 have d:decide (97<=D7 s 0)=true:=by simp only[Lf];omega
 have f:decide (D7 s 0<=122)=true:=by simp only[Lf];omega
 simp only[HE,h1,c,d,f,BK5];cases (List.range s.length).all λi=>CA (D7 s i)<;>rfl
def OW (p:Int->Bool)(s:Str)(most:Int):Bool:=decide (1<=s.length)&&decide ((s.length:Int)<=most)&&(List.range s.length).all λi=>p (D7 s i)
def Rp (s:Str)(most:Int)(p:Int->Bool)(f:Int->Option Bool)(b:∀i,i<s.length->f (D7 s i)=some (p (D7 s i)))(hs:s.length<N)(c:s.length<1000000000):J2 N s most f=some (OW p s most):=by
 unfold J2;by_cases hc:((decide (((s.length:Nat):Int)<1))||(decide (most<((s.length:Nat):Int))))=true
 .rw[Gy hc];simp only[BA4,Lf]at hc;simp only[OW,By4];symm;rw[<- BF8];simp only[By5,Lf];omega
 rw[Hj hc];simp only[BA4,Lf]at hc;refine (Dp (λi:Nat=>(i:Int)) (λi=>p (D7 s i)) s.length (some true) (some false) hs λa i g _=>?_).trans ?_
 .simp only[Lf];by_cases h:i<s.length
  .rw[Cq,Cq,Gy h,Bv,b i h];simp only[By8];cases p (D7 s i)<;>simp
  rw[Eb,Hj h]
 have h1:decide (1<=s.length)=true:=by simp;omega
 have d:decide ((s.length:Int)<=most)=true:=by simp;omega
 simp only[OW,h1,d,BK5];cases (List.range s.length).all λi=>p (D7 s i)<;>rfl
def Af4 (s:Str)(most:Int)(p:Int->Bool)(f:Int->Option Bool)(b:∀c,f c=some (p c))(hs:s.length<N)(a:s.length<1000000000):J2 N s most f=some (OW p s most):=Rp s most p f (λi _=>b _) hs a
def Af5 (s:Str):Bool:=OW CA s 16&&decide (57<D7 s 0)
def AI0 (s:Str):Af5 s=HE s:=by
 rw[BD4];simp only[Af5,HE,OW,By5,Lf,Bz2,BC0];constructor
 .rintro⟨⟨⟨h1,d⟩,a⟩,b⟩;have c:=a 0 (by omega);have ez:((0:Nat):Int).toNat=(0:Int).toNat:=rfl;simp only[CA,BA4,By5,Lf]at c;exact⟨⟨⟨⟨h1,by omega⟩,by simp only[D7,ez]at b c⊢;omega⟩,by simp only[D7,ez]at b c⊢;omega⟩,a⟩
 rintro⟨⟨⟨⟨h1,d⟩,a⟩,b⟩,f⟩;exact⟨⟨⟨h1,by omega⟩,f⟩,by omega⟩
def AI1 (s:Sl Str):Bool:=(List.range s.n).all λi=>(List.range i).all λj=>!(s.g i==s.g j)
def Rq (s:Sl Str):Bool:=(List.range s.n).all λi=>HE (s.g i)
def Wi (s:Sl Str):Int:=if 24<s.n then 12 else if Rq s then (if AI1 s then 0 else 6)else 15
def Bj2 (s:Sl Str)(d:1100000<=N)(hs:∀i,i<s.n->(s.g i).length<1100000) :Jq N s=some (if Wi s=0 then some ⟨true,(Sl.of []:Sl Str).app s,Sl.nil⟩else none,Wi s):=by
 unfold Jq Wi;by_cases b:24<s.n
 .rw[Cr,Gy b];simp
 rw[Hj (by simp;omega),Hj b];refine (Dp (λi:Nat=>(i:Int)) (λi=>HE (s.g i)) s.n (if AI1 s then some (some ⟨true,(Sl.of []:Sl Str).app s,Sl.nil⟩,0)else some (none,6)) (some (none,15)) (by omega) λa i c _=>?_).trans ?_
 .simp only[Lf];by_cases h:i<s.n
  .rw[Cq,Cq,Gy h,Bv];rw[show (i:Int).toNat=i from rfl,AH9 _ (by have:=hs i h;omega) (by have:=hs i h;omega)];simp only[By8];cases HE (s.g i)<;>simp
  rw[Eb,Hj h];refine (Dp (λi:Nat=>(i:Int)) (λi=>(List.range i).all λj=>!(s.g i==s.g j)) s.n (some (some ⟨true,(Sl.of []:Sl Str).app s,Sl.nil⟩,0)) (some (none,6)) (by omega) λa i c _=>?_).trans ?_
  .skip
   by_cases h:i<s.n
   .rw[Cq,Gy h];refine (Dp (λj:Nat=>(j:Int)) (λj=>!(s.g i==s.g j)) i (a ((i+1:Nat):Int)) (some (none,6)) (by omega) λself' j f _=>?_).trans ?_
    .skip
     by_cases h' : j<i
     .rw[Cq,Cq,Gy h',Bv];simp only[By6];by_cases e:s.g i=s.g j<;>simp[e]
     rw[Eb,Hj h',Bv]
    rfl
   rw[Eb,Hj h,Gy (by simp[Sl.of];omega)]
  rfl
 show (if Rq s then _ else _)=_;cases Rq s<;>cases AI1 s<;>simp
def Uc {κ ν : Type}{eq : κ -> κ -> Bool}{k : κ}:∀{es:List (κ × ν)},(∀p,p∈es->eq k p.1=false)->K6 eq k es=none
 |[],_=>rfl
 |(a,v)::es,h=>by have h1:=h (a,v) (by simp);simp only[K6,h1,By9,Ld];exact Uc λp hp=>h p (BB4 _ hp)
def Ud {κ ν : Type}{eq : κ -> κ -> Bool}{k : κ}:∀{es:List (κ × ν)}{p : κ × ν},p∈es->eq k p.1=true->∃v,K6 eq k es=some v
 |(a,v)::es,p,hp,h=>by
  by_cases e:eq k a=true
  .exact⟨v,by simp[K6,e]⟩
  rcases BC1.1 hp with rfl|hp
  .exact Ij h e
  obtain⟨v',b⟩:=Ud hp h;exact⟨v',by simp[K6,e,b]⟩
def MK {κ ν : Type}{eq : κ -> κ -> Bool}{k : κ}{v : ν}:∀{es:List (κ × ν)},(∀p,p∈es->eq k p.1=false)->Fz eq k v es=es++[(k,v)]
 |[],_=>rfl
 |(a,x)::es,h=>by have h1:=h (a,x) (by simp);simp only[Fz,h1,By9,Ld,BA0,BD6,true_and];exact MK λp hp=>h p (BB4 _ hp)
def Av8 (s:Sl Str)(k:Nat):List (Str×Int):=(List.range k).map λi=>(s.g i,(i:Int))
def AI2 (s:Sl Str)(k:Nat):Av8 s (k+1)=Av8 s k++[(s.g k,(k:Int))]:=by simp[Av8,BH9]
def Bj3 (s:Sl Str)(r:1100000<=N)(hs:∀i,i<s.n->(s.g i).length<1100000) :Az N s=some (if Wi s=0 then some ⟨s,Av8 s s.n,Sl.nil,[],[]⟩else none,Wi s):=by
 unfold Az Wi;by_cases a:24<s.n
 .rw[Cr,Gy a];simp
 rw[Hj (by simp;omega),Hj a];refine (Dp (λi:Nat=>(i:Int)) (λi=>HE (s.g i)) s.n (if AI1 s then some (some ⟨s,Av8 s s.n,Sl.nil,[],[]⟩,0)else some (none,6)) (some (none,15)) (by omega) λb i m _=>?_).trans ?_
 .simp only[Lf];by_cases h:i<s.n
  .rw[Cq,Cq,Gy h,Bv];rw[show (i:Int).toNat=i from rfl,Af4 (s.g i) 16 CA (λ(u3:Int)=>S4 N u3) (λc=>rfl) (by have:=hs i h;omega) (by have:=hs i h;omega),<- AI0];simp only[By8,Af5];by_cases hc:OW CA (s.g i) 16=true
   .have hl:1<=(s.g i).length:=by have hc:=hc;simp only[OW,By5,Lf]at hc;omega
    rw[Gy (λ_=>⟨by omega,by omega⟩)];simp only[hc,BI4,Bool.false_or,BK5,Lf];by_cases l:D7 (s.g i) 0<=57
    .rw[Gy l,Eb]
    rw[Hj l,Cq]
   rw[BF8]at hc;simp[hc]
  rw[Eb,Hj h];unfold Co;refine (Dp (λi:Nat=>(Av8 s i,(i:Int))) (λi=>(List.range i).all λj=>!(s.g i==s.g j)) s.n (some (some ⟨s,Av8 s s.n,Sl.nil,[],[]⟩,0)) (some (none,6)) (by omega) λb i m _=>?_).trans ?_
  .dsimp only;by_cases h:i<s.n
   .rw[Cq,Cq,Gy h,Bv,show (i:Int).toNat=i from rfl];by_cases d:((List.range i).all λj=>!(s.g i==s.g j))=true
    .have hk:∀p,p∈Av8 s i->eqS (s.g i) p.1=false:=by
      intro p hp;simp only[Av8,BE0,BC0]at hp;obtain⟨j,f,rfl⟩:=hp
      have:=Bz2.1 d j (BC0.2 f)
      simpa using this
     rw[Uc hk,K7,MK hk,<- AI2,Gy d]
    obtain⟨v,o⟩:∃v,K6 eqS (s.g i) (Av8 s i)=some v:=by
     rw[BF8]at d;obtain⟨j,f,q⟩:=List.all_eq_false.1 d;refine Ud (p:=(s.g j,(j:Int))) ?_ ?_
     .simp only[Av8,BE0];exact⟨j,f,rfl⟩
     simpa using q
    rw[o,K8,Hj d]
   rw[Eb,Hj h]
   have:i=s.n:=by omega
   subst this;simp only[D3];rw[Cq];rfl
  rfl
 show (if Rq s then _ else _)=_;cases Rq s<;>cases AI1 s<;>simp
def Bm5 (p m:BitVec 32)(i:Nat):Bool:=(p.getLsbD i&&m.getLsbD i)||((p.getLsbD i||m.getLsbD i)&&decide (24<=i))
def KO (p m:BitVec 32):Bool:=(List.range 32).all λi=>!Bm5 p m i
def An0 (p m:BitVec 32)(b:1000<=N):N5 N (sOf p m)=some (KO p m):=by
 unfold N5;refine (Dp (λi:Nat=>(i:Int)) (λi=>!Bm5 p m i) 32 (some true) (some false) (by omega) λa i c _=>?_).trans ?_
 .dsimp only;by_cases h:i<32
  .rw[Cr,Cq,Gy h,Bv];simp only[AH3];have e:decide ((24:Int)<=(i:Int))=decide (24<=i):=decide_eq_decide.2 (by omega);rw[e];show (if Bm5 p m i then _ else _)=_;cases Bm5 p m i<;>simp
  rw[Hj (by simp;omega),Hj h]
 show (if KO p m then _ else _)=_;cases KO p m<;>rfl
def Ba7 (p m:BitVec 32)(f:Nat):Int:=if KO p m=true/\f<24 then (if p.getLsbD f then 1 else if m.getLsbD f then -1 else 0)else 0
def Bj4 (p m:BitVec 32)(f:Nat)(c:1000<=N):Jn N (sOf p m) (f:Int)=some (Ba7 p m f):=by
 unfold Jn;rw[An0 p m c];simp only[By8,lt,Eu,AH3,Ba7];rw[Gy (by omega:(0:Int)<=(f:Int)),Gy (by omega:(0:Int)<=(f:Int))];have e:(decide ((0:Int)<=(f:Int))&&decide ((f:Int)<24))=decide (f<24):=by rw[BD4];simp only[By5,Lf];omega
 rw[e];by_cases a:KO p m=true
 .by_cases b:f<24
  .cases h1:p.getLsbD f<;>cases d:m.getLsbD f<;>simp[a,b]
  simp[a,b]
 rw[BF8]at a;simp[a]
def Bj5 (n:Nat)(p m:BitVec 32):Bool:=KO p m&&(List.range (24-n)).all λi=>!(Ba7 p m (n+i) != 0)
def Af6 (v:D9)(p m:BitVec 32)(hn:v.F.n<=24)(b:1000<=N):W7 N v (sOf p m)=some (Bj5 v.F.n p m):=by
 unfold W7;rw[An0 p m b];simp only[By8,Bj5];by_cases a:KO p m=true
 .rw[Hj (by simp[a])];refine (Dp (λi:Nat=>((v.F.n+i:Nat):Int)) (λi=>!(Ba7 p m (v.F.n+i) != 0)) (24-v.F.n) (some true) (some false) (by omega) λc i d _=>?_).trans ?_
  .by_cases h:i<24-v.F.n
   .rw[Gy (by simp only[Lf];omega),Gy h,Bj4 p m _ b,Bv];simp only[By8];cases Ba7 p m (v.F.n+i) != 0<;>simp[BK4]
   rw[Hj (by simp only[Lf];omega),Hj h]
  rw[a,BK5];cases (List.range (24-v.F.n)).all λi=>!(Ba7 p m (v.F.n+i) != 0)<;>rfl
 rw[BF8]at a;simp[a]
def belG (n:Nat)(p m:BitVec 32):Bool:=decide (p &&& m=0#32)&&decide ((p ||| m) &&& ~~~(BitVec.ofNat 32 (2 ^ n-1))=0#32)
def Af7 {n:Nat}(hn:n<=24):wrap .u32 ((shI .shl .u32 1 ((n:Nat):Int))-1)=((BitVec.ofNat 32 (2 ^ n-1)).toNat:Int):=by
 have hp:2 ^ n<=2 ^ 24:=BG1 (by omega) hn;have a:0<2 ^ n:=Nat.pow_pos (by omega);rw[show (1:Int)=((1#32).toNat:Int) from rfl,Bp4,BP0,Nat.shiftLeft_eq];have e:(1#32).toNat*2 ^ n % 2 ^ 32=2 ^ n:=by show 1*2 ^ n % 2 ^ 32=2 ^ n;rw[Nat.one_mul];exact BG3 (by omega)
 rw[e,show ((2 ^ n:Nat):Int)-((1#32).toNat:Int)=((2 ^ n-1:Nat):Int) by show ((2 ^ n:Nat):Int)-1=_;omega,LW (by omega),BN3,BG3 (by omega)]
def Af8 (v:A5)(p m:BitVec 32)(hn:v.feats.n<=24):N4 N v (sOf p m)=some (belG v.feats.n p m):=by unfold N4;rw[Cq,Af7 hn,PL,JD,Ha,eq0,eq0];rfl
def Bu7 {n:Nat}(hn:n<=24)(p m:BitVec 32):belG n p m=Bj5 n p m:=by
 have b:∀i,i<32->(BitVec.ofNat 32 (2 ^ n-1)).getLsbD i=decide (i<n):=λi a=>by rw[BitVec.getLsbD_ofNat,Nat.testBit_two_pow_sub_one];simp[a]
 have z:∀x:BitVec 32,x=0#32 ↔ ∀i,i<32->x.getLsbD i=false:=λx=>by
  constructor
  .rintro rfl i a;simp
  intro h;apply BH6;intro i a;rw[h i a];simp
 rw[BD4];simp only[belG,Bj5,KO,Bm5,By5,Lf,z,Bz2,BC0,BJ9,BH8,BitVec.getLsbD_not];constructor
 .rintro⟨h1,g⟩;have d : ∀i,i<32->n<=i->p.getLsbD i=false/\m.getLsbD i=false:=λi a f=>by
   have:=g i a
   rw[b i a]at this;have e:decide (i<n)=false:=by simp;omega
   simp only[e,a,decide_true,Bool.not_false,BL7,BK5]at this;simpa using this
  refine⟨λi a=>?_,λi a=>?_⟩
  .have ha:=h1 i a;by_cases c:24<=i
   .have:=d i a (by omega)
    simp[this.1,this.2]
   simp[ha,c]
  have:=d (n+i) (by omega) (by omega)
  simp[Ba7,this.1,this.2]
 rintro⟨h1,g⟩;have j:KO p m=true:=by simpa only[KO,Bm5,Bz2,BC0]using h1
 refine⟨λi a=>?_,λi a=>?_⟩
 .have h:=h1 i a;rw[BA7]at h;cases hp:p.getLsbD i<;>cases hm:m.getLsbD i
  .rfl
  .rfl
  .rfl
  rw[hp,hm]at h;exact Ij h (by simp)
 rw[b i a];by_cases f:i<n
 .simp[f]
 by_cases c:i<24
 .have:=g (i-n) (by omega)
  rw[show n+(i-n)=i by omega]at this;simp only[Ba7,j,c,and_self,Lc]at this;cases hp:p.getLsbD i<;>cases hm:m.getLsbD i<;>simp_all
 have:=h1 i a
 cases hp:p.getLsbD i<;>cases hm:m.getLsbD i<;>simp_all<;>omega
abbrev fnd (n:Nat)(p:Nat->Bool):Option Nat:=(List.range n).find? p
def An1 {n:Nat}{p:Nat->Bool}(h:fnd n p=none){i:Nat}(a:i<n):p i=false:=by
 have:=BL8.1 h i (BC0.2 a)
 simpa using this
def Nx {κ : Type}(eq : κ -> κ -> Bool)(f:Nat -> κ)(z : κ):∀l:List Nat,K6 eq z (l.map λi=>(f i,(i:Int)))=(l.find? λi=>eq z (f i)).map λi=>((i:Nat):Int)
 |[]=>rfl
 |a::l=>by
  simp only[BA3,K6,List.find?_cons];cases h:eq z (f a)
  .simp only[By9,Ld];exact Nx eq f z l
  simp
def Bj6 (s:Sl F2)(k:Nat):List (Str×Int):=(List.range k).map λi=>((s.g i).Sp,(i:Int))
def Bj7 (s:Sl F2)(k:Nat):List (Qj×Int):=(List.range k).map λi=>((s.g i).S,(i:Int))
def Av9 (s:Sl F2)(z:Str)(k:Nat):K6 eqS z (Bj6 s k)=(fnd k λi=>z==(s.g i).Sp).map λi=>((i:Nat):Int):=Nx eqS _ z _
def Aw0 (s:Sl F2)(z:Qj)(k:Nat):K6 F3 z (Bj7 s k)=(fnd k λi=>F3 z (s.g i).S).map λi=>((i:Nat):Int):=Nx F3 _ z _
structure IOk (v:A5):Prop where
 number:v.number=Av8 v.feats v.feats.n
 symbols:v.symbols=Bj6 v.sounds v.sounds.n
 values:v.values=Bj7 v.sounds v.sounds.n
 feats:v.feats.n<=24
 sounds:v.sounds.n<=256
 sym:∀i,i<v.sounds.n->1<=(v.sounds.g i).Sp.length/\(v.sounds.g i).Sp.length<=4
def Bj8 (a b:Qj):F3 a b=decide (a=b):=by rw[BD4];cases a;cases b;simp only[F3,By5,beq_iff_eq,Lf,Qj.mk.injEq]
def Ba8:Str:=[64,63,33,38,42,36,37]
def Bu8 (c:Int):Bool:=(decide (65<=c)&&decide (c<=90))||decide (0<=Lib.indexByte Ba8 (UInt8.ofNat c.toNat))
def Ay5 (c:Int):Bool:=CA c||Bu8 c
def SU (z:Str):Bool:=OW Ay5 z 4
def Rr (s:Str)(i:Int):0<=D7 s i/\D7 s i<256:=by
 have:=UInt8.toNat_lt (s.getD i.toNat 0)
 constructor
 .exact BR1 _
 show (((s.getD i.toNat 0).toNat:Nat):Int)<256;have a:(s.getD i.toNat 0).toNat<256:=this;omega
def Bj9 (c:Int)(a:0<=c)(h1:c<256):L0 N c=some (Ay5 c):=by
 unfold L0;have hs:S4 N c=some (CA c):=rfl;have b:O3 N [64,63,33,38,42,36,37] c=some (Lib.indexByte Ba8 (UInt8.ofNat c.toNat)):=by unfold O3;rw[Gy ⟨a,h1⟩];rfl
 rw[hs,b];simp only[By8,lt,Ay5,Bu8];cases CA c
 .by_cases ha:65<=c
  .by_cases hb:c<=90
   .simp[ha,hb]
   simp[ha,hb]
  simp[ha]
 simp
def AI3 (n:Nat)(s:Sl F2)(z:Str)(p m:BitVec 32):Int:= if SU z then if Bj5 n p m then if (fnd s.n λi=>z==(s.g i).Sp||decide (sOf p m=(s.g i).S)).isSome then 6 else if s.n=256 then 4 else 0 else 14 else 15
def Bm6 (v:A5)(z:Str)(s:Qj):A5:=⟨v.feats,v.number,v.sounds.push ⟨z,s⟩,Bj6 (v.sounds.push ⟨z,s⟩) (v.sounds.n+1),Bj7 (v.sounds.push ⟨z,s⟩) (v.sounds.n+1)⟩
def AI4 (s:Sl F2)(x:F2):Bj6 (s.push x) (s.n+1)=Bj6 s s.n++[(x.Sp,(s.n:Int))]:=by
 simp only[Bj6,BH9,BK3,BA3,BE9];congr 1
 .apply BB8;intro i a
  have:=BC0.1 a
  simp[this]
 simp
def AI5 (s:Sl F2)(x:F2):Bj7 (s.push x) (s.n+1)=Bj7 s s.n++[(x.S,(s.n:Int))]:=by
 simp only[Bj7,BH9,BK3,BA3,BE9];congr 1
 .apply BB8;intro i a
  have:=BC0.1 a
  simp[this]
 simp
def Bu9 (n:Nat)(p q:Nat->Bool):(fnd n λi=>p i||q i).isSome=((fnd n p).isSome||(fnd n q).isSome):=by
 rw[BD4];simp only[fnd,BA4,List.find?_isSome];constructor
 .rintro⟨i,h1,a|a⟩
  .exact .inl ⟨i,h1,a⟩
  exact .inr ⟨i,h1,a⟩
 rintro (⟨i,h1,a⟩ | ⟨i,h1,a⟩)
 .exact⟨i,h1,.inl a⟩
 exact⟨i,h1,.inr a⟩
def AV9 {z:Str}(h:SU z=true):1<=z.length/\z.length<=4:=by simp only[SU,OW,By5,Lf]at h;omega
def Bk0 {v:A5}(h:IOk v)(z:Str)(p m:BitVec 32)(f:z.length<N)(d:z.length<1000000000) :O5 N v z (sOf p m)=some (AI3 v.feats.n v.sounds z p m,if AI3 v.feats.n v.sounds z p m=0 then Bm6 v z (sOf p m)else v):=by
 unfold O5;rw[Rp z 4 Ay5 (λu1=>L0 N u1) (λi c=>Bj9 _ (Rr z i).1 (Rr z i).2) f d,Af8 v p m h.feats,Bu7 h.feats,h.symbols,h.values,Av9,Aw0];simp only[J1,By8,Bj8];rw[Ee];unfold AI3;rw[Bu9];show (if (!SU z) then _ else _)=_;cases hs:SU z
 .simp
 cases hb:Bj5 v.feats.n p m
 .simp
 simp only[BI4,By9,Ld,Lc];cases e1:fnd v.sounds.n λi=>z==(v.sounds.g i).Sp with
 |some i=>cases e2:fnd v.sounds.n λi=>decide (sOf p m=(v.sounds.g i).S)<;>simp[Ih]
 |none=>
  cases e2:fnd v.sounds.n λi=>decide (sOf p m=(v.sounds.g i).S)with
  |some i=>simp[Ih]
  |none=>
   have hn:=h.sounds;simp only[BL5,K7,Option.isSome_none,Bool.or_false,By9,Ld];by_cases a:v.sounds.n=256
   .simp[a]
   rw[Hj (by simp;omega),Gy (by simp only[BA2,BE4];omega),Hj a];simp only[Lc,By4,Bz3,true_and,Bm6,AI4,AI5];congr 1
   .refine MK λq b=>?_;simp only[Bj6,BE0,BC0]at b;obtain⟨i,c,rfl⟩:=b;exact An1 e1 c
   refine MK λq b=>?_;simp only[Bj7,BE0,BC0]at b;obtain⟨i,c,rfl⟩:=b;rw[Bj8];exact An1 e2 c
def Bk1 {v:A5}(h:IOk v){z:Str}{p m:BitVec 32}(a:AI3 v.feats.n v.sounds z p m=0):IOk (Bm6 v z (sOf p m)):=by
 have hs:SU z=true:=by
  unfold AI3 at a;split at a
  .assumption
  cases a
 have hn:v.sounds.n<256:=by
  have:=h.sounds
  unfold AI3 at a;rw[Gy hs]at a;split at a
  .split at a
   .cases a
   split at a
   .cases a
   omega
  cases a
 refine⟨h.number,rfl,rfl,h.feats,hn,λi b=>?_⟩;show 1<=(if i<v.sounds.n then v.sounds.g i else ⟨z,_⟩).Sp.length/\_;show 1<=(if i<v.sounds.n then v.sounds.g i else ⟨z,_⟩).Sp.length/\(if i<v.sounds.n then v.sounds.g i else ⟨z,_⟩).Sp.length<=4;split
 .rename_i h';exact h.sym i h'
 exact AV9 hs
def Bx9 (s:Qj):Prop:=s=sOf (BitVec.ofInt 32 s.Plus) (BitVec.ofInt 32 s.Minus)
def Bv0 (n:Nat)(l:Sl F2)(z:Str)(s:Qj):Int:=AI3 n l z (BitVec.ofInt 32 s.Plus) (BitVec.ofInt 32 s.Minus)
def iAddS {v:A5}(h:IOk v)(z:Str){s:Qj}(hs:Bx9 s)(b:z.length<N)(a:z.length<1000000000) :O5 N v z s=some (Bv0 v.feats.n v.sounds z s,if Bv0 v.feats.n v.sounds z s=0 then Bm6 v z s else v):=by
 have:=Bk0 h z (BitVec.ofInt 32 s.Plus) (BitVec.ofInt 32 s.Minus) b a
 rw[<- hs]at this;exact this
def AW0 {v:A5}(h:IOk v){z:Str}{s:Qj}(hs:Bx9 s)(a:Bv0 v.feats.n v.sounds z s=0):IOk (Bm6 v z s):=by
 have:=Bk1 h a
 rw[<- hs]at this;exact this
def Bv1 (c:Int)(a:0<=c)(h1:c<256):Jo N c=some (Bu8 c):=by
 have h:∀k:Fin 256,Jo 0 ((k.val:Nat):Int)=some (Bu8 ((k.val:Nat):Int)):=by decide +kernel
 have:=h ⟨c.toNat,by omega⟩
 rw[show ((c.toNat:Nat):Int)=c by omega]at this;exact this
def Af9 (s:Str)(hs:s.length<N)(b:s.length<1000000000):BF N s=some (SU s):=by
 unfold BF;by_cases hc:((decide (((s.length:Nat):Int)<1))||(decide (4<((s.length:Nat):Int))))=true
 .rw[Gy hc];simp only[BA4,Lf]at hc;simp only[SU,OW,By4];symm;rw[<- BF8];simp only[By5,Lf];omega
 rw[Hj hc];simp only[BA4,Lf]at hc;refine (Dp (λi:Nat=>(i:Int)) (λi=>Ay5 (D7 s i)) s.length (some true) (some false) hs λa i d _=>?_).trans ?_
 .by_cases h:i<s.length
  .have hb:=Rr s i;have hl:Ch N (D7 s i)=some (CA (D7 s i)):=rfl;rw[Gy (by simp only[Lf];omega),Cq,Gy h,Bv,hl,Bv1 _ hb.1 hb.2];simp only[By8,lt];by_cases e:CA (D7 s i)=true
   .rw[Hj (by simp[e]),Gy (show Ay5 (D7 s i)=true by simp[Ay5,e])];simp
   rw[Gy (by simpa using e),Cq];by_cases e2:Bu8 (D7 s i)=true
   .rw[Hj (by simp[e2]),Gy (show Ay5 (D7 s i)=true by simp[Ay5,e2])]
   rw[Gy (by simpa using e2),Hj (show ¬Ay5 (D7 s i)=true by simp[Ay5,e,e2])]
  rw[Hj (by simp only[Lf];omega),Hj h]
 have h1:decide (1<=s.length)=true:=by simp;omega
 have c:decide ((s.length:Int)<=4)=true:=by simp;omega
 simp only[SU,OW,h1,c,BK5];cases (List.range s.length).all λi=>Ay5 (D7 s i)<;>rfl
def By0 (v:D9)(z:Str)(s:Qj):D9:=⟨v.Made,v.F,v.S.push ⟨z,s⟩⟩
def Bk2 (v:D9)(hm:v.Made=true)(d:v.F.n<=24)(hS:v.S.n<=256)(z:Str)(p m:BitVec 32)(f:z.length<N)(b:z.length<1000000000)(l:1000<=N) :Cz N v z (sOf p m)=some (AI3 v.F.n v.S z p m,if AI3 v.F.n v.S z p m=0 then By0 v z (sOf p m)else v):=by
 unfold Cz;rw[Af9 z f b,Af6 v p m d l];simp only[N2,hm,By8];rw[Ee];unfold AI3;cases hs:SU z
 .simp
 cases hb:Bj5 v.F.n p m
 .simp
 simp only[BI4,By9,Ld,Lc];refine (Af3 (λi:Nat=>(i:Int)) (λi=>!(z==(v.S.g i).Sp||decide (sOf p m=(v.S.g i).S))) v.S.n (some (if v.S.n=256 then 4 else 0,if v.S.n=256 then v else By0 v z (sOf p m))) (λ_=>some (6,v)) (λc i o _=>?_) N 0 (by omega) (λj q=>by omega) (by omega)).trans ?_
 .by_cases h:i<v.S.n
  .rw[Gy (by simp only[Lf];omega),Cq,Gy h,show (i:Int).toNat=i from rfl,Bv];have e0:((((v.S.g i).S.Plus==(sOf p m).Plus)&&((v.S.g i).S.Minus==(sOf p m).Minus)) != false)=decide (sOf p m=(v.S.g i).S):=by
    have:=Bj8 (sOf p m) (v.S.g i).S
    rw[<- this];simp only[F3,Bool.bne_false];rw[BD4];simp only[By5,beq_iff_eq];omega
   by_cases e:(v.S.g i).Sp=z
   .simp[e]
   rw[Hj (by simp[e]),Cq,e0];by_cases e1:sOf p m=(v.S.g i).S
   .rw[decide_eq_true e1];simp
   rw[decide_eq_false e1];simp[e,BC5 e]
  rw[Hj (by simp only[Lf];omega),Hj h];by_cases a:v.S.n=256
  .rw[Gy (by simp only[Lf];omega),Gy a,Gy a]
  rw[Hj (by simp only[Lf];omega),Hj a,Hj a,Gy (by simp only[BA2,BE4];omega)];simp[By0,hm]
 simp only[Bool.not_not];show (match fnd v.S.n λi=>z==(v.S.g i).Sp||decide (sOf p m=(v.S.g i).S)with|some i=>_|none=>_)=_;cases fnd v.S.n λi=>z==(v.S.g i).Sp||decide (sOf p m=(v.S.g i).S)with
 |some i=>simp
 |none=>
  by_cases a:v.S.n=256
  .simp[a]
  simp[a]
structure Rel3 (v:A5) (r:D9):Prop where
 ok:IOk v
 made:r.Made=true
 feats:r.F=v.feats
 sounds:r.S=v.sounds
def Bm7 (w:Sl Qj)(e:Int):Prop:=(32<w.n/\e=11) \/ (w.n<=32/\(∃i,i<w.n/\¬vS (w.g i))/\e=14) \/ (wOk w/\e=0)
def AI6 {w:Sl Qj}{e e' : Int}(h:Bm7 w e)(h' : Bm7 w e'):e=e':=by
 rcases h with⟨h1,a⟩ | ⟨h1,⟨i,b,c⟩,a⟩ | ⟨h1,a⟩<;>rcases h' with⟨g1,g2⟩ | ⟨g1,⟨j,d,gv⟩,g2⟩ | ⟨g1,g2⟩
 .omega
 .omega
 .have:=g1.1;omega
 .omega
 .omega
 .exact Ij (g1.2 i b) c
 .have:=h1.1;omega
 .exact Ij (h1.2 j d) gv
 omega
def AI7 {w:Sl Qj}{e:Int}(h:Bm7 w e):e=0↔wOk w:=by
 rcases h with⟨h1,a⟩ | ⟨h1,⟨i,b,c⟩,a⟩ | ⟨h1,a⟩
 .exact⟨λh=>by omega,λh=>by have:=h.1;omega⟩
 .exact⟨λh=>by omega,λh=>Ij (h.2 i b) c⟩
 exact⟨λ_=>h1,λ_=>a⟩
def YL (o:1000<=N){w:Sl Qj}(hw:∀i,i<w.n->okS (w.g i))(V:Qj->Option Bool)(f:∀p m:BitVec 32,V (sOf p m)=some (vB p m)) :∃e,(if (decide (32<(w.n:Int))) then
 some (11:Int)
 else
  R6 N (λa (x1:Int)=>
   if (decide (x1<(w.n:Int))) then
    if ((0:Int)<=x1/\x1<(w.n:Int))then
     (V (w.g x1.toNat)).bind λy3=>
     if (!y3) then
      some 14
     else
      a (wrap .i64 (x1+1))
    else none
   else
    some 0
   ) 0)=some e/\Bm7 w e:=by
 by_cases hn:32<w.n
 .exact Ad ⟨11,rfl,.inl ⟨hn,rfl⟩⟩
 refine Bc ?_;refine BH (λi x1=>x1=(i:Int)/\∀j,j<i->vS (w.g j)) w.n _ (by omega) ⟨rfl,λj b=>Ij b (by omega)⟩ ?_;rintro d i x1 q ⟨rfl,h⟩ hs;by_cases hl:i<w.n
 .obtain⟨p,m,c⟩:=hw i hl;refine Ad (Ac (E8 (by rw[By6,c];exact f p m) ?_));cases hb:vB p m
  .refine ifT rfl ⟨14,rfl,.inr (.inl ⟨by omega,⟨i,hl,λl=>?_⟩,rfl⟩)⟩
   have:=(Av5 c).1 l;rw[hb]at this;cases this
  refine Bd (hs hl _ ⟨Bv,λj b=>?_⟩);by_cases e:j=i
  .subst e;exact (Av5 c).2 hb
  exact h j (by omega)
 exact Bc ⟨0,rfl,.inr (.inr ⟨⟨by omega,λj b=>h j (by omega)⟩,rfl⟩)⟩
def YM (a:1000<=N){w:Sl Qj}(hw:∀i,i<w.n->okS (w.g i)):∃e,U2 N w=some e/\Bm7 w e:=
 YL a hw (Ce N) λp m=>YI p m
def Aw1 (a:1000<=N){w:Sl Qj}(hw:∀i,i<w.n->okS (w.g i)):∃e,Fm N w=some e/\Bm7 w e:=
 YL a hw (V5 N) λp m=>Ub p m
def okL (l:Law):Prop:=okPS l.Left/\okPS l.Right/\∀i,i<l.If.n->okS (l.If.g i)
def okO (x:Dv):Prop:=okS x.Set/\(∃c:BitVec 32,x.Clear=(c.toNat:Int))/\∃t:BitVec 32,x.Take=(t.toNat:Int)
def outP (l:Law):Prop:=l.Out.n<=6/\∀i,i<l.Out.n->okO (l.Out.g i)/\(l.Out.g i).From<l.If.n/\((l.Out.g i).Take≠0->0<=(l.Out.g i).Of/\(l.Out.g i).Of<l.If.n)
def ne0 (x:BitVec 32):((x.toNat:Int) != 0)=decide (x≠0#32):=by rw[bne,eq0];simp
def or0 (x y:BitVec 32):x ||| y=0#32↔x=0#32/\y=0#32:=by
 constructor
 .intro h;have h:=(z32 _).1 h;exact⟨(z32 _).2 λi a=>by have:=h i a;rw[BH8,BM8]at this;exact this.1,(z32 _).2 λi a=>by have:=h i a;rw[BH8,BM8]at this;exact this.2⟩
 rintro⟨rfl,rfl⟩;rfl
def Bv2 (x y z:BitVec 32):x &&& (y ||| z)=(x &&& y) ||| (x &&& z):=by apply BH6;intro i a;simp only[BJ9,BH8];cases x.getLsbD i<;>simp
def Ba9 (x y z:BitVec 32):(x ||| y) &&& z=(x &&& z) ||| (y &&& z):=by apply BH6;intro i a;simp only[BJ9,BH8];cases z.getLsbD i<;>simp
def An2 (j:1000<=N){x:Dv}(hx:okO x)(k:Int):∃b,Z1 N x k=some b/\GI N x k=some b:=by
 obtain⟨⟨a,b,d⟩,⟨c,hc⟩,t,ht⟩:=hx;have f:(16777215:Int)=((16777215#32).toNat:Int):=rfl;unfold Z1 GI;simp only[lt,d,hc,ht,MJ,Nw a b j,By8];rw[f];simp only[Ha,PL,JD,ne0];by_cases h1:x.From < -1
 .simp[h1]
 by_cases g:k<=x.From
 .simp[h1,g]
 by_cases i:vB a b=true
 case neg=>simp[h1,g,i]
 simp only[h1,g,i,decide_false,By9,Ld,BI4];rw[Ba9,Bv2 t];generalize ~~~16777215#32=M;by_cases g1:c &&& M=0#32
 case neg=>simp[g1,or0]
 by_cases g2:t &&& M=0#32
 case neg=>simp[g1,g2,or0]
 by_cases g3:c &&& (a ||| b)=0#32
 case neg=>simp[g1,g2,g3,or0]
 by_cases g4:t &&& (a ||| b)=0#32
 case neg=>simp[g1,g2,g3,g4,or0]
 by_cases g5:t &&& c=0#32
 case neg=>simp[g1,g2,g3,g4,g5,or0]
 simp[g1,g2,g3,g4,g5,or0];by_cases g6:t.toNat=0
 .simp only[g6,Lc];cases x.Of==0<;>simp
 simp only[g6,Ld];cases (decide (0<=x.Of)&&decide (x.Of<k))<;>simp
abbrev nameC:Str:=[97,98,99,100,101,102,103,104,105,106,107,108,109,110,111,112,113,114,115,116,117,118,119,120,121,122,65,66,67,68,69,70,71,72,73,74,75,76,77,78,79,80,81,82,83,84,85,86,87,88,89,90,48,49,50,51,52,53,54,55,56,57,45]
def AI8 {p:UInt8->Bool}:∀{l:Str},l.dropWhile p=[] ↔ ∀x∈l,p x=true
 |[]=>by simp
 |a::l=>by
  rw[List.dropWhile_cons];by_cases h:p a=true
  .rw[Gy h,AI8];simp[h]
  rw[Hj h];simp[h]
def Wj (l cs:Str):Lib.trimS l cs=[] ↔ ∀b∈l,cs.contains b=true:=by
 unfold Lib.trimS Lib.trimLeftS Lib.trimRightS;rw[AI8];constructor
 .intro h;have h:∀x∈l.reverse.dropWhile (cs.contains ·),cs.contains x=true:=λx hx=>h x (BL0.2 hx);have a:l.reverse.dropWhile (cs.contains ·)=[]:=by
   rcases e:l.reverse.dropWhile (cs.contains ·)with _|⟨y,r⟩
   .rfl
   have c:=h y (by rw[e];simp);have d:¬cs.contains y=true:=by
    have:=List.head_dropWhile_not (cs.contains ·) (l:=l.reverse) (by rw[e];simp)
    simp only[e,List.head_cons]at this;rw[this];exact Bool.false_ne_true
   exact Ij c d
  rw[AI8]at a;exact λb hb=>a b (BL0.2 hb)
 intro h x hx;have hx:=BL0.1 hx;exact h x (BL0.1 ((List.dropWhile_sublist _).mem hx))
abbrev SV (y:Int):Bool:=((((decide (97<=y))&&(decide (y<=122)))||((decide (65<=y))&&(decide (y<=90))))||((decide (48<=y))&&(decide (y<=57))))||(y==45)
def AI9:∀k:Fin 256,nameC.contains (UInt8.ofNat k.val)=SV ((k.val:Nat):Int):=by decide +kernel
def AJ0 (b:UInt8):nameC.contains b=SV ((b.toNat:Nat):Int):=by
 have:=AI9 ⟨b.toNat,b.toNat_lt⟩
 rw[show UInt8.ofNat b.toNat=b by simp]at this;exact this
def YN {s:Str}(n:s.length<N)(hs:s.length<1000000000):∃b,CQ N s=some b/\Z4 N s=some b:=by
 have o:∃b,Z4 N s=some b/\(b=true↔(∀c∈s,nameC.contains c=true)/\1<=s.length/\s.length<=24):=by
  unfold Z4;refine BH (λi x1=>x1=(i:Int)/\∀j (h:j<s.length),j<i->nameC.contains s[j]=true) s.length _ n ⟨rfl,λj _ a=>Ij a (by omega)⟩ ?_;rintro l i x1 v ⟨rfl,h⟩ f;by_cases hl:i<s.length
  .refine Ad (Ac ?_);have eb:D7 s (i:Int)=((s[i].toNat:Nat):Int):=by simp[D7,hl]
   by_cases hb:nameC.contains s[i]=true
   .refine ifF (by rw[eb];show ¬(!(SV ((s[i].toNat:Nat):Int)))=true;rw[<- AJ0,hb];simp) (f hl _ ⟨Bv,λj a q=>?_⟩);by_cases e:j=i
    .subst e;exact hb
    exact h j a (by omega)
   refine ifT ?_ ⟨false,rfl,by simp,λt=>Ij (t.1 s[i] (BJ7 hl)) hb⟩;rw[eb];show (!(SV ((s[i].toNat:Nat):Int)))=true;rw[<- AJ0];simpa using hb
  refine Bc ⟨_,rfl,?_⟩;simp only[By5,Lf];constructor
  .rintro⟨g1,g2⟩;refine⟨λc hc=>?_,by omega,by omega⟩;obtain⟨j,a,rfl⟩:=BE2 hc;exact h j a (by omega)
  rintro⟨_,g1,g2⟩;exact⟨by omega,by omega⟩
 obtain⟨b,e,hb⟩:=o;refine⟨b,?_,e⟩
 suffices h:∃r,CQ N s=some r/\(r=true↔(∀c∈s,nameC.contains c=true)/\1<=s.length/\s.length<=24) by obtain⟨r,u,g⟩:=h;rw[u,show r=b by rw[BD4,g,hb]]
 unfold CQ;refine ltX ?_;by_cases d:s=[]
 .exact ifF (by simp[d]) ⟨false,rfl,by simp[d]⟩
 refine ifT (by simp[d]) ?_;have m:0<s.length:=BQ7.2 d;by_cases h1:s.length<=24
 .refine Ad (E8 (x:=Lib.trimS s nameC) ?_ ⟨_,rfl,?_⟩)
  .unfold Z0;rw[Gy ⟨by omega,by decide,by decide⟩]
  rw[<- Wj];constructor
  .intro h;exact⟨by simpa using h,by omega,h1⟩
  rintro⟨h,_⟩;simp[h]
 exact Bc ⟨false,rfl,by simp;intro _ _;omega⟩
def YO {s:Sl Dv}(m:s.n<N)(hs:s.n<1000000){f:Dv->Option Bool}{b:Nat->Bool}(o:∀i,i<s.n->f (s.g i)=some (b i)) :∃r,D4 N s f=some r/\(r=true ↔ ∃i,i<s.n/\b i=true):=by
 unfold D4 F6
 have:∃y,R6 N (λ(a:Int->Option Int) (x1:Int)=>
  if (decide (x1<(s.n:Int))) then
   if ((0:Int)<=x1/\x1<(s.n:Int))then
    (f (s.g x1.toNat)).bind λy3=>
    if y3 then
     some x1
    else
     a (wrap .i64 (x1+1))
   else none
  else
   some (-1)) 0=some y/\(0<=y ↔ ∃i,i<s.n/\b i=true):=by
  refine BH (λi x1=>x1=(i:Int)/\∀j,j<i->b j=false) s.n _ m ⟨rfl,λj c=>Ij c (by omega)⟩ ?_;rintro l i x1 q ⟨rfl,h⟩ d;by_cases hl:i<s.n
  .refine Ad (Ac (E8 (by rw[By6];exact o i hl) ?_));cases hb:b i
   .refine Bd (d hl _ ⟨Bv,λj c=>?_⟩);by_cases e:j=i
    .subst e;exact hb
    exact h j (by omega)
   exact ifT rfl ⟨i,rfl,λ_=>⟨i,hl,hb⟩,λ_=>by omega⟩
  refine Bc ⟨-1,rfl,λh=>Ij h (by decide),?_⟩;rintro⟨j,c,hb⟩;rw[h j (by omega)]at hb;cases hb
 obtain⟨y,e,hy⟩:=this;exact E8 e ⟨_,rfl,by rw[Lf];exact hy⟩
def Ag0 (l:Law):Prop:=okL l/\l.Name.length<1100000/\l.If.n<1100000/\l.Out.n<1100000/\∀i,i<l.Out.n->okO (l.Out.g i)
def Aw2 {s:Qj}(hs:okS s):∃b,G2 N s=some b/\(b=true↔vS s):=by obtain⟨p,m,e⟩:=hs;exact⟨vB p m,by rw[e];exact MJ p m,(Av5 e).symm⟩
def Aw3 (a:1000<=N){s:Qj}(hs:okS s):∃b,N5 N s=some b/\(b=true↔vS s):=by obtain⟨p,m,e⟩:=hs;exact⟨vB p m,by rw[e];exact Nw p m a,(Av5 e).symm⟩
def AW1 {x:Dv}(hx:okO x){k:Int}(h:Z1 N x k=some true):x.From<k/\(x.Take≠0->0<=x.Of/\x.Of<k):=by
 obtain⟨⟨a,b,c⟩,_,_⟩:=hx;unfold Z1 at h;simp only[lt,c,MJ,By8]at h;by_cases h1:x.From < -1
 .simp[h1]at h
 by_cases d:k<=x.From
 .simp[h1,d]at h
 refine⟨by omega,λht=>?_⟩;simp only[h1,d,decide_false,By9,Ld]at h;by_cases f:(!vB a b)=true
 .rw[Gy f]at h;cases h
 rw[Hj f]at h;split at h
 .cases h
 rw[Hj (by simp[ht])]at h;simpa using h
def chkAll (N:Nat)(l:Law):Prop:=Z4 N l.Name=some true/\chk 40 [l.Left]/\chk 40 [l.Right]/\l.If.n<=4/\l.Out.n<=6/\l.If.n+l.Out.n≠0/\1<=l.Mode/\l.Mode<=3/\(∀i,i<l.If.n->vS (l.If.g i))/\∀i,i<l.Out.n->Z1 N (l.Out.g i) l.If.n=some true
def Bv3 (N:Nat)(l:Law)(e:Int):Prop:=(e=0/\chkAll N l) \/ (e=17/\¬chkAll N l)
def lawF (l:Law):Prop:=okL l/\chk 40 [l.Left]/\chk 40 [l.Right]/\l.If.n<=4/\outP l/\l.If.n+l.Out.n≠0/\1<=l.Mode/\l.Mode<=3
def chkAll.f {N:Nat}{l:Law}(hl:Ag0 l)(h:chkAll N l):lawF l:=by obtain⟨_,h1,b,c,d,g,j,m,o,n⟩:=h;exact⟨hl.1,h1,b,c,⟨d,λi a=>⟨hl.2.2.2.2 i a,AW1 (hl.2.2.2.2 i a) (n i a)⟩⟩,g,j,m⟩
def Aw4 (hN:3000000<=N){l:Law}(hl:Ag0 l):∃e,At N l=some e/\Bv3 N l e:=by
 have u:=hl.2.1;have v:=hl.2.2.1;have x:=hl.2.2.2.1;unfold At;obtain⟨b0,e0,e0'⟩:=YN (N:=N) (s:=l.Name) (by omega) (by omega);refine E8 e0 ?_;cases b0
 .exact ifT rfl ⟨17,rfl,.inr ⟨rfl,λh=>by have:=h.1;rw[e0']at this;cases this⟩⟩
 refine Bd ?_;obtain⟨y2,e2,o⟩:=Am9 (N:=N) (by omega) hl.1.1;refine E8 e2 ?_;by_cases c2:y2=0
 case neg=>exact ifT (by simpa using c2) ⟨17,rfl,.inr ⟨rfl,λh=>c2 (o.2 h.2.1)⟩⟩
 refine ifF (by simp[c2]) ?_;obtain⟨y3,e3,q⟩:=Am9 (N:=N) (by omega) hl.1.2.1;refine E8 e3 ?_;by_cases c3:y3=0
 case neg=>exact ifT (by simpa using c3) ⟨17,rfl,.inr ⟨rfl,λh=>c3 (q.2 h.2.2.1)⟩⟩
 refine ifF (by simp[c3]) ?_;by_cases c4:4<l.If.n
 .exact Ad ⟨17,rfl,.inr ⟨rfl,λh=>by have:=h.2.2.2.1;omega⟩⟩
 refine Bc ?_;by_cases c5:6<l.Out.n
 .exact Ad ⟨17,rfl,.inr ⟨rfl,λh=>by have:=h.2.2.2.2.1;omega⟩⟩
 refine Bc ?_;rw[Bu3 (by omega)];by_cases c6:l.If.n+l.Out.n=0
 .exact ifT (by rw[c6];rfl) ⟨17,rfl,.inr ⟨rfl,λh=>h.2.2.2.2.2.1 c6⟩⟩
 refine Bc ?_;by_cases c7:l.Mode<1 \/ 3<l.Mode
 .exact Ad ⟨17,rfl,.inr ⟨rfl,λh=>by have g1:=h.2.2.2.2.2.2.1;have g2:=h.2.2.2.2.2.2.2.1;omega⟩⟩
 refine Bc ?_;have y:∀i,∃b,i<l.If.n->AU N (l.If.g i)=some b/\(b=true ↔ ¬vS (l.If.g i)):=by
  intro i;by_cases a:i<l.If.n
  .obtain⟨b,eb,hb⟩:=Aw2 (N:=N) (hl.1.2.2 i a);refine⟨!b,λ_=>⟨by unfold AU;rw[eb];rfl,?_⟩⟩;rw[<- hb];simp
  exact⟨false,λh=>Ij h a⟩
 obtain⟨f,j⟩:=BO3 y;obtain⟨y4,e4,r⟩:=YK (N:=N) (w:=l.If) (by omega) (by omega) (f:=λu1=>AU N u1) (λi a=>(j i a).1);refine E8 e4 ?_;cases c:y4
 case true=>obtain⟨i,a,hb⟩:=r.1 c;exact ifT rfl ⟨17,rfl,.inr ⟨rfl,λh=>(j i a).2.1 hb (h.2.2.2.2.2.2.2.2.1 i a)⟩⟩
 refine Bd ?_;have z:∀i,∃b,i<l.Out.n->AT N (l.Out.g i) (l.If.n:Int)=some b/\(b=true ↔ ¬Z1 N (l.Out.g i) l.If.n=some true):=by
  intro i;by_cases a:i<l.Out.n
  .obtain⟨b,eb,_⟩:=An2 (N:=N) (by omega) (hl.2.2.2.2 i a) (l.If.n:Int);refine⟨!b,λ_=>⟨by unfold AT;rw[eb];rfl,?_⟩⟩;rw[eb];simp
  exact⟨false,λh=>Ij h a⟩
 obtain⟨g,m⟩:=BO3 z;obtain⟨y5,e5,t⟩:=YO (N:=N) (s:=l.Out) (by omega) (by omega) (f:=λu2=>AT N u2 (l.If.n:Int)) (λi a=>(m i a).1);refine E8 e5 ?_;cases d:y5
 case true=>obtain⟨i,a,hb⟩:=t.1 d;exact ifT rfl ⟨17,rfl,.inr ⟨rfl,λh=>(m i a).2.1 hb (h.2.2.2.2.2.2.2.2.2 i a)⟩⟩
 refine Bd ⟨0,rfl,.inl ⟨rfl,e0',o.1 c2,q.1 c3,by omega,by omega,c6,by omega,by omega,λi a=>?_,λi a=>?_⟩⟩
 .refine BA5 λhn=>?_
  have:=r.2 ⟨i,a,(j i a).2.2 hn⟩
  rw[c]at this;cases this
 refine BA5 λhn=>?_
 have:=t.2 ⟨i,a,(m i a).2.2 hn⟩
 rw[d]at this;cases this
def Aw5 (y:3000000<=N){l:Law}(hl:Ag0 l):∃e,CZ N l=some e/\Bv3 N l e:=by
 have u:=hl.2.1;have v:=hl.2.2.1;have w:=hl.2.2.2.1;unfold CZ;obtain⟨b0,e0,e0'⟩:=YN (N:=N) (s:=l.Name) (by omega) (by omega);refine E8 e0' (ltX ?_);cases b0
 .exact ifT rfl (ifT rfl ⟨17,rfl,.inr ⟨rfl,λh=>by have:=h.1;rw[e0']at this;cases this⟩⟩)
 refine Bd ?_;obtain⟨y2,e2,q⟩:=YJ (N:=N) (by omega) hl.1.1;refine E8 e2 ?_;by_cases c2:y2=0
 case neg=>exact ifT (by simpa using c2) (ifT rfl ⟨17,rfl,.inr ⟨rfl,λh=>c2 (q.2 h.2.1)⟩⟩)
 refine ifF (by simp[c2]) ?_;obtain⟨y3,e3,r⟩:=YJ (N:=N) (by omega) hl.1.2.1;refine E8 e3 ?_;by_cases c3:y3=0
 case neg=>exact ifT (by simpa using c3) ⟨17,rfl,.inr ⟨rfl,λh=>c3 (r.2 h.2.2.1)⟩⟩
 refine ifF (by simp[c3]) ?_;rw[Bu3 (by omega)];by_cases a:l.If.n<=4/\l.Out.n<=6/\l.If.n+l.Out.n≠0/\1<=l.Mode/\l.Mode<=3
 case neg=>refine ifT ?_ ⟨17,rfl,.inr ⟨rfl,λh=>a ⟨h.2.2.2.1,h.2.2.2.2.1,h.2.2.2.2.2.1,h.2.2.2.2.2.2.1,h.2.2.2.2.2.2.2.1⟩⟩⟩;simp only[BA4,Lf,beq_iff_eq];omega
 refine ifF (by simp only[BA4,Lf,beq_iff_eq];omega) ?_;obtain⟨c4,c5,c6,c7,c8⟩:=a;refine BH (λi x1=>x1=(i:Int)/\∀j,j<i->vS (l.If.g j)) l.If.n _ (by omega) ⟨rfl,λj c=>Ij c (by omega)⟩ ?_;rintro t i x1 z ⟨rfl,h⟩ hs;by_cases d:i<l.If.n
 .obtain⟨b,eb,hb⟩:=Aw3 (N:=N) (by omega) (hl.1.2.2 i d);refine Ad (Ac (E8 (by rw[By6];exact eb) ?_));cases b
  .exact ifT rfl ⟨17,rfl,.inr ⟨rfl,λh=>by have:=hb.2 (h.2.2.2.2.2.2.2.2.1 i d);cases this⟩⟩
  refine Bd (hs d _ ⟨Bv,λj c=>?_⟩);by_cases e:j=i
  .subst e;exact hb.1 rfl
  exact h j (by omega)
 refine Bc ?_;have x:∀j,j<l.If.n->vS (l.If.g j):=λj c=>h j (by omega);refine BH (λi x1=>x1=(i:Int)/\∀j,j<i->Z1 N (l.Out.g j) l.If.n=some true) l.Out.n _ (by omega) ⟨rfl,λj c=>Ij c (by omega)⟩ ?_;rintro m k x2 hk ⟨rfl,h'⟩ o;by_cases f:k<l.Out.n
 .obtain⟨b,eb,eb'⟩:=An2 (N:=N) (by omega) (hl.2.2.2.2 k f) (l.If.n:Int);refine Ad (Ac (E8 (by rw[By6];exact eb') ?_));cases b
  .exact ifT rfl ⟨17,rfl,.inr ⟨rfl,λh=>by have:=h.2.2.2.2.2.2.2.2.2 k f;rw[eb]at this;cases this⟩⟩
  refine Bd (o f _ ⟨Bv,λj c=>?_⟩);by_cases e:j=k
  .subst e;exact eb
  exact h' j (by omega)
 exact Bc ⟨0,rfl,.inl ⟨rfl,e0',q.1 c2,r.1 c3,c4,c5,c6,c7,c8,x,λj c=>h' j (by omega)⟩⟩
def AJ1 {l:Law}{e e' : Int}(h:Bv3 N l e)(h' : Bv3 N l e'):e=e':=by
 rcases h with⟨rfl,h⟩ | ⟨rfl,h⟩<;>rcases h' with⟨rfl,h'⟩ | ⟨rfl,h'⟩
 .rfl
 .exact Ij h h'
 .exact Ij h' h
 rfl
def YP (a:3000000<=N){l:Law}(hl:Ag0 l):∃e,At N l=some e/\CZ N l=some e/\Bv3 N l e:=by obtain⟨e,h,c⟩:=Aw4 a hl;obtain⟨e',h',c'⟩:=Aw5 a hl;obtain rfl:=AJ1 c c';exact⟨_,h,h',c⟩
def Bb0 (laws:Sl Law):Prop:=∀i,i<laws.n->Ag0 (laws.g i)
def An3 (N:Nat)(laws:Sl Law):Prop:=laws.n<=64/\∀i,i<laws.n->chkAll N (laws.g i)
abbrev okA (w:Sl Qj):Prop:=∀i,i<w.n->okS (w.g i)
def dep:Nat->Pat->Prop
 |0,_=>False
 |d+1,p=>p.L.n<=40/\∀i,i<p.L.n->dep d (p.L.g i)
def Bb1:∀(d:Nat) (p:Pat),dep d p->∀e,d<=e->dep e p
 |0,_,h,_,_=>h.elim
 |d+1,p,h,0,he=>by omega
 |d+1,p,h,e+1,he=>⟨h.1,λi a=>Bb1 d _ (h.2 i a) e (by omega)⟩
def YQ {N:Nat}(o:1000<=N):∀(d:Nat),d<=40->∀(p:Pat) (M:Nat),N+d+2<=M->∃r:Nat,BQ M p ((40-d:Nat):Int)=some (r:Int)/\40-d<r/\r<=41/\(r<=40->dep (d+1) p)
 |d,hd,p,0,hM=>by omega
 |d,hd,p,M+1,hM=>by
  have:∃x,BQ (M+1) p ((40-d:Nat):Int)=some x/\∃r:Nat,x=(r:Int)/\40-d<r/\r<=41/\(r<=40->dep (d+1) p):=by
   show ∃x,Cu (BQ M) M p _=some x/\_;unfold Cu;rw[Bv];refine Ev (λi x1 x2=>x2=(i:Int)/\∃k:Nat,x1=(k:Int)/\40-d+1+i<=k/\k<=41/\i<=p.L.n/\(k<=40->∀j,j<i->dep d (p.L.g j))) 41 _ (by omega) ⟨rfl,40-d+1,rfl,by omega,by omega,by omega,λ_ j b=>Ij b (by omega)⟩ ?_;rintro f i x1 x2 q ⟨rfl,k,rfl,h1,c,s,l⟩ hs;by_cases hc:i<p.L.n/\k<=40
   .refine ifT (by simp only[By5,Lf];omega) (Ac ?_);obtain⟨r,m,r1,r2,r3⟩:=YQ o (40-k) (by omega) (p.L.g i) M (by omega);rw[show ((40-(40-k):Nat):Int)=(k:Int) by omega]at m;refine E8 (by rw[By6];exact m) (hs (by omega) _ _ ⟨Bv,r,rfl,by omega,r2,by omega,λa j b=>?_⟩);by_cases e:j=i
    .subst e;exact Bb1 _ _ (r3 a) d (by omega)
    exact l hc.2 j (by omega)
   refine ifF (by simp only[By5,Lf];omega) ⟨_,rfl,k,rfl,by omega,c,λhk=>⟨by omega,λj b=>l hk j (by omega)⟩⟩
  obtain⟨x,h1,r,rfl,c⟩:=this;exact⟨r,h1,c⟩
def Wk (b:2000<=N)(p:Pat):∃r:Nat,CP N p=some (r:Int)/\(r<=40->dep 41 p):=by obtain⟨r,h1,_,_,a⟩:=YQ (N:=1000) (by omega) 40 (by omega) p N (by omega);exact⟨r,by unfold CP;rw[show BQ N p 0=some (r:Int) from h1];rfl,a⟩
def Fx (s:Str):Bool:=(decide (1<=s.length)&&decide (s.length<=24))&&s.all λc=>SV ((c.toNat:Nat):Int)
def YR {s:Str}(m:s.length<N)(hs:s.length<1000000000){let_:Int->Option Bool}(hl:∀y,let_ y=some (SV y)){fin:Bool}(n:fin=(decide (1<=s.length)&&decide (s.length<=24))) :R6 N (λ(a:Int->Option Bool) (x1:Int)=>
  if (decide (x1<(s.length:Int))) then
   if ((0:Int)<=x1/\x1<(s.length:Int))then
    (let_ (D7 s x1)).bind λy3=>
    if (!y3) then
     some false
    else
     a (wrap .i64 (x1+1))
   else none
  else
   some fin
 ) 0=some (Fx s):=by
 suffices h:∃b,R6 N (λ(a:Int->Option Bool) (x1:Int)=>
  if (decide (x1<(s.length:Int))) then
   if ((0:Int)<=x1/\x1<(s.length:Int))then
    (let_ (D7 s x1)).bind λy3=>
    if (!y3) then
     some false
    else
     a (wrap .i64 (x1+1))
   else none
  else
   some fin
  ) 0=some b/\b=Fx s by obtain⟨b,h,rfl⟩:=h;exact h
 refine BH (λi x1=>x1=(i:Int)/\∀j (h:j<s.length),j<i->SV ((s[j].toNat:Nat):Int)=true) s.length _ m ⟨rfl,λj _ f=>Ij f (by omega)⟩ ?_;rintro l i x1 q ⟨rfl,h⟩ g;by_cases d:i<s.length
 .have eb:D7 s (i:Int)=((s[i].toNat:Nat):Int):=by simp[D7,d]
  refine Ad (Ac (E8 (hl _) ?_));rw[eb];cases hb:SV ((s[i].toNat:Nat):Int)
  .refine ifT rfl ⟨false,rfl,?_⟩;symm;unfold Fx;rw[BM4]
   right
   rw[List.all_eq_false];exact⟨s[i],BJ7 d,by rw[hb];simp⟩
  refine Bd (g d _ ⟨Bv,λj f o=>?_⟩);by_cases e:j=i
  .subst e;exact hb
  exact h j f (by omega)
 refine Bc ⟨_,rfl,?_⟩;unfold Fx;rw[n]
 have:(s.all λc=>SV ((c.toNat:Nat):Int))=true:=Bz2.2 λc hc=>by obtain⟨j,f,rfl⟩:=BE2 hc;exact h j f (by omega)
 rw[this,BL7]
def AJ2 {s:Str}(a:s.length<N)(hs:s.length<1000000000):DE N s=some (Fx s):=by unfold DE;exact YR a hs (λy=>rfl) (by rw[BD4];simp;omega)
def Wl {s:Str}(a:s.length<N)(hs:s.length<1000000000):CR N s=some (Fx s):=by unfold CR;exact YR a hs (λy=>rfl) (by rw[BD4];simp;omega)
def Bk3 (t:Sl Node)(v:Nat):Prop:=(v=0->(t.g 0).Sk = -1)/\(0<v->0<=(t.g v).Sk/\(t.g v).Sk<v)/\Fx (t.g v).Name=true/\∀u,u<v->(t.g u).Name≠(t.g v).Name
def DK (t:Sl Node):Prop:=1<=t.n/\t.n<=63/\∀v,v<t.n->Bk3 t v
def Aw6 (t:Sl Node)(e:Int):Prop:=(e=0/\DK t) \/ (e=16/\¬DK t)
def Aw7 {t:Sl Node}{e e' : Int}(h:Aw6 t e)(h' : Aw6 t e'):e=e':=by
 rcases h with⟨rfl,h⟩ | ⟨rfl,h⟩<;>rcases h' with⟨rfl,h'⟩ | ⟨rfl,h'⟩
 .rfl
 .exact Ij h h'
 .exact Ij h' h
 rfl
def Ny (t:Sl Node):Prop:=∀v,v<t.n->(t.g v).Name.length<1100000
def AJ3 (y:3000000<=N){t:Sl Node}(ht:Ny t):∃e,BR N t=some e/\Aw6 t e:=by
 unfold BR;by_cases z:t.n<1
 .exact ifT (λh=>Ij h (by simp;omega)) (Ad ⟨16,rfl,.inr ⟨rfl,λh=>by have:=h.1;omega⟩⟩)
 refine ifT (λ_ _=>by omega) ?_;by_cases h1:63<t.n
 .exact Ad ⟨16,rfl,.inr ⟨rfl,λh=>by have:=h.2.1;omega⟩⟩
 by_cases m:(t.g 0).Sk = -1
 case neg=>exact ifT (by simp[m]) ⟨16,rfl,.inr ⟨rfl,λh=>m ((h.2.2 0 (by omega)).1 rfl)⟩⟩
 refine ifF (by simp[m];omega) ?_;refine BH (λi x1=>x1=(i:Int)/\∀j,j<i->Bk3 t j) t.n _ (by omega) ⟨rfl,λj x=>Ij x (by omega)⟩ ?_;rintro f i x1 hi ⟨rfl,h⟩ hs;by_cases a:i<t.n
 case neg=>exact Bc ⟨0,rfl,.inl ⟨rfl,by omega,by omega,λv hv=>h v (by omega)⟩⟩
 refine Ad (ltX ?_);have b:=Wl (N:=N) (s:=(t.g i).Name) (by have:=ht i a;omega) (by have:=ht i a;omega);have rest:(0<i->0<=(t.g i).Sk/\(t.g i).Sk<i)->∃r,(if (!Fx (t.g i).Name) then some 16 else
  R6 N (λ(d:Int->Option Int) (x7:Int)=>
   if (decide (x7<(i:Int))) then
    if (((0:Int)<=x7/\x7<(t.n:Int))/\((0:Int)<=(i:Int)/\(i:Int)<(t.n:Int)))then
     if (((t.g x7.toNat).Name==(t.g (i:Int).toNat).Name) != false) then
      some 16
     else
      d (wrap .i64 (x7+1))
    else none
   else
    f (wrap .i64 ((i:Int)+1))
   ) 0)=some r/\Aw6 t r:=by
  intro hp;cases hb:Fx (t.g i).Name
  .exact ifT rfl ⟨16,rfl,.inr ⟨rfl,λh=>by have:=(h.2.2 i a).2.2.1;rw[hb]at this;cases this⟩⟩
  refine Bd ?_;refine BH (λk x7=>x7=(k:Int)/\∀u,u<k->(t.g u).Name≠(t.g i).Name) i _ (by omega) ⟨rfl,λu o=>Ij o (by omega)⟩ ?_;rintro q k x7 hk ⟨rfl,h'⟩ w;by_cases l:k<i
  .refine Ad (Ac ?_);rw[By6,By6];by_cases e:(t.g k).Name=(t.g i).Name
   .exact ifT (by simp[e]) ⟨16,rfl,.inr ⟨rfl,λh=>(h.2.2 i a).2.2.2 k l e⟩⟩
   refine ifF (by simp[e]) (w l _ ⟨Bv,λu o=>?_⟩);by_cases e2:u=k
   .subst e2;exact e
   exact h' u (by omega)
  refine Bc (hs a _ ⟨Bv,λj x=>?_⟩);by_cases e:j=i
  .subst e;exact⟨λe=>by subst e;exact m,hp,hb,λu o=>h' u (by omega)⟩
  exact h j (by omega)
 by_cases c:0<i
 .refine Ad (Ac ?_);rw[By6];by_cases g1:(t.g i).Sk<0
  .exact ifT (by simpa using g1) (ifT rfl ⟨16,rfl,.inr ⟨rfl,λh=>by have:=((h.2.2 i a).2.1 c).1;omega⟩⟩)
  refine ifF (by simpa using g1) (Ac ?_);by_cases g2:(i:Int)<=(t.g i).Sk
  .exact ifT (by simpa using g2) (ifT rfl ⟨16,rfl,.inr ⟨rfl,λh=>by have:=((h.2.2 i a).2.1 c).2;omega⟩⟩)
  exact ifF (by simpa using g2) (Ac (E8 b (rest λ_=>⟨by omega,by omega⟩)))
 exact Bc (Ac (E8 (by rw[By6];exact b) (rest λh=>Ij h c)))
def Nz {ν : Type}{k s:Str}{v : ν}:∀es:List (Str × ν),K6 eqS s (Fz eqS k v es)=if s=k then some v else K6 eqS s es
 |[]=>by simp only[Fz,K6];by_cases h:s=k<;>simp[eqS,h]
 |(a,x)::es=>by
  simp only[Fz];by_cases h:k=a
  .subst h;rw[Gy (by simp[eqS])];simp only[K6];by_cases b:s=k<;>simp[eqS,b]
  rw[Hj (by simp[eqS,h])];simp only[K6];rw[Nz es];by_cases b:s=k
  .subst b;simp[eqS,h]
  simp[b]
def An4 {ν : Type}{k:Str}{v : ν}:∀{es:List (Str × ν)},K6 eqS k es=none->(Fz eqS k v es).length=es.length+1
 |[],_=>rfl
 |(a,x)::es,h=>by
  simp only[K6]at h;simp only[Fz];by_cases e:eqS k a=true
  .rw[Gy e]at h;cases h
  rw[Hj e]at h;rw[Hj e,BA2,An4 h];rfl
def An5 {ν : Type}{k:Str}{v x : ν}:∀{es:List (Str × ν)},K6 eqS k es=some x->(Fz eqS k v es).length=es.length
 |[],h=>by cases h
 |(a,y)::es,h=>by
  simp only[K6]at h;simp only[Fz];by_cases e:eqS k a=true
  .rw[Gy e];rfl
  rw[Hj e]at h;rw[Hj e,BA2,An5 h];rfl
def AJ4 (m:3000000<=N){t:Sl Node}(ht:Ny t):∃e,U4 N t=some e/\Aw6 t e:=by
 unfold U4;by_cases o:t.n=0 \/ 63<t.n
 .exact Ad ⟨16,rfl,.inr ⟨rfl,λh=>by have g1:=h.1;have g2:=h.2.1;omega⟩⟩
 refine Bc ?_;refine Ev (λi (x2:List (Str×Bool)) x3=>x3=(i:Int)/\(∀j,j<i->Bk3 t j)/\∀s,(K6 eqS s x2=some true/\∃u,u<i/\(t.g u).Name=s) \/ (K6 eqS s x2=none/\∀u,u<i->(t.g u).Name≠s)) t.n _ (by omega) ⟨rfl,λj f=>Ij f (by omega),λs=>.inr ⟨rfl,λu c=>Ij c (by omega)⟩⟩ ?_;rintro l i x2 x3 q ⟨rfl,h,hm⟩ hs;by_cases a:i<t.n
 case neg=>exact Bc ⟨0,rfl,.inl ⟨rfl,by omega,by omega,λv r=>h v (by omega)⟩⟩
 refine Ad (Ac (ltX ?_));rw[By6];have b:=AJ2 (N:=N) (s:=(t.g i).Name) (by have:=ht i a;omega) (by have:=ht i a;omega);have e1:(if 0<wrap .i64 ((i:Int)-1)then (0:Int)else wrap .i64 ((i:Int)-1))=if i=0 then -1 else 0:=by rw[Qv];split<;>split<;>omega
 rw[e1];by_cases g1:(i:Int)<=(t.g i).Sk
 .refine ifT (by simpa using g1) (ifT rfl ⟨16,rfl,.inr ⟨rfl,λh=>?_⟩⟩);have hk:=h.2.2 i a;by_cases d:i=0
  .subst d;have:=hk.1 rfl;omega
  have:=(hk.2.1 (by omega)).2;omega
 refine ifF (by simpa using g1) ?_;by_cases g2:(t.g i).Sk<if i=0 then -1 else 0
 .refine ifT (by simpa using g2) (ifT rfl ⟨16,rfl,.inr ⟨rfl,λh=>?_⟩⟩);have hk:=h.2.2 i a;by_cases d:i=0
  .subst d;have:=hk.1 rfl;simp at g2;omega
  have:=(hk.2.1 (by omega)).1;simp[d]at g2;omega
 refine ifF (by simpa using g2) (E8 b ?_);cases hb:Fx (t.g i).Name
 .exact ifT rfl (ifT rfl ⟨16,rfl,.inr ⟨rfl,λh=>by have:=(h.2.2 i a).2.2.1;rw[hb]at this;cases this⟩⟩)
 refine Bd ?_;rcases hm (t.g i).Name with⟨e,u,c,hn⟩ | ⟨e,hn⟩
 .rw[e];exact⟨16,rfl,.inr ⟨rfl,λh=>(h.2.2 i a).2.2.2 u c hn⟩⟩
 rw[e,K7];refine ifF (show ¬false=true by simp) (hs a _ _ ⟨Bv,λj f=>?_,λs=>?_⟩)
 .by_cases e:j=i
  .subst e;refine⟨λe=>?_,λhp=>?_,hb,hn⟩
   .subst e;simp at g2;omega
   have:¬j=0:=by omega
   simp[this]at g2;omega
  exact h j (by omega)
 rw[Nz];by_cases e:s=(t.g i).Name
 .exact .inl ⟨by rw[Gy e],i,by omega,e.symm⟩
 rw[Hj e];rcases hm s with⟨g,u,c,hn⟩ | ⟨g,hn⟩
 .exact .inl ⟨g,u,by omega,hn⟩
 refine .inr ⟨g,λu c=>?_⟩;by_cases e2:u=i
 .subst e2;exact λh=>e h.symm
 exact hn u (by omega)
def Ph (a:3000000<=N){t:Sl Node}(ht:Ny t):∃e,U4 N t=some e/\BR N t=some e/\Aw6 t e:=by obtain⟨e,h1,b⟩:=AJ4 a ht;obtain⟨e',c,d⟩:=AJ3 a ht;obtain rfl:=Aw7 b d;exact⟨_,h1,c,b⟩
structure Fr (h:Si):Prop where
 laws:Bb0 h.Laws
 tree:Ny h.Tree
 on:h.On.n<1100000
 len:∀v,v<h.On.n->(h.On.g v).n<1100000
def HF (h:Si)(v:Nat):Sl Int:= if hp:0<=(h.Tree.g v).Sk/\(h.Tree.g v).Sk<v then (HF h (h.Tree.g v).Sk.toNat).app (h.On.g v)else Q5.app (h.On.g v)
termination_by v
decreasing_by omega
def JK {h:Si}{v:Nat}(a:(h.Tree.g v).Sk<0):HF h v=Q5.app (h.On.g v):=by rw[HF,dif_neg (by omega)]
def Pj {h:Si}{v p:Nat}(a:(h.Tree.g v).Sk=(p:Int))(hp:p<v):HF h v=(HF h p).app (h.On.g v):=by rw[HF,dif_pos (by omega),a,By6]
def GP {t:Sl Node}(ht:DK t){v:Nat}(a:v<t.n):(v=0/\(t.g v).Sk = -1) \/ ∃p:Nat,p<v/\(t.g v).Sk=(p:Int):=by
 have hk:=ht.2.2 v a;by_cases b:v=0
 .subst b;exact .inl ⟨rfl,hk.1 rfl⟩
 obtain⟨g1,g2⟩:=hk.2.1 (by omega);exact .inr ⟨(t.g v).Sk.toNat,by omega,by omega⟩
def Ag1 {h:Si}(a:Fr h)(ht:DK h.Tree)(hn:h.On.n=h.Tree.n):∀(m v:Nat),v<=m->v<h.Tree.n->(HF h v).n<=(v+1)*1100000
 |m,v,hm,hv=>by
  have hl:=a.len v (by omega);rcases GP ht hv with⟨_,e⟩ | ⟨p,hp,e⟩
  .rw[JK (by omega)];show 0+(h.On.g v).n<=_;omega
  rw[Pj e hp]
  match m with
  |0=>omega
  |m+1=>
   have:=Ag1 a ht hn m p (by omega) (by omega)
   show (HF h p).n+(h.On.g v).n<=_;have b:(p+1)*1100000+1100000<=(v+1)*1100000:=by omega
   omega
def YS {h:Si}(a:Fr h)(ht:DK h.Tree)(hn:h.On.n=h.Tree.n):∀(M v:Nat),v+2<=M->v<h.Tree.n->Da M h (v:Int)=some (HF h v)
 |0,v,hM,_=>by omega
 |M+1,v,hM,hv=>by
  have b:=ht.2.1;show AD (Da M) M h (v:Int)=_;unfold AD;rw[Ee,Cq,By6];have hl:=a.len v (by omega);rcases GP ht hv with⟨c,e⟩ | ⟨p,hp,e⟩
  .rw[e,JK (by omega)]
   have:Da M h (-1)=some Q5:=by obtain⟨K,rfl⟩:∃K,M=K+1:=⟨M-1,by omega⟩;show AD (Da K) K h (-1)=_;unfold AD;rw[Gy (by decide)]
   rw[this,By8,Gy ⟨by omega,by show (0+(h.On.g v).n)*8<=_/\0+(h.On.g v).n<=_;omega⟩]
  have hb:=Ag1 a ht hn p p (Bz5 _) (by omega);rw[e,YS a ht hn M p (by omega) (by omega),By8,Pj e hp,Gy ⟨by omega,by omega⟩]
def Ag2 (h:Si):Prop:=∃v,v<h.On.n/\64<(HF h v).n
def Bk4 (h:Si)(v:Nat):Prop:=∃k,k<(h.On.g v).n/\((h.On.g v).g k<0 \/ (h.Laws.n:Int)<=(h.On.g v).g k)
def AJ5 (h:Si)(e:Int):Prop:=(Ag2 h/\e=2) \/ (¬Ag2 h/\(∃v,v<h.On.n/\Bk4 h v)/\e=3) \/ (¬Ag2 h/\(∀v,v<h.On.n->¬Bk4 h v)/\e=0)
def AJ6 (hN:3000000<=N){h:Si}(hi:Fr h)(ht:DK h.Tree)(hn:h.On.n=h.Tree.n):∃e,Au N h=some e/\AJ5 h e:=by
 have h63:=ht.2.1;unfold Au;refine Ac ?_;refine Bu1 (λi (x4:Sl Int) (x5:Bool) x6=>x6=(i:Int)/\x4.n=h.On.n/\(∀v,v<i->x4.g v=((HF h v).n:Int)/\(HF h v).n<=64)/\(x5=true ↔ ∃v,v<i/\Bk4 h v)) h.On.n _ (by omega) ⟨rfl,by show ((h.On.n:Nat):Int).toNat=_;omega,λv b=>Ij b (by omega),⟨λg=>(by cases g),fun⟨v,b,_⟩=>Ij b (by omega)⟩⟩ ?_;rintro m i x4 x5 x6 hle ⟨rfl,hx,hp,hb⟩ hs;by_cases o:i<h.On.n
 case neg=>
  refine Bc ?_;have hl:¬Ag2 h:=fun⟨v,b,hl⟩=>by have:=(hp v (by omega)).2;omega
  cases x5
  .exact Bd ⟨0,rfl,.inr (.inr ⟨hl,λv b g=>(by have:=hb.2 ⟨v,by omega,g⟩;cases this),rfl⟩)⟩
  obtain⟨v,b,g⟩:=hb.1 rfl;exact ifT rfl ⟨3,rfl,.inr (.inl ⟨hl,⟨v,by omega,g⟩,rfl⟩)⟩
 refine Ad (ifT (by rw[By6];omega) (Ac (ltX ?_)));rw[By6];have hl:=hi.len i (by omega);have hlb:=Ag1 hi ht hn i i (Bz5 _) (by omega);have rest:∀z:Sl Int,z.n=h.On.n->(∀v,v<i->z.g v=x4.g v)->z.g i=((HF h i).n:Int)->∃r,(if (((0:Int)<=(i:Int)/\(i:Int)<(z.n:Int))/\i<z.n)then
  if (decide (64<(z.g i))) then
   some 2
  else
   Co N (λ(d:Bool->Int->Option Int) (c:Bool) (a:Int)=>
    if (decide (a<((h.On.g i).n:Int))) then
     if ((0:Int)<=a/\a<((h.On.g i).n:Int))then
      d ((c||(decide (((h.On.g i).g a.toNat)<0)))||(decide ((h.Laws.n:Int)<=((h.On.g i).g a.toNat)))) (wrap .i64 (a+1))
     else none
    else
     m z c (wrap .i64 ((i:Int)+1))
    ) x5 0
  else none)=some r/\AJ5 h r:=by
  intro z hz u q;refine Ac ?_;rw[q];by_cases w:64<(HF h i).n
  .exact Ad ⟨2,rfl,.inl ⟨⟨i,o,w⟩,rfl⟩⟩
  refine Bc ?_;refine Ev (λk (c:Bool) a=>a=(k:Int)/\(c=true↔(∃v,v<i/\Bk4 h v) \/ ∃j,j<k/\j<(h.On.g i).n/\((h.On.g i).g j<0 \/ (h.Laws.n:Int)<=(h.On.g i).g j))) (h.On.g i).n _ (by omega) ⟨rfl,hb.trans ⟨λg=>.inl g,λg=>g.resolve_right fun⟨j,f,_⟩=>Ij f (by omega)⟩⟩ ?_;rintro x k c a hk ⟨rfl,s⟩ y;by_cases l:k<(h.On.g i).n
  .refine Ad (Ac (y l _ _ ⟨Bv,?_⟩));rw[By6,BA4,BA4,s,Lf,Lf];constructor
   .rintro (((g|⟨j,f,g⟩)|g)|g)
    .exact .inl g
    .exact .inr ⟨j,by omega,g⟩
    .exact .inr ⟨k,by omega,l,.inl g⟩
    exact .inr ⟨k,by omega,l,.inr g⟩
   rintro (g|⟨j,f,a0,g⟩)
   .exact .inl (.inl (.inl g))
   by_cases e:j=k
   .subst e;rcases g with g|g
    .exact .inl (.inr g)
    exact .inr g
   exact .inl (.inl (.inr ⟨j,by omega,a0,g⟩))
  refine Bc (hs o _ _ _ ⟨Bv,hz,λv b=>?_,s.trans ?_⟩)
  .by_cases e:v=i
   .subst e;exact⟨q,by omega⟩
   rw[u v (by omega)];exact hp v (by omega)
  constructor
  .rintro (⟨v,b,g⟩ | ⟨j,_,f,g⟩)
   .exact⟨v,by omega,g⟩
   exact⟨i,by omega,j,f,g⟩
  rintro⟨v,b,g⟩;by_cases e:v=i
  .subst e;obtain⟨j,f,g⟩:=g;exact .inr ⟨j,by omega,f,g⟩
  exact .inl ⟨v,by omega,g⟩
 rcases GP ht (v:=i) (by omega)with⟨_,e⟩ | ⟨p,t,e⟩
 .rw[e];refine Bu (rest _ hx (λv b=>?_) ?_)
  .show (if v=i then _ else x4.g v)=_;rw[Eb]
  show (if i=i then ((h.On.g i).n:Int)else _)=_;rw[Gy rfl,JK (by omega)];show _=((0+(h.On.g i).n:Nat):Int);omega
 have a1:=hp p t;rw[e];refine Ak (ifT ?_ ?_)
 .show ((((((0:Int)<=(i:Int)/\(i:Int)<(x4.n:Int))/\i<x4.n)/\(0:Int)<=(p:Int)/\(p:Int)<(x4.n:Int))/\(p:Int).toNat<x4.n)/\(0:Int)<=(i:Int)/\(i:Int)<(x4.n:Int))/\i<x4.n;omega
 rw[By6];refine rest _ hx (λv b=>?_) ?_
 .show (if v=i then _ else if v=i then _ else x4.g v)=_;rw[Eb,Eb]
 show (if i=i then wrap .i64 ((if i=i then ((h.On.g i).n:Int)else _)+(if p=i then _ else x4.g p))else _)=_;rw[Gy rfl,Gy rfl,Eb,a1.1,Pj e t,Qv];show _=(((HF h p).n+(h.On.g i).n:Nat):Int);omega
def Bm8 (h:Si)(i:Nat):Prop:=∃u v,u<v/\v<i/\(h.Laws.g u).Name=(h.Laws.g v).Name
open Classical in
noncomputable def hres (N:Nat) (h:Si):Int:= if ¬DK h.Tree then 16 else if 64<h.Laws.n then 12 else if ∃i,i<h.Laws.n/\¬chkAll N (h.Laws.g i)then 17 else if Bm8 h h.Laws.n then 6 else if h.On.n≠h.Tree.n then 2 else if Ag2 h then 2 else if ∃v,v<h.On.n/\Bk4 h v then 3 else 0
structure ML (N:Nat) (h:Si):Prop where
 tree:DK h.Tree
 laws:An3 N h.Laws
 dup:¬Bm8 h h.Laws.n
 on:h.On.n=h.Tree.n
 long:¬Ag2 h
 bad:∀v,v<h.On.n->¬Bk4 h v
def hres_zero {h:Si}:hres N h=0↔ML N h:=by
 unfold hres;constructor
 .intro g;split at g
  .cases g
  split at g
  .cases g
  split at g
  .cases g
  split at g
  .cases g
  split at g
  .cases g
  split at g
  .cases g
  split at g
  .cases g
  rename_i h1 n c d f j l;exact⟨Classical.not_not.1 h1,⟨by omega,λi a=>BA5 λhn=>c ⟨i,a,hn⟩⟩,d,Classical.not_not.1 f,j,λv b hb=>l ⟨v,b,hb⟩⟩
 intro g;have m:=g.laws.1;rw[Hj (λk=>k g.tree),Eb,Hj (fun⟨i,a,hn⟩=>hn (g.laws.2 i a)),Hj g.dup,Hj (λk=>k g.on),Hj g.long,Hj (fun⟨v,b,hb⟩=>g.bad v b hb)]
def GQ {h:Si}(h1:DK h.Tree)(a:An3 N h.Laws)(b:¬Bm8 h h.Laws.n)(c:h.On.n=h.Tree.n){e:Int}(d:AJ5 h e):e=hres N h:=by
 have f:=a.1;unfold hres;rw[Hj (λk=>k h1),Eb,Hj (fun⟨i,j,hn⟩=>hn (a.2 i j)),Hj b,Hj (λk=>k c)];rcases d with⟨g,rfl⟩ | ⟨g,g2,rfl⟩ | ⟨g,g2,rfl⟩
 .rw[Gy g]
 .rw[Hj g,Gy g2]
 rw[Hj g,Hj (fun⟨v,l,hb⟩=>g2 v l hb)]
def NA (z:3000000<=N){h:Si}(o:Fr h):P5 N h=some (hres N h):=by
 suffices g:∃r,P5 N h=some r/\r=hres N h by obtain⟨r,g,rfl⟩:=g;exact g
 obtain⟨e,e1,_,he⟩:=Ph z o.tree;unfold P5;refine E8 e1 ?_;rcases he with⟨rfl,ht⟩ | ⟨rfl,ht⟩
 case inr=>exact Al ⟨16,rfl,by unfold hres;rw[Gy ht]⟩
 refine Bu ?_;by_cases c:64<h.Laws.n
 .exact Ad ⟨12,rfl,by unfold hres;rw[Hj (λk=>k ht),Gy c]⟩
 refine Bc ?_;refine Ev (λi (x1:List (Str×Int)) x2=>x2=(i:Int)/\(∀j,j<i->chkAll N (h.Laws.g j))/\(∀s,(K6 eqS s x1=none/\∀u,u<i->(h.Laws.g u).Name≠s) \/ (∃v,K6 eqS s x1=some v)/\∃u,u<i/\(h.Laws.g u).Name=s)/\((Bm8 h i/\x1.length<i) \/ (¬Bm8 h i/\x1.length=i))) h.Laws.n _ (by omega)
  ⟨rfl,λj hj=>Ij hj (by omega),λs=>.inl ⟨rfl,λu q=>Ij q (by omega)⟩,.inr ⟨fun⟨u,v,_,hv,_⟩=>Ij hv (by omega),rfl⟩⟩ ?_
 rintro self i x1 x2 hle ⟨rfl,hc,hm,hl⟩ hs;by_cases d:i<h.Laws.n
 .obtain⟨y,y1,_,hy⟩:=YP z (o.laws i d);refine Ad (Ac (E8 (by rw[By6];exact y1) ?_));rcases hy with⟨rfl,hy⟩ | ⟨rfl,hy⟩
  case inr=>exact Al ⟨17,rfl,by unfold hres;rw[Hj (λk=>k ht),Hj c,Gy ⟨i,d,hy⟩]⟩
  refine Bu ?_;rw[By6];have t : ∀j,j<i+1->chkAll N (h.Laws.g j):=λj hj=>by
   by_cases e:j=i
   .subst e;exact hy
   exact hc j (by omega)
  have look:∀(v:Int) (s:Str),(K6 eqS s (Fz eqS (h.Laws.g i).Name v x1)=none/\∀u,u<i+1->(h.Laws.g u).Name≠s) \/ (∃w,K6 eqS s (Fz eqS (h.Laws.g i).Name v x1)=some w)/\∃u,u<i+1/\(h.Laws.g u).Name=s:=by
   intro v s;rw[Nz];by_cases e:s=(h.Laws.g i).Name
   .exact .inr ⟨⟨v,by rw[Gy e]⟩,i,by omega,e.symm⟩
   rw[Hj e];rcases hm s with⟨g,g2⟩ | ⟨g,u,q,g2⟩
   .refine .inl ⟨g,λu q=>?_⟩;by_cases e2:u=i
    .subst e2;exact λk=>e k.symm
    exact g2 u (by omega)
   exact .inr ⟨g,u,by omega,g2⟩
  rcases hm (h.Laws.g i).Name with⟨g,g2⟩ | ⟨⟨v,g⟩,u,q,g2⟩
  .rw[g,K7];refine hs d _ _ ⟨Bv,t,look _,?_⟩;rw[An4 g];rcases hl with⟨⟨a,b,f,hb,hn⟩,hl⟩ | ⟨m,hl⟩
   .exact .inl ⟨⟨a,b,f,by omega,hn⟩,by omega⟩
   refine .inr ⟨fun⟨a,b,f,hb,hn⟩=>?_,by omega⟩;by_cases e:b=i
   .subst e;exact g2 a f hn
   exact m ⟨a,b,f,by omega,hn⟩
  rw[g,K8];refine hs d _ _ ⟨Bv,t,look _,?_⟩;rw[An5 g];refine .inl ⟨⟨u,i,q,by omega,g2⟩,?_⟩;rcases hl with⟨_,hl⟩ | ⟨_,hl⟩<;>omega
 obtain rfl:i=h.Laws.n:=by omega
 have hok:An3 N h.Laws:=⟨by omega,hc⟩;have x:¬ ∃i,i<h.Laws.n/\¬chkAll N (h.Laws.g i):=fun⟨i,o,hn⟩=>hn (hc i o);refine Bd ?_;rw[ZR];rcases hl with⟨m,hl⟩ | ⟨m,hl⟩
 .exact Ad ⟨6,rfl,by unfold hres;rw[Hj (λk=>k ht),Hj c,Hj x,Gy m]⟩
 refine Bc ?_;by_cases l:h.On.n=h.Tree.n
 case neg=>exact Ad ⟨2,rfl,by unfold hres;rw[Hj (λk=>k ht),Hj c,Hj x,Hj m,Gy l]⟩
 refine ifF (by simp[l]) ?_;obtain⟨e,e1,he⟩:=AJ6 z o ht l;exact E8 e1 ⟨e,rfl,GQ ht hok m l he⟩
def Rs (hN:3000000<=N){h:Si}(q:Fr h):AE N h=some (hres N h):=by
 suffices g:∃r,AE N h=some r/\r=hres N h by obtain⟨r,g,rfl⟩:=g;exact g
 obtain⟨e,_,e1,he⟩:=Ph hN q.tree;unfold AE;refine E8 e1 ?_;rcases he with⟨rfl,ht⟩ | ⟨rfl,ht⟩
 case inr=>exact Al ⟨16,rfl,by unfold hres;rw[Gy ht]⟩
 refine Bu ?_;by_cases f:64<h.Laws.n
 .exact Ad ⟨12,rfl,by unfold hres;rw[Hj (λk=>k ht),Gy f]⟩
 refine Bc ?_;refine BH (λi x1=>x1=(i:Int)/\∀j,j<i->chkAll N (h.Laws.g j)) h.Laws.n _ (by omega) ⟨rfl,λj s=>Ij s (by omega)⟩ ?_;rintro self i x1 hle ⟨rfl,hc⟩ hs;by_cases a:i<h.Laws.n
 .obtain⟨y,_,y1,hy⟩:=YP hN (q.laws i a);refine Ad (Ac (E8 (by rw[By6];exact y1) ?_));rcases hy with⟨rfl,hy⟩ | ⟨rfl,hy⟩
  case inr=>exact Al ⟨17,rfl,by unfold hres;rw[Hj (λk=>k ht),Hj f,Gy ⟨i,a,hy⟩]⟩
  refine Bu (hs a _ ⟨Bv,λj s=>?_⟩);by_cases e:j=i
  .subst e;exact hy
  exact hc j (by omega)
 obtain rfl:i=h.Laws.n:=by omega
 have l:An3 N h.Laws:=⟨by omega,hc⟩;have w:¬ ∃i,i<h.Laws.n/\¬chkAll N (h.Laws.g i):=fun⟨i,q,hn⟩=>hn (hc i q);refine Bd ?_;refine BH (λi x1=>x1=(i:Int)/\¬Bm8 h i) h.Laws.n _ (by omega) ⟨rfl,fun⟨u,v,_,d,_⟩=>Ij d (by omega)⟩ ?_;rintro a3 i x1 hle2 ⟨rfl,t⟩ a4;by_cases a:i<h.Laws.n
 .refine Ad ?_;refine BH (λk x5=>x5=(k:Int)/\∀u,u<k->(h.Laws.g u).Name≠(h.Laws.g i).Name) i _ (by omega) ⟨rfl,λu hu=>Ij hu (by omega)⟩ ?_;rintro a5 k x5 hk ⟨rfl,x⟩ a6;by_cases z:k<i
  .refine Ad (Ac ?_);rw[By6,By6];by_cases e:(h.Laws.g k).Name=(h.Laws.g i).Name
   .exact ifT (by simp[e]) ⟨6,rfl,by unfold hres;rw[Hj (λk=>k ht),Hj f,Hj w,Gy ⟨k,i,z,a,e⟩]⟩
   refine ifF (by simp;exact λg=>e g.symm) (a6 z _ ⟨Bv,λu hu=>?_⟩);by_cases e2:u=k
   .subst e2;exact e
   exact x u (by omega)
  refine Bc (a4 a _ ⟨Bv,fun⟨u,v,a7,d,hn⟩=>?_⟩);by_cases e:v=i
  .subst e;exact x u (by omega) hn
  exact t ⟨u,v,a7,by omega,hn⟩
 obtain rfl:i=h.Laws.n:=by omega
 refine Bd ?_;by_cases b:h.On.n=h.Tree.n
 case neg=>exact Ad ⟨2,rfl,by unfold hres;rw[Hj (λk=>k ht),Hj f,Hj w,Hj t,Gy b]⟩
 refine ifF (by simp[b]) ?_;have h63:=ht.2.1;refine BH (λi x1=>x1=(i:Int)/\∀v,v<i->¬ 64<(HF h v).n) h.On.n _ (by omega) ⟨rfl,λv d=>Ij d (by omega)⟩ ?_;rintro a8 i x1 hle3 ⟨rfl,a0⟩ a9;by_cases a:i<h.On.n
 .refine Ad (E8 (YS q ht b N i (by omega) (by omega)) ?_);by_cases hg:64<(HF h i).n
  .exact Ad ⟨2,rfl,GQ ht l t b (.inl ⟨⟨i,a,hg⟩,rfl⟩)⟩
  refine Bc (a9 a _ ⟨Bv,λv d=>?_⟩);by_cases e:v=i
  .subst e;exact hg
  exact a0 v (by omega)
 refine Bc ?_;have m:¬Ag2 h:=fun⟨v,d,g⟩=>a0 v (by omega) g;refine BH (λi x1=>x1=(i:Int)/\∀v,v<i->¬Bk4 h v) h.On.n _ (by omega) ⟨rfl,λv d=>Ij d (by omega)⟩ ?_;rintro b0 i x1 hle4 ⟨rfl,a1⟩ b1;by_cases c:i<h.On.n
 .have hl:=q.len i c;refine Ad ?_;refine BH (λk x1=>x1=(k:Int)/\∀j,j<k->¬((h.On.g i).g j<0 \/ (h.Laws.n:Int)<=(h.On.g i).g j)) (h.On.g i).n _ (by omega) ⟨rfl,λj s=>Ij s (by omega)⟩ ?_;rintro b2 k x1 hk ⟨rfl,a2⟩ b3;refine Ac ?_;rw[By6,By6];by_cases o:k<(h.On.g i).n
  .refine Ad (Ac ?_);by_cases g1:(h.On.g i).g k<0
   .exact ifT (by simpa using g1) ⟨3,rfl,GQ ht l t b (.inr (.inl ⟨m,⟨i,c,k,o,.inl g1⟩,rfl⟩))⟩
   refine ifF (by simpa using g1) (Ac ?_);by_cases g2:(h.Laws.n:Int)<=(h.On.g i).g k
   .exact ifT (by simpa using g2) ⟨3,rfl,GQ ht l t b (.inr (.inl ⟨m,⟨i,c,k,o,.inr g2⟩,rfl⟩))⟩
   refine ifF (by simpa using g2) (b3 o _ ⟨Bv,λj s=>?_⟩);by_cases e:j=k
   .subst e;exact λg=>g.elim g1 g2
   exact a2 j (by omega)
  refine Bc (b1 c _ ⟨Bv,λv d=>?_⟩);by_cases e:v=i
  .subst e;exact fun⟨j,s,g⟩=>a2 j (by omega) g
  exact a1 v (by omega)
 exact Bc ⟨0,rfl,GQ ht l t b (.inr (.inr ⟨m,λv d=>a1 v (by omega),rfl⟩))⟩
def eqR {R:Type}{x:Option R}{y:R}(h:∃r,x=some r/\r=y):x=some y:=by obtain⟨r,h,rfl⟩:=h;exact h
def Wm (t:Sl Node)(v:Nat):Prop:=∀u,0<u->u<t.n->(t.g u).Sk≠(v:Int)
open Classical in
noncomputable def V6 (t:Sl Node):Nat->Sl Int
 |0=>Q5
 |i+1=>if Wm t i then (V6 t i).push (i:Int)else V6 t i
def Rt {t:Sl Node}{i:Nat}(h:Wm t i):V6 t (i+1)=(V6 t i).push (i:Int):=Gy h
def Wn {t:Sl Node}{i:Nat}(h:¬Wm t i):V6 t (i+1)=V6 t i:=Hj h
def Ag3 (t:Sl Node):∀i,(V6 t i).n<=i
 |0=>Bz5 0
 |i+1=>by
  have:=Ag3 t i
  by_cases h:Wm t i
  .rw[Rt h];show (V6 t i).n+1<=i+1;omega
  rw[Wn h];omega
def Ag4 (t:Sl Node):∀i k,k<(V6 t i).n->∃v:Nat,v<i/\(V6 t i).g k=(v:Int)
 |0,k,hk=>Ij hk (BB5 k)
 |i+1,k,hk=>by
  by_cases h:Wm t i
  .rw[Rt h]at hk⊢;have hk:k<(V6 t i).n+1:=hk;show ∃v:Nat,v<i+1/\(if k<(V6 t i).n then (V6 t i).g k else (i:Int))=(v:Int);by_cases a:k<(V6 t i).n
   .rw[Gy a];obtain⟨v,h1,b⟩:=Ag4 t i k a;exact⟨v,by omega,b⟩
   rw[Hj a];exact⟨i,by omega,rfl⟩
  rw[Wn h]at hk⊢;obtain⟨v,h1,b⟩:=Ag4 t i k hk;exact⟨v,by omega,b⟩
def AW2 (s:3000000<=N){t:Sl Node}(ht:DK t):∃X,Av N t=some X/\(X.n=t.n/\∀v,v<t.n->((X.g v).n=0↔Wm t v)):=by
 have o:=ht.2.1;unfold Av;refine Ac (Ev (λi x (X:Sl (Sl Int))=>x=(i:Int)/\X.n=t.n/\∀v,v<t.n->(((X.g v).n=0 ↔ ∀u,0<u->u<i->(t.g u).Sk≠(v:Int))/\(X.g v).n<=i)) t.n _ (by omega)
  ⟨rfl,rfl,λv b=>⟨⟨λ_ u h1 a=>Ij a (BB5 u),λ_=>rfl⟩,Bz5 0⟩⟩ ?_)
 rintro l i x X hle ⟨rfl,c,f⟩ hs;by_cases hl:i<t.n
 case neg=>
  obtain rfl:i=t.n:=by omega
  exact Bd ⟨X,rfl,c,λv b=>(f v b).1⟩
 refine ifT (by simpa using hl) (Ac ?_);rw[By6,Bv];rcases GP ht hl with⟨q,h1⟩ | ⟨p,hp,e⟩
 .subst q;rw[h1];refine ifT (by show Int.toNat (-1)<X.n;rw[c];exact hl) (ltX (Bd (hs hl _ _ ⟨rfl,c,λv b=>?_⟩)));have e:(X.upd (Int.toNat (-1)) (X.g (Int.toNat (-1)))).g v=X.g v:=by
   show (if v=_ then X.g (Int.toNat (-1))else X.g v)=X.g v;split
   .rename_i e;rw[e]
   rfl
  rw[e];obtain⟨g1,g2⟩:=f v b;exact⟨g1.trans ⟨λ_ u h1 a=>Ij a (by omega),λ_ u h1 a=>Ij a (by omega)⟩,by omega⟩
 rw[e,By6];have j:p<t.n:=by omega
 have m:=(f p j).2;refine Ac (ltX (Ad (ifT ⟨⟨by omega,by rw[c];omega⟩,by omega,by omega⟩ (hs hl _ _ ⟨rfl,c,λv b=>?_⟩))));show ((if v=p then (X.g p).push (i:Int)else X.g v).n=0↔_)/\(if v=p then (X.g p).push (i:Int)else X.g v).n<=i+1;by_cases d:v=p
 .subst d;rw[Gy rfl];refine⟨⟨λh=>Ij h (Nat.succ_ne_zero _),λh=>Ij e (h i (by omega) (by omega))⟩,?_⟩;show (X.g v).n+1<=i+1;omega
 rw[Hj d];obtain⟨g1,g2⟩:=f v b;refine⟨g1.trans ⟨λh u h1 a=>?_,λh u h1 a=>h u h1 (by omega)⟩,by omega⟩;by_cases r:u=i
 .subst r;rw[e];omega
 exact h u h1 (by omega)
def Bv4 {R:Type}{Q:R->Prop}{a:Sl Int->Int->Option R}{t:Sl Node}{i:Nat}(c:i<1000){b:Bool}(hb:b=true↔Wm t i)(h:∃r,a (V6 t (i+1)) ((i+1:Nat):Int)=some r/\Q r) :∃r,(if b then
  if (Qt 8 ((V6 t i).n+(Sl.of [(i:Int)]:Sl Int).n))then
   a ((V6 t i).push (i:Int)) (wrap .i64 ((i:Int)+1))
  else none
  else a (V6 t i) (wrap .i64 ((i:Int)+1)))=some r/\Q r:=by
 have hn:=Ag3 t i;rw[Bv];by_cases hk:Wm t i
 .rw[Rt hk]at h;exact ifT (hb.2 hk) (ifT ⟨by show ((V6 t i).n+1)*8<=_;omega,by show (V6 t i).n+1<=_;omega⟩ h)
 rw[Wn hk]at h;exact ifF (λg=>hk (hb.1 g)) h
def Ag5 (c:3000000<=N){t:Sl Node}(ht:DK t):∃r,Cw N t=some r/\r=V6 t t.n:=by
 have d:=ht.2.1;unfold Cw;obtain⟨X,e,a,hk⟩:=AW2 c ht;refine E8 e (Ev (λi x1 x2=>x2=(i:Int)/\x1=V6 t i) t.n _ (by omega) ⟨rfl,rfl⟩ ?_);rintro b i x1 x2 hle ⟨rfl,rfl⟩ hs;by_cases hl:i<t.n
 .refine ifT (by rw[a];simpa using hl) (Ac ?_);rw[By6];exact Bv4 (by omega) (by rw[<- hk i hl];simp) (hs hl _ _ ⟨rfl,rfl⟩)
 obtain rfl:i=t.n:=by omega
 exact ifF (by rw[a];simp) ⟨_,rfl,rfl⟩
def AW3 (l:3000000<=N){t:Sl Node}(ht:DK t){v:Nat}(m:v<t.n):∃r,BB N t (v:Int)=some r/\(r.n=0↔Wm t v):=by
 have f:=ht.2.1;unfold BB;refine Ev (λi (x1:Sl Int) x2=>x2=(i:Int)/\x1.n<=i/\(x1.n=0 ↔ ∀u,0<u->u<i->(t.g u).Sk≠(v:Int))) t.n _ (by omega) ⟨rfl,Bz5 0,λ_ u h1 a=>Ij a (BB5 u),λ_=>rfl⟩ ?_;rintro b i x1 x2 hle ⟨rfl,hn,c⟩ hs;by_cases hl:i<t.n
 .refine ifT (by simpa using hl) (Ac ?_);rw[By6,Bv];by_cases hp:(t.g i).Sk=(v:Int)
  .have d:0<i:=by
    rcases GP ht hl with⟨d,h1⟩ | ⟨p,hp,e⟩
    .rw[h1]at hp;omega
    omega
   refine ifT (by simpa using hp) (ifT ⟨by show (x1.n+1)*8<=_;omega,by show x1.n+1<=_;omega⟩ (hs hl _ _ ⟨rfl,by show x1.n+1<=i+1;omega,λh=>Ij h (Nat.succ_ne_zero _),λh=>Ij hp (h i d (by omega))⟩))
  refine ifF (by simpa using hp) (hs hl _ _ ⟨rfl,by omega,c.trans ⟨λh u h1 a=>?_,λh u h1 a=>h u h1 (by omega)⟩⟩);by_cases j:u=i
  .subst j;exact hp
  exact h u h1 (by omega)
 obtain rfl:i=t.n:=by omega
 exact Bd ⟨_,rfl,c⟩
def Aw8 (a:3000000<=N){t:Sl Node}(c:Ny t):∃s e,O8 N t=some (s,e)/\Aw N t=some (s,e)/\((DK t/\e=0/\s=V6 t t.n) \/ (¬DK t/\e=16/\s=Q5)):=by
 obtain⟨e,e1,e2,d⟩:=Ph a c;unfold O8 Aw;rw[e1,e2,By8,By8];rcases d with⟨rfl,ht⟩ | ⟨rfl,ht⟩
 .have f:=ht.2.1;rw[Hj (by decide),Hj (by decide)];obtain⟨r,g1,rfl⟩:=Ag5 a ht;refine⟨_,0,by rw[g1];rfl,eqR (Ev (λi x1 x2=>x2=(i:Int)/\x1=V6 t i) t.n _ (by omega) ⟨rfl,rfl⟩ ?_),.inl ⟨ht,rfl,rfl⟩⟩;rintro b i x1 x2 hle ⟨rfl,rfl⟩ hs;by_cases hl:i<t.n
  .refine ifT (by simpa using hl) ?_;obtain⟨r,k1,k2⟩:=AW3 a ht hl;exact E8 k1 (Bv4 (by omega) (by rw[<- k2];simp) (hs hl _ _ ⟨rfl,rfl⟩))
  obtain rfl:i=t.n:=by omega
  exact Bd ⟨_,rfl,rfl⟩
 exact⟨_,16,Gy (by decide),Gy (by decide),.inr ⟨ht,rfl,rfl⟩⟩
def DM (f:Nat->Int):Nat->Int
 |0=>0
 |k+1=>if DM f k≠0 then DM f k else f k
def Lz {f:Nat->Int}{k:Nat}(h:DM f k=0):DM f (k+1)=f k:=Hj (λg=>g h)
def Fs {f:Nat->Int}{i:Nat}(h:DM f i≠0):∀n,i<=n->DM f n=DM f i
 |0,hn=>by rw[show i=0 by omega]
 |n+1,hn=>by
  by_cases e:i=n+1
  .rw[e]
  have hp:=Fs h n (by omega);show (if DM f n≠0 then DM f n else f n)=_;rw[hp,Gy h]
def CB {f:Nat->Int}:∀{n:Nat},DM f n=0->∀i,i<n->f i=0
 |0,_,i,hi=>Ij hi (BB5 i)
 |n+1,h,i,hi=>by
  have hp:DM f n=0:=BA5 λg=>g (by rw[<- Fs g (n+1) (by omega)];exact h);by_cases e:i=n
  .subst e;rw[<- Lz hp];exact h
  exact CB hp i (by omega)
def orE (a b:Int):Int:=if a≠0 then a else b
def SW {a b:Int}(h:a≠0):orE a b=a:=Gy h
def MM {a b:Int}(h:a=0):orE a b=b:=Hj (λg=>g h)
def Wo {a b:Int}(h:orE a b=0):a=0/\b=0:=by
 by_cases g:a=0
 .exact⟨g,by rw[<- h,MM g]⟩
 rw[SW g]at h;exact Ij h g
def Bv5 {N n:Nat}{f:Nat->Int}{body:(Int->Option Int)->Int->Option Int}{re:Int}(m:n<N)(b:∀a i,i<n->f i≠0->body a (i:Int)=some (f i))
 (l:∀a i,i<n->f i=0->body a (i:Int)=a ((i+1:Nat):Int)) (c:∀a,DM f n=0->body a (n:Int)=some re):R6 N body 0=some (orE (DM f n) re):=by
 refine eqR (BH (λi x=>x=(i:Int)/\DM f i=0) n _ m ⟨rfl,rfl⟩ ?_);rintro a i x hle ⟨rfl,g⟩ hs;by_cases hl:i<n
 .by_cases j:f i=0
  .rw[l a i hl j];exact hs hl _ ⟨rfl,by rw[Lz g];exact j⟩
  rw[b a i hl j];have e:DM f (i+1)=f i:=Lz g;have d:DM f (i+1)≠0:=by rw[e];exact j
  exact⟨_,rfl,by rw[Fs d n hl,SW d,e]⟩
 obtain rfl:i=n:=by omega
 exact⟨_,c a g,(MM g).symm⟩
def AJ7 {N n:Nat}{f:Nat->Int}{body:(Int->Option Int)->Int->Option Int}{re:Int}(g:n<N)(b:∀a i,i<n->f i≠0->body a (i:Int)=some (f i))
 (d:∀a i,i<n->f i=0->body a (i:Int)=a ((i+1:Nat):Int)) (c:∀a,body a (n:Int)=some re):R6 N body 0=some (orE (DM f n) re):=Bv5 g b d λa _=>c a
def Ju (s:Sl U9):Prop:=∀i,i<s.n->okA (s.g i).W
def YT (l:Sl So):Prop:=∀i,i<l.n->Ju (l.g i).Sn/\(l.g i).Gloss.length<1100000
def emp (s:Sl U9):Prop:=∃i,i<s.n/\(s.g i).Has=false/\0<(s.g i).W.n
noncomputable def Bk5 (s:Sl U9):Bool:=@decide (¬emp s) (Classical.propDecidable _)
def YU {s:Sl U9}(h:¬emp s):Bk5 s=true:=@decide_eq_true _ (Classical.propDecidable _) h
def YV {s:Sl U9}(h:emp s):Bk5 s=false:=@decide_eq_false _ (Classical.propDecidable _) (λg=>g h)
def AW4 (f:U9):((!f.Has)&&(decide (0<(f.W.n:Int))))=true↔f.Has=false/\0<f.W.n:=by simp
def YW (f:1000<=N){s:Sl U9}(hs:s.n<900):Z2 N s=some (Bk5 s):=by
 have h1:∃r,E2 N s (λ(u1:U9)=>BI N u1)=some r/\(0<=r↔emp s):=by
  unfold E2;refine BH (λi x=>x=(i:Int)/\∀j,j<i->¬((s.g j).Has=false/\0<(s.g j).W.n)) s.n _ (by omega) ⟨rfl,λj a=>Ij a (BB5 j)⟩ ?_;rintro c i x hle ⟨rfl,h⟩ b;by_cases hl:i<s.n
  .refine ifT (by simpa using hl) (Ac (E8 rfl ?_));rw[By6,Bv];by_cases hb:(s.g i).Has=false/\0<(s.g i).W.n
   .exact ifT ((AW4 _).2 hb) ⟨_,rfl,λ_=>⟨i,hl,hb⟩,λ_=>by omega⟩
   refine ifF (λg=>hb ((AW4 _).1 g)) (b hl _ ⟨rfl,λj a=>?_⟩);by_cases e:j=i
   .subst e;exact hb
   exact h j (by omega)
  exact ifF (by simpa using hl) ⟨_,rfl,λg=>Ij g (by decide),fun⟨j,a,hb⟩=>Ij hb (h j (by omega))⟩
 obtain⟨r,e,d⟩:=h1;unfold Z2 E6;rw[e,By8,By8];congr 1;by_cases h:emp s
 .rw[YV h];simp[d.2 h]
 rw[YU h];simp;exact Int.not_le.1 λg=>h (d.1 g)
def Ue (d:1000<=N){s:Sl U9}(hs:s.n<900):BZ N s=some (Bk5 s):=by
 unfold BZ;refine eqR (BH (λi x=>x=(i:Int)/\∀j,j<i->¬((s.g j).Has=false/\0<(s.g j).W.n)) s.n _ (by omega) ⟨rfl,λj a=>Ij a (BB5 j)⟩ ?_);rintro c i x hle ⟨rfl,h⟩ b;by_cases hl:i<s.n
 .refine ifT (by simpa using hl) (Ac (ifT (λ_=>by omega) ?_));rw[By6,Bv];by_cases hb:(s.g i).Has=false/\0<(s.g i).W.n
  .exact ifT ((AW4 _).2 hb) ⟨_,rfl,(YV ⟨i,hl,hb⟩).symm⟩
  refine ifF (λg=>hb ((AW4 _).1 g)) (b hl _ ⟨rfl,λj a=>?_⟩);by_cases e:j=i
  .subst e;exact hb
  exact h j (by omega)
 exact ifF (by simpa using hl) ⟨_,rfl,(YU (fun⟨j,a,hb⟩=>h j (by omega) hb)).symm⟩
def wE (N:Nat)(w:Sl Qj):Int:=(U2 N w).getD 0
def An6 (a:1000<=N){w:Sl Qj}(hw:okA w):U2 N w=some (wE N w)/\Fm N w=some (wE N w):=by
 obtain⟨e,h1,b⟩:=YM a hw;obtain⟨e',g1,g2⟩:=Aw1 a hw;obtain rfl:=AI6 b g2
 have:wE N w=e:=by unfold wE;rw[h1];rfl
 rw[this];exact⟨h1,g1⟩
def wsE (N:Nat)(s:Sl U9):Int:=DM (λi=>wE N (s.g i).W) s.n
def Jv (c:1000<=N){s:Sl U9}(hs:s.n<900)(d:Ju s):S0 N s=some (wsE N s)/\AF N s=some (wsE N s):=by
 have e0:wsE N s=orE (wsE N s) 0:=by
  by_cases h:wsE N s=0
  .rw[MM h,h]
  rw[SW h]
 rw[e0];unfold S0 AF;constructor<;>refine AJ7 (f:=λi=>wE N (s.g i).W) (by omega) ?_ ?_ ?_
 .intro a i hl b;rw[Gy (by simpa using hl),Cq,By6,(An6 c (d i hl)).1,By8,Gy (by simpa using b)]
 .intro a i hl b;rw[Gy (by simpa using hl),Cq,By6,(An6 c (d i hl)).1,By8,Hj (by simpa using b),Bv]
 .intro a;rw[Ee]
 .intro a i hl b;rw[Gy (by simpa using hl),Cq,By6,(An6 c (d i hl)).2,By8,Gy (by simpa using b)]
 .intro a i hl b;rw[Gy (by simpa using hl),Cq,By6,(An6 c (d i hl)).2,By8,Hj (by simpa using b),Bv]
 intro a;rw[Ee]
def Uf (b:3000000<=N){s:Str}(hs:s.length<1100000):BC N s=some (Fx s):=by
 obtain⟨e,e1,_,c⟩:=Ph (t:=(Sl.of [(⟨-1,s⟩:Node)]:Sl Node)) b (λv a=>by
  have a:v<1:=a;obtain rfl:v=0:=by omega
  exact hs)
 unfold BC;rw[e1,By8];have key:DK (Sl.of [(⟨-1,s⟩:Node)]:Sl Node)↔Fx s=true:=by
  constructor
  .intro h;exact (h.2.2 0 (by show 0<1;omega)).2.2.1
  intro h;refine⟨by show 1<=1;omega,by show 1<=63;omega,λv a=>?_⟩;have a:v<1:=a;obtain rfl:v=0:=by omega
  exact⟨λ_=>rfl,λh=>Ij h (Nat.lt_irrefl 0),h,λu d=>Ij d (BB5 u)⟩
 congr 1;rcases c with⟨rfl,h⟩ | ⟨rfl,h⟩
 .rw[key.1 h];rfl
 cases hb:Fx s
 .rfl
 exact Ij (key.2 hb) h
open Classical in
noncomputable def e2 (l:Sl So) (k:Nat) (i:Nat):Int:=if (l.g i).Sn.n≠k \/ emp (l.g i).Sn then 2 else 0
def e15 (l:Sl So)(i:Nat):Int:=if Fx (l.g i).Gloss then 0 else 15
def AW5 {l:Sl So}{k i:Nat}(h:e2 l k i=0):(l.g i).Sn.n=k/\¬emp (l.g i).Sn:=by
 unfold e2 at h;split at h
 .cases h
 rename_i g;exact⟨BA5 λe=>g (.inl e),λe=>g (.inr e)⟩
def Bb2 {l:Sl So}{k i:Nat}(h:(l.g i).Sn.n≠k \/ emp (l.g i).Sn):e2 l k i=2:=Gy h
def Bb3 {l:Sl So}{k i:Nat}(h:¬((l.g i).Sn.n≠k \/ emp (l.g i).Sn)):e2 l k i=0:=Hj h
def An7 {l:Sl So}{k i:Nat}{E:Option Bool}(hk:k<900)(b:(l.g i).Sn.n=k->E=some (Bk5 (l.g i).Sn))(a:Option Int) :(lt (λ(z3:Bool)=>if z3 then some 2 else a) λk3=>
  if (((l.g i).Sn.n:Int) != (k:Int)) then
   k3 true
  else
   E.bind λy6=>
   k3 (!y6))=if e2 l k i≠0 then some (e2 l k i)else a:=by
 by_cases h:(l.g i).Sn.n=k
 .rw[b h];have hc:¬(((l.g i).Sn.n:Int) != (k:Int))=true:=by simp[h]
  by_cases hp:emp (l.g i).Sn
  .rw[Bb2 (.inr hp)];show (if (((l.g i).Sn.n:Int) != (k:Int)) then _ else if (!(Bk5 (l.g i).Sn)) then some (2:Int)else a)=some 2;rw[Hj hc,Gy (by rw[YV hp];rfl)]
  rw[Bb3 (λg=>g.elim (λe=>e h) hp)];show (if (((l.g i).Sn.n:Int) != (k:Int)) then _ else if (!(Bk5 (l.g i).Sn)) then some (2:Int)else a)=a;rw[Hj hc,Hj (by rw[YU hp];decide)]
 rw[Bb2 (.inl h)];exact Cr
def Ag6 (c:3000000<=N){l:Sl So}{k:Nat}(hk:k<900)(hn:l.n<900)(d:YT l):Q3 N l (k:Int)=some (orE (DM (e2 l k) l.n) (orE (DM (e15 l) l.n) 0)):=by
 unfold Q3;have step:=λ(a:Option Int) (i:Nat)=>An7 (l:=l) (i:=i) hk (λh=>YW (N:=N) (s:=(l.g i).Sn) (by omega) (by omega)) a;refine AJ7 (by omega) ?_ ?_ ?_
 .intro a i hl b;rw[Gy (by simpa using hl),Cq,By6,step,Gy b]
 .intro a i hl b;rw[Gy (by simpa using hl),Cq,By6,step,Hj (λg=>g b),Bv]
 intro a;rw[Ee];refine AJ7 (by omega) ?_ ?_ ?_
 .intro a i hl b;rw[Gy (by simpa using hl),Cq,By6,Uf c (d i hl).2,By8];unfold e15 at b⊢;by_cases h:Fx (l.g i).Gloss=true
  .exact Ij (Gy h) b
  rw[Gy (by simpa using h),Hj h]
 .intro a i hl b;rw[Gy (by simpa using hl),Cq,By6,Uf c (d i hl).2,By8];unfold e15 at b;by_cases h:Fx (l.g i).Gloss=true
  .rw[Hj (by simp[h]),Bv]
  rw[Hj h]at b;cases b
 intro a;rw[Ee]
noncomputable def Bv6 (N:Nat) (p:Sl U9) (l:Sl So) (k:Nat):Int:= orE (DM (e2 l k) l.n) (orE (DM (e15 l) l.n) (orE (wsE N p) (DM (λi=>wsE N (l.g i).Sn) l.n)))
def AW6 (m:3000000<=N){l:Sl So}(hn:l.n<900)(W:Nat->Int)(j:∀i,i<l.n->AF N (l.g i).Sn=some (W i))(w0:Int) :Co N (λ(a:Int->Int->Option Int) (x7:Int) (x8:Int)=>
  if ((decide (x8<(l.n:Int)))&&(x7==0)) then
   if ((0:Int)<=x8/\x8<(l.n:Int))then
    (AF N (l.g x8.toNat).Sn).bind λd=>
    a d (wrap .i64 (x8+1))
   else none
  else
   some x7
  ) w0 0=some (orE w0 (DM W l.n)):=by
 refine eqR (Ev (λi x7 x8=>x8=(i:Int)/\((x7=0/\w0=0/\DM W i=0) \/ (x7≠0/\x7=orE w0 (DM W l.n)))) l.n _ (by omega) ⟨rfl,?_⟩ ?_)
 .by_cases h:w0=0
  .exact .inl ⟨h,h,rfl⟩
  exact .inr ⟨h,(SW h).symm⟩
 rintro f i x7 x8 hle ⟨rfl,h⟩ hs;rcases h with⟨rfl,b,h1⟩ | ⟨b,h1⟩
 .by_cases hl:i<l.n
  .refine ifT (by simpa using hl) (Ac ?_);rw[By6,Bv];refine E8 (j i hl) (hs hl _ _ ⟨rfl,?_⟩);have e:=Lz h1;by_cases c:W i=0
   .exact .inl ⟨c,b,by rw[e];exact c⟩
   exact .inr ⟨c,by rw[MM b,Fs (i:=i+1) (by rw[e];exact c) l.n hl,e]⟩
  obtain rfl:i=l.n:=by omega
  exact Bd ⟨_,rfl,by rw[MM b,h1]⟩
 exact ifF (by simp[b]) ⟨_,rfl,h1⟩
def AJ8 {t:Sl Node}(ht:DK t):(V6 t t.n).n<=63:=by have:=Ag3 t t.n;have:=ht.2.1;omega
def MN (a:3000000<=N){t:Sl Node}(b:Ny t)(ht:DK t):O8 N t=some (V6 t t.n,0)/\Aw N t=some (V6 t t.n,0):=by
 obtain⟨s,e,h1,c,d⟩:=Aw8 a b;rcases d with⟨_,rfl,rfl⟩ | ⟨g,_⟩
 .exact⟨h1,c⟩
 exact Ij ht g
open Classical in
noncomputable def Bb4 (N:Nat) (h:Si) (p:Sl U9) (l:Sl So):Int:= if hres N h≠0 then hres N h else if 256<l.n then 12 else if p.n≠l.n \/ emp p then 2 else Bv6 N p l (V6 h.Tree h.Tree.n).n
def Aw9 (r:3000000<=N){h:Si}(t:Fr h){p:Sl U9}{l:Sl So}(hp:Ju p)(hl:YT l):Z3 N h p l=some (Bb4 N h p l):=by
 unfold Z3 Bb4;rw[NA r t,By8];by_cases m:hres N h=0
 case neg=>rw[Gy (show (hres N h != 0)=true by simpa using m),Gy m]
 rw[Hj (show ¬(hres N h != 0)=true by simp[m]),Hj (show ¬hres N h≠0 from λg=>g m)];have o:=hres_zero.1 m;have u:=AJ8 o.tree;rw[(MN r t.tree o.tree).1,By8];by_cases d:256<l.n
 .rw[Gy (show (decide (256<(l.n:Int)))=true by simp;omega),Gy d]
 rw[Hj (show ¬(decide (256<(l.n:Int)))=true by simp;omega),Hj d];have rest:(lt (λ(z1:Bool)=>
  if z1 then
   some (2:Int)
  else
   (Q3 N l (((V6 h.Tree h.Tree.n).n:Nat):Int)).bind λy5=>
   if (y5 != 0) then
    some y5
   else
    (S0 N p).bind λy6=>
    if (y6 != 0) then
     some y6
    else
     R6 N (λj (x2:Int)=>
      if (decide (x2<(l.n:Int))) then
       if ((0:Int)<=x2/\x2<(l.n:Int))then
        (S0 N (l.g x2.toNat).Sn).bind λy9=>
        if (y9 != 0) then
         some y9
        else
         j (wrap .i64 (x2+1))
       else none
      else
       some 0
      ) 0
  ) λk1=>k1 false)=(if p.n=l.n then some (Bv6 N p l (V6 h.Tree h.Tree.n).n)else some 0) \/ p.n≠l.n:=by
  by_cases c:p.n=l.n
  case neg=>exact .inr c
  refine .inl ?_;rw[Gy c];show (Q3 N l (((V6 h.Tree h.Tree.n).n:Nat):Int)).bind _=_;rw[Ag6 r (by omega) (by omega) hl,By8];unfold Bv6;by_cases g1:DM (e2 l (V6 h.Tree h.Tree.n).n) l.n=0
  case neg=>rw[SW g1,SW g1,Gy (by simpa using g1)]
  rw[MM g1,MM g1];by_cases g2:DM (e15 l) l.n=0
  case neg=>rw[SW g2,SW g2,Gy (by simpa using g2)]
  rw[MM g2,MM g2,Hj (by decide),(Jv (by omega) (by omega) hp).1,By8];by_cases g3:wsE N p=0
  case neg=>rw[SW g3,Gy (by simpa using g3)]
  rw[MM g3,Hj (by simp[g3])];have e0:∀a:Int,a=orE a 0:=λa=>by
   by_cases h:a=0
   .rw[MM h,h]
   rw[SW h]
  rw[e0 (DM (λi=>wsE N (l.g i).Sn) l.n)];have hk:∀i,i<l.n->(l.g i).Sn.n<900:=λi b=>by
   have:=(AW5 (CB g1 i b)).1;omega
  refine AJ7 (by omega) ?_ ?_ ?_
  .intro f i b s;rw[Gy (by simpa using b),Cq,By6,(Jv (by omega) (hk i b) (hl i b).1).1,By8,Gy (by simpa using s)]
  .intro f i b s;rw[Gy (by simpa using b),Cq,By6,(Jv (by omega) (hk i b) (hl i b).1).1,By8,Hj (by simpa using s),Bv]
  intro f;rw[Ee]
 by_cases c:p.n=l.n
 case neg=>rw[Gy (.inl c)];exact Cr
 have hc:¬((p.n:Int) != (l.n:Int))=true:=by simp[c]
 rw[YW (by omega) (by omega)];by_cases q:emp p
 .rw[Gy (.inr q),YV q];exact Hj hc
 rw[Hj (λg=>g.elim (λe=>e c) q),YU q];rcases rest with g|g
 .rw[Gy c]at g;exact (Hj hc).trans g
 exact Ij c g
def Ag7 (q:3000000<=N){h:Si}(t:Fr h){p:Sl U9}{l:Sl So}(hp:Ju p)(hl:YT l):Fn N h p l=some (Bb4 N h p l):=by
 unfold Fn Bb4;rw[Rs q t,By8];by_cases j:hres N h=0
 case neg=>rw[Gy (show (hres N h != 0)=true by simpa using j),Gy j]
 rw[Hj (show ¬(hres N h != 0)=true by simp[j]),Hj (show ¬hres N h≠0 from λg=>g j)];have m:=hres_zero.1 j;have u:=AJ8 m.tree;by_cases d:256<l.n
 .rw[Gy (show (decide (256<(l.n:Int)))=true by simp;omega),Gy d]
 rw[Hj (show ¬(decide (256<(l.n:Int)))=true by simp;omega),Hj d,(MN q t.tree m.tree).2,By8];by_cases f:p.n=l.n
 case neg=>rw[Gy (.inl f)];exact Cr
 have hc:¬((p.n:Int) != (l.n:Int))=true:=by simp[f]
 rw[Ue (by omega) (by omega)];by_cases o:emp p
 .rw[Gy (.inr o),YV o];exact Hj hc
 rw[Hj (λg=>g.elim (λe=>e f) o),YU o];refine (Hj hc).trans ?_;rw[By8];refine (Hj (by decide)).trans ?_;unfold Bv6;have step:=λ(a:Option Int) (i:Nat)=>An7 (l:=l) (i:=i) (show (V6 h.Tree h.Tree.n).n<900 by omega) (λh=>Ue (N:=N) (s:=(l.g i).Sn) (by omega) (by omega)) a;have ent:∀(i:Nat) (a:Int->Option Int),i<l.n->(lt (λ(z4:Bool)=>
  if z4 then
   some (2:Int)
  else
   a (wrap .i64 ((i:Int)+1))
  ) λk4=>
  if (((l.g i).Sn.n:Int) != (((V6 h.Tree h.Tree.n).n:Nat):Int)) then
   k4 true
  else
   if ((0:Int)<=(i:Int)/\(i:Int)<(l.n:Int))then
    (BZ N (l.g i).Sn).bind λr=>
    k4 (!r)
   else none)=if e2 l (V6 h.Tree h.Tree.n).n i≠0 then some (e2 l (V6 h.Tree h.Tree.n).n i)else a (wrap .i64 ((i:Int)+1)):=λi a b=>by
  rw[<- step];unfold lt;dsimp only;rw[Gy (show (0:Int)<=(i:Int)/\(i:Int)<(l.n:Int) by omega)]
 refine Bv5 (by omega) ?_ ?_ ?_
 .intro a i b c;rw[Gy (by simpa using b),Cq,By6,ent i a b,Gy c]
 .intro a i b c;rw[Gy (by simpa using b),Cq,By6,ent i a b,Hj (λg=>g c),Bv]
 intro a g1;rw[Ee];refine AJ7 (by omega) ?_ ?_ ?_
 .intro a i b c;rw[Gy (by simpa using b),Cq,By6,Wl (by have:=(hl i b).2;omega) (by have:=(hl i b).2;omega),By8];unfold e15 at c⊢;by_cases h:Fx (l.g i).Gloss=true
  .exact Ij (Gy h) c
  rw[Gy (by simpa using h),Hj h]
 .intro a i b c;rw[Gy (by simpa using b),Cq,By6,Wl (by have:=(hl i b).2;omega) (by have:=(hl i b).2;omega),By8];unfold e15 at c;by_cases h:Fx (l.g i).Gloss=true
  .rw[Hj (by simp[h]),Bv]
  rw[Hj h]at c;cases c
 intro a;rw[Ee,(Jv (by omega) (by omega) hp).2,By8];exact AW6 q (by omega) (λi=>wsE N (l.g i).Sn) (λi b=>(Jv (by omega) (by have:=(AW5 (CB g1 i b)).1;omega) (hl i b).1).2) (wsE N p)
structure attOk (N:Nat) (h:Si) (p:Sl U9) (l:Sl So):Prop where
 hist:ML N h
 n:l.n<=256
 pn:p.n=l.n
 pe:¬emp p
 fn:∀i,i<l.n->(l.g i).Sn.n=(V6 h.Tree h.Tree.n).n
 fe:∀i,i<l.n->¬emp (l.g i).Sn
 nm:∀i,i<l.n->Fx (l.g i).Gloss=true
 pw:∀i,i<p.n->wOk (p.g i).W
 fw:∀i,i<l.n->∀k,k<(l.g i).Sn.n->wOk ((l.g i).Sn.g k).W
def Wp (a:1000<=N){w:Sl Qj}(hw:okA w):wE N w=0↔wOk w:=by
 obtain⟨e,h1,b⟩:=YM a hw
 have:wE N w=e:=by unfold wE;rw[h1];rfl
 rw[this];exact AI7 b
def JL {f:Nat->Int}:∀{n:Nat},(∀i,i<n->f i=0)->DM f n=0
 |0,_=>rfl
 |n+1,h=>by rw[Lz (JL λi a=>h i (by omega))];exact h n (by omega)
def Bk6 (b:1000<=N){h:Si}{p:Sl U9}{l:Sl So}(hp:Ju p)(hl:YT l):Bb4 N h p l=0↔attOk N h p l:=by
 unfold Bb4;constructor
 .intro g;split at g
  .rename_i g1;exact Ij g g1
  rename_i g1;split at g
  .cases g
  rename_i g2;split at g
  .cases g
  rename_i g3;obtain⟨d1,g⟩:=Wo g;obtain⟨d2,g⟩:=Wo g;obtain⟨d3,d4⟩:=Wo g;have d1:=CB d1;have d2:=CB d2;have d3:=CB d3;have d4:=CB d4;refine⟨hres_zero.1 (BA5 g1),by omega,BA5 λe=>g3 (.inl e),λe=>g3 (.inr e),λi a=>(AW5 (d1 i a)).1,λi a=>(AW5 (d1 i a)).2,λi a=>?_,λi a=>(Wp b (hp i a)).1 (d3 i a),λi a k hk=>(Wp b ((hl i a).1 k hk)).1 (CB (d4 i a) k hk)⟩
  have:=d2 i a
  unfold e15 at this;by_cases e:Fx (l.g i).Gloss=true
  .exact e
  rw[Hj e]at this;cases this
 rintro⟨a1,a2,a3,a4,a5,a6,a7,a8,a9⟩;rw[Hj (λg=>g (hres_zero.2 a1)),Eb,Hj (λg=>g.elim (λe=>e a3) a4)];unfold Bv6;have b1:DM (e2 l (V6 h.Tree h.Tree.n).n) l.n=0:=JL λi a=>Bb3 λg=>g.elim (λe=>e (a5 i a)) (a6 i a);have b2:DM (e15 l) l.n=0:=JL λi a=>Gy (a7 i a);have b3:wsE N p=0:=JL λi a=>(Wp b (hp i a)).2 (a8 i a);rw[MM b1,MM b2,MM b3];exact JL λi a=>JL λk hk=>(Wp b ((hl i a).1 k hk)).2 (a9 i a k hk)
def Ru:∀(d:Nat) (p:Pat),dep d p->∀M,100+d<=M->∃r,AR M p=some r
 |0,p,h,M,_=>h.elim
 |d+1,p,h,0,hM=>by omega
 |d+1,p,h,M+1,hM=>by
  suffices ∃r,AR (M+1) p=some r/\True by obtain⟨r,h,_⟩:=this;exact⟨r,h⟩
  show ∃x,Ao (AR M) M p=some x/\_;unfold Ao;have hn:=h.1;refine Ev (λi x1 x2=>x2=(i:Int)) p.L.n _ (by omega) rfl ?_;rintro a i x1 x2 c rfl hs;by_cases hl:i<p.L.n
  .obtain⟨r,b⟩:=Ru d (p.L.g i) (h.2 i hl) M (by omega);exact Ad (Ac (E8 (by rw[By6];exact b) (hs hl _ _ (Bv))))
  exact Bc ⟨_,rfl,trivial⟩
def AW7 (f:2000<=N)(laws:Sl Law):∃r,EB N laws=some r:=by
 suffices ∃r,EB N laws=some r/\True by obtain⟨r,h,_⟩:=this;exact⟨r,h⟩
 unfold EB;refine Ev (λi x1 x2=>x2=(i:Int)) 301 _ (by omega) rfl ?_;rintro d i x1 x2 s rfl hs;by_cases hc:i<laws.n/\i<=300
 .refine ifT (by simp only[By5,Lf];omega) (Ac ?_);refine Ev (λj x7 x8=>x8=(j:Int)) 2 _ (by omega) rfl ?_;rintro b j x7 x8 t rfl a;by_cases hl:j<2
  .refine ifT (by show decide ((j:Int)<((2:Nat):Int))=true;simp;omega) (ifT (by show (0:Int)<=(j:Int)/\(j:Int)<((2:Nat):Int);omega) ?_);obtain⟨r,l,m⟩:=Wk f ((Sl.of [(laws.g (i:Int).toNat).Left,(laws.g (i:Int).toNat).Right]:Sl Pat).g (j:Int).toNat);refine E8 l ?_;by_cases c:r<=40
   .obtain⟨q,o⟩:=Ru 41 _ (m c) N (by omega);exact Ad (E8 o (a hl _ _ (Bv)))
   exact Bc (a hl _ _ (Bv))
  exact ifF (by show ¬decide ((j:Int)<((2:Nat):Int))=true;simp;omega) (hs (by omega) _ _ (Bv))
 exact ifF (by simp only[By5,Lf];omega) ⟨_,rfl,trivial⟩
def AJ9 (t:3000000<=N)(h:Si):∃b,Fo N h=some b/\True:=by
 unfold Fo;by_cases hb:(((decide (70<(h.Tree.n:Int)))||(decide (70<(h.Laws.n:Int))))||(decide (70<(h.On.n:Int))))=true
 .exact ifT hb ⟨_,rfl,trivial⟩
 refine ifF hb ?_;have o : h.Laws.n<=70/\h.On.n<=70:=by simp at hb;omega
 refine BH (λi x=>x=(i:Int)) h.On.n _ (by omega) rfl ?_;rintro l i x q rfl hs;by_cases d:i<h.On.n
 .refine Ad (Ac ?_);by_cases m:(decide (70<((h.On.g (i:Int).toNat).n:Int)))=true
  .exact ifT m ⟨_,rfl,trivial⟩
  exact ifF m (hs d _ (Bv))
 refine Bc ?_;refine BH (λi x=>x=(i:Int)) h.Laws.n _ (by omega) rfl ?_;rintro f i x q rfl j;by_cases d:i<h.Laws.n
 .rw[Bv];refine Ad (Ac ?_);obtain⟨r,s⟩:=AW7 (N:=N) (by omega) (h.Laws.sub (i:Int).toNat ((i+1:Nat):Int).toNat);refine E8 s ?_;have last:∀z3:Bool,∃r,(if z3 then some false else f ((i+1:Nat):Int))=some r/\True:=λz=>by
   cases z
   .exact Bd (j d _ rfl)
   exact ifT rfl ⟨_,rfl,trivial⟩
  refine ltX ?_;by_cases g1:(decide (4<r))=true
  .exact ifT g1 (last _)
  refine ifF g1 ?_;by_cases g2:(decide (20<((h.Laws.g (i:Int).toNat).If.n:Int)))=true
  .exact ifT g2 (last _)
  refine ifF g2 ?_;by_cases g3:(decide (20<((h.Laws.g (i:Int).toNat).Out.n:Int)))=true
  .exact ifT g3 (last _)
  refine ifF g3 ?_;obtain⟨a,ha,_⟩:=Wk (N:=N) (by omega) (h.Laws.g (i:Int).toNat).Left;refine E8 ha ?_;by_cases g4:(decide (41<(a:Int)))=true
  .exact ifT g4 (last _)
  refine ifF g4 ?_;obtain⟨c,hc,_⟩:=Wk (N:=N) (by omega) (h.Laws.g (i:Int).toNat).Right;exact E8 hc (last _)
 exact Bc ⟨_,rfl,trivial⟩
abbrev signC:Str:=[58,39,34,126,94,95,61,96]
def mtB (s:Str):Prop:=1<=s.length/\s.length<=3/\∀b∈s,signC.contains b=true
def AK0:∀k:Fin 256,GK 0 ((k.val:Nat):Int)=some (signC.contains (UInt8.ofNat k.val)):=by decide +kernel
def Bk7 (b:UInt8):GK N ((b.toNat:Nat):Int)=some (signC.contains b):=by
 have:=AK0 ⟨b.toNat,b.toNat_lt⟩
 rw[show UInt8.ofNat b.toNat=b by simp]at this;exact this
def YX {s:Str}(f:s.length<N)(hs:s.length<1000000000):∃b,BG N s=some b/\(b=true↔mtB s):=by
 unfold BG;refine BH (λi x1=>x1=(i:Int)/\∀j (h:j<s.length),j<i->signC.contains s[j]=true) s.length _ f ⟨rfl,λj _ a=>Ij a (by omega)⟩ ?_;rintro d i x1 n ⟨rfl,h⟩ c;by_cases hl:i<s.length
 .refine Ad (Ac ?_);have eb:D7 s (i:Int)=((s[i].toNat:Nat):Int):=by simp[D7,hl]
  rw[eb];refine E8 (Bk7 s[i]) ?_;by_cases hb:signC.contains s[i]=true
  .refine ifF (by rw[hb];decide) (c hl _ ⟨Bv,λj a g=>?_⟩);by_cases e:j=i
   .subst e;exact hb
   exact h j a (by omega)
  exact ifT (by simpa using hb) ⟨false,rfl,by simp,λl=>Ij (l.2.2 s[i] (BJ7 hl)) hb⟩
 refine Bc ⟨_,rfl,?_⟩;simp only[By5,Lf];constructor
 .rintro⟨h1,m⟩;refine⟨by omega,by omega,λb hb=>?_⟩;obtain⟨j,a,rfl⟩:=BE2 hb;exact h j a (by omega)
 rintro⟨h1,m,_⟩;exact⟨by omega,by omega⟩
def Bk8 (x y:BitVec 32):G6 .xor .u32 x.toNat y.toNat=((x ^^^ y).toNat:Int):=by simp only[G6,IntKind.bits,CJ];exact LW (x ^^^ y).isLt
def tV (n:Nat):BitVec 32:=BitVec.ofNat 32 (2 ^ n-1)
def mgB (n:Nat)(p m c:BitVec 32):Bool:=decide ((c ||| (p ||| m)) &&& ~~~ tV n=0#32)&&(decide (c &&& (p ||| m)=0#32)&&vB p m)
def YY (x:Fw):Prop:=∃p m c:BitVec 32,x.Set=sOf p m/\x.Clear=c.toNat/\x.Text.length<1100000
def mgV (n:Nat)(x:Fw):Bool:=mgB n (BitVec.ofInt 32 x.Set.Plus) (BitVec.ofInt 32 x.Set.Minus) (BitVec.ofInt 32 x.Clear)
def Bb5 {n:Nat}{x:Fw}{p m c:BitVec 32}(h1:x.Set=sOf p m)(a:x.Clear=c.toNat):mgV n x=mgB n p m c:=by simp only[mgV,h1,a,sOf,CJ]
def ltG {R:Type}{Q:R->Prop}{K:Bool->Option R}{f:(Bool->Option R)->Option R}{b:Bool}(a:∀k,f k=k b)(h:∃r,K b=some r/\Q r):∃r,lt K f=some r/\Q r:=by unfold lt;rw[a];exact h
def mdup (l:Sl Fw)(i:Nat):Prop:=∃k,k<i/\(l.g k).Text=(l.g i).Text
open Classical in
noncomputable def mkE (n:Nat) (l:Sl Fw) (i:Nat):Int:=if mtB (l.g i).Text then if mgV n (l.g i) then if mdup l i then 6 else 0 else 2 else 15
noncomputable def Bb6 (n:Nat) (l:Sl Fw):Int:=if 32<l.n then 12 else DM (mkE n l) l.n
def mtx {s:Str}(h:s.length<1100000):∃b,(∀{R:Type}(k:Bool->Option R),(if ((s==[]) != false) then k true else if (decide (3<(s.length:Int))) then k true else (Z0 N s [58,39,34,126,94,95,61,96]).bind λy=>k ((y==[]) != true))=k b)/\(b=true ↔ ¬mtB s):=by
 by_cases a:s=[]
 .subst a;exact⟨true,λ_=>rfl,λ_ g=>Ij g.1 (by decide),λ_=>rfl⟩
 have hp:0<s.length:=BQ7.2 a;by_cases c:3<s.length
 .exact⟨true,λk=>by rw[Hj (by simp[a]),Cr],λ_ g=>Ij g.2.1 (by omega),λ_=>rfl⟩
 refine⟨(Lib.trimS s signC==[]) != true,λk=>?_,?_⟩
 .rw[Hj (by simp[a]),Hj (by simp;omega)];unfold Z0;rw[Gy ⟨by omega,by decide,by decide⟩,By8]
 by_cases g:Lib.trimS s signC=[]
 .have:=(Wj s signC).1 g
  simp only[g];exact⟨λq=>by simp at q,λq=>Ij ⟨hp,by omega,this⟩ q⟩
 refine⟨λ_ q=>g ((Wj s signC).2 q.2.2),λ_=>by simp[g]⟩
def AW8 {n:Nat}(hn:n<=24):G6 .xor .u32 4294967295 (wrap .u32 ((shI .shl .u32 1 ((n:Nat):Int))-1))=((~~~ tV n).toNat:Int):=by
 rw[Af7 hn]
 have:=Bk8 4294967295#32 (tV n)
 rw[show ((4294967295#32:BitVec 32).toNat:Int)=4294967295 from rfl]at this;refine this.trans ?_;rw[show (4294967295#32:BitVec 32)=BitVec.allOnes 32 from rfl,BitVec.allOnes_xor]
def mgx {N n:Nat}(hn:n<=24){x:Fw}(hx:YY x){R:Type}{k:Bool->Option R}:(if ((G6 .and .u32 (G6 .or .u32 x.Clear (G6 .or .u32 x.Set.Plus x.Set.Minus)) (G6 .xor .u32 4294967295 (wrap .u32 ((shI .shl .u32 1 (n:Int))-1)))) != 0) then k true else if ((G6 .and .u32 x.Clear (G6 .or .u32 x.Set.Plus x.Set.Minus)) != 0) then k true else (G2 N x.Set).bind λy=>k (!y))=k (!(mgV n x)):=by
 obtain⟨p,m,c,h1,d,_⟩:=hx;rw[Bb5 h1 d,AW8 hn,d,h1,MJ];show (if ((G6 .and .u32 (G6 .or .u32 (c.toNat:Int) (G6 .or .u32 (p.toNat:Int) (m.toNat:Int))) ((~~~ tV n).toNat:Int)) != 0) then k true else if ((G6 .and .u32 (c.toNat:Int) (G6 .or .u32 (p.toNat:Int) (m.toNat:Int))) != 0) then k true else _)=_;rw[PL,PL,Ha,Ha,ne0,ne0];unfold mgB;by_cases a:(c ||| (p ||| m)) &&& ~~~ tV n=0#32
 .rw[Hj (by simp[a])];by_cases b:c &&& (p ||| m)=0#32
  .rw[Hj (by simp[b]),By8];simp[a,b]
  rw[Gy (by simp[b])];simp[b]
 rw[Gy (by simp[a])];simp[a]
def AK1 {s:Sl Fw}{q:Fw}(d:s.n<N)(hs:s.n<1000000) :∃r,C9 N s (λu=>Y6 N u q)=some r/\(r=true ↔ ∃i,i<s.n/\(s.g i).Text=q.Text):=by
 unfold C9
 have:∃y,E3 N s (λu=>Y6 N u q)=some y/\(0<=y ↔ ∃i,i<s.n/\(s.g i).Text=q.Text):=by
  unfold E3;refine BH (λi x1=>x1=(i:Int)/\∀j,j<i->¬(s.g j).Text=q.Text) s.n _ d ⟨rfl,λj a=>Ij a (by omega)⟩ ?_;rintro c i x1 f ⟨rfl,h⟩ b;by_cases hl:i<s.n
  .refine Ad (Ac (E8 rfl ?_));rw[By6];by_cases hb:(s.g i).Text=q.Text
   .exact ifT (by simp[hb]) ⟨i,rfl,λ_=>⟨i,hl,hb⟩,λ_=>by omega⟩
   refine ifF (by simp[hb]) (b hl _ ⟨Bv,λj a=>?_⟩);by_cases e:j=i
   .subst e;exact hb
   exact h j (by omega)
  refine Bc ⟨-1,rfl,λh=>Ij h (by decide),?_⟩;rintro⟨j,a,hb⟩;exact Ij hb (h j (by omega))
 obtain⟨y,e,hy⟩:=this;exact E8 e ⟨_,rfl,by rw[Lf];exact hy⟩
def AW9 (f:3000000<=N){v:A5}(h1:v.feats.n<=24)(g:v.sounds.n<=256):∃r,R0 N v=some r/\∃z,r=some z/\z.feats=v.feats:=by
 unfold R0;refine E8 (x:=true) rfl (Bu (E8 (x:=v.feats) (Cq) (E8 (x:=v.sounds) (Cq) ?_)));refine Ev (λi x1 x2=>x2=(i:Int)) v.feats.n _ (by omega) rfl ?_;rintro d i x1 x2 j rfl hs;by_cases hl:i<v.feats.n
 .exact Ad (Ac (hs hl _ _ (Bv)))
 refine Bc ?_;refine Bu1 (λi x3 x4 x5=>x5=(i:Int)) v.sounds.n _ (by omega) rfl ?_;rintro a k x3 x4 x5 hk rfl b;by_cases c:k<v.sounds.n
 .exact Ad (Ac (b c _ _ _ (Bv)))
 exact Bc ⟨_,rfl,_,rfl,rfl⟩
def AK2 {n:Nat}{l:Sl Fw}{i:Nat}(b:DM (mkE n l) i=0)(c:i<l.n):(mkE n l i=0->DM (mkE n l) (i+1)=0)/\∀{e:Int},mkE n l i=e->e≠0->e=DM (mkE n l) l.n:=by have a:=Lz b;refine⟨λg=>by rw[a,g],λ{e} g ge=>?_⟩;rw[Fs (i:=i+1) (by rw[a,g];exact ge) l.n c,a,g]
def AX0 (y:3000000<=N){v:A5}(h1:v.feats.n<=24)(h2:v.sounds.n<=256){l:Sl Fw}(hl:∀i,i<l.n->YY (l.g i)):BD N v l=some (Bb6 v.feats.n l):=by
 refine eqR ?_;unfold BD Bb6;obtain⟨_,e,z,rfl,ez⟩:=AW9 y h1 h2;refine E8 e ?_;rw[K8];by_cases d:32<l.n
 .exact Ad ⟨_,rfl,(Gy d).symm⟩
 rw[Hj d];have hf:P7 N z=some v.feats:=by unfold P7 J1 D3;rw[ez,By8,Hj (by decide),Cq];rfl
 refine Bc (E8 hf (Ac ?_));refine BH (λi x=>x=(i:Int)/\DM (mkE v.feats.n l) i=0) l.n _ (by omega) ⟨rfl,rfl⟩ ?_;rintro t i x hi ⟨rfl,u⟩ hs;by_cases c:i<l.n
 .obtain⟨o,a⟩:=AK2 u c;refine Ad (Ac ?_);rw[By6];have f:(l.g i).Text.length<1100000:=by obtain⟨_,_,_,_,_,h⟩:=hl i c;exact h
  obtain⟨b,eb,hb⟩:=mtx (N:=N) f;refine ltG (λk=>eb k) ?_;by_cases ht:mtB (l.g i).Text
  case neg=>exact ifT (hb.2 ht) ⟨_,rfl,a (Hj ht) (by decide)⟩
  refine ifF (λg=>hb.1 g ht) (ltG (λk=>mgx h1 (hl i c)) ?_);by_cases j:mgV v.feats.n (l.g i)=true
  case neg=>exact ifT (by simp[j]) ⟨_,rfl,a ((Gy ht).trans (Hj j)) (by decide)⟩
  refine ifF (by simp[j]) (Ac ?_);obtain⟨r,er,w⟩:=AK1 (N:=N) (s:=l.take i) (q:=l.g i) (by show i<N;omega) (by show i<1000000;omega);refine E8 er ?_;by_cases m:mdup l i
  .exact ifT (w.2 m) ⟨_,rfl,a ((Gy ht).trans ((Gy j).trans (Gy m))) (by decide)⟩
  exact ifF (λg=>m (w.1 g)) (hs c _ ⟨Bv,o ((Gy ht).trans ((Gy j).trans (Hj m)))⟩)
 obtain rfl:i=l.n:=by omega
 refine Bd ?_;unfold G3;rw[Cq];exact⟨_,rfl,u.symm⟩
def rgx {N n:Nat}(f:1000<=N)(hn:n<=24){x:Fw}(hx:YY x){R:Type}{k:Bool->Option R}:(if ((G6 .andNot .u32 x.Clear (wrap .u32 ((shI .shl .u32 1 (n:Int))-1))) != 0) then k true else (N5 N x.Set).bind λy=>if (!y) then k true else if ((G6 .andNot .u32 (G6 .or .u32 x.Set.Plus x.Set.Minus) (wrap .u32 ((shI .shl .u32 1 (n:Int))-1))) != 0) then k true else k ((G6 .and .u32 x.Clear (G6 .or .u32 x.Set.Plus x.Set.Minus)) != 0))=k (!(mgV n x)):=by
 obtain⟨p,m,c,h1,d,_⟩:=hx;rw[Bb5 h1 d,Af7 hn,d,h1,Nw p m f];show (if ((G6 .andNot .u32 (c.toNat:Int) ((tV n).toNat:Int)) != 0) then k true else (some (vB p m)).bind λy=>if (!y) then k true else if ((G6 .andNot .u32 (G6 .or .u32 (p.toNat:Int) (m.toNat:Int)) ((tV n).toNat:Int)) != 0) then k true else k ((G6 .and .u32 (c.toNat:Int) (G6 .or .u32 (p.toNat:Int) (m.toNat:Int))) != 0))=_;rw[PL,Ha,JD,JD,ne0,ne0,ne0,By8];have e:(c ||| (p ||| m)) &&& ~~~ tV n=0#32↔c &&& ~~~ tV n=0#32/\(p ||| m) &&& ~~~ tV n=0#32:=by rw[Ba9,or0]
 unfold mgB;by_cases a:c &&& ~~~ tV n=0#32
 .rw[Hj (by simp[a])];by_cases v:vB p m=true
  .rw[Hj (by simp[v])];by_cases o:(p ||| m) &&& ~~~ tV n=0#32
   .rw[Hj (by simp[o]),decide_eq_true (e.2 ⟨a,o⟩),v];by_cases b:c &&& (p ||| m)=0#32<;>simp[b]
   rw[Gy (by simp[o]),decide_eq_false λg=>o (e.1 g).2];rfl
  rw[Gy (by simp[v])];simp[v]
 rw[Gy (by simp[a]),decide_eq_false λg=>a (e.1 g).1];rfl
def AK3 {α : Type}[Inhabited α](s:Sl α):(Sl.of []:Sl α).app s=s:=by obtain⟨n,g⟩:=s;simp[Sl.of,Sl.app]
def AX1 (hN:3000000<=N){r:D9}(hm:r.Made=true)(h1:r.F.n<=24)(h2:r.S.n<=256){l:Sl Fw}(hl:∀i,i<l.n->YY (l.g i)):Jr N r l=some (Bb6 r.F.n l):=by
 refine eqR ?_;unfold Jr Bb6;refine ifF (by simp[hm]) ?_;by_cases f:32<l.n
 .exact Ad ⟨_,rfl,(Gy f).symm⟩
 rw[Hj f];have w:W8 N r=some r.F:=by unfold W8 N2;rw[hm,By8,Hj (by decide),Gy (by show (0+_)*16<=_/\0+_<=_;omega),AK3]
 have hs:Y8 N r=some r.S:=by unfold Y8 N2;rw[hm,By8,Hj (by decide),Gy (by show (0+_)*24<=_/\0+_<=_;omega),AK3]
 refine Bc (E8 w (Ac ?_));refine BH (λi x=>x=(i:Int)/\DM (mkE r.F.n l) i=0) l.n _ (by omega) ⟨rfl,rfl⟩ ?_;rintro y i x hi ⟨rfl,z⟩ q;by_cases c:i<l.n
 .obtain⟨t,a⟩:=AK2 z c;refine Ad (Ac ?_);rw[By6];have a0:(l.g i).Text.length<1100000:=by obtain⟨_,_,_,_,_,h⟩:=hl i c;exact h
  obtain⟨b,eb,hb⟩:=YX (N:=N) (s:=(l.g i).Text) (by omega) (by omega);refine E8 eb ?_;by_cases ht:mtB (l.g i).Text
  case neg=>exact ifT (by
   cases b
   .rfl
   exact Ij (hb.1 rfl) ht) ⟨_,rfl,a (Hj ht) (by decide)⟩
  refine ifF (by simp[hb.2 ht]) (ltG (λk=>rgx (by omega) h1 (hl i c)) ?_);by_cases m:mgV r.F.n (l.g i)=true
  case neg=>exact ifT (by simp[m]) ⟨_,rfl,a ((Gy ht).trans (Hj m)) (by decide)⟩
  refine ifF (by simp[m]) ?_;refine BH (λk x=>x=(k:Int)/\∀j,j<k->¬(l.g j).Text=(l.g i).Text) i _ (by omega) ⟨rfl,λj hj=>Ij hj (by omega)⟩ ?_;rintro u k x hk ⟨rfl,h⟩ v;by_cases o:k<i
  .refine Ad (Ac ?_);rw[By6];by_cases d:(l.g k).Text=(l.g i).Text
   .exact ifT (by simp[d]) ⟨_,rfl,a ((Gy ht).trans ((Gy m).trans (Gy ⟨k,o,d⟩))) (by decide)⟩
   refine ifF (by simp[d]) (v o _ ⟨Bv,λj hj=>?_⟩);by_cases e:j=k
   .subst e;exact d
   exact h j (by omega)
  have d:¬mdup l i:=fun⟨k',hk',e⟩=>h k' (by omega) e;exact Bc (q c _ ⟨Bv,t ((Gy ht).trans ((Gy m).trans (Hj d)))⟩)
 obtain rfl:i=l.n:=by omega
 refine Bd ?_;unfold Dm N2;rw[hm,w,hs];exact E8 rfl (by rw[K8];exact ifT (by show (0+_)*32<=_/\0+_<=_;omega) ⟨_,rfl,z.symm⟩)
structure Rv (p:A6):Prop where
 feats:∀i,i<p.Feats.n->(p.Feats.g i).length<1100000
 snd:∀i,i<p.Sounds.n->okS (p.Sounds.g i).S/\(p.Sounds.g i).Sp.length<1100000
 sn:p.Sounds.n<1100000
 mrk:∀i,i<p.Marks.n->YY (p.Marks.g i)
 hist:Fr p.Si
 pro:Ju p.Sh
 ent:YT p.Sm
def gV (p:A6):Nat->A5
 |0=>⟨p.Feats,Av8 p.Feats p.Feats.n,Sl.nil,[],[]⟩
 |i+1=>Bm6 (gV p i) (p.Sounds.g i).Sp (p.Sounds.g i).S
def gR (p:A6):Nat->D9
 |0=>⟨true,(Sl.of []:Sl Str).app p.Feats,Sl.nil⟩
 |i+1=>By0 (gR p i) (p.Sounds.g i).Sp (p.Sounds.g i).S
def sdE (p:A6)(i:Nat):Int:=Bv0 (gV p i).feats.n (gV p i).sounds (p.Sounds.g i).Sp (p.Sounds.g i).S
def gV_f (p:A6):∀i,(gV p i).feats=p.Feats
 |0=>rfl
 |i+1=>gV_f p i
def Bk9 {s:Qj}(h:okS s):Bx9 s:=by obtain⟨p,m,rfl⟩:=h;simp only[Bx9,sOf,CJ]
def Bl0 {s:Sl Str}(h:Wi s=0):s.n<=24:=by
 unfold Wi at h;split at h
 .cases h
 omega
def Bv7 {p:A6}(hp:Rv p)(hn:Wi p.Feats=0):∀i,i<=p.Sounds.n->DM (sdE p) i=0->Rel3 (gV p i) (gR p i)
 |0,_,_=>⟨⟨rfl,rfl,rfl,Bl0 hn,BG6 _,λi a=>Ij a (BB5 i)⟩,rfl,by show (Sl.of []:Sl Str).app p.Feats=p.Feats;exact AK3 _,rfl⟩
 |i+1,a,h0=>by
  have h1:=CB h0;have ih:=Bv7 hp hn i (by omega) (by
   by_cases g:DM (sdE p) i=0
   .exact g
   rw[<- Fs g (i+1) (by omega)];exact h0)
  have b:=h1 i (by omega);exact⟨AW0 ih.ok (Bk9 (hp.snd i (by omega)).1) b,ih.made,ih.feats,by show (gR p i).S.push _=(gV p i).sounds.push _;rw[ih.sounds]⟩
def Zk (p:A6):Int:=if Wi p.Feats≠0 then Wi p.Feats else DM (sdE p) p.Sounds.n
def loop6 {A B C D E F R:Type}{body:(A->B->C->D->E->F->Option R)->A->B->C->D->E->F->Option R}(I:Nat->A×B×C×D×E×F->Prop)(n:Nat)(J3:R->Prop){N:Nat}(m:n<N){a:A}{b:B}{c:C}{d:D}{e:E}{f:F}(o:I 0 (a,b,c,d,e,f))
 (j:∀g i x,i<=n->I i x->(i<n->∀y,I (i+1) y->∃r,g y.1 y.2.1 y.2.2.1 y.2.2.2.1 y.2.2.2.2.1 y.2.2.2.2.2=some r/\J3 r)->∃r,body g x.1 x.2.1 x.2.2.1 x.2.2.2.1 x.2.2.2.2.1 x.2.2.2.2.2=some r/\J3 r):∃r,fix6 N body a b c d e f=some r/\J3 r:=
 Av4 I n J3 (λg i x q s h=>j (λa b c d e f=>g (a,b,c,d,e,f)) i x q s λhl y l=>h hl y l) N 0 (a,b,c,d,e,f) (BG6 _) o m
def AK4 {p:A6}{i:Nat}(b:DM (sdE p) i=0)(c:i<p.Sounds.n):(sdE p i=0->DM (sdE p) (i+1)=0)/\(sdE p i≠0->DM (sdE p) p.Sounds.n=sdE p i):=by have a:=Lz b;exact⟨λg=>by rw[a,g],λg=>by rw[Fs (i:=i+1) (by rw[a];exact g) p.Sounds.n c,a]⟩
def pInv (l:3000000<=N){p:A6}(hp:Rv p):Y5 N p=some (if Zk p=0 then some (gV p p.Sounds.n)else none,Zk p):=by
 refine eqR ?_;unfold Y5;have hs:=hp.sn;refine E8 (Bj3 p.Feats (by omega) hp.feats) ?_;by_cases hn:Wi p.Feats=0
 case neg=>have e:Zk p=Wi p.Feats:=Gy hn;rw[Hj hn,K7];exact ifT (by simpa using hn) ⟨_,rfl,by rw[e,Hj hn]⟩
 have e:Zk p=DM (sdE p) p.Sounds.n:=Hj (λg=>g hn);rw[Gy hn,K8];refine ifF (by simpa using hn) ?_;refine loop6 (λi x=>x=((gV p i).feats,(gV p i).number,(gV p i).sounds,(gV p i).symbols,(gV p i).values,(i:Int))/\DM (sdE p) i=0) p.Sounds.n _ (by omega) ⟨rfl,rfl⟩ ?_;rintro f i x j ⟨rfl,b⟩ c;dsimp only;by_cases hl:i<p.Sounds.n
 .obtain⟨d,a⟩:=AK4 b hl;have hR:=Bv7 hp hn i j b;obtain⟨o1,o2⟩:=hp.snd i hl;refine Ad (Ac ?_);rw[By6];refine E8 (iAddS hR.ok _ (Bk9 o1) (by omega) (by omega)) ?_;have e3:Bv0 (gV p i).feats.n (gV p i).sounds (p.Sounds.g i).Sp (p.Sounds.g i).S=sdE p i:=rfl;rw[e3];by_cases g:sdE p i=0
  .refine ifF (by simpa using g) ?_;dsimp only;rw[Gy g,show IntKind.i64.wrap ((i:Int)+1)=((i+1:Nat):Int) from Bv];exact c hl (_,_,_,_,_,_) ⟨rfl,d g⟩
  exact ifT (by simpa using g) ⟨_,rfl,by show (none,sdE p i)=_;rw[e,a g,Hj g]⟩
 obtain rfl:i=p.Sounds.n:=by omega
 exact Bd ⟨_,rfl,by rw[e,b,Gy rfl]⟩
def rInv (r:3000000<=N){p:A6}(hp:Rv p):AG N p=some (if Zk p=0 then some (gR p p.Sounds.n)else none,Zk p):=by
 refine eqR ?_;unfold AG;have hs:=hp.sn;refine E8 (Bj2 p.Feats (by omega) hp.feats) ?_;by_cases hn:Wi p.Feats=0
 case neg=>have e:Zk p=Wi p.Feats:=Gy hn;rw[Hj hn,K7];exact ifT (by simpa using hn) ⟨_,rfl,by rw[e,Hj hn]⟩
 have e:Zk p=DM (sdE p) p.Sounds.n:=Hj (λg=>g hn);rw[Gy hn,K8];refine ifF (by simpa using hn) ?_;refine loop4 (λi a b c x=>(a=(gR p i).Made/\b=(gR p i).F/\c=(gR p i).S/\x=(i:Int))/\DM (sdE p) i=0) p.Sounds.n _ (by omega) ⟨⟨rfl,rfl,rfl,rfl⟩,rfl⟩ ?_;rintro m i a b c x q ⟨⟨rfl,rfl,rfl,rfl⟩,f⟩ j;by_cases hl:i<p.Sounds.n
 .obtain⟨l,d⟩:=AK4 f hl;have hR:=Bv7 hp hn i q f;obtain⟨o1,o2⟩:=hp.snd i hl;refine Ad (Ac ?_);rw[By6];have o:=Bk2 (N:=N) (gR p i) hR.made (by rw[hR.feats];exact hR.ok.feats) (by rw[hR.sounds];exact hR.ok.sounds) (p.Sounds.g i).Sp (BitVec.ofInt 32 (p.Sounds.g i).S.Plus) (BitVec.ofInt 32 (p.Sounds.g i).S.Minus) (by omega) (by omega) (by omega);rw[<- Bk9 o1,hR.feats,hR.sounds]at o;refine E8 o ?_;have e3:AI3 (gV p i).feats.n (gV p i).sounds (p.Sounds.g i).Sp (BitVec.ofInt 32 (p.Sounds.g i).S.Plus) (BitVec.ofInt 32 (p.Sounds.g i).S.Minus)=sdE p i:=rfl;rw[e3];by_cases g:sdE p i=0
  .refine ifF (by simpa using g) ?_;dsimp only;rw[Gy g];exact j hl _ _ _ _ ⟨⟨rfl,rfl,rfl,Bv⟩,l g⟩
  exact ifT (by simpa using g) ⟨_,rfl,by show (none,sdE p i)=_;rw[e,d g,Hj g]⟩
 obtain rfl:i=p.Sounds.n:=by omega
 exact Bd ⟨_,rfl,by rw[e,f,Gy rfl]⟩
noncomputable def JV (N:Nat) (p:A6):Int:=if Zk p≠0 then Zk p else if Bb6 p.Feats.n p.Marks≠0 then Bb6 p.Feats.n p.Marks else Bb4 N p.Si p.Sh p.Sm
def pChk (b:3000000<=N){p:A6}(hp:Rv p):U5 N p=some (JV N p):=by
 refine eqR ?_;unfold U5 FI JV;rw[pInv b hp,By8];by_cases a:Zk p=0
 case neg=>rw[Hj a,K7,Gy a,Gy (by simpa using a)];exact ifT (by simpa using a) ⟨_,rfl,rfl⟩
 rw[Gy a,K8,Hj (by simpa using a),Hj (λg=>g a)];have hn:Wi p.Feats=0:=BA5 λg=>g (by have e:Zk p=Wi p.Feats:=Gy g;rw[<- e];exact a)
 have c:DM (sdE p) p.Sounds.n=0:=by have e:Zk p=DM (sdE p) p.Sounds.n:=Hj (λg=>g hn);rw[<- e];exact a
 have hR:=Bv7 hp hn _ (Bz5 _) c;rw[AX0 b hR.ok.feats hR.ok.sounds hp.mrk,By8,gV_f];by_cases hm:Bb6 p.Feats.n p.Marks=0
 case neg=>rw[Gy (by simpa using hm),Gy hm];exact ifT (by simpa using hm) ⟨_,rfl,rfl⟩
 rw[Hj (by simpa using hm),Hj (λg=>g hm)];exact E8 (x:=(0:Int)) rfl (Bu (E8 (Aw9 b hp.hist hp.pro hp.ent) ⟨_,rfl,rfl⟩))
def rChk (b:3000000<=N){p:A6}(hp:Rv p):Fq N p=some (JV N p):=by
 refine eqR ?_;unfold Fq Dn JV;rw[rInv b hp,By8];by_cases a:Zk p=0
 case neg=>rw[Hj a,K7,Gy a,Gy (by simpa using a)];exact ifT (by simpa using a) ⟨_,rfl,rfl⟩
 rw[Gy a,K8,Hj (by simpa using a),Hj (λg=>g a)];have hn:Wi p.Feats=0:=BA5 λg=>g (by have e:Zk p=Wi p.Feats:=Gy g;rw[<- e];exact a)
 have c:DM (sdE p) p.Sounds.n=0:=by have e:Zk p=DM (sdE p) p.Sounds.n:=Hj (λg=>g hn);rw[<- e];exact a
 have hR:=Bv7 hp hn _ (Bz5 _) c;rw[AX1 b hR.made (by rw[hR.feats];exact hR.ok.feats) (by rw[hR.sounds];exact hR.ok.sounds) hp.mrk,By8,hR.feats,gV_f];by_cases hm:Bb6 p.Feats.n p.Marks=0
 case neg=>rw[Gy hm];exact ifT (by simpa using hm) ⟨_,rfl,rfl⟩
 rw[Hj (λg=>g hm)];exact ifF (by simpa using hm) (E8 (Ag7 b hp.hist hp.pro hp.ent) ⟨_,rfl,rfl⟩)
def NB:∀(d:Nat) (p:Pat),okP d p->∀M,100+d<=M->S3 M p=some p
 |0,p,h,M,_=>h.elim
 |d+1,p,h,0,hM=>by omega
 |d+1,p,h,M+1,hM=>by
  show T2 (S3 M) M p=some p;unfold T2;have hn:=h.1;refine eqR (BH (λi x2=>x2=(i:Int)) p.L.n _ (by omega) rfl ?_);rintro a i x2 b rfl hs;by_cases hl:i<p.L.n
  .refine Ad (Ac ?_);rw[By6];exact E8 (NB d (p.L.g i) (h.2.2 i hl) M (by omega)) (Ac (hs hl _ (Bv)))
  exact Bc (Ac ⟨_,rfl,rfl⟩)
def AK5 (c:3000000<=N){l:Law}(hl:Ag0 l)(hc:chkAll N l):T8 N l=some l:=by obtain⟨_,h1,a,d,b,_⟩:=hc.f hl;have g:=b.1;unfold T8 B7 G9;rw[NB 40 l.Left (AH6 40 _ (by omega) h1 _ (by simp)) N (by omega),NB 40 l.Right (AH6 40 _ (by omega) a _ (by simp)) N (by omega),By8,By8,Cq,By8,Cq];rfl
def Ag8 {h:Si}(a:ML N h){x:Nat}(hx:x<h.Tree.n):(h.On.g x).n<=64/\∀i,i<(h.On.g x).n->0<=(h.On.g x).g i/\(h.On.g x).g i<h.Laws.n:=by
 have c:=a.on;refine⟨?_,λj b=>?_⟩
 .have hl:(HF h x).n<=64:=BO5 λg=>a.long ⟨x,by omega,g⟩;rcases GP a.tree hx with⟨_,e⟩ | ⟨p,hp,e⟩
  .rw[JK (by omega)]at hl;have hl:0+(h.On.g x).n<=64:=hl;omega
  rw[Pj e hp]at hl;have hl:(HF h p).n+(h.On.g x).n<=64:=hl;omega
 have:=a.bad x (by omega)
 constructor
 .exact Int.not_lt.1 λg=>this ⟨j,b,.inl g⟩
 exact Int.not_le.1 λg=>this ⟨j,b,.inr g⟩
def swI (h:Si)(v i:Int):Prop:=∃u k:Nat,v=(u:Int)/\i=(k:Int)/\u<h.Tree.n/\k+1<(h.On.g u).n
def Bl1 (q:3000000<=N){h:Si}(l:Fr h)(a:ML N h){v i:Int}(hs:swI h v i):∃r,S1 N h v i=some r/\r.2=0:=by
 obtain⟨u,k,rfl,rfl,y,hk⟩:=hs;have z:=a.tree.2.1;have s:=a.laws.1;have a0:=a.on;have ho:=(Ag8 a y).1;unfold S1;rw[NA q l,hres_zero.2 a];have eP:wrap .i64 (((h.On.g u).n:Int)-1)=(((h.On.g u).n-1:Nat):Int):=Bu2 (by omega) (by omega);refine E8 rfl (Bu (E8 rfl ?_));rw[By6,By6,eP];have b:((decide (0<=(u:Int)))&&(decide ((u:Int)<(h.Tree.n:Int))))=true:=by simp;omega
 rw[b];refine ifT (λ_ _=>by omega) (Bc ?_);refine E8 (x:=h.Tree) (Cq) ?_;refine Ev (λi (x1:Sl Law) x2=>x2=(i:Int)/\x1.n=i) h.Laws.n _ (by omega) ⟨rfl,rfl⟩ ?_;rintro t i x1 x2 hle ⟨rfl,hx⟩ hs;by_cases c:i<h.Laws.n
 .refine Ad (Ac ?_);rw[By6];exact E8 (AK5 q (l.laws i c) (a.laws.2 i c)) (ifT (by show (x1.n+1)*200<=_/\x1.n+1<=_;omega) (hs c _ _ ⟨Bv,by show x1.n+1=_;omega⟩))
 refine Bc ?_;refine Ev (λv (x3:Sl (Sl Int)) x4=>x4=(v:Int)/\x3.n=v/\∀j,j<v->x3.g j=h.On.g j) h.On.n _ (by omega) ⟨rfl,rfl,λj hj=>Ij hj (by omega)⟩ ?_;rintro m v x3 x4 hv ⟨rfl,hx3,d⟩ o;by_cases f:v<h.On.n
 .have w:=l.len v f;refine Ad (Ac ?_);rw[By6];refine E8 (x:=h.On.g v) (Cq) (ifT (by show (x3.n+1)*24<=_/\x3.n+1<=_;omega) (o f _ _ ⟨Bv,by show x3.n+1=_;omega,λj hjl=>?_⟩));show (if j<x3.n then x3.g j else h.On.g v)=_;by_cases e:j=v
  .subst e;rw[Eb]
  rw[Cq];exact d j (by omega)
 have eK:wrap .i64 ((k:Int)+1)=((k+1:Nat):Int):=Bv;rw[eK,By6,d u (by omega)];exact Bc (Ac (Ac ⟨_,rfl,rfl⟩))
def Bv8 {h:Si}{v place:Int}(a:∀u:Nat,u<h.Tree.n->(h.On.g u).n<=64)(hn:¬swI h v place):(((!((decide (0<=v))&&(decide (v<(h.Tree.n:Int)))))||(decide (place<0)))||(decide ((wrap .i64 (((h.On.g v.toNat).n:Int)-1))<=place)))=true:=by
 by_cases b:0<=v/\v<(h.Tree.n:Int)
 .obtain⟨u,rfl⟩:∃u:Nat,v=(u:Int):=⟨v.toNat,by omega⟩;have c:=a u (by omega);rw[By6,show wrap .i64 (((h.On.g u).n:Int)-1)=((h.On.g u).n:Int)-1 from Qv];by_cases hp:place<0
  .simp[hp]
  have:((h.On.g u).n:Int)-1<=place:=by apply BA5;intro hc;exact hn ⟨u,place.toNat,rfl,by omega,by omega,by omega⟩
  simp[this]
 have:((decide (0<=v))&&(decide (v<(h.Tree.n:Int))))=false:=by rw[BM4,decide_eq_false_iff_not,decide_eq_false_iff_not];omega
 rw[this];rfl
def Bb7 {h:Si}{v place:Int}(a:h.On.n=h.Tree.n):(!((decide (0<=v))&&(decide (v<(h.Tree.n:Int)))))=false->((decide (place<0))=false->((0:Int)<=v/\v<(h.On.n:Int))):=λg _=>by simp at g;omega
def Bv9 (b:3000000<=N){h:Si}(c:Fr h)(a:ML N h){v i:Int}(hs:¬swI h v i):∃r,S1 N h v i=some r/\r.2=3:=by unfold S1;rw[NA b c,hres_zero.2 a];exact E8 rfl (Bu (E8 rfl (ifT (Bb7 a.on) (ifT (Bv8 (λu d=>(Ag8 a d).1) hs) ⟨_,rfl,rfl⟩))))
def AX2 (s:3000000<=N){h:Si}(d:Fr h)(a:ML N h):∃g,GL N h=some g/\(g.On.n=h.On.n/\∀v,v<h.On.n->g.On.g v=h.On.g v):=by
 have o:=d.on;have q:=a.tree.2.1;have f:=a.laws.1;unfold GL;refine Ac (Ac ?_);refine Ev (λi x (X:Sl (Sl Int))=>x=(i:Int)/\X.n=i/\∀v,v<i->X.g v=h.On.g v) h.On.n _ (by omega) ⟨rfl,rfl,λj c=>Ij c (by omega)⟩ ?_;rintro l i x X hle ⟨rfl,hx,c⟩ hs;by_cases b:i<h.On.n
 .have m:=d.len i b;refine Ad (Ac ?_);rw[By6];refine Ac (Ac (hs b _ _ ⟨Bv,by show X.n+1=_;omega,λv r=>?_⟩));show (if v<X.n then X.g v else h.On.g i)=_;by_cases e:v=i
  .subst e;rw[Eb]
  rw[Cq];exact c v (by omega)
 exact Bc ⟨_,rfl,by show X.n=_;omega,λv r=>c v (by omega)⟩
def rsw (f:3000000<=N){h:Si}(j:Fr h)(a:ML N h)(v i:Int):∃r,GM N h v i=some r/\((swI h v i/\r.2=0) \/ (¬swI h v i/\r.2=3)):=by
 have l:=a.on;unfold GM;rw[Rs f j,hres_zero.2 a];refine E8 rfl (Bu (E8 rfl (ifT (Bb7 a.on) ?_)));by_cases hs:swI h v i
 case neg=>exact ifT (Bv8 (λu c=>(Ag8 a c).1) hs) ⟨_,rfl,.inr ⟨hs,rfl⟩⟩
 have d:=hs;obtain⟨u,k,rfl,rfl,c,hk⟩:=hs;have m:=(Ag8 a c).1;obtain⟨g,g1,g2,g3⟩:=AX2 f j a;have eP:wrap .i64 (((h.On.g u).n:Int)-1)=(((h.On.g u).n-1:Nat):Int):=Bu2 (by omega) (by omega);have eK:wrap .i64 ((k:Int)+1)=((k+1:Nat):Int):=Bv;have b:((decide (0<=(u:Int)))&&(decide ((u:Int)<(h.Tree.n:Int))))=true:=by simp;omega
 rw[b,By6,By6,eP,eK];refine Bc (E8 g1 ?_);rw[g3 u (by omega)];exact Ac (Ac ⟨_,rfl,.inl ⟨d,rfl⟩⟩)
def WB (p:A6)(e l:Int):Prop:=0<=e/\e<(p.Sm.n:Int)/\0<=l/\l<((p.Sm.g e.toNat).Sn.n:Int)
def Rw {p:A6}{e l:Int}:∃b,CT N p e l=some b/\(b=true↔WB p e l):=by
 refine⟨_,Gy (λa b _=>?_),?_⟩
 .simp at a b;exact⟨a,b⟩
 simp only[By5,Lf];exact⟨fun⟨⟨⟨a,b⟩,c⟩,d⟩=>⟨a,b,c,d⟩,fun⟨a,b,c,d⟩=>⟨⟨⟨a,b⟩,c⟩,d⟩⟩
def swB (p:A6)(x:FR):Prop:=swI p.Si x.Node x.Place/\WB p x.So x.Sf
def Rx (c:3000000<=N){p:A6}(d:Fr p.Si)(a:ML N p.Si)(x:FR):∃r,T5 N p x=some r/\((swB p x/\r.2=0) \/ (¬swB p x/\r.2=3)):=by
 unfold T5;by_cases hs:swI p.Si x.Node x.Place
 .obtain⟨r,r1,r2⟩:=Bl1 c d a hs;refine E8 r1 (ltX (ifF (by rw[r2];decide) ?_));obtain⟨b,b1,b2⟩:=Rw (N:=N) (p:=p) (e:=x.So) (l:=x.Sf);refine E8 b1 ?_;by_cases hb:WB p x.So x.Sf
  .exact ifF (by simp[b2.2 hb]) ⟨_,rfl,.inl ⟨⟨hs,hb⟩,rfl⟩⟩
  exact ifT (by
   cases b
   .rfl
   exact Ij (b2.1 rfl) hb) ⟨_,rfl,.inr ⟨λg=>hb g.2,rfl⟩⟩
 obtain⟨r,r1,r2⟩:=Bv9 c d a hs;exact E8 r1 (ltX (ifT (by rw[r2];decide) (ifT rfl ⟨_,rfl,.inr ⟨λg=>hs g.1,rfl⟩⟩)))
def Ax0 (N:Nat)(a:A6)(y2:Sl Int×Int)(e:B3)(slf:Str->Option (Str×Int))(x2:Str):Option (Str×Int):= (CT N a e.So e.Sf).bind λd=>if (!d) then some ([],3) else Ih (K6 eqI e.Kind ([(1,0),(2,1)]:List (Int×Int))) (if (((((0:Int)<=e.So/\e.So<(a.Sm.n:Int))/\((0:Int)<=e.Sf/\e.Sf<(y2.1.n:Int)))/\e.Sf.toNat<y2.1.n)/\((0:Int)<=(y2.1.g e.Sf.toNat)/\(y2.1.g e.Sf.toNat)<(a.Si.Tree.n:Int)))then (H8 N e.Cost 10).bind λf=>(H9 N (Sl.of [[98,97,100],(a.Sm.g e.So.toNat).Gloss,(a.Si.Tree.g (y2.1.g e.Sf.toNat).toNat).Name,[111,116,104,101,114],f]:Sl Str) [32]).bind λb=>if (x2++(b++[10])).length<=140737488355328 then slf (x2++(b++[10])) else none else none) λv6=>if ((0:Int)<=v6/\v6<2)then if (((((0:Int)<=e.So/\e.So<(a.Sm.n:Int))/\((0:Int)<=e.Sf/\e.Sf<(y2.1.n:Int)))/\e.Sf.toNat<y2.1.n)/\((0:Int)<=(y2.1.g e.Sf.toNat)/\(y2.1.g e.Sf.toNat)<(a.Si.Tree.n:Int)))then (H8 N e.Cost 10).bind λi=>(H9 N (Sl.of [[98,97,100],(a.Sm.g e.So.toNat).Gloss,(a.Si.Tree.g (y2.1.g e.Sf.toNat).toNat).Name,[([111,116,104,101,114]:Str),([110,111,110,101]:Str)].getD v6.toNat [],i]:Sl Str) [32]).bind λc=>if (x2++(c++[10])).length<=140737488355328 then slf (x2++(c++[10])) else none else none else none
def Ug (N:Nat)(a:A6)(y2:Sl Int×Int)(e:FR)(slf:Str->Option (Str×Int))(x4:Str):Option (Str×Int):= (T5 N a e).bind λb=>if (b.2 != 0) then some ([],b.2) else if ((0:Int)<=e.Node/\e.Node<(a.Si.On.n:Int))then if ((((((((((0:Int)<=e.Node/\e.Node<(a.Si.Tree.n:Int))/\((0:Int)<=e.Place/\e.Place<((a.Si.On.g e.Node.toNat).n:Int)))/\((0:Int)<=((a.Si.On.g e.Node.toNat).g e.Place.toNat)/\((a.Si.On.g e.Node.toNat).g e.Place.toNat)<(a.Si.Laws.n:Int)))/\((0:Int)<=(wrap .i64 (e.Place+1))/\(wrap .i64 (e.Place+1))<((a.Si.On.g e.Node.toNat).n:Int)))/\((0:Int)<=((a.Si.On.g e.Node.toNat).g (wrap .i64 (e.Place+1)).toNat)/\((a.Si.On.g e.Node.toNat).g (wrap .i64 (e.Place+1)).toNat)<(a.Si.Laws.n:Int)))/\((0:Int)<=e.So/\e.So<(a.Sm.n:Int)))/\((0:Int)<=e.Sf/\e.Sf<(y2.1.n:Int)))/\e.Sf.toNat<y2.1.n)/\((0:Int)<=(y2.1.g e.Sf.toNat)/\(y2.1.g e.Sf.toNat)<(a.Si.Tree.n:Int)))then (H9 N (Sl.of [[115,119,97,112],(a.Si.Tree.g e.Node.toNat).Name,(a.Si.Laws.g ((a.Si.On.g e.Node.toNat).g e.Place.toNat).toNat).Name,(a.Si.Laws.g ((a.Si.On.g e.Node.toNat).g (wrap .i64 (e.Place+1)).toNat).toNat).Name,(a.Sm.g e.So.toNat).Gloss,(a.Si.Tree.g (y2.1.g e.Sf.toNat).toNat).Name]:Sl Str) [32]).bind λc=>if (x4++(c++[10])).length<=140737488355328 then slf (x4++(c++[10])) else none else none else none
def tx1 (N:Nat)(a:V7)(T:Option (Str×Int)):Option (Str×Int):= R6 N (λb (x1:Int)=>if (decide (x1<(a.Bad.n:Int))) then if ((0:Int)<=x1/\x1<(a.Bad.n:Int))then Ih (K6 eqI (a.Bad.g x1.toNat).Kind ([(1,0),(2,1)]:List (Int×Int))) (some ([],2)) λv3=>b (wrap .i64 (x1+1)) else none else T) 0
def tx2 (N:Nat)(b:A6)(y2:Sl Int×Int)(l:Sl B3)(T:Str->Option (Str×Int)):Option (Str×Int):= Co N (λa (x2:Str) (x3:Int)=>if (decide (x3<(l.n:Int))) then if ((0:Int)<=x3/\x3<(l.n:Int))then Ax0 N b y2 (l.g x3.toNat) (λs=>a s (wrap .i64 (x3+1))) x2 else none else T x2) [] 0
def tx3 (N:Nat)(b:A6)(y2:Sl Int×Int)(l:Sl FR)(x2:Str):Option (Str×Int):= Co N (λa (x4:Str) (x5:Int)=>if (decide (x5<(l.n:Int))) then if ((0:Int)<=x5/\x5<(l.n:Int))then Ug N b y2 (l.g x5.toNat) (λs=>a s (wrap .i64 (x5+1))) x4 else none else if (decide (65536<(x4.length:Int))) then some ([],11)else some (x4,0)) x2 0
def Ax1 (N:Nat)(a:A6)(b:V7):Cg N a b=(U5 N a).bind λy1=>if (y1 != 0) then some ([],y1)else
 tx1 N b ((O8 N a.Si.Tree).bind λy2=>tx2 N a y2 b.Bad (λx2=>tx3 N a y2 b.Sj x2)):=rfl
def txt (L:List Str):Str:=L.flatMap λl=>l++[10]
def An8 (L:List Str)(l:Str):txt (L++[l])=txt L++(l++[10]):=by simp[txt]
def Ag9 {B:Nat}:∀{L:List Str},(∀l∈L,l.length<=B)->(txt L).length<=L.length*(B+1)
 |[],_=>BG6 _
 |l::L,h=>by have e:txt (l::L)=(l++[10])++txt L:=rfl;have h1:=Ag9 (B:=B) (L:=L) λx hx=>h x (by simp[hx]);have a:=h l (by simp);rw[e,Bz6,Bz6,BC3,BA2,BL3];omega
def Wq (x y:Str)(r:List Str)(s:Str):Lib.join (x::y::r) s=x++(s++Lib.join (y::r) s):=by rw[Lib.join_cons,Lib.join_cons];simp[Lib.joinTail]
def Ah0:∀{x:Str}{r:List Str},(∀w∈x::r,w.length<=24)->(Lib.join (x::r) [32]).length<=25*(r.length+1)
 |x,[],h=>by
  rw[BS0]
  have:=h x (by simp)
  simp;omega
 |x,y::r,h=>by rw[Wq];have hx:=h x (by simp);have h1:=Ah0 (x:=y) (r:=r) λw hw=>h w (by simp at hw⊢;exact .inr hw);simp at h1⊢;omega
def Uh:∀(k u:Nat),u<10 ^ k->1<=k->(Lib.decDigits u).length<=k
 |0,u,_,h=>Ij h (by omega)
 |k+1,u,h,_=>by
  rw[Lib.decDigits];by_cases b:u<10
  .rw[dif_pos b];simp
  rw[dif_neg b];have a:1<=k:=by
   rcases k with _|k
   .exact Ij h (by omega)
   omega
  have h1:=Uh k (u / 10) (by rw[BS1]at h;omega) a;rw[Bz6,BC3];omega
def AK6 {n:Int}(h : -9223372036854775808<=n/\n<=9223372036854775807):(Lib.itoa n).length<=24:=by
 unfold Lib.itoa;split
 .have:=Uh 20 n.natAbs (by omega) (by omega)
  simp;omega
 have:=Uh 20 n.toNat (by omega) (by omega)
 omega
def wB (p:A6)(lv:Sl Int)(e:B3):List Str:=[[98,97,100],(p.Sm.g e.So.toNat).Gloss,(p.Si.Tree.g (lv.g e.Sf.toNat).toNat).Name,if e.Kind=1 then [111,116,104,101,114]else [110,111,110,101],Lib.itoa e.Cost]
def wS (p:A6)(lv:Sl Int)(x:FR):List Str:=[[115,119,97,112],(p.Si.Tree.g x.Node.toNat).Name,(p.Si.Laws.g ((p.Si.On.g x.Node.toNat).g x.Place.toNat).toNat).Name,(p.Si.Laws.g ((p.Si.On.g x.Node.toNat).g (x.Place+1).toNat).toNat).Name,(p.Sm.g x.So.toNat).Gloss,(p.Si.Tree.g (lv.g x.Sf.toNat).toNat).Name]
abbrev ln (l:List Str):Str:=Lib.join l [32]
noncomputable abbrev lvP (p:A6):Sl Int:=V6 p.Si.Tree p.Si.Tree.n
structure tOk (N:Nat) (p:A6):Prop where
 inp:Fr p.Si
 hist:ML N p.Si
 en:p.Sm.n<=256
 fn:∀i,i<p.Sm.n->(p.Sm.g i).Sn.n=(lvP p).n
 gl:∀i,i<p.Sm.n->(p.Sm.g i).Gloss.length<=24
 nm:∀v,v<p.Si.Tree.n->(p.Si.Tree.g v).Name.length<=24
 lw:∀v,v<p.Si.Laws.n->(p.Si.Laws.g v).Name.length<=24
def An9 {s:Str}(h:Fx s=true):s.length<=24:=by unfold Fx at h;simp only[By5,Lf]at h;exact h.1.2
def r8_le {s:Str}(d:s.length<N)(hs:s.length<1000000000)(h:Z4 N s=some true):s.length<=24:=by
 have:∃b,Z4 N s=some b/\(b=true->s.length<=24):=by
  unfold Z4;refine BH (λi x1=>x1=(i:Int)) s.length _ d rfl ?_;rintro c i x1 f rfl a;by_cases hl:i<s.length
  .refine Ad (Ac ?_);by_cases hb:(!(SV (D7 s (i:Int))))=true
   .exact ifT hb ⟨false,rfl,λg=>by cases g⟩
   exact ifF hb (a hl _ (Bv))
  exact Bc ⟨_,rfl,λg=>by simp at g;omega⟩
 obtain⟨b,e,hb⟩:=this;rw[h]at e;exact hb (BE7 e).symm
def Bb8 (c:3000000<=N){p:A6}(hp:Rv p)(h:JV N p=0):tOk N p:=by
 have hc:Bb4 N p.Si p.Sh p.Sm=0:=by
  unfold JV at h;split at h
  .exact Ij h (by assumption)
  split at h
  .exact Ij h (by assumption)
  exact h
 have ha:=(Bk6 (by omega) hp.pro hp.ent).1 hc;refine⟨hp.hist,ha.hist,ha.n,ha.fn,λi b=>An9 (ha.nm i b),λv a=>An9 (ha.hist.tree.2.2 v a).2.2.1,λv a=>?_⟩;have hl:=hp.hist.laws v a;exact r8_le (by have:=hl.2.1;omega) (by have:=hl.2.1;omega) (ha.hist.laws.2 v a).1
def MO {α : Type}(s:Sl α):s.toList.length=s.n:=by simp[Sl.toList]
def AK7 {α : Type}{s:Sl α}{i:Nat}(h:i<s.n):s.toList.take (i+1)=s.toList.take i++[s.g i]:=by rw[List.take_add_one];congr 1;simp[Sl.toList,h]
def RA {p:A6}{N:Nat}(hp:tOk N p){e l:Int}(h:WB p e l):l.toNat<(lvP p).n/\∃v:Nat,v<p.Si.Tree.n/\(lvP p).g l.toNat=(v:Int):=by
 obtain⟨h1,a,b,c⟩:=h;have d:=hp.fn e.toNat (by omega);have hl:l.toNat<(lvP p).n:=by omega
 exact⟨hl,Ag4 p.Si.Tree p.Si.Tree.n _ hl⟩
def Bl2 {ws l:List Str}(e:(List.range ws.length).map (Sl.of ws:Sl Str).g=l)(h1:ws.length<=10)(a:(ln l).length<=150):H9 N (Sl.of ws:Sl Str) [32]=some (ln l):=by unfold H9;show (if ws.length<=_/\(Lib.join ((List.range ws.length).map (Sl.of ws:Sl Str).g) [32]).length<=_ then some (Lib.join ((List.range ws.length).map (Sl.of ws:Sl Str).g) [32])else none)=_;rw[e,Gy ⟨by omega,by show (ln l).length<=_;omega⟩]
abbrev cOk (e:B3):Prop:=-9223372036854775808<=e.Cost/\e.Cost<=9223372036854775807
def AK8 {p:A6}(hp:tOk N p){e:B3}(h:WB p e.So e.Sf)(hc:cOk e):(ln (wB p (lvP p) e)).length<=150:=by
 obtain⟨_,v,a,ev⟩:=RA hp h;refine BD9 (Ah0 ?_) (by simp);rw[ev,By6];intro w hw;simp only[BC1,BO4,or_false]at hw;rcases hw with rfl|rfl|rfl|rfl|rfl
 .decide
 .exact hp.gl _ (by have:=h.1;have:=h.2.1;omega)
 .exact hp.nm v a
 .split<;>decide
 exact AK6 hc
def Bb9 {p:A6}(hp:tOk N p){x:FR}(h:swB p x):(ln (wS p (lvP p) x)).length<=150:=by
 obtain⟨⟨u,k,e1,e2,a,hk⟩,hb⟩:=h;obtain⟨_,v,c,ev⟩:=RA hp hb;have b:=(Ag8 hp.hist a).2;refine BD9 (Ah0 ?_) (by simp);rw[ev,By6,e1,e2,show ((k:Int)+1).toNat=k+1 by omega,By6,By6];have r1:=b k (by omega);have r2:=b (k+1) hk;intro w hw;simp only[BC1,BO4,or_false]at hw;rcases hw with rfl|rfl|rfl|rfl|rfl|rfl
 .decide
 .exact hp.nm u a
 .exact hp.lw _ (by omega)
 .exact hp.lw _ (by omega)
 .exact hp.gl _ (by have:=hb.1;have:=hb.2.1;omega)
 exact hp.nm v c
def kOk (e:B3):Prop:=e.Kind=1 \/ e.Kind=2
def AK9 {p:A6}(hp:tOk N p){e:B3}(hk:kOk e)(h:WB p e.So e.Sf)(hc:cOk e){slf:Str->Option (Str×Int)}{x:Str}(hx:x.length<=1000000):Ax0 N p (lvP p,0) e slf x=slf (x++(ln (wB p (lvP p) e)++[10])):=by
 have hl:=AK8 hp h hc;obtain⟨f,v,i,ev⟩:=RA hp h;obtain⟨b,b1,b2⟩:=Rw (N:=N) (p:=p) (e:=e.So) (l:=e.Sf);unfold Ax0;rw[b1,By8,Hj (by rw[b2.2 h];decide)];dsimp only;have a:(((((0:Int)<=e.So/\e.So<(p.Sm.n:Int))/\((0:Int)<=e.Sf/\e.Sf<((lvP p).n:Int)))/\e.Sf.toNat<(lvP p).n)/\((0:Int)<=((lvP p).g e.Sf.toNat)/\((lvP p).g e.Sf.toNat)<(p.Si.Tree.n:Int))):=by rw[ev];obtain⟨h1,j,m,o⟩:=h;omega
 have d:H8 N e.Cost 10=some (Lib.itoa e.Cost):=by unfold H8;rw[Gy ⟨hc,rfl⟩]
 have c:(x++(ln (wB p (lvP p) e)++[10])).length<=140737488355328:=by rw[Bz6,Bz6,BC3];omega
 rcases hk with hk|hk
 .have e0:wB p (lvP p) e=[[98,97,100],(p.Sm.g e.So.toNat).Gloss,(p.Si.Tree.g ((lvP p).g e.Sf.toNat).toNat).Name,[111,116,104,101,114],Lib.itoa e.Cost]:=by unfold wB;rw[Gy hk]
  rw[hk];show (if (0:Int)<=0/\(0:Int)<2 then _ else none)=_;rw[Gy (by decide),Gy a,d,By8,Bl2 (l:=wB p (lvP p) e) (by rw[e0];rfl) (by simp) hl,By8];exact Gy c
 have e0:wB p (lvP p) e=[[98,97,100],(p.Sm.g e.So.toNat).Gloss,(p.Si.Tree.g ((lvP p).g e.Sf.toNat).toNat).Name,[110,111,110,101],Lib.itoa e.Cost]:=by unfold wB;rw[Eb]
 rw[hk];show (if (0:Int)<=1/\(1:Int)<2 then _ else none)=_;rw[Gy (by decide),Gy a,d,By8,Bl2 (l:=wB p (lvP p) e) (by rw[e0];rfl) (by simp) hl,By8];exact Gy c
def AX3 {p:A6}{e:B3}(h:¬WB p e.So e.Sf){y:Sl Int×Int}{slf:Str->Option (Str×Int)}{x:Str}:Ax0 N p y e slf x=some ([],3):=by
 obtain⟨b,b1,b2⟩:=Rw (N:=N) (p:=p) (e:=e.So) (l:=e.Sf);unfold Ax0;rw[b1,By8,Gy];cases b
 .rfl
 exact Ij (b2.1 rfl) h
def Ax2 (b:3000000<=N){p:A6}(hp:tOk N p){e:FR}(h:swB p e){slf:Str->Option (Str×Int)}{x:Str}(hx:x.length<=1000000):Ug N p (lvP p,0) e slf x=slf (x++(ln (wS p (lvP p) e)++[10])):=by
 have hl:=Bb9 hp h;obtain⟨r,r1,r2⟩:=Rx b hp.inp hp.hist e;have r2:r.2=0:=r2.elim (λg=>g.2) (λg=>Ij h g.1);obtain⟨⟨u,k,e1,e2,c,hk⟩,hb⟩:=h;obtain⟨d,v,j,ev⟩:=RA hp hb;obtain⟨f,a⟩:=Ag8 hp.hist c;have i:=hp.hist.on;have q1:=a k (by omega);have q2:=a (k+1) hk;unfold Ug;rw[r1,By8,Hj (by rw[r2];decide)];have eW:wS p (lvP p) e=[[115,119,97,112],(p.Si.Tree.g u).Name,(p.Si.Laws.g ((p.Si.On.g u).g k).toNat).Name,(p.Si.Laws.g ((p.Si.On.g u).g (k+1)).toNat).Name,(p.Sm.g e.So.toNat).Gloss,(p.Si.Tree.g ((lvP p).g e.Sf.toNat).toNat).Name]:=by unfold wS;rw[e1,e2,show ((k:Int)+1).toNat=k+1 by omega,By6,By6]
 dsimp only;rw[e1,e2,show wrap .i64 ((k:Int)+1)=((k+1:Nat):Int) from Bv];simp only[By6];obtain⟨h1,m,n,o⟩:=hb;rw[Cq,Gy (by rw[ev];omega),Bl2 (l:=wS p (lvP p) e) (by rw[eW];rfl) (by simp) hl,By8];exact Gy (by rw[Bz6,Bz6,BC3];omega)
def AL0 (a:3000000<=N){p:A6}(hp:tOk N p){e:FR}(h:¬swB p e){y:Sl Int×Int}{slf:Str->Option (Str×Int)}{x:Str}:Ug N p y e slf x=some ([],3):=by obtain⟨r,r1,r2⟩:=Rx a hp.inp hp.hist e;have r2:r.2=3:=r2.elim (λg=>Ij g.1 h) (λg=>g.2);unfold Ug;rw[r1,By8,Gy (by rw[r2];decide),r2]
noncomputable def tL (p:A6) (c:V7):List Str:=c.Bad.toList.map (λe=>ln (wB p (lvP p) e))++c.Sj.toList.map (λx=>ln (wS p (lvP p) x))
open Classical in
noncomputable def SX (p:A6) (c:V7):Str×Int:=if ∀i,i<c.Bad.n->kOk (c.Bad.g i)then if (∀i,i<c.Bad.n->WB p (c.Bad.g i).So (c.Bad.g i).Sf)/\∀i,i<c.Sj.n->swB p (c.Sj.g i)then if 65536<(txt (tL p c)).length then ([],11)else (txt (tL p c),0) else ([],3) else ([],2)
def AL1 {p:A6}{c:V7}{i:Nat}(a:i<c.Bad.n)(h:¬kOk (c.Bad.g i)):([],2)=SX p c:=(Hj λg=>h (g i a)).symm
def Ao0 {p:A6}{c:V7}(hk:∀i,i<c.Bad.n->kOk (c.Bad.g i)){i:Nat}(a:i<c.Bad.n)(h:¬WB p (c.Bad.g i).So (c.Bad.g i).Sf):([],3)=SX p c:=((Gy hk).trans (Hj λg=>h (g.1 i a))).symm
def Wr {p:A6}{c:V7}(hk:∀i,i<c.Bad.n->kOk (c.Bad.g i)){i:Nat}(a:i<c.Sj.n)(h:¬swB p (c.Sj.g i)):([],3)=SX p c:=((Gy hk).trans (Hj λg=>h (g.2 i a))).symm
def Ao1 {p:A6}{c:V7}(hk:∀i,i<c.Bad.n->kOk (c.Bad.g i))(hb:∀i,i<c.Bad.n->WB p (c.Bad.g i).So (c.Bad.g i).Sf)(hs:∀i,i<c.Sj.n->swB p (c.Sj.g i)):SX p c=if 65536<(txt (tL p c)).length then ([],11)else (txt (tL p c),0):=(Gy hk).trans (Gy ⟨hb,hs⟩)
noncomputable def tB (p:A6) (c:V7) (j:Nat):List Str:=(c.Bad.toList.take j).map λe=>ln (wB p (lvP p) e)
noncomputable def tS (p:A6) (c:V7) (j:Nat):List Str:=c.Bad.toList.map (λe=>ln (wB p (lvP p) e))++(c.Sj.toList.take j).map λx=>ln (wS p (lvP p) x)
def Bw0 {p:A6}{c:V7}(hp:tOk N p)(hc:∀i,i<c.Bad.n->cOk (c.Bad.g i)){j:Nat}(d:j<=c.Bad.n)(hb:∀i,i<j->WB p (c.Bad.g i).So (c.Bad.g i).Sf)(hn:c.Bad.n<=3000):(txt (tB p c j)).length<=900000:=by
 have:=Ag9 (B:=150) (L:=tB p c j) λl hl=>by
  obtain⟨e,a,rfl⟩:=BE0.1 hl;obtain⟨i,b,rfl⟩:=BE2 a;rw[BE3,MO]at b;rw[List.getElem_take];have eg:c.Bad.toList[i]'(by rw[MO];omega)=c.Bad.g i:=by simp[Sl.toList]
  rw[eg];exact AK8 hp (hb i (by omega)) (hc i (by omega))
 unfold tB at this⊢;rw[BD2,BE3,MO]at this;have f:min j c.Bad.n<=3000:=by omega
 omega
def Bw1 {p:A6}{c:V7}(hp:tOk N p)(hc:∀i,i<c.Bad.n->cOk (c.Bad.g i)){j:Nat}(f:j<=c.Sj.n)(hb:∀i,i<c.Bad.n->WB p (c.Bad.g i).So (c.Bad.g i).Sf)(hs:∀i,i<j->swB p (c.Sj.g i))(hn:c.Bad.n<=3000)(d:c.Sj.n<=300):(txt (tS p c j)).length<=900000:=by
 have:=Ag9 (B:=150) (L:=tS p c j) λl hl=>by
  rcases List.mem_append.1 hl with hl|hl
  .obtain⟨e,b,rfl⟩:=BE0.1 hl;obtain⟨i,a,rfl⟩:=BE0.1 b;have a:=BC0.1 a;exact AK8 hp (hb i a) (hc i a)
  obtain⟨e,b,rfl⟩:=BE0.1 hl;obtain⟨i,a,rfl⟩:=BE2 b;rw[BE3,MO]at a;rw[List.getElem_take];have eg:c.Sj.toList[i]'(by rw[MO];omega)=c.Sj.g i:=by simp[Sl.toList]
  rw[eg];exact Bb9 hp (hs i (by omega))
 unfold tS at this⊢;rw[Bz6,BD2,BD2,BE3,MO,MO]at this;have m:c.Bad.n+min j c.Sj.n<=3300:=by omega
 omega
def AL2 {p:A6}{c:V7}{j:Nat}(a:j<c.Bad.n):txt (tB p c (j+1))=txt (tB p c j)++(ln (wB p (lvP p) (c.Bad.g j))++[10]):=by unfold tB;rw[AK7 a,BK3];exact An8 _ _
def AL3 {p:A6}{c:V7}{j:Nat}(a:j<c.Sj.n):txt (tS p c (j+1))=txt (tS p c j)++(ln (wS p (lvP p) (c.Sj.g j))++[10]):=by unfold tS;rw[AK7 a,BK3,<- BI8];exact An8 _ _
def tS_0 {p:A6}{c:V7}:tB p c c.Bad.n=tS p c 0:=by unfold tB tS;rw[BL9 (by rw[MO];omega),BM3,BE9,BC4]
def Bc0 {p:A6}{c:V7}:tS p c c.Sj.n=tL p c:=by unfold tS tL;rw[BL9 (by rw[MO];omega)]
def ko_2 {k:Int}:K6 eqI k ([(1,0),(2,1)]:List (Int×Int))=if k=1 then some 0 else if k=2 then some 1 else none:=by
 by_cases h1:k=1
 .subst h1;rfl
 by_cases a:k=2
 .subst a;rfl
 rw[Hj h1,Hj a];simp[K6,eqI,h1,a]
def pText (f:3000000<=N){p:A6}(hp:Rv p){c:V7}(hc:∀i,i<c.Bad.n->cOk (c.Bad.g i))(hn:c.Bad.n<=3000)(s:c.Sj.n<=300):Cg N p c=some (if JV N p≠0 then ([],JV N p)else SX p c):=by
 refine eqR ?_;rw[Ax1,pChk f hp,By8];by_cases l:JV N p=0
 case neg=>exact ifT (by simpa using l) ⟨_,rfl,(Gy l).symm⟩
 have e9:(if JV N p≠0 then (([],JV N p):Str×Int)else SX p c)=SX p c:=Hj (λg=>g l);rw[e9];refine ifF (by simpa using l) ?_;have ht:=Bb8 f hp l;unfold tx1;refine BH (λi x=>x=(i:Int)/\∀k,k<i->kOk (c.Bad.g k)) c.Bad.n _ (by omega) ⟨rfl,λk hk=>Ij hk (BB5 k)⟩ ?_;rintro y i x hi ⟨rfl,hk⟩ hs;by_cases hl:i<c.Bad.n
 .refine Ad (Ac ?_);rw[By6,ko_2,Bv];have go:kOk (c.Bad.g i)->∀k,k<i+1->kOk (c.Bad.g k):=λg k m=>by
   by_cases e:k=i
   .subst e;exact g
   exact hk k (by omega)
  by_cases h1:(c.Bad.g i).Kind=1
  .rw[Gy h1];exact hs hl _ ⟨rfl,go (.inl h1)⟩
  rw[Hj h1];by_cases q:(c.Bad.g i).Kind=2
  .rw[Gy q];exact hs hl _ ⟨rfl,go (.inr q)⟩
  rw[Hj q];exact⟨_,rfl,AL1 hl λg=>g.elim h1 q⟩
 obtain rfl:i=c.Bad.n:=by omega
 refine Bd (E8 (MN f hp.hist.tree ht.hist.tree).1 ?_);clear hs;unfold tx2;refine Ev (λj (x2:Str) x3=>x3=(j:Int)/\x2=txt (tB p c j)/\∀k,k<j->WB p (c.Bad.g k).So (c.Bad.g k).Sf) c.Bad.n _ (by omega) ⟨rfl,rfl,λk hk=>Ij hk (BB5 k)⟩ ?_;rintro t j x2 x3 hj ⟨rfl,rfl,hb⟩ o;by_cases a:j<c.Bad.n
 .refine Ad (Ac ?_);rw[By6];show ∃r,Ax0 N p (lvP p,0) (c.Bad.g j) _ _=some r/\_;by_cases b:WB p (c.Bad.g j).So (c.Bad.g j).Sf
  .rw[AK9 ht (hk j a) b (hc j a) (by have:=Bw0 ht hc hj hb hn;omega)];refine o a _ _ ⟨Bv,(AL2 a).symm,λk m=>?_⟩;by_cases e:k=j
   .subst e;exact b
   exact hb k (by omega)
  rw[AX3 b];exact⟨_,rfl,Ao0 hk a b⟩
 obtain rfl:j=c.Bad.n:=by omega
 refine Bd ?_;clear o;unfold tx3;refine Ev (λj (x4:Str) x5=>x5=(j:Int)/\x4=txt (tS p c j)/\∀k,k<j->swB p (c.Sj.g k)) c.Sj.n _ (by omega) ⟨rfl,by rw[tS_0],λk hk=>Ij hk (BB5 k)⟩ ?_;rintro u j x4 x5 v ⟨rfl,rfl,d⟩ w;by_cases a:j<c.Sj.n
 .refine Ad (Ac ?_);rw[By6];show ∃r,Ug N p (lvP p,0) (c.Sj.g j) _ _=some r/\_;by_cases b:swB p (c.Sj.g j)
  .rw[Ax2 f ht b (by have:=Bw1 ht hc v hb d hn s;omega)];refine w a _ _ ⟨Bv,(AL3 a).symm,λk m=>?_⟩;by_cases e:k=j
   .subst e;exact b
   exact d k (by omega)
  rw[AL0 f ht b];exact⟨_,rfl,Wr hk a b⟩
 obtain rfl:j=c.Sj.n:=by omega
 refine Bd ?_;rw[Bc0,Ao1 hk hb d];by_cases z:65536<(txt (tL p c)).length
 .exact Ad ⟨_,rfl,(Gy z).symm⟩
 exact Bc ⟨_,rfl,(Hj z).symm⟩
def dig8:∀d:Fin 10,UInt8.ofNat (wrap .u8 (48+(wrap .u8 (d.1:Int)))).toNat=UInt8.ofNat (48+d.1):=by decide
def Bw2:∀(k u:Nat),u<10 ^ k->k<=19->∀M,k<=M->1<=k->U6 M (u:Int)=some (Lib.decDigits u)
 |0,u,_,_,_,_,h=>Ij h (by omega)
 |k+1,u,h,_,0,hM,_=>by omega
 |k+1,u,h,hk,M+1,hM,_=>by
  show T6 (U6 M) M (u:Int)=_;unfold T6;have c:u<10000000000000000000:=BB0 h (BG1 (n:=10) (by omega) hk);rw[Ee,Lib.decDigits];by_cases b:u<10
  .rw[Cr,dif_pos b];exact congrArg (λx=>some [x]) (dig8 ⟨u,b⟩)
  have a:1<=k:=by
   rcases k with _|k
   .exact Ij h (by omega)
   omega
  have ed:(u:Int).tdiv 10=((u / 10:Nat):Int):=rfl;have em:(u:Int).tmod 10=((u % 10:Nat):Int):=rfl;have hp:10 ^ 1<=10 ^ k:=BG1 (by omega) a;have h1:u / 10<10 ^ k:=by rw[BS1]at h;omega
  have i1:=Bw2 k (u / 10) h1 (by omega) M (by omega) a;have i2:=Bw2 k (u % 10) (by omega) (by omega) M (by omega) a;have l1:=Uh k (u / 10) h1 a;have e2:Lib.decDigits (u % 10)=[UInt8.ofNat (48+u % 10)]:=by rw[Lib.decDigits,dif_pos (by omega)]
  rw[Hj (by simp;omega),dif_neg b,ed,em,Qv,i1,i2,By8,By8,e2,Cr]
def decZ:∀(k v:Nat),v<10 ^ k->k<=19->1<=v->v<=9223372036854775808->∀M,k+1<=M->1<=k->U6 M (-(v:Int))=some (45::Lib.decDigits v)
 |0,v,_,_,_,_,_,_,h=>Ij h (by omega)
 |k+1,v,h,_,_,_,0,hM,_=>by omega
 |k+1,v,h,hk,hv,hv2,M+1,hM,_=>by
  show T6 (U6 M) M (-(v:Int))=_;unfold T6;have ed:(-(v:Int)).tdiv 10 = -((v / 10:Nat):Int):=Int.neg_tdiv _ _;have em:(-(v:Int)).tmod 10 = -((v % 10:Nat):Int):=Int.neg_tmod _ _;rw[Cr,ed,em,Qv];by_cases b:v<10
  .have e0:v / 10=0:=by omega
   have i1:=Bw2 (k+1) v h hk M (by omega) (by omega);have l1:=Uh (k+1) v h (by omega);rw[e0,Gy (by decide),show (0:Int) - -(v:Int)=(v:Int) by omega,Qv,i1,By8,Cr];rfl
  have a:1<=k:=by
   rcases k with _|k
   .exact Ij h (by omega)
   omega
  have hp:10 ^ 1<=10 ^ k:=BG1 (by omega) a;have h1:v / 10<10 ^ k:=by rw[BS1]at h;omega
  have i1:=decZ k (v / 10) h1 (by omega) (by omega) (by omega) M (by omega) a;have i2:=Bw2 k (v % 10) (by omega) (by omega) M (by omega) a;have l1:=Uh k (v / 10) h1 a;have e2:Lib.decDigits (v % 10)=[UInt8.ofNat (48+v % 10)]:=by rw[Lib.decDigits,dif_pos (by omega)]
  rw[Hj (by simp;omega),i1,By8,show (0:Int) - -((v % 10:Nat):Int)=((v % 10:Nat):Int) by omega,Qv,i2,By8,e2,Cr,show Lib.decDigits v=Lib.decDigits (v / 10)++[UInt8.ofNat (48+v % 10)] by rw[Lib.decDigits,dif_neg b]];rfl
def Bl3 (b:100<=N){n:Int}(h : -9223372036854775808<=n/\n<=9223372036854775807):U6 N n=some (Lib.itoa n):=by
 unfold Lib.itoa;by_cases a:n<0
 .obtain⟨v,rfl⟩:∃v:Nat,n = -(v:Int):=⟨(-n).toNat,by omega⟩;rw[Gy a,decZ 19 v (by omega) (by omega) (by omega) (by omega) N (by omega) (by omega),show (-(v:Int)).natAbs=v by omega]
 obtain⟨v,rfl⟩:∃v:Nat,n=(v:Int):=⟨n.toNat,by omega⟩;rw[Hj a,Bw2 19 v (by omega) (by omega) N (by omega) (by omega),By6]
noncomputable def whr (p:A6) (e l:Int):Str:=((p.Sm.g e.toNat).Gloss++[32])++(p.Si.Tree.g ((V6 p.Si.Tree p.Si.Tree.n).g l.toNat).toNat).Name
def YZ (b:3000000<=N){p:A6}(hp:tOk N p){e l:Int}(h:WB p e l):Db N p e l=some (whr p e l)/\(whr p e l).length<=60:=by
 obtain⟨a,v,c,ev⟩:=RA hp h;obtain⟨h1,d,f,i⟩:=h;have g1:=hp.gl e.toNat (by omega);have g2:=hp.nm v c;have ev:(V6 p.Si.Tree p.Si.Tree.n).g l.toNat=(v:Int):=ev;have a:l.toNat<(V6 p.Si.Tree p.Si.Tree.n).n:=a;unfold Db whr;rw[(MN b hp.inp.tree hp.hist.tree).2,By8];dsimp only;rw[ev,By6];constructor
 .exact Gy (by simp only[Bz6,BA2,BE4];omega)
 simp only[Bz6,BA2,BE4];omega
def AX4 {p:A6}{e:B3}(x:Str):((((((x++[98,97,100,32])++whr p e.So e.Sf)++[32])++(if e.Kind=1 then [111,116,104,101,114]else [110,111,110,101]))++[32])++Lib.itoa e.Cost)++[10]=x++(ln (wB p (lvP p) e)++[10]):=by unfold ln wB whr;simp only[Wq,BS0,BI8,BA0,BD3]
def AX5 {p:A6}{e:FR}(x a b c:Str)(h:wS p (lvP p) e=[[115,119,97,112],a,b,c,(p.Sm.g e.So.toNat).Gloss,(p.Si.Tree.g ((lvP p).g e.Sf.toNat).toNat).Name]):((((((((x++[115,119,97,112,32])++a)++[32])++b)++[32])++c)++[32])++whr p e.So e.Sf)++[10]=x++(ln (wS p (lvP p) e)++[10]):=by rw[h];unfold ln whr;simp only[Wq,BS0,BI8,BA0,BD3]
def rText (o:3000000<=N){p:A6}(hp:Rv p){c:V7}(hc:∀i,i<c.Bad.n->cOk (c.Bad.g i))(hn:c.Bad.n<=3000)(v:c.Sj.n<=300):GN N p c=some (if JV N p≠0 then ([],JV N p)else SX p c):=by
 refine eqR ?_;unfold GN;rw[rChk o hp,By8];by_cases q:JV N p=0
 case neg=>exact ifT (by simpa using q) ⟨_,rfl,(Gy q).symm⟩
 have e9:(if JV N p≠0 then (([],JV N p):Str×Int)else SX p c)=SX p c:=Hj (λg=>g q);rw[e9];refine ifF (by simpa using q) ?_;have ht:=Bb8 o hp q;refine BH (λi x=>x=(i:Int)/\∀k,k<i->kOk (c.Bad.g k)) c.Bad.n _ (by omega) ⟨rfl,λk hk=>Ij hk (BB5 k)⟩ ?_;rintro a3 i x hi ⟨rfl,hk⟩ hs;by_cases hl:i<c.Bad.n
 .refine Ad (Ac (ifT (λ_=>by omega) ?_));rw[By6,Bv];by_cases d:kOk (c.Bad.g i)
  .refine ifF ?_ (hs hl _ ⟨rfl,λk s=>?_⟩)
   .rcases d with g|g<;>simp[g]
   by_cases e:k=i
   .subst e;exact d
   exact hk k (by omega)
  exact ifT (by simp;exact⟨λg=>d (.inl g),λg=>d (.inr g)⟩) ⟨_,rfl,AL1 hl d⟩
 obtain rfl:i=c.Bad.n:=by omega
 refine Bd ?_;clear hs;refine Ev (λj (x2:Str) x3=>x3=(j:Int)/\x2=txt (tB p c j)/\∀k,k<j->WB p (c.Bad.g k).So (c.Bad.g k).Sf) c.Bad.n _ (by omega) ⟨rfl,rfl,λk hk=>Ij hk (BB5 k)⟩ ?_;rintro w j x2 x3 hj ⟨rfl,rfl,hb⟩ t;by_cases a:j<c.Bad.n
 .refine Ad (Ac ?_);have ek:(Sl.of [[],[111,116,104,101,114],[110,111,110,101]]:Sl Str).g (c.Bad.g j).Kind.toNat=(if (c.Bad.g j).Kind=1 then [111,116,104,101,114]else [110,111,110,101]):=by rcases hk j a with g|g<;>rw[g]<;>rfl
  have en:(Sl.of [[],[111,116,104,101,114],[110,111,110,101]]:Sl Str).n=3:=rfl;generalize (Sl.of [[],[111,116,104,101,114],[110,111,110,101]]:Sl Str)=G at ek en⊢;simp only[By6];have hle:=Bw0 ht hc hj hb hn;obtain⟨b,b1,b2⟩:=Rw (N:=N) (p:=p) (e:=(c.Bad.g j).So) (l:=(c.Bad.g j).Sf);refine E8 (show EE N p _ _=some b from b1) ?_;by_cases f:WB p (c.Bad.g j).So (c.Bad.g j).Sf
  case neg=>exact ifT (by
   cases b
   .rfl
   exact Ij (b2.1 rfl) f) ⟨_,rfl,Ao0 hk a f⟩
  obtain⟨w1,w2⟩:=YZ o ht f;have d2:=AK6 (hc j a);have ekl:((if (c.Bad.g j).Kind=1 then [111,116,104,101,114]else [110,111,110,101]):Str).length<=5:=by split<;>decide
  have ekk:(0:Int)<=(c.Bad.g j).Kind/\(c.Bad.g j).Kind<3:=by rcases hk j a with g|g<;>omega
  rw[<- ek]at ekl;refine ifF (by simp[b2.2 f]) (ifT (by simp only[Bz6,BA2,BE4];omega) (E8 w1 (ifT (by simp only[Bz6,BA2,BE4];omega) (E8 (Bl3 (by omega) (hc j a)) (ifT (by simp only[Bz6,BA2,BE4];omega) (t a _ _ ⟨Bv,?_,λk s=>?_⟩))))))
  .rw[AL2 a,ek];exact AX4 _
  by_cases e:k=j
  .subst e;exact f
  exact hb k (by omega)
 obtain rfl:j=c.Bad.n:=by omega
 refine Bd ?_;clear t;refine Ev (λj (x4:Str) x5=>x5=(j:Int)/\x4=txt (tS p c j)/\∀k,k<j->swB p (c.Sj.g k)) c.Sj.n _ (by omega) ⟨rfl,by rw[tS_0],λk hk=>Ij hk (BB5 k)⟩ ?_;rintro y j x4 x5 z ⟨rfl,rfl,m⟩ a0;by_cases a:j<c.Sj.n
 .refine Ad (Ac ?_);simp only[By6];have hle:=Bw1 ht hc z hb m hn v;obtain⟨r,r1,r2⟩:=rsw o ht.inp ht.hist (c.Sj.g j).Node (c.Sj.g j).Place;refine E8 r1 (ltX ?_);rcases r2 with⟨s1,s2⟩ | ⟨s1,s2⟩
  case inr=>exact ifT (by rw[s2];decide) (ifT rfl ⟨_,rfl,Wr hk a λg=>s1 g.1⟩)
  refine ifF (by rw[s2];decide) ?_;obtain⟨b,b1,b2⟩:=Rw (N:=N) (p:=p) (e:=(c.Sj.g j).So) (l:=(c.Sj.g j).Sf);refine E8 (show EE N p _ _=some b from b1) ?_;by_cases f:WB p (c.Sj.g j).So (c.Sj.g j).Sf
  case neg=>exact ifT (by
   cases b
   .rfl
   exact Ij (b2.1 rfl) f) ⟨_,rfl,Wr hk a λg=>f g.2⟩
  refine ifF (by simp[b2.2 f]) ?_;obtain⟨w1,w2⟩:=YZ o ht f;have a1:swB p (c.Sj.g j):=⟨s1,f⟩;obtain⟨u,k,e1,e2,hu,a2⟩:=s1;obtain⟨ho1,ho⟩:=Ag8 ht.hist hu;have hon:=ht.hist.on;have q1:=ho k (by omega);have q2:=ho (k+1) a2;have n1:=ht.nm u hu;have n2:=ht.lw ((p.Si.On.g u).g k).toNat (by omega);have n3:=ht.lw ((p.Si.On.g u).g (k+1)).toNat (by omega);have eW:wS p (lvP p) (c.Sj.g j)=[[115,119,97,112],(p.Si.Tree.g u).Name,(p.Si.Laws.g ((p.Si.On.g u).g k).toNat).Name,(p.Si.Laws.g ((p.Si.On.g u).g (k+1)).toNat).Name,(p.Sm.g (c.Sj.g j).So.toNat).Gloss,(p.Si.Tree.g ((lvP p).g (c.Sj.g j).Sf.toNat).toNat).Name]:=by unfold wS;rw[e1,e2,show ((k:Int)+1).toNat=k+1 by omega,By6,By6]
  have eK:wrap .i64 ((k:Int)+1)=((k+1:Nat):Int):=Bv;simp only[e1,e2,eK,By6];refine Ac (ifT (by simp only[Bz6,BA2,BE4];omega) (E8 w1 (ifT (by simp only[Bz6,BA2,BE4];omega) (a0 a _ _ ⟨Bv,?_,λk s=>?_⟩))))
  .rw[AL3 a];exact AX5 _ _ _ _ eW
  by_cases e:k=j
  .subst e;exact a1
  exact m k (by omega)
 obtain rfl:j=c.Sj.n:=by omega
 refine Bd ?_;rw[Bc0,Ao1 hk hb m];by_cases h9:65536<(txt (tL p c)).length
 .exact Ad ⟨_,rfl,(Gy h9).symm⟩
 exact Bc ⟨_,rfl,(Hj h9).symm⟩
set_option maxRecDepth 100000
def Ao6:CX 4194304=some true:=by decide +kernel
def ifE {R:Type}{Q:R->Prop}{p:Prop}[Decidable p]{a b:Option R}(h1:p->∃r,a=some r/\Q r)(c:¬p->∃r,b=some r/\Q r):∃r,(if p then a else b)=some r/\Q r:=by
 split
 .exact h1 (by assumption)
 exact c (by assumption)
def ltP {R A:Type}{Q:R->Prop}(P:A->Prop){K:A->Option R}{f:(A->Option R)->Option R}(a:∀z,P z->∃r,K z=some r/\Q r)(b:∀k:A->Option R,(∀z,P z->∃r,k z=some r/\Q r)->∃r,f k=some r/\Q r):∃r,lt K f=some r/\Q r:=b K a
def AL4 {l:Sl U9}(hl:l.n<N)(c:l.n<1000000000):∃b,GJ N l=some b/\True:=by
 unfold GJ;refine BH (λi x=>x=(i:Int)) l.n _ hl rfl ?_;rintro a i x d rfl hs;by_cases h:i<l.n
 .exact Ad (Ac (ifE (λ_=>⟨_,rfl,trivial⟩) λ_=>hs h _ (Bv)))
 exact Bc ⟨_,rfl,trivial⟩
def Ax3 {h:Si}(hl:h.On.n<N)(d:h.On.n<1000000000):∃b,DI N h=some b/\True:=by
 unfold DI;refine Ev (λi y x=>x=(i:Int)) h.On.n _ hl rfl ?_;rintro a i y x f rfl hs;by_cases c:i<h.On.n
 .exact Ad (Ac (hs c _ _ (Bv)))
 exact Bc ⟨_,rfl,trivial⟩
def Ah1 (a:3000000<=N){p:A6}(hp:Rv p)(j:∀i,i<p.Sm.n->(p.Sm.g i).Sn.n<1100000):∃b,Fp N p=some b/\True:=by
 unfold Fp;obtain⟨b,b1,_⟩:=AJ9 a p.Si;refine E8 b1 (ifE (λ_=>⟨_,rfl,trivial⟩) λhc=>?_);have q:p.Sm.n<=5/\p.Sh.n<=5:=by simp at hc;omega
 obtain⟨c,c1,_⟩:=AL4 (N:=N) (l:=p.Sh) (by omega) (by omega);refine E8 c1 (ltP (λ_=>True) (λz _=>ifE (λ_=>⟨_,rfl,trivial⟩) λ_=>?_) λk hk=>ifE (λ_=>hk _ Lg) λ_=>?_)
 .refine BH (λi x=>x=(i:Int)) p.Sm.n _ (by omega) rfl ?_;rintro f i x r rfl hs;by_cases h:i<p.Sm.n
  .have m:=j i h;refine Ad (Ac ?_);rw[By6];obtain⟨d,d1,_⟩:=AL4 (N:=N) (l:=(p.Sm.g i).Sn) (by omega) (by omega);exact E8 d1 (ifE (λ_=>⟨_,rfl,trivial⟩) λ_=>hs h _ (Bv))
  exact Bc ⟨_,rfl,trivial⟩
 have o:=hp.hist.on;obtain⟨d,d1,_⟩:=Ax3 (N:=N) (h:=p.Si) (by omega) (by omega);exact E8 d1 (ifE (λ_=>E8 (Rs a hp.hist) (hk _ Lg)) λ_=>hk _ Lg)
def RJ (m:3000000<=N)(hw:CX N=some true){p:A6}(hp:Rv p)(s:∀i,i<p.Sm.n->(p.Sm.g i).Sn.n<1100000){c:V7}(hc:∀i,i<c.Bad.n->cOk (c.Bad.g i))(t:Int):BJ N p c t=some true:=by
 refine eqR ?_;unfold BJ;obtain⟨b,b1,_⟩:=Ah1 m hp s;refine E8 b1 (ifE (λ_=>E8 hw ⟨_,rfl,rfl⟩) λo=>?_);have a:c.Bad.n<=300/\c.Sj.n<=300:=by simp at o;omega
 refine ltP (λz:Sl B3=>z.n<=3000/\∀i,i<z.n->cOk (z.g i)) (λz f=>?_) λk hk=>ifE (λh=>?_) λ_=>hk _ ⟨by omega,hc⟩
 .exact E8 (pText m hp (c:=⟨z,c.Sj⟩) f.2 f.1 a.2) (E8 (rText m hp (c:=⟨z,c.Sj⟩) f.2 f.1 a.2) (ltX (Ak (Ak (E8 hw ⟨_,rfl,rfl⟩)))))
 have q:c.Bad.n<=30:=by simp at h;omega
 refine Ev (λi (x4:Sl B3) x5=>x5=(i:Int)/\x4.n=i*c.Bad.n/\∀j,j<x4.n->cOk (x4.g j)) 100 _ (by omega) ⟨rfl,by show 0=0*_;omega,λj l=>Ij l (BB5 j)⟩ ?_;rintro r i x4 x5 u ⟨rfl,hx,l⟩ hs;have hm:i*c.Bad.n<=100*30:=Nat.mul_le_mul u q;by_cases hl:i<100
 .refine Ad (Ac (hs hl _ _ ⟨Bv,by show x4.n+c.Bad.n=_;rw[BL3];omega,λj d=>?_⟩));have d:j<x4.n+c.Bad.n:=d;show cOk (if j<x4.n then x4.g j else c.Bad.g (j-x4.n));split
  .exact l j (by assumption)
  exact hc _ (by omega)
 exact Bc (hk _ ⟨by omega,l⟩)
end Go.AM
