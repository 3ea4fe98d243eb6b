/- Part 10. -/
import Derived.Test.YtnpnbnncocgaeaaGreatDoorZF
import Derived.Test.YtnpnbnncocgaeaaGreatDoorZH
import Derived.Test.YtnpnbnncocgaeaaGreatDoorZI
set_option linter.defProp false
set_option linter.unusedSimpArgs false
set_option linter.unusedVariables false
set_option linter.unusedSectionVars false
namespace Go.AM
variable {N:Nat}
def Je:=@decide_eq_true_eq
def Dl{c:Prop}{i:Decidable c}{α:Sort _}{a b:α}(h:c:=by omega):(if c then a else b)=a:=Fg h
open IntKind (wrap)
def BV7:=@BitVec.getLsbD_or
def BW1:=@BitVec.getLsbD_and
def BZ2:=@BitVec.getLsbD_not
def Cb2:=@List.reverse_append
def Cd6:=@Classical.axiomOfChoice
def Ch7:=@BitVec.eq_of_getLsbD_eq
def Ch8:=@Nat.testBit_two_pow_mul
def Ch9:=@List.filter_cons_of_pos
def Ci0:=@List.filter_cons_of_neg
def Ci7:=@Bool.not_eq_true
def Cj0:=@Nat.testBit_lt_two_pow
def Cj1:=@List.reverse_singleton
def Cj2:=@List.filter_eq_nil_iff
def Cj5:=@List.singleton_append
def Ck0:=@Nat.div_eq_zero_iff
open Go.Proofs
def AM0 {A R:Type}{body:(A->Option R)->A->Option R}(I:Nat->A->Prop)(n:Nat)(M0:R->Prop)
 (b:∀self i a,i<=n->I i a->(i<n->∀a',I (i+1) a' -> ∃r,self a' = some r/\M0 r)->∃r,body self a=some r/\M0 r) :
 ∀(N i:Nat) (a:A),i<=n->I i a->n-i<N->∃r,O7 N body a=some r/\M0 r
 |0,_,_,_,_,h=>by omega
 |N+1,i,a,hi,hI,h=>by rw[BQ];exact b _ i a hi hI λc a' d=>AM0 I n M0 b N (i+1) a' c d (by omega)
def Y6 {A R:Type}{body:(A->Option R)->A->Option R}(I:Nat->A->Prop)(n:Nat)(M0:R->Prop){N:Nat}(c:n<N){a:A}(d:I 0 a)
 (b:∀self i a,i<=n->I i a->(i<n->∀a',I (i+1) a' -> ∃r,self a' = some r/\M0 r)->∃r,body self a=some r/\M0 r):∃r,O7 N body a=some r/\M0 r:=
 AM0 I n M0 b N 0 a (Cd1 _) d c
def W4 {A B R:Type}{body:(A->B->Option R)->A->B->Option R}(I:Nat->A->B->Prop)(n:Nat)(M0:R->Prop){N:Nat}(g:n<N){a:A}{b:B}(j:I 0 a b)
 (d:∀c i a b,i<=n->I i a b->(i<n->∀a' b',I (i+1) a' b' -> ∃r,c a' b' = some r/\M0 r)->∃r,body c a b=some r/\M0 r):∃r,Y4 N body a b=some r/\M0 r:=
 AM0 (λi x=>I i x.1 x.2) n M0 (λc i x l m h=>d (λa b=>c (a,b)) i x.1 x.2 l m λhl a' b' f=>h hl (a',b') f) N 0 (a,b) (Cd1 _) j g
def At6 {A B C R:Type}{body:(A->B->C->Option R)->A->B->C->Option R}(I:Nat->A->B->C->Prop)(n:Nat)(M0:R->Prop){N:Nat}(j:n<N){a:A}{b:B}{c:C}(l:I 0 a b c)
 (f:∀d i a b c,i<=n->I i a b c->(i<n->∀a' b' c',I (i+1) a' b' c' -> ∃r,d a' b' c' = some r/\M0 r)->∃r,body d a b c=some r/\M0 r):∃r,AT6 N body a b c=some r/\M0 r:=
 AM0 (λi x=>I i x.1 x.2.1 x.2.2) n M0 (λd i x m o h=>f (λa b c=>d (a,b,c)) i x.1 x.2.1 x.2.2 m o λhl a' b' c' g=>h hl (a',b',c') g) N 0 (a,b,c) (Cd1 _) l j
def loop4 {A B C D R:Type}{body:(A->B->C->D->Option R)->A->B->C->D->Option R}(I:Nat->A->B->C->D->Prop)(n:Nat)(M0:R->Prop){N:Nat}(l:n<N){a:A}{b:B}{c:C}{d:D}(m:I 0 a b c d)
 (g:∀f i a b c d,i<=n->I i a b c d->(i<n->∀a' b' c' d',I (i+1) a' b' c' d' -> ∃r,f a' b' c' d' = some r/\M0 r)->∃r,body f a b c d=some r/\M0 r):∃r,AO8 N body a b c d=some r/\M0 r:=
 AM0 (λi x=>I i x.1 x.2.1 x.2.2.1 x.2.2.2) n M0 (λf i x o q h=>g (λa b c d=>f (a,b,c,d)) i x.1 x.2.1 x.2.2.1 x.2.2.2 o q λhl a' b' c' d' j=>h hl (a',b',c',d') j) N 0 (a,b,c,d) (Cd1 _) m l
def C0 {X R:Type}{Q:R->Prop}{o:Option X}{f:X->Option R}{x:X}(h:o=some x)(a:∃r,f x=some r/\Q r):∃r,o.bind f=some r/\Q r:=by grind
def ltX {R A:Type}{Q:R->Prop}{k:A->Option R}{f:(A->Option R)->Option R}(h:∃r,f k=some r/\Q r):∃r,lt k f=some r/\Q r:=h
def ifT {R:Type}{Q:R->Prop}{p:Prop}[Decidable p]{a b:Option R}(h:p)(c:∃r,a=some r/\Q r):∃r,(if p then a else b)=some r/\Q r:=by rw[Fg h];omega
def Av{R:Type}{Q:R->Prop}{p:Prop}[Decidable p]{a b:Option R}(h2:∃ r,a=some r/\Q r)(h:p:=by decide):∃ r,(if p then a else b)=some r/\Q r:=ifT h h2
def Ad{R:Type}{Q:R->Prop}{p:Prop}[Decidable p]{a b:Option R}(h2:∃ r,a=some r/\Q r)(h:p:=by simp):∃ r,(if p then a else b)=some r/\Q r:=ifT h h2
def Ac{R:Type}{Q:R->Prop}{p:Prop}[Decidable p]{a b:Option R}(h2:∃ r,a=some r/\Q r)(h:p:=by simp;omega):∃ r,(if p then a else b)=some r/\Q r:=ifT h h2
def Ab{R:Type}{Q:R->Prop}{p:Prop}[Decidable p]{a b:Option R}(h2:∃ r,a=some r/\Q r)(h:p:=by omega):∃ r,(if p then a else b)=some r/\Q r:=ifT h h2
def ifF {R:Type}{Q:R->Prop}{p:Prop}[Decidable p]{a b:Option R}(h:¬p)(c:∃r,b=some r/\Q r):∃r,(if p then a else b)=some r/\Q r:=by rw[Gb h];omega
def Bk{R:Type}{Q:R->Prop}{p:Prop}[Decidable p]{a b:Option R}(h2:∃ r,b=some r/\Q r)(h:¬p:=by decide):∃ r,(if p then a else b)=some r/\Q r:=ifF h h2
def Bj{R:Type}{Q:R->Prop}{p:Prop}[Decidable p]{a b:Option R}(h2:∃ r,b=some r/\Q r)(h:¬p:=by simp):∃ r,(if p then a else b)=some r/\Q r:=ifF h h2
def Az{R:Type}{Q:R->Prop}{p:Prop}[Decidable p]{a b:Option R}(h2:∃ r,b=some r/\Q r)(h:¬p:=by simp;omega):∃ r,(if p then a else b)=some r/\Q r:=ifF h h2
def Ay{R:Type}{Q:R->Prop}{p:Prop}[Decidable p]{a b:Option R}(h2:∃ r,b=some r/\Q r)(h:¬p:=by omega):∃ r,(if p then a else b)=some r/\Q r:=ifF h h2
theorem G4 {n:Int}(h : -9223372036854775808<=n)(h' : n<=9223372036854775807):IntKind.i64.wrap n=n:=by
 by_cases a:0<=n
 .have h1:n % (2 ^ 64:Int)=n:=(by omega);unfold wrap;simp only[IntKind.bits,IntKind.signed,h1];rw[Gb]
  grind
 have h1:n % (2 ^ 64:Int)=n+2 ^ 64:=by rw[<- Int.add_emod_right];omega
 unfold wrap;simp only[IntKind.bits,IntKind.signed,h1];rw[Fg]
 all_goals grind
def Qf {n:Int}(h : -9223372036854775808<=n:=by omega)(k : n<=9223372036854775807:=by omega) :IntKind.i64.wrap n=n:=G4 h k
def C4 {i:Nat}(h:i<1000000000000000000):IntKind.i64.wrap ((i:Int)+1)=((i+1:Nat):Int):=by rw[Qf];rfl
def By{i:Nat}(h:i<1000000000000000000:=by omega):IntKind.i64.wrap ((i:Int)+1)=((i+1:Nat):Int):=C4 h
def wrapP {i:Nat}(a:1<=i)(h:i<1000000000000000000):IntKind.i64.wrap ((i:Int)-1)=((i-1:Nat):Int):=by rw[Qf];omega
def GJ {i j:Nat}(h:i+j<1000000000000000000):IntKind.i64.wrap ((i:Int)+(j:Int))=((i+j:Nat):Int):=by rw[Qf];rfl
def okP:Nat->Pat->Prop
 |0,_=>False
 |d+1,p=>p.L.n<=40/\(p.Kind=5->p.L.n=1/\0<=p.Min/\p.Min<=32/\(p.Max = -1 \/ (p.Min<=p.Max/\p.Max<=32)))/\∀i,i<p.L.n->okP d (p.L.g i)
abbrev sOf (x y:BitVec 32):Qb:=⟨(x.toNat:Int),(y.toNat:Int)⟩
def okS (s:Qb):Prop:=∃p m:BitVec 32,s=sOf p m
def eq0 (x:BitVec 32):((x.toNat:Int)==0)=decide (x=0#32):=by
 rw[BV2];simp only[beq_iff_eq,Je];constructor
 .intro h;apply BX9;grind
 grind
def z32 (x:BitVec 32):x=0#32 ↔ ∀i,i<32->x.getLsbD i=false:=by
 grind
def VU (x:BitVec 32)(i:Nat):(E6 .and .u32 (shI .shr .u32 (x.toNat:Int) (i:Int)) 1==1)=x.getLsbD i:=by
 rw[Bt1,show (1:Int)=((1#32).toNat:Int) from rfl,DN];have h:(x >>> i &&& 1#32)=(BitVec.ofBool (x.getLsbD i)).setWidth 32:=by
  grind
 rw[h];cases x.getLsbD i<;>rfl
def Kn (x:BitVec 32):x.toNat<16777216 ↔ ∀i,24<=i->i<32->x.getLsbD i=false:=by
 constructor
 .intro h i a b;exact Cj0 (BU8 h (Cc3 (n:=2) (i:=24) (by omega) a))
 intro h;refine Nat.lt_pow_two_of_testBit (n:=24) _ λi a=>?_;by_cases c:i<32
 .grind
 exact Cj0 (BU8 x.isLt (Cc3 (by omega) (by omega)))
def vB (p m:BitVec 32):Bool:=decide (∀i:Fin 32,¬(p.getLsbD i=true/\m.getLsbD i=true)/\(24<=i.1->p.getLsbD i=false/\m.getLsbD i=false))
theorem Jb (p m:BitVec 32):vB p m=true ↔ ∀i,i<32->¬(p.getLsbD i=true/\m.getLsbD i=true)/\(24<=i->p.getLsbD i=false/\m.getLsbD i=false):=by rw[vB,Je];exact⟨λh i a=>h ⟨i,a⟩,λh i=>h i.1 i.2⟩
def AB8 (p m:BitVec 32):p &&& m=0#32 ↔ ∀i,i<32->¬(p.getLsbD i=true/\m.getLsbD i=true):=by
 rw[z32]
 grind
def BP1 (p m:BitVec 32):vB p m=true↔p &&& m=0#32/\(p ||| m).toNat<16777216:=by
 rw[Jb,AB8,Kn]
 grind
def BP2 (p m:BitVec 32):vB p m=true↔p &&& m=0#32/\p.toNat<16777216/\m.toNat<16777216:=by
 rw[Jb,AB8,Kn,Kn]
 grind
theorem Cp (p m:BitVec 32):H4 N (sOf p m)=some (vB p m):=by
 unfold H4;rw[DN,IK,eq0];congr 1;rw[BV2,BP1]
 grind
def shr24 (x:BitVec 32):(shI .shr .u32 (x.toNat:Int) 24==0)=decide (x.toNat<16777216):=by
 rw[show (24:Int)=((24:Nat):Int) from rfl,Bt1,BV2];simp only[beq_iff_eq,Je,Cf2,Ce9]
 have:=Ck0 (a:=x.toNat) (b:=2 ^ 24)
 omega
def Af0 (p m:BitVec 32):CY N (sOf p m)=some (vB p m):=by
 unfold CY;rw[DN,IK,eq0,shr24];congr 1;rw[BV2,BP1]
 grind
theorem Af1 (p m:BitVec 32):T3 N (sOf p m)=some (vB p m):=Af0 (N:=N) p m
def VV (p m:BitVec 32):W7 N (sOf p m)=some (vB p m):=by
 unfold W7;rw[DN,eq0];congr 1;rw[BV2,BP2]
 grind
theorem At (p m:BitVec 32)(b:1000<=N):G9 N (sOf p m)=some (vB p m):=by
 suffices h:∃r,G9 N (sOf p m)=some r/\r=vB p m by grind
 unfold G9;refine Y6 (λi x1=>x1=(i:Int)/\∀j,j<i->¬(p.getLsbD j=true/\m.getLsbD j=true)/\(24<=j->p.getLsbD j=false/\m.getLsbD j=false)) 32 _ (by omega) (by grind) ?_;rintro a i x1 c ⟨rfl,h1⟩ hs;by_cases hl:i<32
 .refine ifT (by grind) (Ab ?_);simp only[VU];have e24:decide ((24:Int)<=(i:Int))=decide (24<=i):=(by grind);rw[e24];by_cases hb:¬(p.getLsbD i=true/\m.getLsbD i=true)/\(24<=i->p.getLsbD i=false/\m.getLsbD i=false)
  .refine ifF ?_ (hs hl _ ⟨By,λj d=>?_⟩)
   all_goals grind
  refine ifT ?_ ⟨false,rfl,?_⟩
  .grind
  symm;rw[<- Ci7,Jb];grind
 refine ifF (by grind) ⟨true,rfl,?_⟩
 grind[Jb]
def vS (s:Qb):Prop:=∃p m:BitVec 32,s=sOf p m/\vB p m=true
def Tc (p:Pat):Prop:= (0<=p.Kind/\p.Kind<=6)/\(p.Kind≠1->(p.Is.Plus=0/\p.Is.Minus=0)/\p.Not=false)/\(p.Kind≠3->p.Kind≠4->p.Kind≠5->p.L.n=0)/\(p.Kind≠5->p.Min=0/\p.Max=0) /\ (p.Kind=5->p.L.n=1/\0<=p.Min/\p.Min<=32/\(p.Max = -1 \/ (p.Min<=p.Max/\p.Max<=32)))/\vS p.Is
theorem At7 {s:Qb}{p m:BitVec 32}(h:s=sOf p m):vS s↔vB p m=true:=by
 constructor
 .rintro⟨q,r,e,a⟩;rw[h]at e;have e1:(p.toNat:Int)=q.toNat:=congrArg Qb.Plus e;have e2:(m.toNat:Int)=r.toNat:=(by grind);rw[BX9 (show p.toNat=q.toNat by omega),BX9 (show m.toNat=r.toNat by omega)];omega
 exact λa=>⟨p,m,h,a⟩
def okPS:Pat->Prop
 |.nil=>True
 |.mk _ is _ _ _ n g=>okS is/\∀i,i<n->okPS (g i)
def okPS.is {p:Pat}(h:okPS p):okS p.Is:=by
 cases p with
 |nil=>exact⟨0#32,0#32,rfl⟩
 |mk _ is _ _ _ n g=>exact h.1
def okPS.L {p:Pat}(h:okPS p){i:Nat}(a:i<p.L.n):okPS (p.L.g i):=by
 cases p with
 |nil=>exact Hc a (by show ¬i<0;omega)
 |mk _ is _ _ _ n g=>exact h.2 i a
def chk:Nat->List Pat->Prop
 |0,l=>l=[]
 |_+1,[]=>True
 |k+1,p::l=>Tc p/\chk k (p.L.toList++l)
theorem AY3:∀k,chk k []
 |0=>rfl
 |_+1=>trivial
def Td:∀(k:Nat) (l:List Pat),chk k l->l.length<=k
 |0,l,h=>by rw[show l=[] from h];grind
 |k+1,[],_=>Cd1 _
 |k+1,p::l,⟨_,h⟩=>by
  have:=Td k _ h
  rw[BW7]at this
  grind
theorem AB9:∀(d:Nat) (p:Pat),okP d p->okP (d+1) p
 |0,_,h=>h.elim
 |d+1,p,⟨h1,h2,h3⟩=>⟨h1,h2,λi a=>AB9 d _ (h3 i a)⟩
def VW {α : Type}{s:Sl α}{i:Nat}(h:i<s.n):s.g i∈s.toList:=BZ1.2 (by grind)
def FF {α : Type}(s:Sl α):s.toList.length=s.n:=by simp[Sl.toList]
def Af2:∀(k:Nat) (l:List Pat),k<=40->chk k l->∀p∈l,okP k p
 |0,l,_,h,p,hp=>by rw[show l=[] from h]at hp;grind
 |k+1,[],_,_,p,hp=>by grind
 |k+1,q::l,hk,⟨hn,h⟩,p,hp=>by
  have ih:=Af2 k _ (by omega) h;rcases BX5.1 hp with rfl|hp
  .have hl:=Td k _ h;rw[BW7,FF]at hl;exact⟨by omega,λa=>hn.2.2.2.2.1 a,λi b=>ih _ (BW5 _ (VW b))⟩
  grind[AB9,List.mem_append_right]
def Bn9 {p:Pat}(hp:okS p.Is):∃e,HF N p=some e/\(e=0↔Tc p):=by
 obtain⟨a,b,c⟩:=hp;have d:=At7 c;unfold HF Tc;by_cases h1:0<=p.Kind/\p.Kind<=6
 case neg=>exact ifT (by grind) (by grind)
 refine ifF (by grind) ?_;have e0:((p.Is.Plus==0)&&(p.Is.Minus==0))=decide (p.Is.Plus=0/\p.Is.Minus=0):=by rw[BV2];simp
 rw[e0];by_cases i:p.Kind≠1->(p.Is.Plus=0/\p.Is.Minus=0)/\p.Not=false
 case neg=>
  refine ifT ?_ (by grind)
  grind
 refine ifF ?_ (ltX ?_)
 .grind
 have rest:(p.Kind≠3->p.Kind≠4->p.Kind≠5->p.L.n=0)->∃e,(if ((p.Kind != 5)&&((p.Min != 0)||(p.Max != 0))) then some (2:Int)else
  lt (λ(z2:Bool)=>if z2 then some 2 else (W7 N p.Is).bind λy1=>if (!y1) then some 14 else some 0) λk2=>
   if (p.Kind==5) then if (((p.L.n:Nat):Int) != 1) then k2 true else if (decide (p.Min<0)) then k2 true else if (decide (32<p.Min)) then k2 true else
    if (p.Max != (-1)) then if (decide (p.Max<p.Min)) then k2 true else k2 (decide (32<p.Max))else k2 false else k2 false)=some e /\
  (e=0↔(0<=p.Kind/\p.Kind<=6)/\(p.Kind≠1->(p.Is.Plus=0/\p.Is.Minus=0)/\p.Not=false)/\(p.Kind≠3->p.Kind≠4->p.Kind≠5->p.L.n=0)/\(p.Kind≠5->p.Min=0/\p.Max=0) /\
   (p.Kind=5->p.L.n=1/\0<=p.Min/\p.Min<=32/\(p.Max = -1 \/ (p.Min<=p.Max/\p.Max<=32)))/\vS p.Is):=by
  intro j;by_cases f:p.Kind≠5->p.Min=0/\p.Max=0
  case neg=>
   refine ifT ?_ (by grind);rw[Classical.not_imp]at f
   grind
  refine ifF ?_ (ltX ?_)
  .grind
  have last:(p.Kind=5->p.L.n=1/\0<=p.Min/\p.Min<=32/\(p.Max = -1 \/ (p.Min<=p.Max/\p.Max<=32)))->∃e,(if false then some (2:Int)else (W7 N p.Is).bind λy1=>if (!y1) then some 14 else some 0)=some e /\
   (e=0↔(0<=p.Kind/\p.Kind<=6)/\(p.Kind≠1->(p.Is.Plus=0/\p.Is.Minus=0)/\p.Not=false)/\(p.Kind≠3->p.Kind≠4->p.Kind≠5->p.L.n=0)/\(p.Kind≠5->p.Min=0/\p.Max=0) /\
    (p.Kind=5->p.L.n=1/\0<=p.Min/\p.Min<=32/\(p.Max = -1 \/ (p.Min<=p.Max/\p.Max<=32)))/\vS p.Is):=by
   intro l;refine Bj ?_;rw[d,c,VV];refine C0 rfl ?_;cases g:vB a b
   all_goals simp_all
  have bad:¬(p.Kind=5->p.L.n=1/\0<=p.Min/\p.Min<=32/\(p.Max = -1 \/ (p.Min<=p.Max/\p.Max<=32)))->∃e,(if true then some (2:Int)else (W7 N p.Is).bind λy1=>if (!y1) then some 14 else some 0)=some e /\
   (e=0↔(0<=p.Kind/\p.Kind<=6)/\(p.Kind≠1->(p.Is.Plus=0/\p.Is.Minus=0)/\p.Not=false)/\(p.Kind≠3->p.Kind≠4->p.Kind≠5->p.L.n=0)/\(p.Kind≠5->p.Min=0/\p.Max=0) /\
    (p.Kind=5->p.L.n=1/\0<=p.Min/\p.Min<=32/\(p.Max = -1 \/ (p.Min<=p.Max/\p.Max<=32)))/\vS p.Is):=by grind
  by_cases k5:p.Kind=5
  .refine ifT (by grind) ?_;by_cases g1:p.L.n=1
   case neg=>exact ifT (by grind) (by grind)
   refine ifF (by grind) ?_;by_cases g2:p.Min<0
   .exact ifT (by grind) (by grind)
   refine ifF (by grind) ?_;by_cases g3:32<p.Min
   .exact ifT (by grind) (by grind)
   refine ifF (by grind) ?_;by_cases g4:p.Max = -1
   .grind
   refine ifT (by grind) ?_;by_cases g5:p.Max<p.Min
   .exact ifT (by grind) (by grind)
   refine ifF (by grind) ?_;by_cases g6:32<p.Max
   all_goals simp_all[decide_eq_true,decide_eq_false]
  grind
 by_cases k3:p.Kind=3
 .grind
 refine ifT (by grind) ?_;by_cases k4:p.Kind=4
 .grind
 refine ifT (by grind) ?_;by_cases k5:p.Kind=5
 .grind
 refine ifT (by grind) ?_;by_cases hn:p.L.n=0
 .grind
 exact ifT (by grind) (by grind)
def MC {α : Type}(s:Sl α){i:Nat}(h:i<s.n):s.toList.drop i=s.g i::s.toList.drop (i+1):=by
 have hl:i<s.toList.length:=by rw[FF];exact h
 rw[Cc0 hl];simp[Sl.toList]
def Ko {α : Type}(s:Sl α):s.toList.drop s.n=[]:=BZ9 (by rw[FF];omega)
def AY4 {N:Nat}(o:1000<=N):∀(d:Nat),d<=40->∀(p:Pat),okPS p->∀M,N+d+1<=M->∃r,Fy M p ((40-d:Nat):Int)=some r /\
 ∃k:Nat,r.1=(k:Int)/\40-d<=k/\k<=40/\(r.2=0->40-d<k/\∀l,chk d (p::l)↔chk (40-k) l)/\(r.2≠0->∀l,¬chk d (p::l))
 |d,hd,p,hp,0,hM=>by omega
 |0,hd,p,hp,M+1,hM=>by show ∃r,Bb (Fy M) M p _=some r/\_;unfold Bb;exact Ad ⟨_,rfl,40,rfl,by omega,by omega,by omega,λ_ l h=>by cases h⟩
 |d+1,hd,p,hp,M+1,hM=>by
  show ∃r,Bb (Fy M) M p _=some r/\_;unfold Bb;refine ifF (by grind) ?_;obtain⟨e,q,hn⟩:=Bn9 (N:=M) hp.is;refine C0 q ?_;by_cases b:e=0
  case neg=>exact ifT (by grind) ⟨_,rfl,40-(d+1),rfl,BT8 _,by omega,λh=>Hc h b,λ_ l h=>b (hn.2 h.1)⟩
  refine ifF (by grind) ?_;have a:=hn.1 b;rw[By];refine W4 (λi x1 x2=>x2=(i:Int)/\∃k:Nat,x1=(k:Int)/\40-(d+1)+1+i<=k/\k<=40/\i<=p.L.n/\∀l,chk (d+1) (p::l)↔chk (40-k) (p.L.toList.drop i++l)) 41 _ (by omega)
   ⟨rfl,40-(d+1)+1,rfl,by omega,by omega,by omega,λl=>by rw[show 40-(40-(d+1)+1)=d by omega];exact⟨λh=>h.2,λh=>⟨a,h⟩⟩⟩ ?_
  rintro f i x1 x2 t ⟨rfl,k,rfl,h1,s,u,c⟩ hs;by_cases hl:i<p.L.n
  .refine ifT (by grind) (Ab ?_);obtain⟨r,j,k',r1,r2,r3,r4,r5⟩:=AY4 o (40-k) (by omega) (p.L.g i) (hp.L hl) M (by omega);rw[show ((40-(40-k):Nat):Int)=(k:Int) by omega]at j;refine C0 (by rw[BS9];exact j) ?_;by_cases m:r.2=0
   .refine ifF (by grind) (hs (by omega) _ _ ⟨By,k',r1,by have:=(r4 m).1;omega,r3,by omega,λl=>?_⟩);rw[c,MC _ hl,BU1]
    grind
   refine ifT (by grind) ⟨_,rfl,k',r1,by omega,r3,λh=>Hc h m,λ_ l hc=>?_⟩;rw[c,MC _ hl,BU1]at hc
   grind
  obtain rfl:i=p.L.n:=by omega
  refine Bj ⟨_,rfl,k,rfl,by omega,s,λ_=>⟨by omega,λl=>?_⟩,λh=>Hc rfl h⟩;rw[c,Ko];rfl
def Te (b:2000<=N){p:Pat}(hp:okPS p):∃e,CQ N p=some e/\(e=0↔chk 40 [p]):=by
 obtain⟨r,a,k,h1,c,d,f,g⟩:=AY4 (N:=1500) (by omega) 40 (BT8 _) p hp N (by omega);unfold CQ;refine C0 a ⟨_,rfl,λh=>?_,λh=>?_⟩
 all_goals grind[AY3,Hc]
def Bo0 {T A R:Type}{body:(A->Option R)->T->A->Option R}{k:A->Option R}{M0:R->Prop}(J:List T->A->Prop)(c:∀a,J [] a->∃r,k a=some r/\M0 r)
 (b:∀t L a self,J (t::L) a->(∀a',J L a' -> ∃r,self a' = some r/\M0 r)->∃r,body self t a=some r/\M0 r):∀(L:List T) (a:A),J L a->∃r,T9 L body k a=some r/\M0 r
 |[],a,h=>c a h
 |t::L,a,h=>b t L a _ h λa' h'=>Bo0 J c b L a' h'
def AM1 {p:Pat}(hp:okS p.Is):∃e,BY N p=some e/\(e=0↔Tc p):=by
 obtain⟨a,b,f⟩:=hp;have m:=At7 f;have V:T3 N p.Is=some (vB a b):=by rw[f];grind[Af1]
 have e0:((p.Is.Plus==0)&&(p.Is.Minus==0))=decide (p.Is.Plus=0/\p.Is.Minus=0):=by rw[BV2];simp
 have fin:(Tc p↔vS p.Is)->∃e,((T3 N p.Is).bind λy1=>if (!y1) then some (14:Int)else some 0)=some e/\(e=0↔Tc p):=by
  intro i;rw[V];refine C0 rfl ?_;rw[i,m];cases vB a b
  all_goals simp_all
 have bad:∀{x:Int},x≠0->¬Tc p->∃e,some x=some e/\(e=0↔Tc p):=(by grind);unfold BY;by_cases hk:p.Kind=0 \/ p.Kind=2 \/ p.Kind=6
 .refine ifT (by rcases hk with h|h|h<;>simp[h]) (ltX ?_);rw[e0];by_cases g1:p.Is.Plus=0/\p.Is.Minus=0
  case neg=>exact ifT (by grind) (ifT rfl (bad (by decide) λh=>g1 (h.2.1 (by omega)).1))
  refine ifF (by grind) ?_;by_cases g2:p.Not=true
  .exact ifT g2 (ifT rfl (bad (by decide) λh=>by have:=(h.2.1 (by omega)).2;rw[g2]at this;grind))
  refine ifF g2 ?_;by_cases g3:p.Min=0
  case neg=>exact ifT (by grind) (ifT rfl (bad (by decide) λh=>g3 (h.2.2.2.1 (by omega)).1))
  refine ifF (by grind) ?_;by_cases g4:p.Max=0
  case neg=>exact ifT (by grind) (ifT rfl (bad (by decide) λh=>g4 (h.2.2.2.1 (by omega)).2))
  refine ifF (by grind) ?_;by_cases g5:p.L.n=0
  case neg=>exact ifT (by grind) (bad (by decide) λh=>g5 (h.2.2.1 (by omega) (by omega) (by omega)))
  refine ifF (by grind) (fin ?_);exact⟨λh=>h.2.2.2.2.2,λh=>⟨by omega,by grind,λ_ _ _=>g5,λ_=>⟨g3,g4⟩,λc=>by omega,h⟩⟩
 refine ifF (by grind) ?_;by_cases k1:p.Kind=1
 .refine ifT (by grind) (ltX ?_);refine Bj ?_;by_cases g3:p.Min=0
  case neg=>exact ifT (by grind) (ifT rfl (bad (by decide) λh=>g3 (h.2.2.2.1 (by omega)).1))
  refine ifF (by grind) ?_;by_cases g4:p.Max=0
  case neg=>exact ifT (by grind) (ifT rfl (bad (by decide) λh=>g4 (h.2.2.2.1 (by omega)).2))
  refine ifF (by grind) ?_;by_cases g5:p.L.n=0
  case neg=>exact ifT (by grind) (bad (by decide) λh=>g5 (h.2.2.1 (by omega) (by omega) (by omega)))
  refine ifF (by grind) (fin ?_);exact⟨λh=>h.2.2.2.2.2,λh=>⟨by omega,by omega,λ_ _ _=>g5,λ_=>⟨g3,g4⟩,λc=>by omega,h⟩⟩
 refine ifF (by grind) (ltX ?_);rw[e0];have tail:∀(x y:Int),(Tc p↔(p.Is.Plus=0/\p.Is.Minus=0)/\p.Not=false/\x=0/\y=0/\vS p.Is)->∃e,(if (((((decide (p.Is.Plus=0/\p.Is.Minus=0) != true)||p.Not)||(x != 0))||(y != 0))||(decide (0<0))) then some (2:Int)else
  (T3 N p.Is).bind λy3=>if (!y3) then some 14 else some 0)=some e/\(e=0↔Tc p):=by
  intro x y i;by_cases g:(p.Is.Plus=0/\p.Is.Minus=0)/\p.Not=false/\x=0/\y=0
  .grind
  refine ifT ?_ (by grind)
  grind
 by_cases k34:p.Kind=3 \/ p.Kind=4
 .refine ifT (by rcases k34 with h|h<;>simp[h]) (tail _ _ ?_);constructor
  .exact λh=>⟨(h.2.1 k1).1,(h.2.1 k1).2,(h.2.2.2.1 (by omega)).1,(h.2.2.2.1 (by omega)).2,h.2.2.2.2.2⟩
  rintro⟨h1,d,j,l,c⟩;exact⟨by omega,λ_=>⟨h1,d⟩,λh h'=>by omega,λ_=>⟨j,l⟩,λh=>by omega,c⟩
 refine ifF (by grind) ?_;by_cases k5:p.Kind=5
 .refine ifT (by grind) ?_;by_cases g:p.L.n=1/\0<=p.Min/\p.Min<=32/\(p.Max = -1 \/ (p.Min<=p.Max/\p.Max<=32))
  .refine ifF (by grind) (tail 0 0 ?_);constructor
   .exact λh=>⟨(h.2.1 k1).1,(h.2.1 k1).2,rfl,rfl,h.2.2.2.2.2⟩
   rintro⟨h1,d,j,l,c⟩;exact⟨by omega,λ_=>⟨h1,d⟩,by omega,λh=>Hc k5 h,λ_=>g,c⟩
  exact ifT (by grind) (bad (by decide) λh=>g (h.2.2.2.2.1 k5))
 exact ifF (by grind) (bad (by decide) λh=>by have:=h.1;omega)
def AY5 {x:Sl Pat}{m:Nat}(h:x.n=m+1):x.toList.reverse=x.g m::(x.take m).toList.reverse:=by
 grind[Sl.toList,List.range_succ,List.reverse_append]
def Bo1 (z:Sl Pat)(q:Pat):((z.push Pat.nil).upd z.n q).toList.reverse=q::z.toList.reverse:=by
 rw[AY5 (m:=z.n) rfl];have e1:((z.push Pat.nil).upd z.n q).g z.n=q:=by simp
 have e2:(((z.push Pat.nil).upd z.n q).take z.n).toList=z.toList:=by
  unfold Sl.toList;refine BV6 λi a=>?_
  have:i<z.n:=BW9.1 a
  grind
 rw[e1,e2]
def At8 (q:Sl Pat)(c:q.n<N)(hs:q.n<1000000):E7 N q=some ((List.range q.n).reverse.map λ(i:Nat)=>((i:Int),q.g i)):=by
 unfold E7;have h:∀(m:Nat),m<=q.n->∀F,m<F->O7 F (λ(a:Int->Option (List (Int×Pat))) (x1:Int)=>
  if (decide (0<=x1)) then
   if ((0:Int)<=x1/\x1<(q.n:Int))then
    Dk (x1,q.g x1.toNat) (
     a (wrap .i64 (x1-1))
     )
   else none
  else
   some []) ((m:Int)-1)=some ((List.range m).reverse.map λ(i:Nat)=>((i:Int),q.g i)):=by
  intro m
  induction m with
  |zero=>
   intro _ F b
   match F,b with
   |F+1,_=>rfl
  |succ m ih=>
   intro hm F b
   match F,b with
   |F+1,b=>rw[BQ];rw[show ((m+1:Nat):Int)-1=(m:Int) by omega,Fg (by simp),Dl,Qf,ih (by omega) F (by omega),BS9,Ca6,Cb2,Cj1,Cj5,BU9];rfl
 rw[Qf]
 grind
def BC4 {k:Nat}(hk:k<=40){c:Sl Pat}{l:List Pat}:chk k ((c.take (min 41 c.n)).toList++l)↔chk k (c.toList++l):=by
 by_cases h:c.n<=41
 .rw[Cg4 h]
 constructor
 .intro a
  have:=Td _ _ a
  rw[BW7,FF]at this
  have:(c.take (min 41 c.n)).n=41:=Ca2 (by omega)
  omega
 intro a
 have:=Td _ _ a
 rw[BW7,FF]at this;omega
def XY (hN:2000<=N){p:Pat}(hp:okPS p):∃e,AP N p=some e/\(e=0↔chk 40 [p]):=by
 unfold AP;refine W4 (λi x3 x4=>x4=(i:Int)/\x3.n<=1+41*i/\(∀q∈x3.toList.reverse,okPS q)/\(chk 40 [p]↔chk (40-i) x3.toList.reverse)) 40 _ (by omega)
  ⟨rfl,by grind,λq l=>by rw[show (Sl.of [p]:Sl Pat).toList.reverse=[p] from rfl]at l;rw[Ca8.1 l];omega,Ce2⟩ ?_
 rintro x i x3 x4 hi ⟨rfl,h1,c,f⟩ hs;rcases hn:x3.n with _|m
 .refine Bj ⟨0,rfl,λ_=>f.2 ?_,λ_=>rfl⟩
  have:x3.toList.reverse=[]:=by unfold Sl.toList;rw[hn];rfl
  rw[this];exact AY3 _
 rw[AY5 hn]at f c;refine ifT (by grind) ?_;by_cases o:i=40
 .subst o;refine Ad ⟨12,rfl,by omega,λh=>?_⟩
  have:(x3.g m::(x3.take m).toList.reverse)=[]:=f.1 h
  grind
 refine ifF (by grind) ?_;have hw:IntKind.i64.wrap (((m+1:Nat):Int)-1)=(m:Int):=by rw[Qf];omega
 simp only[hw,BS9];refine Ab (Ab ?_);obtain⟨e,y,a⟩:=AM1 (N:=N) (c (x3.g m) (by simp)).is;refine C0 y ?_;rw[show 40-i=(39-i)+1 by omega]at f;by_cases r:e=0
 case neg=>exact ifT (by grind) ⟨e,rfl,λh=>Hc h r,λh=>Hc (a.2 (f.1 h).1) r⟩
 refine ifF (by grind) ?_;have hc:(if (41:Int)<((x3.g m).L.n:Int)then (41:Int)else ((x3.g m).L.n:Int))=((min 41 (x3.g m).L.n:Nat):Int):=by split<;>omega
 simp only[hc,BS9];refine Ab (C0 rfl (C0 (At8 _ (by grind) (by grind)) ?_));generalize s:(x3.g m).L.take (min 41 (x3.g m).L.n)=C;have a0:C.n<=41:=by rw[<- s];grind
 refine Bo0 (λL z=>∃j,j<=C.n/\L=((List.range j).reverse.map λ(i:Nat)=>((i:Int),C.g i))/\z.n=m+(C.n-j)/\z.toList.reverse=C.toList.drop j++(x3.take m).toList.reverse) ?_ ?_ _ _ ⟨C.n,BT8 _,rfl,by grind,by rw[Ko];rfl⟩
 .rintro z ⟨j,hj,hL,hz,b⟩;have u:j=0:=by
   simp_all
  subst u;rw[Ch2]at b;refine hs (by omega) _ _ ⟨By,by omega,λq l=>?_,?_⟩
  .rw[b]at l;rcases List.mem_append.1 l with h|h
   .obtain⟨i',d,rfl⟩:=BZ1.1 h;have d:=BW9.1 d;rw[<- s]at d⊢;exact (c (x3.g m) (by simp)).L (by grind)
   grind
  rw[b,f,show 40-(i+1)=39-i by omega,<- s,BC4 (by omega)];exact⟨λh=>h.2,λh=>⟨a.1 r,h⟩⟩
 rintro t L z v ⟨j,hj,hL,hz,b⟩ w;cases j with
 |zero=>grind
 |succ j=>rw[Ca6,Cb2,Cj1,Cj5,BU9]at hL;obtain⟨rfl,rfl⟩:=List.cons.inj hL;have e1:(z.n:Int).toNat=z.n:=BS9 _;refine ifT (by grind) ?_;refine w _ ⟨j,by omega,rfl,by grind,?_⟩;rw[Bo1,b,MC C (i:=j) (by omega),BU1]
def wOk (w:Sl Qb):Prop:=w.n<=32/\∀i,i<w.n->vS (w.g i)
def PO {w:Sl Qb}(l:w.n<N)(hs:w.n<1000000){f:Qb->Option Bool}{b:Nat->Bool}(m:∀i,i<w.n->f (w.g i)=some (b i)) :∃r,C5 N w f=some r/\(r=true ↔ ∃i,i<w.n/\b i=true):=by
 unfold C5 F8
 have:∃y,O7 N (λ(a:Int->Option Int) (x1:Int)=>
  if (decide (x1<(w.n:Int))) then
   if ((0:Int)<=x1/\x1<(w.n:Int))then
    (f (w.g x1.toNat)).bind λy3=>
    if y3 then
     some x1
    else
     a (wrap .i64 (x1+1))
   else none
  else
   some (-1)) 0=some y/\(0<=y ↔ ∃i,i<w.n/\b i=true):=by
  refine Y6 (λi x1=>x1=(i:Int)/\∀j,j<i->b j=false) w.n _ l (by grind) ?_;rintro d i x1 o ⟨rfl,h⟩ c;by_cases hl:i<w.n
  .refine ifT (by grind) (Ab (C0 (by rw[BS9];exact m i hl) ?_));cases hb:b i
   .refine Bj (c hl _ ⟨By,λj q=>?_⟩)
    grind
   grind
  refine ifF (by grind) ⟨-1,rfl,λh=>Hc h (by decide),?_⟩
  grind
 grind
def At9 {A R:Type}{body:(A->Option R)->A->Option R}(st:Nat->A)(p:Nat->Bool)(n:Nat)(Ai7:Option R)(bad:Nat->Option R)
 (hb:∀self i,i<=n->(∀j,j<i->p j=true)->body self (st i)=if i<n then (if p i then self (st (i+1))else bad i)else Ai7) :
 ∀(N i:Nat),i<=n->(∀j,j<i->p j=true)->n-i<N->O7 N body (st i)=match (List.range n).find? (λi=>!p i)with|some i=>bad i|none=>Ai7
 |0,_,_,_,h=>by omega
 |N+1,i,hi,hp,h=>by
  rw[BQ,hb _ i hi hp];by_cases h1:i<n
  .rw[Fg h1];by_cases a:p i=true
   .rw[Fg a];exact At9 st p n Ai7 bad hb N (i+1) h1 (by grind) (by omega)
   rw[Gb a]
   have:(List.range n).find? (λi=>!p i)=some i:=by
    rw[List.find?_range_eq_some]
    grind
   rw[this]
  grind
def Bo2 {R:Type}(p:Nat->Bool)(n:Nat)(Ai7 bad:Option R):(match (List.range n).find? (λi=>!p i)with|some i=>bad|none=>Ai7)=if (List.range n).all p then Ai7 else bad:=by
 by_cases h:(List.range n).all p=true
 all_goals grind
def Es {A R:Type}{body:(A->Option R)->A->Option R}(st:Nat->A)(p:Nat->Bool)(n:Nat)(Ai7 bad:Option R){N:Nat}(a:n<N)
 (hb:∀self i,i<=n->(∀j,j<i->p j=true)->body self (st i)=if i<n then (if p i then self (st (i+1))else bad)else Ai7) :
 O7 N body (st 0)=if (List.range n).all p then Ai7 else bad:=by
 rw[At9 st p n Ai7 (λ_=>bad) hb N 0 (by omega) (λj b=>by omega) (by omega),Bo2]
def DC (c:Int):Bool:=decide (97<=c)&&decide (c<=122)||decide (48<=c)&&decide (c<=57)
def Kq (s:Str):Bool:=decide (1<=s.length)&&decide (s.length<=16)&&decide (97<=F0 s 0)&&decide (F0 s 0<=122)&&(List.range s.length).all λi=>DC (F0 s i)
def AY6 (s:Str)(hs:s.length<N)(b:s.length<1000000000):EK N s=some (Kq s):=by
 unfold EK;rw[Fg (by grind)];by_cases hc:((((decide (((s.length:Nat):Int)<1))||(decide (16<((s.length:Nat):Int))))||(decide ((F0 s 0)<97)))||(decide (122<(F0 s 0))))=true
 .rw[Fg hc];simp at hc;simp only[Kq,BT2]
  grind
 rw[Gb hc];simp only[BV9,Je]at hc;refine (Es (λi:Nat=>(i:Int)) (λi=>DC (F0 s i)) s.length (some true) (some false) hs λa i g _=>?_).trans ?_
 .simp only[Je];by_cases h:i<s.length
  .rw[Dl,Dl,Fg h,By];simp only[Db,BT1];show (if (!DC (F0 s i)) then _ else _)=_;cases DC (F0 s i)<;>simp
  grind
 have h1:decide (1<=s.length)=true:=by grind
 have c:decide (s.length<=16)=true:=by grind
 have d:decide (97<=F0 s 0)=true:=by grind
 have f:decide (F0 s 0<=122)=true:=by grind
 simp only[Kq,h1,c,d,f,Ce5];cases (List.range s.length).all λi=>DC (F0 s i)<;>rfl
def Qs (p:Int->Bool)(s:Str)(most:Int):Bool:=decide (1<=s.length)&&decide ((s.length:Int)<=most)&&(List.range s.length).all λi=>p (F0 s i)
def Tf (s:Str)(most:Int)(p:Int->Bool)(f:Int->Option Bool)(b:∀i,i<s.length->f (F0 s i)=some (p (F0 s i)))(hs:s.length<N)(c:s.length<1000000000):J4 N s most f=some (Qs p s most):=by
 unfold J4;by_cases hc:((decide (((s.length:Nat):Int)<1))||(decide (most<((s.length:Nat):Int))))=true
 .rw[Fg hc];simp at hc;simp only[Qs,BT2]
  grind
 rw[Gb hc];simp only[BV9,Je]at hc;refine (Es (λi:Nat=>(i:Int)) (λi=>p (F0 s i)) s.length (some true) (some false) hs λa i g _=>?_).trans ?_
 .simp only[Je];by_cases h:i<s.length
  .rw[Dl,Dl,Fg h,By,b i h];simp only[BT1];cases p (F0 s i)<;>simp
  grind
 have h1:decide (1<=s.length)=true:=by grind
 have d:decide ((s.length:Int)<=most)=true:=by grind
 simp only[Qs,h1,d,Ce5];cases (List.range s.length).all λi=>p (F0 s i)<;>rfl
def Au0 (s:Str)(most:Int)(p:Int->Bool)(f:Int->Option Bool)(b:∀c,f c=some (p c))(hs:s.length<N)(a:s.length<1000000000):J4 N s most f=some (Qs p s most):=Tf s most p f (λi _=>b _) hs a
def Au1 (s:Str):Bool:=Qs DC s 16&&decide (57<F0 s 0)
def AY7 (s:Str):Au1 s=Kq s:=by
 rw[BV2];simp only[Au1,Kq,Qs,BT5,Je,BU0,BW9];constructor
 .rintro⟨⟨⟨h1,c⟩,a⟩,d⟩;have b:=a 0 (by omega);have ez:((0:Nat):Int).toNat=(0:Int).toNat:=rfl;simp only[DC,BV9,BT5,Je]at b
  grind
 grind
def AY8 (s:Sl Str):Bool:=(List.range s.n).all λi=>(List.range i).all λj=>!(s.g i==s.g j)
def Au2 (s:Sl Str):Bool:=(List.range s.n).all λi=>Kq (s.g i)
def XZ (s:Sl Str):Int:=if 24<s.n then 12 else if Au2 s then (if AY8 s then 0 else 6)else 15
def BC5 (s:Sl Str)(d:1100000<=N)(hs:∀i,i<s.n->(s.g i).length<1100000) :Ki N s=some (if XZ s=0 then some ⟨true,(Sl.of []:Sl Str).app s,Sl.nil⟩else none,XZ s):=by
 unfold Ki XZ;by_cases b:24<s.n
 .rw[Fg (by grind),Fg b];simp
 rw[Gb (by grind),Gb b];refine (Es (λi:Nat=>(i:Int)) (λi=>Kq (s.g i)) s.n (if AY8 s then some (some ⟨true,(Sl.of []:Sl Str).app s,Sl.nil⟩,0)else some (none,6)) (some (none,15)) (by omega) λa i c _=>?_).trans ?_
 .simp only[Je];by_cases h:i<s.n
  .rw[Dl,Dl,Fg h,By];rw[show (i:Int).toNat=i from rfl,AY6 _ (by have:=hs i h;omega) (by have:=hs i h;omega)]
   grind
  rw[Dm,Gb h];refine (Es (λi:Nat=>(i:Int)) (λi=>(List.range i).all λj=>!(s.g i==s.g j)) s.n (some (some ⟨true,(Sl.of []:Sl Str).app s,Sl.nil⟩,0)) (some (none,6)) (by omega) λa i c _=>?_).trans ?_
  .skip
   by_cases h:i<s.n
   .rw[Dl,Fg h];refine (Es (λj:Nat=>(j:Int)) (λj=>!(s.g i==s.g j)) i (a ((i+1:Nat):Int)) (some (none,6)) (by omega) λself' j f _=>?_).trans ?_
    .skip
     by_cases h' : j<i
     .rw[Dl,Dl,Fg h',By]
      grind
     rw[Dm,Gb h',By]
    rfl
   grind
  rfl
 grind[Au2,AY8]
def VX {κ ν : Type}{eq : κ -> κ -> Bool}{k : κ}:∀{es:List (κ × ν)},(∀p,p∈es->eq k p.1=false)->O1 eq k es=none
 |[],_=>rfl
 |(a,v)::es,h=>by have h1:=h (a,v) (by simp);simp only[O1,h1,BT6,Ih];exact VX (by grind)
def VY {κ ν : Type}{eq : κ -> κ -> Bool}{k : κ}:∀{es:List (κ × ν)}{p : κ × ν},p∈es->eq k p.1=true->∃v,O1 eq k es=some v
 |(a,v)::es,p,hp,h=>by
  by_cases e:eq k a=true
  .simp_all[O1]
  rcases BX5.1 hp with rfl|hp
  .grind
  obtain⟨v',b⟩:=VY hp h
  grind[O1]
def NU {κ ν : Type}{eq : κ -> κ -> Bool}{k : κ}{v : ν}:∀{es:List (κ × ν)},(∀p,p∈es->eq k p.1=false)->GL eq k v es=es++[(k,v)]
 |[],_=>rfl
 |(a,x)::es,h=>by have h1:=h (a,x) (by simp);simp only[GL,h1,BT6,Ih,BU1,Ca5,true_and];exact NU (by grind)
def AM2 (s:Sl Str)(k:Nat):List (Str×Int):=(List.range k).map λi=>(s.g i,(i:Int))
def AY9 (s:Sl Str)(k:Nat):AM2 s (k+1)=AM2 s k++[(s.g k,(k:Int))]:=by simp[AM2,Ca6]
def BC6 (s:Sl Str)(o:1100000<=N)(hs:∀i,i<s.n->(s.g i).length<1100000) :AX N s=some (if XZ s=0 then some ⟨s,AM2 s s.n,Sl.nil,[],[]⟩else none,XZ s):=by
 unfold AX XZ;by_cases a:24<s.n
 .rw[Fg (by grind),Fg a];simp
 rw[Gb (by grind),Gb a];refine (Es (λi:Nat=>(i:Int)) (λi=>Kq (s.g i)) s.n (if AY8 s then some (some ⟨s,AM2 s s.n,Sl.nil,[],[]⟩,0)else some (none,6)) (some (none,15)) (by omega) λb i l _=>?_).trans ?_
 .simp only[Je];by_cases h:i<s.n
  .rw[Dl,Dl,Fg h,By];rw[show (i:Int).toNat=i from rfl,Au0 (s.g i) 16 DC (λ(u3:Int)=>T6 N u3) (λc=>rfl) (by have:=hs i h;omega) (by have:=hs i h;omega),<- AY7];simp only[BT1,Au1];by_cases hc:Qs DC (s.g i) 16=true
   .have hl:1<=(s.g i).length:=by
     have hc:=hc
     simp_all[Qs,BT5,Je]
    rw[Dl]
    grind
   grind
  rw[Dm,Gb h];unfold Y4;refine (Es (λi:Nat=>(AM2 s i,(i:Int))) (λi=>(List.range i).all λj=>!(s.g i==s.g j)) s.n (some (some ⟨s,AM2 s s.n,Sl.nil,[],[]⟩,0)) (some (none,6)) (by omega) λb i l _=>?_).trans ?_
  .dsimp only;by_cases h:i<s.n
   .rw[Dl,Dl,Fg h,By,show (i:Int).toNat=i from rfl];by_cases d:((List.range i).all λj=>!(s.g i==s.g j))=true
    .have hk:∀p,p∈AM2 s i->eqS (s.g i) p.1=false:=by
      intro p hp;simp only[AM2,BZ1,BW9]at hp;obtain⟨j,f,rfl⟩:=hp
      have:=BU0.1 d j (BW9.2 f)
      simpa using this
     rw[VX hk,M9,NU hk,<- AY9,Fg d]
    obtain⟨v,m⟩:∃v,O1 eqS (s.g i) (AM2 s i)=some v:=by
     rw[Ci7]at d;obtain⟨j,f,q⟩:=List.all_eq_false.1 d;refine VY (p:=(s.g j,(j:Int))) ?_ ?_
     .simp only[AM2,BZ1]
      grind
     grind
    rw[m,N0,Gb d]
   rw[Dm,Gb h]
   have:i=s.n:=by omega
   subst this;simp only[D5];rw[Dl];rfl
  rfl
 grind[Au2,AY8]
def BP3 (p m:BitVec 32)(i:Nat):Bool:=(p.getLsbD i&&m.getLsbD i)||((p.getLsbD i||m.getLsbD i)&&decide (24<=i))
def PP (p m:BitVec 32):Bool:=(List.range 32).all λi=>!BP3 p m i
def AC0 (p m:BitVec 32)(b:1000<=N):G9 N (sOf p m)=some (PP p m):=by
 unfold G9;refine (Es (λi:Nat=>(i:Int)) (λi=>!BP3 p m i) 32 (some true) (some false) (by omega) λa i c _=>?_).trans ?_
 .dsimp only;by_cases h:i<32
  .rw[Fg (by grind),Dl,Fg h,By];simp only[VU];have e:decide ((24:Int)<=(i:Int))=decide (24<=i):=(by grind);rw[e]
   grind[BP3]
  grind
 grind[PP]
def BH6 (p m:BitVec 32)(f:Nat):Int:=if PP p m=true/\f<24 then (if p.getLsbD f then 1 else if m.getLsbD f then -1 else 0)else 0
def BC7 (p m:BitVec 32)(f:Nat)(a:1000<=N):W2 N (sOf p m) (f:Int)=some (BH6 p m f):=by
 unfold W2;rw[AC0 p m a];simp only[BT1,lt,Dz,VU,BH6];rw[Fg (by omega:(0:Int)<=(f:Int)),Fg (by omega:(0:Int)<=(f:Int))];have e:(decide ((0:Int)<=(f:Int))&&decide ((f:Int)<24))=decide (f<24):=by rw[BV2];grind
 rw[e]
 grind
def BC8 (n:Nat)(p m:BitVec 32):Bool:=PP p m&&(List.range (24-n)).all λi=>!(BH6 p m (n+i) != 0)
def Au3 (v:E1)(p m:BitVec 32)(hn:v.F.n<=24)(a:1000<=N):Y2 N v (sOf p m)=some (BC8 v.F.n p m):=by
 unfold Y2;rw[AC0 p m a];simp only[BT1,BC8];by_cases c:PP p m=true
 .rw[Gb (by grind)];refine (Es (λi:Nat=>((v.F.n+i:Nat):Int)) (λi=>!(BH6 p m (v.F.n+i) != 0)) (24-v.F.n) (some true) (some false) (by omega) λb i d _=>?_).trans ?_
  .by_cases h:i<24-v.F.n
   .rw[Fg (by grind),Fg h,BC7 p m _ a,By]
    grind
   grind
  grind
 grind
def belG (n:Nat)(p m:BitVec 32):Bool:=decide (p &&& m=0#32)&&decide ((p ||| m) &&& ~~~(BitVec.ofNat 32 (2 ^ n-1))=0#32)
def Au4 {n:Nat}(hn:n<=24):wrap .u32 ((shI .shl .u32 1 ((n:Nat):Int))-1)=((BitVec.ofNat 32 (2 ^ n-1)).toNat:Int):=by
 have hp:2 ^ n<=2 ^ 24:=Cc3 (by omega) hn;have a:0<2 ^ n:=(by grind);rw[show (1:Int)=((1#32).toNat:Int) from rfl,Bt2,Cg1,Ci4];have e:(1#32).toNat*2 ^ n % 2 ^ 32=2 ^ n:=by
  grind
 rw[e,show ((2 ^ n:Nat):Int)-((1#32).toNat:Int)=((2 ^ n-1:Nat):Int) by
  grind,MX (by omega),Ch1,BZ8 (by omega)]
def Au5 (v:A5)(p m:BitVec 32)(hn:v.feats.n<=24):O0 N v (sOf p m)=some (belG v.feats.n p m):=by unfold O0;rw[Dl,Au4 hn,IK,CX,DN,eq0,eq0];rfl
def BP4 {n:Nat}(hn:n<=24)(p m:BitVec 32):belG n p m=BC8 n p m:=by
 have a:∀i,i<32->(BitVec.ofNat 32 (2 ^ n-1)).getLsbD i=decide (i<n):=λi b=>by rw[BitVec.getLsbD_ofNat,Nat.testBit_two_pow_sub_one];grind
 have z:∀x:BitVec 32,x=0#32 ↔ ∀i,i<32->x.getLsbD i=false:=(by grind);rw[BV2];simp only[belG,BC8,PP,BP3,BT5,Je,z,BU0,BW9,BW1,BV7,BZ2];constructor
 .rintro⟨h1,d⟩;have f : ∀i,i<32->n<=i->p.getLsbD i=false/\m.getLsbD i=false:=by grind
  grind[BH6]
 rintro⟨h1,d⟩;have g:PP p m=true:=by grind[PP,BP3,List.all_eq_true]
 refine⟨λi b=>?_,λi b=>?_⟩
 .have h:=h1 i b;rw[BU5]at h;cases hp:p.getLsbD i<;>cases hm:m.getLsbD i
  all_goals grind
 rw[a i b];by_cases j:i<n
 .grind
 by_cases c:i<24
 .have:=d (i-n) (by omega)
  rw[show n+(i-n)=i by omega]at this;simp only[BH6,g,c,and_self,Hu]at this;cases hp:p.getLsbD i<;>cases hm:m.getLsbD i<;>simp_all
 grind
abbrev fnd (n:Nat)(p:Nat->Bool):Option Nat:=(List.range n).find? p
def AC1 {n:Nat}{p:Nat->Bool}(h:fnd n p=none){i:Nat}(a:i<n):p i=false:=by
 have:=List.find?_eq_none.1 h i (BW9.2 a)
 grind
def OJ {κ : Type}(eq : κ -> κ -> Bool)(f:Nat -> κ)(z : κ):∀l:List Nat,O1 eq z (l.map λi=>(f i,(i:Int)))=(l.find? λi=>eq z (f i)).map λi=>((i:Nat):Int)
 |[]=>rfl
 |a::l=>by
  simp only[BU9,O1,List.find?_cons];cases h:eq z (f a)
  .simp;exact OJ eq f z l
  simp
def BC9 (s:Sl G0)(k:Nat):List (Str×Int):=(List.range k).map λi=>((s.g i).Uc,(i:Int))
def BD0 (s:Sl G0)(k:Nat):List (Qb×Int):=(List.range k).map λi=>((s.g i).S,(i:Int))
def AM3 (s:Sl G0)(z:Str)(k:Nat):O1 eqS z (BC9 s k)=(fnd k λi=>z==(s.g i).Uc).map λi=>((i:Nat):Int):=OJ eqS _ z _
def AM4 (s:Sl G0)(z:Qb)(k:Nat):O1 G5 z (BD0 s k)=(fnd k λi=>G5 z (s.g i).S).map λi=>((i:Nat):Int):=OJ G5 _ z _
structure IOk (v:A5):Prop where
 number:v.number=AM2 v.feats v.feats.n
 symbols:v.symbols=BC9 v.sounds v.sounds.n
 values:v.values=BD0 v.sounds v.sounds.n
 feats:v.feats.n<=24
 sounds:v.sounds.n<=256
 sym:∀i,i<v.sounds.n->1<=(v.sounds.g i).Uc.length/\(v.sounds.g i).Uc.length<=4
def BD1 (a b:Qb):G5 a b=decide (a=b):=by
 rw[BV2];cases a;cases b
 grind
def Bu7:Str:=[64,63,33,38,42,36,37]
def BP5 (c:Int):Bool:=(decide (65<=c)&&decide (c<=90))||decide (0<=Lib.indexByte Bu7 (UInt8.ofNat c.toNat))
def Bo3 (c:Int):Bool:=DC c||BP5 c
def UB (z:Str):Bool:=Qs Bo3 z 4
def Tg (s:Str)(i:Int):0<=F0 s i/\F0 s i<256:=by
 have:=UInt8.toNat_lt (s.getD i.toNat 0)
 grind
def BD2 (c:Int)(a:0<=c)(h1:c<256):N3 N c=some (Bo3 c):=by
 unfold N3;have hs:T6 N c=some (DC c):=rfl;have b:P0 N [64,63,33,38,42,36,37] c=some (Lib.indexByte Bu7 (UInt8.ofNat c.toNat)):=by unfold P0;rw[Fg ⟨a,h1⟩];rfl
 rw[hs,b]
 grind[lt,Bo3,BP5,DC]
def AZ0 (n:Nat)(s:Sl G0)(z:Str)(p m:BitVec 32):Int:= if UB z then if BC8 n p m then if (fnd s.n λi=>z==(s.g i).Uc||decide (sOf p m=(s.g i).S)).isSome then 6 else if s.n=256 then 4 else 0 else 14 else 15
def BH7 (v:A5)(z:Str)(s:Qb):A5:=⟨v.feats,v.number,v.sounds.push ⟨z,s⟩,BC9 (v.sounds.push ⟨z,s⟩) (v.sounds.n+1),BD0 (v.sounds.push ⟨z,s⟩) (v.sounds.n+1)⟩
def AZ1 (s:Sl G0)(x:G0):BC9 (s.push x) (s.n+1)=BC9 s s.n++[(x.Uc,(s.n:Int))]:=by
 grind[BC9,List.range_succ,List.map_congr_left]
def AZ2 (s:Sl G0)(x:G0):BD0 (s.push x) (s.n+1)=BD0 s s.n++[(x.S,(s.n:Int))]:=by
 grind[BD0,List.range_succ,List.map_congr_left]
def BP6 (n:Nat)(p q:Nat->Bool):(fnd n λi=>p i||q i).isSome=((fnd n p).isSome||(fnd n q).isSome):=by
 rw[BV2]
 grind
theorem Bo4 {z:Str}(h:UB z=true):1<=z.length/\z.length<=4:=by simp only[UB,Qs,BT5,Je]at h;omega
def BD3 {v:A5}(h:IOk v)(z:Str)(p m:BitVec 32)(f:z.length<N)(d:z.length<1000000000) :P2 N v z (sOf p m)=some (AZ0 v.feats.n v.sounds z p m,if AZ0 v.feats.n v.sounds z p m=0 then BH7 v z (sOf p m)else v):=by
 unfold P2;rw[Tf z 4 Bo3 (λu1=>N3 N u1) (λi c=>BD2 _ (Tg z i).1 (Tg z i).2) f d,Au5 v p m h.feats,BP4 h.feats,h.symbols,h.values,AM3,AM4];simp only[J3,BT1,BD1];rw[Gb (by simp)];unfold AZ0;rw[BP6];show (if (!UB z) then _ else _)=_;cases hs:UB z
 .simp
 cases hb:BC8 v.feats.n p m
 .simp
 simp only[Cd2,BT6,Ih,Hu];cases e1:fnd v.sounds.n λi=>z==(v.sounds.g i).Uc with
 |some i=>cases e2:fnd v.sounds.n λi=>decide (sOf p m=(v.sounds.g i).S)<;>simp[Jo]
 |none=>
  cases e2:fnd v.sounds.n λi=>decide (sOf p m=(v.sounds.g i).S)with
  |some i=>simp[Jo]
  |none=>
   have hn:=h.sounds;simp only[Cf6,M9,Option.isSome_none,Bool.or_false,BT6,Ih];by_cases a:v.sounds.n=256
   .grind
   rw[Gb (by grind),Fg (by grind),Gb a];simp only[Hu,BT2,BU4,true_and,BH7,AZ1,AZ2];congr 1
   .refine NU λq b=>?_;simp only[BC9,BZ1,BW9]at b;obtain⟨i,c,rfl⟩:=b;exact AC1 e1 c
   refine NU λq b=>?_;simp only[BD0,BZ1,BW9]at b;obtain⟨i,c,rfl⟩:=b;rw[BD1];exact AC1 e2 c
def BD4 {v:A5}(h:IOk v){z:Str}{p m:BitVec 32}(a:AZ0 v.feats.n v.sounds z p m=0):IOk (BH7 v z (sOf p m)):=by
 have hs:UB z=true:=by
  grind[AZ0]
 have hn:v.sounds.n<256:=by
  have:=h.sounds
  unfold AZ0 at a;rw[Fg hs]at a;omega
 refine⟨h.number,rfl,rfl,h.feats,hn,λi b=>?_⟩;show 1<=(if i<v.sounds.n then v.sounds.g i else ⟨z,_⟩).Uc.length/\_;show 1<=(if i<v.sounds.n then v.sounds.g i else ⟨z,_⟩).Uc.length/\(if i<v.sounds.n then v.sounds.g i else ⟨z,_⟩).Uc.length<=4;split
 .rename_i h';exact h.sym i h'
 grind[Bo4]
def BS3 (s:Qb):Prop:=s=sOf (BitVec.ofInt 32 s.Plus) (BitVec.ofInt 32 s.Minus)
def BP7 (n:Nat)(l:Sl G0)(z:Str)(s:Qb):Int:=AZ0 n l z (BitVec.ofInt 32 s.Plus) (BitVec.ofInt 32 s.Minus)
def iAddS {v:A5}(h:IOk v)(z:Str){s:Qb}(hs:BS3 s)(b:z.length<N)(a:z.length<1000000000) :P2 N v z s=some (BP7 v.feats.n v.sounds z s,if BP7 v.feats.n v.sounds z s=0 then BH7 v z s else v):=by
 have:=BD3 h z (BitVec.ofInt 32 s.Plus) (BitVec.ofInt 32 s.Minus) b a
 rw[<- hs]at this;exact this
def Bo5 {v:A5}(h:IOk v){z:Str}{s:Qb}(hs:BS3 s)(a:BP7 v.feats.n v.sounds z s=0):IOk (BH7 v z s):=by
 have:=BD4 h a
 rw[<- hs]at this;omega
def BP8 (c:Int)(a:0<=c)(h1:c<256):Kg N c=some (BP5 c):=by
 have h:∀k:Fin 256,Kg 0 ((k.val:Nat):Int)=some (BP5 ((k.val:Nat):Int)):=by decide +kernel
 have:=h ⟨c.toNat,by omega⟩
 rw[show ((c.toNat:Nat):Int)=c by omega]at this;exact this
def Au6 (s:Str)(hs:s.length<N)(b:s.length<1000000000):Cn N s=some (UB s):=by
 unfold Cn;by_cases hc:((decide (((s.length:Nat):Int)<1))||(decide (4<((s.length:Nat):Int))))=true
 .rw[Fg hc];simp at hc;simp only[UB,Qs,BT2]
  grind
 rw[Gb hc];simp only[BV9,Je]at hc;refine (Es (λi:Nat=>(i:Int)) (λi=>Bo3 (F0 s i)) s.length (some true) (some false) hs λa i d _=>?_).trans ?_
 .by_cases h:i<s.length
  .have hb:=Tg s i;have hl:Db N (F0 s i)=some (DC (F0 s i)):=rfl;rw[Fg (by grind),Dl,Fg h,By,hl,BP8 _ hb.1 hb.2];simp only[BT1,lt];by_cases e:DC (F0 s i)=true
   .rw[Gb (by grind),Fg (show Bo3 (F0 s i)=true by grind[Bo3])];simp
   rw[Fg (by grind),Dl];by_cases e2:BP5 (F0 s i)=true
   all_goals simp_all[Gb,Fg,Bo3,F0]
  grind
 have h1:decide (1<=s.length)=true:=by grind
 have c:decide ((s.length:Int)<=4)=true:=by grind
 simp only[UB,Qs,h1,c,Ce5];cases (List.range s.length).all λi=>Bo3 (F0 s i)<;>rfl
def BS4 (v:E1)(z:Str)(s:Qb):E1:=⟨v.Made,v.F,v.S.push ⟨z,s⟩⟩
def BD5 (v:E1)(hm:v.Made=true)(d:v.F.n<=24)(hS:v.S.n<=256)(z:Str)(p m:BitVec 32)(f:z.length<N)(b:z.length<1000000000)(l:1000<=N) :DA N v z (sOf p m)=some (AZ0 v.F.n v.S z p m,if AZ0 v.F.n v.S z p m=0 then BS4 v z (sOf p m)else v):=by
 unfold DA;rw[Au6 z f b,Au3 v p m d l];simp only[N8,hm,BT1];rw[Gb (by simp)];unfold AZ0;cases hs:UB z
 .simp
 cases hb:BC8 v.F.n p m
 .simp
 simp only[Cd2,BT6,Ih,Hu];refine (At9 (λi:Nat=>(i:Int)) (λi=>!(z==(v.S.g i).Uc||decide (sOf p m=(v.S.g i).S))) v.S.n (some (if v.S.n=256 then 4 else 0,if v.S.n=256 then v else BS4 v z (sOf p m))) (λ_=>some (6,v)) (λc i o _=>?_) N 0 (by omega) (λj q=>by omega) (by omega)).trans ?_
 .by_cases h:i<v.S.n
  .rw[Fg (by grind),Dl,Fg h,show (i:Int).toNat=i from rfl,By];have e0:((((v.S.g i).S.Plus==(sOf p m).Plus)&&((v.S.g i).S.Minus==(sOf p m).Minus)) != false)=decide (sOf p m=(v.S.g i).S):=by
    have:=BD1 (sOf p m) (v.S.g i).S
    rw[<- this];grind
   grind
  rw[Gb (by grind),Gb h];by_cases a:v.S.n=256
  .rw[Fg (by grind),Fg a,Fg a]
  rw[Gb (by grind),Gb a,Gb a,Fg (by grind)]
  grind[BS4]
 grind
structure Rel3 (v:A5) (r:E1):Prop where
 ok:IOk v
 made:r.Made=true
 feats:r.F=v.feats
 sounds:r.S=v.sounds
def BH8 (w:Sl Qb)(e:Int):Prop:=(32<w.n/\e=11) \/ (w.n<=32/\(∃i,i<w.n/\¬vS (w.g i))/\e=14) \/ (wOk w/\e=0)
def AZ3 {w:Sl Qb}{e e' : Int}(h:BH8 w e)(h' : BH8 w e'):e=e':=by
 rcases h with⟨h1,a⟩ | ⟨h1,⟨i,b,c⟩,a⟩ | ⟨h1,a⟩<;>rcases h' with⟨g1,g2⟩ | ⟨g1,⟨j,d,gv⟩,g2⟩ | ⟨g1,g2⟩
 .omega
 .omega
 .have:=g1.1;omega
 .omega
 .omega
 .exact Hc (g1.2 i b) c
 .have:=h1.1;omega
 .exact Hc (h1.2 j d) gv
 omega
def GC {w:Sl Qb}{e:Int}(h:BH8 w e):e=0↔wOk w:=by
 rcases h with⟨h1,a⟩ | ⟨h1,⟨i,b,c⟩,a⟩ | ⟨h1,a⟩
 .exact⟨λh=>by omega,λh=>by have:=h.1;omega⟩
 .exact⟨λh=>by omega,λh=>Hc (h.2 i b) c⟩
 grind
def Af3 (l:1000<=N){w:Sl Qb}(hw:∀i,i<w.n->okS (w.g i))(V:Qb->Option Bool)(d:∀p m:BitVec 32,V (sOf p m)=some (vB p m)) :∃e,(if (decide (32<(w.n:Int))) then
 some (11:Int)
 else
  O7 N (λa (x1:Int)=>
   if (decide (x1<(w.n:Int))) then
    if ((0:Int)<=x1/\x1<(w.n:Int))then
     (V (w.g x1.toNat)).bind λy3=>
     if (!y3) then
      some 14
     else
      a (wrap .i64 (x1+1))
    else none
   else
    some 0
   ) 0)=some e/\BH8 w e:=by
 by_cases hn:32<w.n
 .exact ifT (by grind) ⟨11,rfl,.inl ⟨hn,rfl⟩⟩
 refine ifF (by grind) ?_;refine Y6 (λi x1=>x1=(i:Int)/\∀j,j<i->vS (w.g j)) w.n _ (by omega) (by grind) ?_;rintro b i x1 o ⟨rfl,h⟩ hs;by_cases hl:i<w.n
 .obtain⟨p,m,c⟩:=hw i hl;refine ifT (by grind) (Ab (C0 (by rw[BS9,c];exact d p m) ?_));cases hb:vB p m
  .refine ifT rfl ⟨14,rfl,.inr (.inl ⟨by omega,⟨i,hl,λf=>?_⟩,rfl⟩)⟩
   have:=(At7 c).1 f;rw[hb]at this;grind
  refine Bj (hs hl _ ⟨By,λj q=>?_⟩)
  grind[At7]
 exact ifF (by grind) ⟨0,rfl,.inr (.inr ⟨⟨by omega,by grind⟩,rfl⟩)⟩
def NV (a:1000<=N){w:Sl Qb}(hw:∀i,i<w.n->okS (w.g i)):∃e,W0 N w=some e/\BH8 w e:=
 Af3 a hw (CY N) λp m=>Af0 p m
def HN (a:1000<=N){w:Sl Qb}(hw:∀i,i<w.n->okS (w.g i)):∃e,W8 N w=some e/\BH8 w e:=
 Af3 a hw (W7 N) λp m=>VV p m
def okL (l:Law):Prop:=okPS l.Left/\okPS l.Right/\∀i,i<l.If.n->okS (l.If.g i)
def okO (x:Ex):Prop:=okS x.Set/\(∃c:BitVec 32,x.Clear=(c.toNat:Int))/\∃t:BitVec 32,x.Take=(t.toNat:Int)
def BS5 (l:Law):Prop:=l.Out.n<=6/\∀i,i<l.Out.n->okO (l.Out.g i)/\(l.Out.g i).From<l.If.n/\((l.Out.g i).Take≠0->0<=(l.Out.g i).Of/\(l.Out.g i).Of<l.If.n)
def ne0 (x:BitVec 32):((x.toNat:Int) != 0)=decide (x≠0#32):=by rw[bne,eq0];simp
def or0 (x y:BitVec 32):x ||| y=0#32↔x=0#32/\y=0#32:=by
 grind
def BP9 (x y z:BitVec 32):x &&& (y ||| z)=(x &&& y) ||| (x &&& z):=by
 grind
def Bu8 (x y z:BitVec 32):(x ||| y) &&& z=(x &&& z) ||| (y &&& z):=by
 grind
def AC2 (g:1000<=N){x:Ex}(hx:okO x)(k:Int):∃b,An N x k=some b/\HG N x k=some b:=by
 obtain⟨⟨a,b,d⟩,⟨c,hc⟩,t,ht⟩:=hx;have f:(16777215:Int)=((16777215#32).toNat:Int):=rfl;unfold An HG;simp only[lt,d,hc,ht,Cp,At a b g,BT1];rw[f];simp only[DN,IK,CX,ne0];by_cases h1:x.From < -1
 .simp[h1]
 by_cases i:k<=x.From
 .simp_all
 by_cases j:vB a b=true
 case neg=>simp_all
 simp only[h1,i,j,decide_false,BT6,Ih,Cd2];rw[Bu8,BP9 t];generalize ~~~16777215#32=M;by_cases g1:c &&& M=0#32
 case neg=>simp_all
 by_cases g2:t &&& M=0#32
 case neg=>simp_all
 by_cases g3:c &&& (a ||| b)=0#32
 case neg=>simp_all
 by_cases g4:t &&& (a ||| b)=0#32
 case neg=>simp_all
 by_cases g5:t &&& c=0#32
 case neg=>simp_all
 simp[g1,g2,g3,g4,g5];by_cases g6:t.toNat=0
 .simp only[g6,Hu];cases x.Of==0<;>simp
 simp only[g6,Ih];cases (decide (0<=x.Of)&&decide (x.Of<k))<;>simp
abbrev nameC:Str:=[97,98,99,100,101,102,103,104,105,106,107,108,109,110,111,112,113,114,115,116,117,118,119,120,121,122,65,66,67,68,69,70,71,72,73,74,75,76,77,78,79,80,81,82,83,84,85,86,87,88,89,90,48,49,50,51,52,53,54,55,56,57,45]
def AZ4 {p:UInt8->Bool}:∀{l:Str},l.dropWhile p=[] ↔ ∀x∈l,p x=true
 |[]=>by simp
 |a::l=>by
  rw[List.dropWhile_cons];by_cases h:p a=true
  .rw[Fg h,AZ4];grind
  grind
theorem Ya (l cs:Str):Lib.trimS l cs=[] ↔ ∀b∈l,cs.contains b=true:=by
 unfold Lib.trimS Lib.trimLeftS Lib.trimRightS;rw[AZ4];constructor
 .intro h;have h:∀x∈l.reverse.dropWhile (cs.contains ·),cs.contains x=true:=(by grind);have a:l.reverse.dropWhile (cs.contains ·)=[]:=by
   rcases e:l.reverse.dropWhile (cs.contains ·)with _|⟨y,r⟩
   .rfl
   have c:=h y (by rw[e];simp);have d:¬cs.contains y=true:=by
    have:=List.head_dropWhile_not (cs.contains ·) (l:=l.reverse) (by rw[e];simp)
    grind
   grind
  rw[AZ4]at a
  grind
 grind[List.dropWhile_sublist]
abbrev Yb (y:Int):Bool:=((((decide (97<=y))&&(decide (y<=122)))||((decide (65<=y))&&(decide (y<=90))))||((decide (48<=y))&&(decide (y<=57))))||(y==45)
def AZ5:∀k:Fin 256,nameC.contains (UInt8.ofNat k.val)=Yb ((k.val:Nat):Int):=by decide +kernel
def AZ6 (b:UInt8):nameC.contains b=Yb ((b.toNat:Nat):Int):=by
 have:=AZ5 ⟨b.toNat,b.toNat_lt⟩
 rw[show UInt8.ofNat b.toNat=b by simp]at this;omega
def Af4 {s:Str}(g:s.length<N)(hs:s.length<1000000000):∃b,DU N s=some b/\Ec N s=some b:=by
 have l:∃b,Ec N s=some b/\(b=true↔(∀c∈s,nameC.contains c=true)/\1<=s.length/\s.length<=24):=by
  unfold Ec;refine Y6 (λi x1=>x1=(i:Int)/\∀j (h:j<s.length),j<i->nameC.contains s[j]=true) s.length _ g (by grind) ?_;rintro d i x1 o ⟨rfl,h⟩ a;by_cases hl:i<s.length
  .refine ifT (by grind) (Ab ?_);have eb:F0 s (i:Int)=((s[i].toNat:Nat):Int):=by simp[F0,hl]
   by_cases hb:nameC.contains s[i]=true
   .refine ifF (by rw[eb];show ¬(!(Yb ((s[i].toNat:Nat):Int)))=true;rw[<- AZ6,hb];simp) (a hl _ ⟨By,λj m n=>?_⟩)
    grind
   refine ifT ?_ (by grind);rw[eb];show (!(Yb ((s[i].toNat:Nat):Int)))=true;rw[<- AZ6]
   grind
  refine ifF (by grind) ⟨_,rfl,?_⟩;simp only[BT5,Je];constructor
  .rintro⟨g1,g2⟩;refine⟨λc hc=>?_,by omega,by omega⟩;obtain⟨j,m,rfl⟩:=Ca0 hc
   grind
  omega
 obtain⟨b,e,hb⟩:=l;refine⟨b,?_,e⟩
 suffices h:∃r,DU N s=some r/\(r=true↔(∀c∈s,nameC.contains c=true)/\1<=s.length/\s.length<=24) by
  grind
 unfold DU;refine ltX ?_;by_cases q:s=[]
 .grind
 refine ifT (by grind) ?_;have f:0<s.length:=(by grind);by_cases h1:s.length<=24
 .refine ifT (by grind) (C0 (x:=Lib.trimS s nameC) ?_ ⟨_,rfl,?_⟩)
  .unfold Am;rw[Fg ⟨by omega,by decide,by decide⟩]
  grind[Ya]
 grind
def Af5 {s:Sl Ex}(l:s.n<N)(hs:s.n<1000000){f:Ex->Option Bool}{b:Nat->Bool}(m:∀i,i<s.n->f (s.g i)=some (b i)) :∃r,D6 N s f=some r/\(r=true ↔ ∃i,i<s.n/\b i=true):=by
 unfold D6 G7
 have:∃y,O7 N (λ(a:Int->Option Int) (x1:Int)=>
  if (decide (x1<(s.n:Int))) then
   if ((0:Int)<=x1/\x1<(s.n:Int))then
    (f (s.g x1.toNat)).bind λy3=>
    if y3 then
     some x1
    else
     a (wrap .i64 (x1+1))
   else none
  else
   some (-1)) 0=some y/\(0<=y ↔ ∃i,i<s.n/\b i=true):=by
  refine Y6 (λi x1=>x1=(i:Int)/\∀j,j<i->b j=false) s.n _ l (by grind) ?_;rintro d i x1 o ⟨rfl,h⟩ c;by_cases hl:i<s.n
  .refine ifT (by grind) (Ab (C0 (by rw[BS9];exact m i hl) ?_));cases hb:b i
   .refine Bj (c hl _ ⟨By,λj q=>?_⟩)
    grind
   grind
  refine ifF (by grind) ⟨-1,rfl,λh=>Hc h (by decide),?_⟩
  grind
 grind
def Yc (l:Law):Prop:=okL l/\l.Name.length<1100000/\l.If.n<1100000/\l.Out.n<1100000/\∀i,i<l.Out.n->okO (l.Out.g i)
def AM5 {s:Qb}(hs:okS s):∃b,H4 N s=some b/\(b=true↔vS s):=by obtain⟨p,m,e⟩:=hs;exact⟨vB p m,by rw[e];grind[Cp],(At7 e).symm⟩
def AM6 (a:1000<=N){s:Qb}(hs:okS s):∃b,G9 N s=some b/\(b=true↔vS s):=by obtain⟨p,m,e⟩:=hs;exact⟨vB p m,by rw[e];grind[At],(At7 e).symm⟩
def Bo6 {x:Ex}(hx:okO x){k:Int}(h:An N x k=some true):x.From<k/\(x.Take≠0->0<=x.Of/\x.Of<k):=by
 obtain⟨⟨a,b,c⟩,_,_⟩:=hx;unfold An at h;simp only[lt,c,Cp,BT1]at h
 grind
def chkAll (N:Nat)(l:Law):Prop:=Ec N l.Name=some true/\chk 40 [l.Left]/\chk 40 [l.Right]/\l.If.n<=4/\l.Out.n<=6/\l.If.n+l.Out.n≠0/\1<=l.Mode/\l.Mode<=3/\(∀i,i<l.If.n->vS (l.If.g i))/\∀i,i<l.Out.n->An N (l.Out.g i) l.If.n=some true
def BQ0 (N:Nat)(l:Law)(e:Int):Prop:=(e=0/\chkAll N l) \/ (e=17/\¬chkAll N l)
def BS6 (l:Law):Prop:=okL l/\chk 40 [l.Left]/\chk 40 [l.Right]/\l.If.n<=4/\BS5 l/\l.If.n+l.Out.n≠0/\1<=l.Mode/\l.Mode<=3
def chkAll.f {N:Nat}{l:Law}(hl:Yc l)(h:chkAll N l):BS6 l:=by obtain⟨_,h1,b,c,d,g,j,m,o,n⟩:=h;exact⟨hl.1,h1,b,c,⟨d,λi a=>⟨hl.2.2.2.2 i a,Bo6 (hl.2.2.2.2 i a) (n i a)⟩⟩,g,j,m⟩
def AM7 (hN:3000000<=N){l:Law}(hl:Yc l):∃e,Z4 N l=some e/\BQ0 N l e:=by
 have r:=hl.2.1;have t:=hl.2.2.1;have u:=hl.2.2.2.1;unfold Z4;obtain⟨b0,e0,e0'⟩:=Af4 (N:=N) (s:=l.Name) (by omega) (by omega);refine C0 e0 ?_;cases b0
 .exact ifT rfl ⟨17,rfl,.inr ⟨rfl,λh=>by have:=h.1;rw[e0']at this;grind⟩⟩
 refine Bj ?_;obtain⟨y2,e2,j⟩:=XY (N:=N) (by omega) hl.1.1;refine C0 e2 ?_;by_cases c2:y2=0
 case neg=>exact ifT (by grind) ⟨17,rfl,.inr ⟨rfl,λh=>c2 (j.2 h.2.1)⟩⟩
 refine ifF (by grind) ?_;obtain⟨y3,e3,m⟩:=XY (N:=N) (by omega) hl.1.2.1;refine C0 e3 ?_;by_cases c3:y3=0
 case neg=>exact ifT (by grind) ⟨17,rfl,.inr ⟨rfl,λh=>c3 (m.2 h.2.2.1)⟩⟩
 refine ifF (by grind) ?_;by_cases c4:4<l.If.n
 .exact ifT (by grind) ⟨17,rfl,.inr ⟨rfl,λh=>by have:=h.2.2.2.1;omega⟩⟩
 refine ifF (by grind) ?_;by_cases c5:6<l.Out.n
 .exact ifT (by grind) ⟨17,rfl,.inr ⟨rfl,λh=>by have:=h.2.2.2.2.1;omega⟩⟩
 refine ifF (by grind) ?_;rw[GJ (by omega)];by_cases c6:l.If.n+l.Out.n=0
 .exact ifT (by rw[c6];rfl) ⟨17,rfl,.inr ⟨rfl,λh=>h.2.2.2.2.2.1 c6⟩⟩
 refine ifF (by grind) ?_;by_cases c7:l.Mode<1 \/ 3<l.Mode
 .exact ifT (by grind) ⟨17,rfl,.inr ⟨rfl,λh=>by have g1:=h.2.2.2.2.2.2.1;have g2:=h.2.2.2.2.2.2.2.1;omega⟩⟩
 refine ifF (by grind) ?_;have v:∀i,∃b,i<l.If.n->Br N (l.If.g i)=some b/\(b=true ↔ ¬vS (l.If.g i)):=by
  intro i;by_cases a:i<l.If.n
  .obtain⟨b,eb,hb⟩:=AM5 (N:=N) (hl.1.2.2 i a)
   grind[Br]
  grind
 obtain⟨f,o⟩:=Cd6 v;obtain⟨y4,e4,x⟩:=PO (N:=N) (w:=l.If) (by omega) (by omega) (f:=λu1=>Br N u1) (λi a=>(o i a).1);refine C0 e4 ?_;cases c:y4
 case true=>obtain⟨i,a,hb⟩:=x.1 c;exact ifT rfl ⟨17,rfl,.inr ⟨rfl,λh=>(o i a).2.1 hb (h.2.2.2.2.2.2.2.2.1 i a)⟩⟩
 refine Bj ?_;have y:∀i,∃b,i<l.Out.n->Bq N (l.Out.g i) (l.If.n:Int)=some b/\(b=true ↔ ¬An N (l.Out.g i) l.If.n=some true):=by
  intro i;by_cases a:i<l.Out.n
  .obtain⟨b,eb,_⟩:=AC2 (N:=N) (by omega) (hl.2.2.2.2 i a) (l.If.n:Int)
   grind[Bq]
  grind
 obtain⟨g,q⟩:=Cd6 y;obtain⟨y5,e5,z⟩:=Af5 (N:=N) (s:=l.Out) (by omega) (by omega) (f:=λu2=>Bq N u2 (l.If.n:Int)) (λi a=>(q i a).1);refine C0 e5 ?_;cases d:y5
 case true=>obtain⟨i,a,hb⟩:=z.1 d;exact ifT rfl ⟨17,rfl,.inr ⟨rfl,λh=>(q i a).2.1 hb (h.2.2.2.2.2.2.2.2.2 i a)⟩⟩
 refine Bj ⟨0,rfl,.inl ⟨rfl,e0',j.1 c2,m.1 c3,by omega,by omega,c6,by omega,by omega,λi a=>?_,λi a=>?_⟩⟩
 all_goals grind
def AM8 (y:3000000<=N){l:Law}(hl:Yc l):∃e,Z7 N l=some e/\BQ0 N l e:=by
 have t:=hl.2.1;have u:=hl.2.2.1;have v:=hl.2.2.2.1;unfold Z7;obtain⟨b0,e0,e0'⟩:=Af4 (N:=N) (s:=l.Name) (by omega) (by omega);refine C0 e0' (ltX ?_);cases b0
 .exact ifT rfl (ifT rfl ⟨17,rfl,.inr ⟨rfl,λh=>by have:=h.1;rw[e0']at this;grind⟩⟩)
 refine Bj ?_;obtain⟨y2,e2,o⟩:=Te (N:=N) (by omega) hl.1.1;refine C0 e2 ?_;by_cases c2:y2=0
 case neg=>exact ifT (by grind) (ifT rfl ⟨17,rfl,.inr ⟨rfl,λh=>c2 (o.2 h.2.1)⟩⟩)
 refine ifF (by grind) ?_;obtain⟨y3,e3,q⟩:=Te (N:=N) (by omega) hl.1.2.1;refine C0 e3 ?_;by_cases c3:y3=0
 case neg=>exact ifT (by grind) ⟨17,rfl,.inr ⟨rfl,λh=>c3 (q.2 h.2.2.1)⟩⟩
 refine ifF (by grind) ?_;rw[GJ (by omega)];by_cases a:l.If.n<=4/\l.Out.n<=6/\l.If.n+l.Out.n≠0/\1<=l.Mode/\l.Mode<=3
 case neg=>
  refine ifT ?_ ⟨17,rfl,.inr ⟨rfl,λh=>a ⟨h.2.2.2.1,h.2.2.2.2.1,h.2.2.2.2.2.1,h.2.2.2.2.2.2.1,h.2.2.2.2.2.2.2.1⟩⟩⟩
  grind
 refine ifF (by grind) ?_;obtain⟨c4,c5,c6,c7,c8⟩:=a;refine Y6 (λi x1=>x1=(i:Int)/\∀j,j<i->vS (l.If.g j)) l.If.n _ (by omega) (by grind) ?_;rintro r i x1 z ⟨rfl,h⟩ hs;by_cases c:i<l.If.n
 .obtain⟨b,eb,hb⟩:=AM6 (N:=N) (by omega) (hl.1.2.2 i c);refine ifT (by grind) (Ab (C0 (by rw[BS9];exact eb) ?_));cases b
  .exact ifT rfl ⟨17,rfl,.inr ⟨rfl,λh=>by have:=hb.2 (h.2.2.2.2.2.2.2.2.1 i c);grind⟩⟩
  refine Bj (hs c _ ⟨By,λj w=>?_⟩)
  grind
 refine ifF (by grind) ?_;have x:∀j,j<l.If.n->vS (l.If.g j):=(by grind);refine Y6 (λi x1=>x1=(i:Int)/\∀j,j<i->An N (l.Out.g j) l.If.n=some true) l.Out.n _ (by omega) (by grind) ?_;rintro f k x2 hk ⟨rfl,h'⟩ m;by_cases d:k<l.Out.n
 .obtain⟨b,eb,eb'⟩:=AC2 (N:=N) (by omega) (hl.2.2.2.2 k d) (l.If.n:Int);refine ifT (by grind) (Ab (C0 (by rw[BS9];exact eb') ?_));cases b
  .exact ifT rfl ⟨17,rfl,.inr ⟨rfl,λh=>by have:=h.2.2.2.2.2.2.2.2.2 k d;rw[eb]at this;grind⟩⟩
  refine Bj (m d _ ⟨By,λj w=>?_⟩)
  grind
 exact ifF (by grind) ⟨0,rfl,.inl ⟨rfl,e0',o.1 c2,q.1 c3,c4,c5,c6,c7,c8,x,by grind⟩⟩
def AZ7 {l:Law}{e e' : Int}(h:BQ0 N l e)(h' : BQ0 N l e'):e=e':=by
 rcases h with⟨rfl,h⟩ | ⟨rfl,h⟩<;>rcases h' with⟨rfl,h'⟩ | ⟨rfl,h'⟩
 all_goals grind
def NW (a:3000000<=N){l:Law}(hl:Yc l):∃e,Z4 N l=some e/\Z7 N l=some e/\BQ0 N l e:=by
 obtain⟨e,h,c⟩:=AM7 a hl;obtain⟨e',h',c'⟩:=AM8 a hl;obtain rfl:=AZ7 c c'
 grind
def VZ (laws:Sl Law):Prop:=∀i,i<laws.n->Yc (laws.g i)
def PQ (N:Nat)(laws:Sl Law):Prop:=laws.n<=64/\∀i,i<laws.n->chkAll N (laws.g i)
abbrev okA (w:Sl Qb):Prop:=∀i,i<w.n->okS (w.g i)
def dep:Nat->Pat->Prop
 |0,_=>False
 |d+1,p=>p.L.n<=40/\∀i,i<p.L.n->dep d (p.L.g i)
theorem Bu9:∀(d:Nat) (p:Pat),dep d p->∀e,d<=e->dep e p
 |0,_,h,_,_=>h.elim
 |d+1,p,h,0,he=>by omega
 |d+1,p,h,e+1,he=>⟨h.1,λi a=>Bu9 d _ (h.2 i a) e (by omega)⟩
def Af6 {N:Nat}(c:1000<=N):∀(d:Nat),d<=40->∀(p:Pat) (M:Nat),N+d+2<=M->∃r:Nat,CG M p ((40-d:Nat):Int)=some (r:Int)/\40-d<r/\r<=41/\(r<=40->dep (d+1) p)
 |d,hd,p,0,hM=>by omega
 |d,hd,p,M+1,hM=>by
  have:∃x,CG (M+1) p ((40-d:Nat):Int)=some x/\∃r:Nat,x=(r:Int)/\40-d<r/\r<=41/\(r<=40->dep (d+1) p):=by
   show ∃x,Dp (CG M) M p _=some x/\_;unfold Dp;rw[By];refine W4 (λi x1 x2=>x2=(i:Int)/\∃k:Nat,x1=(k:Int)/\40-d+1+i<=k/\k<=41/\i<=p.L.n/\(k<=40->∀j,j<i->dep d (p.L.g j))) 41 _ (by omega) ⟨rfl,40-d+1,rfl,by omega,by omega,by omega,by omega⟩ ?_;rintro a i x1 x2 m ⟨rfl,k,rfl,h1,f,o,q⟩ hs;by_cases hc:i<p.L.n/\k<=40
   .refine ifT (by grind) (Ab ?_);obtain⟨r,l,r1,r2,r3⟩:=Af6 c (40-k) (by omega) (p.L.g i) M (by omega);rw[show ((40-(40-k):Nat):Int)=(k:Int) by omega]at l;refine C0 (by rw[BS9];omega) (hs (by omega) _ _ ⟨By,r,rfl,by omega,r2,by omega,λb j s=>?_⟩)
    grind[Bu9]
   refine ifF (by grind) ⟨_,rfl,k,rfl,by omega,f,λhk=>⟨by omega,by grind⟩⟩
  grind
def Yd (a:2000<=N)(p:Pat):∃r:Nat,DT N p=some (r:Int)/\(r<=40->dep 41 p):=by
 obtain⟨r,h1,_,_,b⟩:=Af6 (N:=1000) (by omega) 40 (by omega) p N (by omega)
 grind[DT,CG]
def KZ (s:Str):Bool:=(decide (1<=s.length)&&decide (s.length<=24))&&s.all λc=>Yb ((c.toNat:Nat):Int)
def Af7 {s:Str}(m:s.length<N)(hs:s.length<1000000000){let_:Int->Option Bool}(hl:∀y,let_ y=some (Yb y)){fin:Bool}(n:fin=(decide (1<=s.length)&&decide (s.length<=24))) :O7 N (λ(a:Int->Option Bool) (x1:Int)=>
  if (decide (x1<(s.length:Int))) then
   if ((0:Int)<=x1/\x1<(s.length:Int))then
    (let_ (F0 s x1)).bind λy3=>
    if (!y3) then
     some false
    else
     a (wrap .i64 (x1+1))
   else none
  else
   some fin
 ) 0=some (KZ s):=by
 suffices h:∃b,O7 N (λ(a:Int->Option Bool) (x1:Int)=>
  if (decide (x1<(s.length:Int))) then
   if ((0:Int)<=x1/\x1<(s.length:Int))then
    (let_ (F0 s x1)).bind λy3=>
    if (!y3) then
     some false
    else
     a (wrap .i64 (x1+1))
   else none
  else
   some fin
  ) 0=some b/\b=KZ s by grind
 refine Y6 (λi x1=>x1=(i:Int)/\∀j (h:j<s.length),j<i->Yb ((s[j].toNat:Nat):Int)=true) s.length _ m (by grind) ?_;rintro l i x1 q ⟨rfl,h⟩ f;by_cases d:i<s.length
 .have eb:F0 s (i:Int)=((s[i].toNat:Nat):Int):=by simp[F0,d]
  refine ifT (by grind) (Ab (C0 (hl _) ?_));rw[eb];cases hb:Yb ((s[i].toNat:Nat):Int)
  .refine ifT rfl ⟨false,rfl,?_⟩;symm;unfold KZ;rw[Bool.and_eq_false_iff]
   right
   rw[List.all_eq_false]
   grind
  refine Bj (f d _ ⟨By,λj g o=>?_⟩);by_cases e:j=i
  .grind
  exact h j g (by omega)
 refine ifF (by grind) ⟨_,rfl,?_⟩;unfold KZ;rw[n]
 have:(s.all λc=>Yb ((c.toNat:Nat):Int))=true:=BU0.2 λc hc=>by obtain⟨j,g,rfl⟩:=Ca0 hc;exact h j g (by omega)
 rw[this,Cg7]
def AZ8 {s:Str}(a:s.length<N)(hs:s.length<1000000000):EF N s=some (KZ s):=by unfold EF;exact Af7 a hs (λy=>rfl) (by rw[BV2];grind)
def Ye {s:Str}(a:s.length<N)(hs:s.length<1000000000):DW N s=some (KZ s):=by unfold DW;exact Af7 a hs (λy=>rfl) (by rw[BV2];grind)
def BD6 (t:Sl Node)(v:Nat):Prop:=(v=0->(t.g 0).Sx = -1)/\(0<v->0<=(t.g v).Sx/\(t.g v).Sx<v)/\KZ (t.g v).Name=true/\∀u,u<v->(t.g u).Name≠(t.g v).Name
def Dc (t:Sl Node):Prop:=1<=t.n/\t.n<=63/\∀v,v<t.n->BD6 t v
def AM9 (t:Sl Node)(e:Int):Prop:=(e=0/\Dc t) \/ (e=16/\¬Dc t)
def AN0 {t:Sl Node}{e e' : Int}(h:AM9 t e)(h' : AM9 t e'):e=e':=by
 rcases h with⟨rfl,h⟩ | ⟨rfl,h⟩<;>rcases h' with⟨rfl,h'⟩ | ⟨rfl,h'⟩
 all_goals grind
def OK (t:Sl Node):Prop:=∀v,v<t.n->(t.g v).Name.length<1100000
def AZ9 (v:3000000<=N){t:Sl Node}(ht:OK t):∃e,CJ N t=some e/\AM9 t e:=by
 unfold CJ;by_cases w:t.n<1
 .exact ifT (by grind) (ifT (by grind) ⟨16,rfl,.inr ⟨rfl,λh=>by have:=h.1;omega⟩⟩)
 refine ifT (λ_ _=>by omega) ?_;by_cases h1:63<t.n
 .exact ifT (by grind) ⟨16,rfl,.inr ⟨rfl,λh=>by have:=h.2.1;omega⟩⟩
 by_cases q:(t.g 0).Sx = -1
 case neg=>exact ifT (by grind) ⟨16,rfl,.inr ⟨rfl,λh=>q ((h.2.2 0 (by omega)).1 rfl)⟩⟩
 refine ifF (by grind) ?_;refine Y6 (λi x1=>x1=(i:Int)/\∀j,j<i->BD6 t j) t.n _ (by omega) (by grind) ?_;rintro d i x1 x ⟨rfl,h⟩ hs;by_cases a:i<t.n
 case neg=>exact ifF (by grind) ⟨0,rfl,.inl ⟨rfl,by omega,by omega,by grind⟩⟩
 refine ifT (by grind) (ltX ?_);have l:=Ye (N:=N) (s:=(t.g i).Name) (by have:=ht i a;omega) (by have:=ht i a;omega);have rest:(0<i->0<=(t.g i).Sx/\(t.g i).Sx<i)->∃r,(if (!KZ (t.g i).Name) then some 16 else
  O7 N (λ(c:Int->Option Int) (x7:Int)=>
   if (decide (x7<(i:Int))) then
    if (((0:Int)<=x7/\x7<(t.n:Int))/\((0:Int)<=(i:Int)/\(i:Int)<(t.n:Int)))then
     if (((t.g x7.toNat).Name==(t.g (i:Int).toNat).Name) != false) then
      some 16
     else
      c (wrap .i64 (x7+1))
    else none
   else
    d (wrap .i64 ((i:Int)+1))
   ) 0)=some r/\AM9 t r:=by
  intro hp;cases hb:KZ (t.g i).Name
  .exact ifT rfl ⟨16,rfl,.inr ⟨rfl,λh=>by have:=(h.2.2 i a).2.2.1;rw[hb]at this;grind⟩⟩
  refine Bj ?_;refine Y6 (λk x7=>x7=(k:Int)/\∀u,u<k->(t.g u).Name≠(t.g i).Name) i _ (by omega) (by grind) ?_;rintro m k x7 hk ⟨rfl,h'⟩ o;by_cases f:k<i
  .refine ifT (by grind) (Ab ?_);rw[BS9,BS9];by_cases e:(t.g k).Name=(t.g i).Name
   .exact ifT (by grind) ⟨16,rfl,.inr ⟨rfl,λh=>(h.2.2 i a).2.2.2 k f e⟩⟩
   refine ifF (by grind) (o f _ ⟨By,λu y=>?_⟩)
   grind
  refine ifF (by grind) (hs a _ ⟨By,λj z=>?_⟩);by_cases e:j=i
  .subst e;exact⟨by omega,hp,hb,by grind⟩
  grind
 by_cases b:0<i
 .refine ifT (by grind) (Ab ?_);rw[BS9];by_cases g1:(t.g i).Sx<0
  .exact ifT (by grind) (ifT rfl ⟨16,rfl,.inr ⟨rfl,λh=>by have:=((h.2.2 i a).2.1 b).1;omega⟩⟩)
  refine ifF (by grind) (Ab ?_);by_cases g2:(i:Int)<=(t.g i).Sx
  .exact ifT (by grind) (ifT rfl ⟨16,rfl,.inr ⟨rfl,λh=>by have:=((h.2.2 i a).2.1 b).2;omega⟩⟩)
  grind
 grind
def OL {ν : Type}{k s:Str}{v : ν}:∀es:List (Str × ν),O1 eqS s (GL eqS k v es)=if s=k then some v else O1 eqS s es
 |[]=>by
  simp_all[GL,O1,eqS]
 |(a,x)::es=>by
  simp only[GL];by_cases h:k=a
  .simp_all[Fg,eqS,O1]
  rw[Gb (by grind)];simp only[O1];rw[OL es]
  grind
def AC3 {ν : Type}{k:Str}{v : ν}:∀{es:List (Str × ν)},O1 eqS k es=none->(GL eqS k v es).length=es.length+1
 |[],_=>rfl
 |(a,x)::es,h=>by
  simp only[O1]at h;simp only[GL];by_cases e:eqS k a=true
  .rw[Fg e]at h;cases h
  rw[Gb e]at h;rw[Gb e,BW3,AC3 h];rfl
def AC4 {ν : Type}{k:Str}{v x : ν}:∀{es:List (Str × ν)},O1 eqS k es=some x->(GL eqS k v es).length=es.length
 |[],h=>by cases h
 |(a,y)::es,h=>by
  simp only[O1]at h;simp only[GL];by_cases e:eqS k a=true
  .rw[Fg e];rfl
  rw[Gb e]at h;rw[Gb e,BW3,AC4 h];rfl
def Ba0 (l:3000000<=N){t:Sl Node}(ht:OK t):∃e,W1 N t=some e/\AM9 t e:=by
 unfold W1;by_cases m:t.n=0 \/ 63<t.n
 .exact ifT (by grind) ⟨16,rfl,.inr ⟨rfl,λh=>by have g1:=h.1;have g2:=h.2.1;omega⟩⟩
 refine ifF (by grind) ?_;refine W4 (λi (x2:List (Str×Bool)) x3=>x3=(i:Int)/\(∀j,j<i->BD6 t j)/\∀s,(O1 eqS s x2=some true/\∃u,u<i/\(t.g u).Name=s) \/ (O1 eqS s x2=none/\∀u,u<i->(t.g u).Name≠s)) t.n _ (by omega) ⟨rfl,by omega,λs=>.inr ⟨rfl,by omega⟩⟩ ?_;rintro d i x2 x3 o ⟨rfl,h,hm⟩ hs;by_cases a:i<t.n
 case neg=>exact ifF (by grind) ⟨0,rfl,.inl ⟨rfl,by omega,by omega,by grind⟩⟩
 refine ifT (by grind) (Ab (ltX ?_));rw[BS9];have b:=AZ8 (N:=N) (s:=(t.g i).Name) (by have:=ht i a;omega) (by have:=ht i a;omega);have e1:(if 0<wrap .i64 ((i:Int)-1)then (0:Int)else wrap .i64 ((i:Int)-1))=if i=0 then -1 else 0:=by rw[Qf];split<;>split<;>omega
 rw[e1];by_cases g1:(i:Int)<=(t.g i).Sx
 .refine ifT (by grind) (ifT rfl ⟨16,rfl,.inr ⟨rfl,λh=>?_⟩⟩);have hk:=h.2.2 i a;by_cases c:i=0
  .subst c;have:=hk.1 rfl;omega
  have:=(hk.2.1 (by omega)).2;omega
 refine ifF (by grind) ?_;by_cases g2:(t.g i).Sx<if i=0 then -1 else 0
 .refine ifT (by grind) (ifT rfl ⟨16,rfl,.inr ⟨rfl,λh=>?_⟩⟩);have hk:=h.2.2 i a;by_cases c:i=0
  .subst c;have:=hk.1 rfl;omega
  have:=(hk.2.1 (by omega)).1;omega
 refine ifF (by grind) (C0 b ?_);cases hb:KZ (t.g i).Name
 .exact ifT rfl (ifT rfl ⟨16,rfl,.inr ⟨rfl,λh=>by have:=(h.2.2 i a).2.2.1;rw[hb]at this;grind⟩⟩)
 refine Bj ?_;rcases hm (t.g i).Name with⟨e,u,f,hn⟩ | ⟨e,hn⟩
 .rw[e];exact⟨16,rfl,.inr ⟨rfl,λh=>(h.2.2 i a).2.2.2 u f hn⟩⟩
 rw[e,M9];refine ifF (by grind) (hs a _ _ ⟨By,λj q=>?_,λs=>?_⟩)
 .by_cases e:j=i
  .subst e;refine⟨λe=>?_,λhp=>?_,hb,hn⟩
   all_goals grind
  grind
 rw[OL]
 grind
def QG (a:3000000<=N){t:Sl Node}(ht:OK t):∃e,W1 N t=some e/\CJ N t=some e/\AM9 t e:=by
 obtain⟨e,h1,b⟩:=Ba0 a ht;obtain⟨e',d,c⟩:=AZ9 a ht;obtain rfl:=AN0 b c
 grind
structure GD (h:Sv):Prop where
 laws:VZ h.Laws
 tree:OK h.Tree
 on:h.On.n<1100000
 len:∀v,v<h.On.n->(h.On.g v).n<1100000
def T7 (h:Sv)(v:Nat):Sl Int:= if hp:0<=(h.Tree.g v).Sx/\(h.Tree.g v).Sx<v then (T7 h (h.Tree.g v).Sx.toNat).app (h.On.g v)else Ox.app (h.On.g v)
termination_by v
decreasing_by omega
theorem FG {h:Sv}{v:Nat}(a:(h.Tree.g v).Sx<0):T7 h v=Ox.app (h.On.g v):=by rw[T7,dif_neg (by omega)]
theorem KM {h:Sv}{v p:Nat}(a:(h.Tree.g v).Sx=(p:Int))(hp:p<v):T7 h v=(T7 h p).app (h.On.g v):=by rw[T7,dif_pos (by omega),a,BS9]
theorem Cq {t:Sl Node}(ht:Dc t){v:Nat}(a:v<t.n):(v=0/\(t.g v).Sx = -1) \/ ∃p:Nat,p<v/\(t.g v).Sx=(p:Int):=by
 have hk:=ht.2.2 v a;by_cases b:v=0
 .subst b;exact .inl ⟨rfl,hk.1 rfl⟩
 obtain⟨g1,g2⟩:=hk.2.1 (by omega);exact .inr ⟨(t.g v).Sx.toNat,by omega,by omega⟩
def Au7 {h:Sv}(a:GD h)(ht:Dc h.Tree)(hn:h.On.n=h.Tree.n):∀(m v:Nat),v<=m->v<h.Tree.n->(T7 h v).n<=(v+1)*1100000
 |m,v,hm,hv=>by
  have hl:=a.len v (by omega);rcases Cq ht hv with⟨_,e⟩ | ⟨p,hp,e⟩
  .rw[FG (by omega)]
   grind
  rw[KM e hp]
  match m with
  |0=>omega
  |m+1=>
   have:=Au7 a ht hn m p (by omega) (by omega)
   grind
def Th {h:Sv}(a:GD h)(ht:Dc h.Tree)(hn:h.On.n=h.Tree.n):∀(M v:Nat),v+2<=M->v<h.Tree.n->Da M h (v:Int)=some (T7 h v)
 |0,v,hM,_=>by omega
 |M+1,v,hM,hv=>by
  have b:=ht.2.1;show CZ (Da M) M h (v:Int)=_;unfold CZ;rw[Gb (by simp),Dl,BS9];have hl:=a.len v (by omega);rcases Cq ht hv with⟨c,e⟩ | ⟨p,hp,e⟩
  .rw[e,FG (by omega)]
   have:Da M h (-1)=some Ox:=by
    obtain⟨K,rfl⟩:∃K,M=K+1:=⟨M-1,by omega⟩
    simp_all[CZ,Da,Fg]
   rw[this,BT1,Fg (by grind)]
  have hb:=Au7 a ht hn p p (BT8 _) (by omega);rw[e,Th a ht hn M p (by omega) (by omega),BT1,KM e hp,Dl]
def Au8 (h:Sv):Prop:=∃v,v<h.On.n/\64<(T7 h v).n
def BD7 (h:Sv)(v:Nat):Prop:=∃k,k<(h.On.g v).n/\((h.On.g v).g k<0 \/ (h.Laws.n:Int)<=(h.On.g v).g k)
def Ba1 (h:Sv)(e:Int):Prop:=(Au8 h/\e=2) \/ (¬Au8 h/\(∃v,v<h.On.n/\BD7 h v)/\e=3) \/ (¬Au8 h/\(∀v,v<h.On.n->¬BD7 h v)/\e=0)
def Ba2 (hN:3000000<=N){h:Sv}(y:GD h)(ht:Dc h.Tree)(hn:h.On.n=h.Tree.n):∃e,AR N h=some e/\Ba1 h e:=by
 have h63:=ht.2.1;unfold AR;refine Ab ?_;refine At6 (λi (x4:Sl Int) (x5:Bool) x6=>x6=(i:Int)/\x4.n=h.On.n/\(∀v,v<i->x4.g v=((T7 h v).n:Int)/\(T7 h v).n<=64)/\(x5=true ↔ ∃v,v<i/\BD7 h v)) h.On.n _ (by omega) (by grind) ?_;rintro f i x4 x5 x6 hle ⟨rfl,hx,hp,hb⟩ hs;by_cases l:i<h.On.n
 case neg=>
  refine ifF (by grind) ?_;have hl:¬Au8 h:=fun⟨v,d,hl⟩=>by have:=(hp v (by omega)).2;omega
  cases x5
  .exact Bj ⟨0,rfl,.inr (by grind)⟩
  obtain⟨v,d,g⟩:=hb.1 rfl;exact ifT rfl ⟨3,rfl,.inr (by grind)⟩
 refine ifT (by grind) (ifT (by rw[BS9];omega) (Ab (ltX ?_)));rw[BS9];have hl:=y.len i (by omega);have hlb:=Au7 y ht hn i i (BT8 _) (by omega);have rest:∀z:Sl Int,z.n=h.On.n->(∀v,v<i->z.g v=x4.g v)->z.g i=((T7 h i).n:Int)->∃r,(if (((0:Int)<=(i:Int)/\(i:Int)<(z.n:Int))/\i<z.n)then
  if (decide (64<(z.g i))) then
   some 2
  else
   Y4 N (λ(c:Bool->Int->Option Int) (b:Bool) (a:Int)=>
    if (decide (a<((h.On.g i).n:Int))) then
     if ((0:Int)<=a/\a<((h.On.g i).n:Int))then
      c ((b||(decide (((h.On.g i).g a.toNat)<0)))||(decide ((h.Laws.n:Int)<=((h.On.g i).g a.toNat)))) (wrap .i64 (a+1))
     else none
    else
     f z b (wrap .i64 ((i:Int)+1))
    ) x5 0
  else none)=some r/\Ba1 h r:=by
  intro z hz hz1 q;refine Ab ?_;rw[q];by_cases s:64<(T7 h i).n
  .exact ifT (by grind) ⟨2,rfl,.inl ⟨⟨i,l,s⟩,rfl⟩⟩
  refine ifF (by grind) ?_;refine W4 (λk (b:Bool) a=>a=(k:Int)/\(b=true↔(∃v,v<i/\BD7 h v) \/ ∃j,j<k/\j<(h.On.g i).n/\((h.On.g i).g j<0 \/ (h.Laws.n:Int)<=(h.On.g i).g j))) (h.On.g i).n _ (by omega) (by grind) ?_;rintro t k b a hk ⟨rfl,m⟩ u;by_cases w:k<(h.On.g i).n
  .refine ifT (by grind) (Ab (u w _ _ ⟨By,?_⟩));rw[BS9,BV9,BV9,m,Je,Je];constructor
   .grind
   grind
  refine ifF (by grind) (hs l _ _ _ ⟨By,hz,λv d=>?_,m.trans ?_⟩)
  .grind
  constructor
  .rintro (⟨v,d,g⟩ | ⟨j,_,hj,g⟩)
   .grind
   exact⟨i,by omega,j,hj,g⟩
  rintro⟨v,d,g⟩;by_cases e:v=i
  .subst e;obtain⟨j,hj,g⟩:=g
   grind
  grind
 rcases Cq ht (v:=i) (by omega)with⟨_,e⟩ | ⟨p,o,e⟩
 .rw[e];refine Bk (rest _ hx (λv d=>?_) ?_)
  .omega
  show (if i=i then ((h.On.g i).n:Int)else _)=_;rw[Fg rfl,FG (by omega)]
  grind
 have x:=hp p o;rw[e];refine Ad (ifT ?_ ?_)
 .grind
 rw[BS9];refine rest _ hx (λv d=>?_) ?_
 .grind
 show (if i=i then wrap .i64 ((if i=i then ((h.On.g i).n:Int)else _)+(if p=i then _ else x4.g p))else _)=_;rw[Fg rfl,Fg rfl,Dm,x.1,KM e o,Qf]
 grind
def BH9 (h:Sv)(i:Nat):Prop:=∃u v,u<v/\v<i/\(h.Laws.g u).Name=(h.Laws.g v).Name
open Classical in
noncomputable def hres (N:Nat) (h:Sv):Int:= if ¬Dc h.Tree then 16 else if 64<h.Laws.n then 12 else if ∃i,i<h.Laws.n/\¬chkAll N (h.Laws.g i)then 17 else if BH9 h h.Laws.n then 6 else if h.On.n≠h.Tree.n then 2 else if Au8 h then 2 else if ∃v,v<h.On.n/\BD7 h v then 3 else 0
structure PS (N:Nat) (h:Sv):Prop where
 tree:Dc h.Tree
 laws:PQ N h.Laws
 dup:¬BH9 h h.Laws.n
 on:h.On.n=h.Tree.n
 long:¬Au8 h
 bad:∀v,v<h.On.n->¬BD7 h v
def hres_zero {h:Sv}:hres N h=0↔PS N h:=by
 unfold hres;constructor
 .intro g;split at g
  .cases g
  split at g
  .cases g
  split at g
  .cases g
  split at g
  .cases g
  split at g
  .cases g
  split at g
  .cases g
  split at g
  .cases g
  rename_i h1 j l a m b n;exact⟨by grind,⟨by omega,by grind⟩,a,by omega,b,by grind⟩
 intro g;have c:=g.laws.1;rw[Gb (λk=>k g.tree),Dm,Gb (fun⟨i,d,hn⟩=>hn (g.laws.2 i d)),Gb g.dup,Gb (λk=>k g.on),Gb g.long,Gb (fun⟨v,f,hb⟩=>g.bad v f hb)]
def HO {h:Sv}(h1:Dc h.Tree)(a:PQ N h.Laws)(b:¬BH9 h h.Laws.n)(c:h.On.n=h.Tree.n){e:Int}(d:Ba1 h e):e=hres N h:=by
 have f:=a.1;unfold hres;rw[Gb (λk=>k h1),Dm,Gb (fun⟨i,j,hn⟩=>hn (a.2 i j)),Gb b,Gb (λk=>k c)];rcases d with⟨g,rfl⟩ | ⟨g,g2,rfl⟩ | ⟨g,g2,rfl⟩
 all_goals simp_all
def Wa (q:3000000<=N){h:Sv}(t:GD h):Q2 N h=some (hres N h):=by
 suffices g:∃r,Q2 N h=some r/\r=hres N h by grind
 obtain⟨e,e1,_,x⟩:=QG q t.tree;unfold Q2;refine C0 e1 ?_;rcases x with⟨rfl,ht⟩ | ⟨rfl,ht⟩
 case inr=>exact Av ⟨16,rfl,by unfold hres;rw[Fg ht]⟩
 refine Bk ?_;by_cases f:64<h.Laws.n
 .exact ifT (by grind) ⟨12,rfl,by simp_all[hres,Gb,Fg]⟩
 refine ifF (by grind) ?_;refine W4 (λi (x1:List (Str×Int)) x2=>x2=(i:Int)/\(∀j,j<i->chkAll N (h.Laws.g j))/\(∀s,(O1 eqS s x1=none/\∀u,u<i->(h.Laws.g u).Name≠s) \/ (∃v,O1 eqS s x1=some v)/\∃u,u<i/\(h.Laws.g u).Name=s)/\((BH9 h i/\x1.length<i) \/ (¬BH9 h i/\x1.length=i))) h.Laws.n _ (by omega)
  ⟨rfl,by omega,λs=>.inl ⟨rfl,by omega⟩,.inr ⟨fun⟨u,v,_,hv,_⟩=>Hc hv (by omega),rfl⟩⟩ ?_
 rintro a1 i x1 x2 hle ⟨rfl,hc,hm,hl⟩ hs;by_cases c:i<h.Laws.n
 .obtain⟨y,y1,_,hy⟩:=NW q (t.laws i c);refine ifT (by grind) (Ab (C0 (by rw[BS9];exact y1) ?_));rcases hy with⟨rfl,hy⟩ | ⟨rfl,hy⟩
  case inr=>exact Av ⟨17,rfl,by unfold hres;rw[Gb (λk=>k ht),Gb f,Fg ⟨i,c,hy⟩]⟩
  refine Bk ?_;rw[BS9];have l : ∀j,j<i+1->chkAll N (h.Laws.g j):=(by grind);have look:∀(v:Int) (s:Str),(O1 eqS s (GL eqS (h.Laws.g i).Name v x1)=none/\∀u,u<i+1->(h.Laws.g u).Name≠s) \/ (∃w,O1 eqS s (GL eqS (h.Laws.g i).Name v x1)=some w)/\∃u,u<i+1/\(h.Laws.g u).Name=s:=by
   intro v s;rw[OL]
   grind
  rcases hm (h.Laws.g i).Name with⟨g,g2⟩ | ⟨⟨v,g⟩,u,hu,g2⟩
  .rw[g,M9];refine hs c _ _ ⟨By,l,look _,?_⟩;rw[AC3 g];rcases hl with⟨⟨a,b,d,hb,hn⟩,hl⟩ | ⟨m,hl⟩
   .exact .inl ⟨⟨a,b,d,by omega,hn⟩,by omega⟩
   refine .inr ⟨fun⟨a,b,d,hb,hn⟩=>?_,by omega⟩;by_cases e:b=i
   .grind
   exact m ⟨a,b,d,by omega,hn⟩
  rw[g,N0];refine hs c _ _ ⟨By,l,look _,?_⟩;rw[AC4 g];refine .inl ⟨⟨u,i,hu,by omega,g2⟩,?_⟩;rcases hl with⟨_,hl⟩ | ⟨_,hl⟩<;>omega
 obtain rfl:i=h.Laws.n:=by omega
 have z:PQ N h.Laws:=⟨by omega,hc⟩;have a0:¬ ∃i,i<h.Laws.n/\¬chkAll N (h.Laws.g i):=(by grind);refine Bj ?_;rw[Al6];rcases hl with⟨m,hl⟩ | ⟨m,hl⟩
 .exact Ac ⟨6,rfl,by unfold hres;rw[Gb (λk=>k ht),Gb f,Gb a0,Fg m]⟩
 refine ifF (by grind) ?_;by_cases o:h.On.n=h.Tree.n
 case neg=>exact ifT (by grind) ⟨2,rfl,by simp_all[hres,Gb,Fg]⟩
 refine ifF (by grind) ?_;obtain⟨e,e1,x⟩:=Ba2 q t ht o;exact C0 e1 ⟨e,rfl,HO ht z m o x⟩
def NX (hN:3000000<=N){h:Sv}(t:GD h):Z8 N h=some (hres N h):=by
 suffices g:∃r,Z8 N h=some r/\r=hres N h by grind
 obtain⟨e,_,e1,he⟩:=QG hN t.tree;unfold Z8;refine C0 e1 ?_;rcases he with⟨rfl,ht⟩ | ⟨rfl,ht⟩
 case inr=>exact Av ⟨16,rfl,by unfold hres;rw[Fg ht]⟩
 refine Bk ?_;by_cases l:64<h.Laws.n
 .exact ifT (by grind) ⟨12,rfl,by simp_all[hres,Gb,Fg]⟩
 refine ifF (by grind) ?_;refine Y6 (λi x1=>x1=(i:Int)/\∀j,j<i->chkAll N (h.Laws.g j)) h.Laws.n _ (by omega) (by grind) ?_;rintro self i x1 hle ⟨rfl,hc⟩ hs;by_cases a:i<h.Laws.n
 .obtain⟨y,_,y1,hy⟩:=NW hN (t.laws i a);refine ifT (by grind) (Ab (C0 (by rw[BS9];exact y1) ?_));rcases hy with⟨rfl,hy⟩ | ⟨rfl,hy⟩
  case inr=>exact Av ⟨17,rfl,by unfold hres;rw[Gb (λk=>k ht),Gb l,Fg ⟨i,a,hy⟩]⟩
  refine Bk (hs a _ ⟨By,λj hj=>?_⟩)
  grind
 obtain rfl:i=h.Laws.n:=by omega
 have d:PQ N h.Laws:=⟨by omega,hc⟩;have w:¬ ∃i,i<h.Laws.n/\¬chkAll N (h.Laws.g i):=(by grind);refine Bj ?_;refine Y6 (λi x1=>x1=(i:Int)/\¬BH9 h i) h.Laws.n _ (by omega) ⟨rfl,fun⟨u,v,_,m,_⟩=>Hc m (by omega)⟩ ?_;rintro x i x1 hle2 ⟨rfl,o⟩ z;by_cases a:i<h.Laws.n
 .refine ifT (by grind) ?_;refine Y6 (λk x5=>x5=(k:Int)/\∀u,u<k->(h.Laws.g u).Name≠(h.Laws.g i).Name) i _ (by omega) (by grind) ?_;rintro a0 k x5 hk ⟨rfl,hne⟩ a1;by_cases q:k<i
  .refine ifT (by grind) (Ab ?_);rw[BS9,BS9];by_cases e:(h.Laws.g k).Name=(h.Laws.g i).Name
   .exact ifT (by grind) ⟨6,rfl,by unfold hres;rw[Gb (λk=>k ht),Gb l,Gb w,Fg ⟨k,i,q,a,e⟩]⟩
   refine ifF (by grind) (a1 q _ ⟨By,λu hu=>?_⟩)
   grind
  refine ifF (by grind) (z a _ ⟨By,fun⟨u,v,a2,m,hn⟩=>?_⟩);by_cases e:v=i
  .grind
  exact o ⟨u,v,a2,by omega,hn⟩
 obtain rfl:i=h.Laws.n:=by omega
 refine Bj ?_;by_cases c:h.On.n=h.Tree.n
 case neg=>exact ifT (by grind) ⟨2,rfl,by simp_all[hres,Gb,Fg]⟩
 refine ifF (by grind) ?_;have h63:=ht.2.1;refine Y6 (λi x1=>x1=(i:Int)/\∀v,v<i->¬ 64<(T7 h v).n) h.On.n _ (by omega) (by grind) ?_;rintro a3 i x1 hle3 ⟨rfl,a4⟩ a5;by_cases a:i<h.On.n
 .refine ifT (by grind) (C0 (Th t ht c N i (by omega) (by omega)) ?_);by_cases hg:64<(T7 h i).n
  .exact ifT (by grind) ⟨2,rfl,HO ht d o c (.inl ⟨⟨i,a,hg⟩,rfl⟩)⟩
  refine ifF (by grind) (a5 a _ ⟨By,λv m=>?_⟩)
  grind
 refine ifF (by grind) ?_;have s:¬Au8 h:=fun⟨v,m,g⟩=>a4 v (by omega) g;refine Y6 (λi x1=>x1=(i:Int)/\∀v,v<i->¬BD7 h v) h.On.n _ (by omega) (by grind) ?_;rintro a6 i x1 hle4 ⟨rfl,hbd⟩ a7;by_cases b:i<h.On.n
 .have hl:=t.len i b;refine ifT (by grind) ?_;refine Y6 (λk x1=>x1=(k:Int)/\∀j,j<k->¬((h.On.g i).g j<0 \/ (h.Laws.n:Int)<=(h.On.g i).g j)) (h.On.g i).n _ (by omega) (by grind) ?_;rintro a8 k x1 hk ⟨rfl,a9⟩ b0;refine Ab ?_;rw[BS9,BS9];by_cases f:k<(h.On.g i).n
  .refine ifT (by grind) (Ab ?_);by_cases g1:(h.On.g i).g k<0
   .exact ifT (by grind) ⟨3,rfl,HO ht d o c (.inr (.inl ⟨s,⟨i,b,k,f,.inl g1⟩,rfl⟩))⟩
   refine ifF (by grind) (Ab ?_);by_cases g2:(h.Laws.n:Int)<=(h.On.g i).g k
   .exact ifT (by grind) ⟨3,rfl,HO ht d o c (.inr (.inl ⟨s,⟨i,b,k,f,.inr g2⟩,rfl⟩))⟩
   refine ifF (by grind) (b0 f _ ⟨By,λj hj=>?_⟩)
   grind
  refine ifF (by grind) (a7 b _ ⟨By,λv m=>?_⟩);by_cases e:v=i
  .subst e;exact fun⟨j,hj,g⟩=>a9 j (by omega) g
  grind
 exact ifF (by grind) ⟨0,rfl,HO ht d o c (.inr (by grind))⟩
def eqR {R:Type}{x:Option R}{y:R}(h:∃r,x=some r/\r=y):x=some y:=by grind
def Yf (t:Sl Node)(v:Nat):Prop:=∀u,0<u->u<t.n->(t.g u).Sx≠(v:Int)
open Classical in
noncomputable def Q5 (t:Sl Node):Nat->Sl Int
 |0=>Ox
 |i+1=>if Yf t i then (Q5 t i).push (i:Int)else Q5 t i
theorem Ti {t:Sl Node}{i:Nat}(h:Yf t i):Q5 t (i+1)=(Q5 t i).push (i:Int):=Fg h
theorem Yg {t:Sl Node}{i:Nat}(h:¬Yf t i):Q5 t (i+1)=Q5 t i:=Gb h
def Au9 (t:Sl Node):∀i,(Q5 t i).n<=i
 |0=>BT8 0
 |i+1=>by
  have:=Au9 t i
  grind[Yf,Ti,Q5,Yg]
def Tj (t:Sl Node):∀i k,k<(Q5 t i).n->∃v:Nat,v<i/\(Q5 t i).g k=(v:Int)
 |0,k,hk=>Hc hk (Cf9 k)
 |i+1,k,hk=>by
  by_cases h:Yf t i
  .rw[Ti h]at hk⊢;have hk:k<(Q5 t i).n+1:=hk;show ∃v:Nat,v<i+1/\(if k<(Q5 t i).n then (Q5 t i).g k else (i:Int))=(v:Int);by_cases a:k<(Q5 t i).n
   .rw[Fg a];obtain⟨v,h1,b⟩:=Tj t i k a
    grind
   grind
  rw[Yg h]at hk⊢;obtain⟨v,h1,b⟩:=Tj t i k hk
  grind
def Bo7 (q:3000000<=N){t:Sl Node}(ht:Dc t):∃X,AS N t=some X/\(X.n=t.n/\∀v,v<t.n->((X.g v).n=0↔Yf t v)):=by
 have l:=ht.2.1;unfold AS;refine Ab (W4 (λi x (X:Sl (Sl Int))=>x=(i:Int)/\X.n=t.n/\∀v,v<t.n->(((X.g v).n=0 ↔ ∀u,0<u->u<i->(t.g u).Sx≠(v:Int))/\(X.g v).n<=i)) t.n _ (by omega)
  (by grind) ?_)
 rintro d i x X hle ⟨rfl,a,f⟩ hs;by_cases hl:i<t.n
 case neg=>
  obtain rfl:i=t.n:=by omega
  exact Bj ⟨X,rfl,a,λv b=>(f v b).1⟩
 refine ifT (by grind) (Ab ?_);rw[BS9,By];rcases Cq ht hl with⟨m,h1⟩ | ⟨p,hp,e⟩
 .subst m;rw[h1];refine Ab (ltX (Bj (hs hl _ _ ⟨rfl,a,λv b=>?_⟩)));have e:(X.upd (Int.toNat (-1)) (X.g (Int.toNat (-1)))).g v=X.g v:=by
   grind
  rw[e]
  grind
 rw[e,BS9];have c:p<t.n:=by omega
 have j:=(f p c).2;refine Ab (ltX (ifT (by grind) (Ab (hs hl _ _ ⟨rfl,a,λv b=>?_⟩))));show ((if v=p then (X.g p).push (i:Int)else X.g v).n=0↔_)/\(if v=p then (X.g p).push (i:Int)else X.g v).n<=i+1;by_cases o:v=p
 .grind
 grind
def BQ1 {R:Type}{Q:R->Prop}{a:Sl Int->Int->Option R}{t:Sl Node}{i:Nat}(c:i<1000){b:Bool}(hb:b=true↔Yf t i)(h:∃r,a (Q5 t (i+1)) ((i+1:Nat):Int)=some r/\Q r) :∃r,(if b then
  if (Qd 8 ((Q5 t i).n+(Sl.of [(i:Int)]:Sl Int).n))then
   a ((Q5 t i).push (i:Int)) (wrap .i64 ((i:Int)+1))
  else none
  else a (Q5 t i) (wrap .i64 ((i:Int)+1)))=some r/\Q r:=by
 have hn:=Au9 t i;rw[By];by_cases hk:Yf t i
 .rw[Ti hk]at h
  grind
 simp_all[Yg,ifF]
def Av0 (b:3000000<=N){t:Sl Node}(ht:Dc t):∃r,Du N t=some r/\r=Q5 t t.n:=by
 have c:=ht.2.1;unfold Du;obtain⟨X,e,d,hk⟩:=Bo7 b ht;refine C0 e (W4 (λi x1 x2=>x2=(i:Int)/\x1=Q5 t i) t.n _ (by omega) ⟨rfl,rfl⟩ ?_);rintro a i x1 x2 hle ⟨rfl,rfl⟩ hs;by_cases hl:i<t.n
 .refine ifT (by rw[d];grind) (Ab ?_);rw[BS9];exact BQ1 (by omega) (by rw[<- hk i hl];simp) (hs hl _ _ ⟨rfl,rfl⟩)
 grind
def Bo8 (f:3000000<=N){t:Sl Node}(ht:Dc t){v:Nat}(j:v<t.n):∃r,Ck N t (v:Int)=some r/\(r.n=0↔Yf t v):=by
 have c:=ht.2.1;unfold Ck;refine W4 (λi (x1:Sl Int) x2=>x2=(i:Int)/\x1.n<=i/\(x1.n=0 ↔ ∀u,0<u->u<i->(t.g u).Sx≠(v:Int))) t.n _ (by omega) (by grind) ?_;rintro a i x1 x2 hle ⟨rfl,hn,b⟩ hs;by_cases hl:i<t.n
 .refine ifT (by grind) (Ab ?_);rw[BS9,By];by_cases hp:(t.g i).Sx=(v:Int)
  .have l:0<i:=by
    grind[Cq]
   refine ifT (by grind) (ifT (by grind) (hs hl _ _ (by grind)))
  refine ifF (by grind) (hs hl _ _ ⟨rfl,by omega,b.trans ⟨λh u h1 d=>?_,λh u h1 d=>h u h1 (by omega)⟩⟩)
  grind
 obtain rfl:i=t.n:=by omega
 exact Bj ⟨_,rfl,b⟩
def AN1 (a:3000000<=N){t:Sl Node}(c:OK t):∃s e,S9 N t=some (s,e)/\AT N t=some (s,e)/\((Dc t/\e=0/\s=Q5 t t.n) \/ (¬Dc t/\e=16/\s=Ox)):=by
 obtain⟨e,e1,e2,d⟩:=QG a c;unfold S9 AT;rw[e1,e2,BT1,BT1];rcases d with⟨rfl,ht⟩ | ⟨rfl,ht⟩
 .have f:=ht.2.1;rw[Gb (by decide),Gb (by decide)];obtain⟨r,g1,rfl⟩:=Av0 a ht;refine⟨_,0,by rw[g1];rfl,eqR (W4 (λi x1 x2=>x2=(i:Int)/\x1=Q5 t i) t.n _ (by omega) ⟨rfl,rfl⟩ ?_),by grind⟩;rintro b i x1 x2 hle ⟨rfl,rfl⟩ hs;by_cases hl:i<t.n
  .refine ifT (by grind) ?_;obtain⟨r,k1,k2⟩:=Bo8 a ht hl;exact C0 k1 (BQ1 (by omega) (by rw[<- k2];simp) (hs hl _ _ ⟨rfl,rfl⟩))
  grind
 grind
def DE (f:Nat->Int):Nat->Int
 |0=>0
 |k+1=>if DE f k≠0 then DE f k else f k
theorem Kr {f:Nat->Int}{k:Nat}(h:DE f k=0):DE f (k+1)=f k:=Gb (λg=>g h)
theorem EP {f:Nat->Int}{i:Nat}(h:DE f i≠0):∀n,i<=n->DE f n=DE f i
 |0,hn=>by rw[show i=0 by omega]
 |n+1,hn=>by
  by_cases e:i=n+1
  .rw[e]
  have hp:=EP h n (by omega)
  simp_all[DE,Fg]
theorem Cr {f:Nat->Int}:∀{n:Nat},DE f n=0->∀i,i<n->f i=0
 |0,_,i,hi=>by omega
 |n+1,h,i,hi=>by
  have hp:DE f n=0:=BY3 λg=>g (by rw[<- EP g (n+1) (by omega)];exact h);by_cases e:i=n
  .grind[Kr]
  exact Cr hp i (by omega)
def orE (a b:Int):Int:=if a≠0 then a else b
theorem UC {a b:Int}(h:a≠0):orE a b=a:=Fg h
theorem NY {a b:Int}(h:a=0):orE a b=b:=Gb (λg=>g h)
def Yh {a b:Int}(h:orE a b=0):a=0/\b=0:=by
 grind[NY,UC,Hc]
def BQ2 {N n:Nat}{f:Nat->Int}{body:(Int->Option Int)->Int->Option Int}{re:Int}(m:n<N)(b:∀a i,i<n->f i≠0->body a (i:Int)=some (f i))
 (d:∀a i,i<n->f i=0->body a (i:Int)=a ((i+1:Nat):Int)) (j:∀a,DE f n=0->body a (n:Int)=some re):O7 N body 0=some (orE (DE f n) re):=by
 refine eqR (Y6 (λi x=>x=(i:Int)/\DE f i=0) n _ m ⟨rfl,rfl⟩ ?_);rintro a i x hle ⟨rfl,l⟩ hs;by_cases hl:i<n
 .by_cases g:f i=0
  .rw[d a i hl g];exact hs hl _ ⟨rfl,by rw[Kr l];exact g⟩
  rw[b a i hl g];have e:DE f (i+1)=f i:=Kr l;have c:DE f (i+1)≠0:=by rw[e];omega
  exact⟨_,rfl,by rw[EP c n hl,UC c,e]⟩
 obtain rfl:i=n:=by omega
 grind[NY]
def Ba3 {N n:Nat}{f:Nat->Int}{body:(Int->Option Int)->Int->Option Int}{re:Int}(d:n<N)(a:∀self i,i<n->f i≠0->body self (i:Int)=some (f i))
 (b:∀self i,i<n->f i=0->body self (i:Int)=self ((i+1:Nat):Int)) (c:∀self,body self (n:Int)=some re):O7 N body 0=some (orE (DE f n) re):=BQ2 d a b (by grind)
def Ks (s:Sl K0):Prop:=∀i,i<s.n->okA (s.g i).W
def Af8 (l:Sl Ub):Prop:=∀i,i<l.n->Ks (l.g i).Ua/\(l.g i).Gloss.length<1100000
def emp (s:Sl K0):Prop:=∃i,i<s.n/\(s.g i).Has=false/\0<(s.g i).W.n
noncomputable def BD8 (s:Sl K0):Bool:=@decide (¬emp s) (Classical.propDecidable _)
theorem Af9 {s:Sl K0}(h:¬emp s):BD8 s=true:=@decide_eq_true _ (Classical.propDecidable _) h
theorem Ag0 {s:Sl K0}(h:emp s):BD8 s=false:=@decide_eq_false _ (Classical.propDecidable _) (λg=>g h)
def BQ3 (f:K0):((!f.Has)&&(decide (0<(f.W.n:Int))))=true↔f.Has=false/\0<f.W.n:=by simp
def Ag1 (d:1000<=N){s:Sl K0}(hs:s.n<900):Aq N s=some (BD8 s):=by
 have h1:∃r,E3 N s (λ(u1:K0)=>Cv N u1)=some r/\(0<=r↔emp s):=by
  unfold E3;refine Y6 (λi x=>x=(i:Int)/\∀j,j<i->¬((s.g j).Has=false/\0<(s.g j).W.n)) s.n _ (by omega) (by grind) ?_;rintro b i x hle ⟨rfl,h⟩ a;by_cases hl:i<s.n
  .refine ifT (by grind) (Ab (C0 rfl ?_));rw[BS9,By];by_cases hb:(s.g i).Has=false/\0<(s.g i).W.n
   .exact ifT ((BQ3 _).2 hb) ⟨_,rfl,λ_=>⟨i,hl,hb⟩,λ_=>by omega⟩
   refine ifF (by grind) (a hl _ ⟨rfl,λj c=>?_⟩)
   grind
  exact ifF (by grind) ⟨_,rfl,by omega,fun⟨j,c,hb⟩=>by grind⟩
 grind[Aq,F5,emp,Ag0,Af9,Int.not_le]
def Wb (d:1000<=N){s:Sl K0}(hs:s.n<900):CR N s=some (BD8 s):=by
 unfold CR;refine eqR (Y6 (λi x=>x=(i:Int)/\∀j,j<i->¬((s.g j).Has=false/\0<(s.g j).W.n)) s.n _ (by omega) (by grind) ?_);rintro b i x hle ⟨rfl,h⟩ a;by_cases hl:i<s.n
 .refine ifT (by grind) (Ab (ifT (λ_=>by omega) ?_));rw[BS9,By];by_cases hb:(s.g i).Has=false/\0<(s.g i).W.n
  .exact ifT ((BQ3 _).2 hb) ⟨_,rfl,(Ag0 ⟨i,hl,hb⟩).symm⟩
  refine ifF (by grind) (a hl _ ⟨rfl,λj c=>?_⟩)
  grind
 exact ifF (by grind) ⟨_,rfl,(Af9 (fun⟨j,c,hb⟩=>h j (by omega) hb)).symm⟩
def wE (N:Nat)(w:Sl Qb):Int:=(W0 N w).getD 0
def Ag2 (a:1000<=N){w:Sl Qb}(hw:okA w):W0 N w=some (wE N w)/\W8 N w=some (wE N w):=by
 obtain⟨e,h1,b⟩:=NV a hw;obtain⟨e',g1,g2⟩:=HN a hw;obtain rfl:=AZ3 b g2
 have:wE N w=e:=by grind[wE]
 rw[this];grind
def wsE (N:Nat)(s:Sl K0):Int:=DE (λi=>wE N (s.g i).W) s.n
def Kt (b:1000<=N){s:Sl K0}(hs:s.n<900)(c:Ks s):T4 N s=some (wsE N s)/\Bc N s=some (wsE N s):=by
 have e0:wsE N s=orE (wsE N s) 0:=by
  grind[wsE,NY,UC]
 rw[e0];unfold T4 Bc;constructor<;>refine Ba3 (f:=λi=>wE N (s.g i).W) (by omega) ?_ ?_ ?_
 .intro a i hl d;rw[Fg (by grind),Dl,BS9,(Ag2 b (c i hl)).1,BT1,Fg (by grind)]
 .intro a i hl d;rw[Fg (by grind),Dl,BS9,(Ag2 b (c i hl)).1,BT1,Gb (by grind),By]
 .grind
 .intro a i hl d;rw[Fg (by grind),Dl,BS9,(Ag2 b (c i hl)).2,BT1,Fg (by grind)]
 .intro a i hl d;rw[Fg (by grind),Dl,BS9,(Ag2 b (c i hl)).2,BT1,Gb (by grind),By]
 grind
def Wc (b:3000000<=N){s:Str}(hs:s.length<1100000):Cl N s=some (KZ s):=by
 obtain⟨e,e1,_,c⟩:=QG (t:=(Sl.of [(⟨-1,s⟩:Node)]:Sl Node)) b (λv a=>by
  have a:v<1:=a
  grind)
 unfold Cl;rw[e1,BT1];have key:Dc (Sl.of [(⟨-1,s⟩:Node)]:Sl Node)↔KZ s=true:=by
  constructor
  .intro h;exact (h.2.2 0 (by grind)).2.2.1
  intro h;refine⟨by grind,by grind,λv a=>?_⟩;have a:v<1:=a;obtain rfl:v=0:=by omega
  exact⟨λ_=>rfl,by omega,h,by omega⟩
 congr 1;rcases c with⟨rfl,h⟩ | ⟨rfl,h⟩
 all_goals grind
open Classical in
noncomputable def e2 (l:Sl Ub) (k:Nat) (i:Nat):Int:=if (l.g i).Ua.n≠k \/ emp (l.g i).Ua then 2 else 0
def e15 (l:Sl Ub)(i:Nat):Int:=if KZ (l.g i).Gloss then 0 else 15
def Bo9 {l:Sl Ub}{k i:Nat}(h:e2 l k i=0):(l.g i).Ua.n=k/\¬emp (l.g i).Ua:=by
 simp_all[e2,BY3]
def Bv0 {l:Sl Ub}{k i:Nat}(h:(l.g i).Ua.n≠k \/ emp (l.g i).Ua):e2 l k i=2:=Fg h
def Bv1 {l:Sl Ub}{k i:Nat}(h:¬((l.g i).Ua.n≠k \/ emp (l.g i).Ua)):e2 l k i=0:=Gb h
def AC5 {l:Sl Ub}{k i:Nat}{E:Option Bool}(hk:k<900)(b:(l.g i).Ua.n=k->E=some (BD8 (l.g i).Ua))(a:Option Int) :(lt (λ(z3:Bool)=>if z3 then some 2 else a) λk3=>
  if (((l.g i).Ua.n:Int) != (k:Int)) then
   k3 true
  else
   E.bind λy6=>
   k3 (!y6))=if e2 l k i≠0 then some (e2 l k i)else a:=by
 by_cases h:(l.g i).Ua.n=k
 .rw[b h];have hc:¬(((l.g i).Ua.n:Int) != (k:Int))=true:=by grind
  by_cases hp:emp (l.g i).Ua
  .rw[Bv0 (.inr hp)];show (if (((l.g i).Ua.n:Int) != (k:Int)) then _ else if (!(BD8 (l.g i).Ua)) then some (2:Int)else a)=some 2;rw[Gb hc,Fg (by rw[Ag0 hp];rfl)]
  rw[Bv1 (by grind)];show (if (((l.g i).Ua.n:Int) != (k:Int)) then _ else if (!(BD8 (l.g i).Ua)) then some (2:Int)else a)=a;rw[Gb hc,Gb (by rw[Af9 hp];decide)]
 rw[Bv0 (.inl h)];exact Fg (by grind)
def Av1 (c:3000000<=N){l:Sl Ub}{k:Nat}(hk:k<900)(hn:l.n<900)(d:Af8 l):R6 N l (k:Int)=some (orE (DE (e2 l k) l.n) (orE (DE (e15 l) l.n) 0)):=by
 unfold R6;have step:=λ(a:Option Int) (i:Nat)=>AC5 (l:=l) (i:=i) hk (λh=>Ag1 (N:=N) (s:=(l.g i).Ua) (by omega) (by omega)) a;refine Ba3 (by omega) ?_ ?_ ?_
 .simp_all
 .intro a i hl b;rw[Fg (by grind),Dl,BS9,step,Gb (λg=>g b),By]
 intro a;rw[Gb (by simp)];refine Ba3 (by omega) ?_ ?_ ?_
 .intro a i hl b;rw[Fg (by grind),Dl,BS9,Wc c (d i hl).2,BT1];unfold e15 at b⊢
  grind
 .intro a i hl b;rw[Fg (by grind),Dl,BS9,Wc c (d i hl).2,BT1];unfold e15 at b;by_cases h:KZ (l.g i).Gloss=true
  .rw[Gb (by grind),By]
  grind
 grind
noncomputable def BQ4 (N:Nat) (p:Sl K0) (l:Sl Ub) (k:Nat):Int:= orE (DE (e2 l k) l.n) (orE (DE (e15 l) l.n) (orE (wsE N p) (DE (λi=>wsE N (l.g i).Ua) l.n)))
def Bp0 (j:3000000<=N){l:Sl Ub}(hn:l.n<900)(W:Nat->Int)(f:∀i,i<l.n->Bc N (l.g i).Ua=some (W i))(w0:Int) :Y4 N (λ(a:Int->Int->Option Int) (x7:Int) (x8:Int)=>
  if ((decide (x8<(l.n:Int)))&&(x7==0)) then
   if ((0:Int)<=x8/\x8<(l.n:Int))then
    (Bc N (l.g x8.toNat).Ua).bind λb=>
    a b (wrap .i64 (x8+1))
   else none
  else
   some x7
  ) w0 0=some (orE w0 (DE W l.n)):=by
 refine eqR (W4 (λi x7 x8=>x8=(i:Int)/\((x7=0/\w0=0/\DE W i=0) \/ (x7≠0/\x7=orE w0 (DE W l.n)))) l.n _ (by omega) ⟨rfl,?_⟩ ?_)
 .by_cases h:w0=0
  .exact .inl ⟨h,h,rfl⟩
  grind[UC]
 rintro c i x7 x8 hle ⟨rfl,h⟩ hs;rcases h with⟨rfl,d,h1⟩ | ⟨d,h1⟩
 .by_cases hl:i<l.n
  .refine ifT (by grind) (Ab ?_);rw[BS9,By];refine C0 (f i hl) (hs hl _ _ ⟨rfl,?_⟩);have e:=Kr h1
   grind[NY,EP]
  obtain rfl:i=l.n:=by omega
  exact Bj ⟨_,rfl,by rw[NY d,h1]⟩
 grind
def Tk {t:Sl Node}(ht:Dc t):(Q5 t t.n).n<=63:=by have:=Au9 t t.n;have:=ht.2.1;omega
def NZ (a:3000000<=N){t:Sl Node}(b:OK t)(ht:Dc t):S9 N t=some (Q5 t t.n,0)/\AT N t=some (Q5 t t.n,0):=by
 obtain⟨s,e,h1,c,d⟩:=AN1 a b
 grind
open Classical in
noncomputable def BD9 (N:Nat) (h:Sv) (p:Sl K0) (l:Sl Ub):Int:= if hres N h≠0 then hres N h else if 256<l.n then 12 else if p.n≠l.n \/ emp p then 2 else BQ4 N p l (Q5 h.Tree h.Tree.n).n
def AN2 (o:3000000<=N){h:Sv}(r:GD h){p:Sl K0}{l:Sl Ub}(hp:Ks p)(hl:Af8 l):Ar N h p l=some (BD9 N h p l):=by
 unfold Ar BD9;rw[Wa o r,BT1];by_cases s:hres N h=0
 case neg=>rw[Fg (by grind),Fg s]
 rw[Gb (by grind),Dm];have j:=hres_zero.1 s;have t:=Tk j.tree;rw[(NZ o r.tree j.tree).1,BT1];by_cases c:256<l.n
 .rw[Fg (by grind),Fg c]
 rw[Gb (by grind),Gb c];have rest:(lt (λ(z1:Bool)=>
  if z1 then
   some (2:Int)
  else
   (R6 N l (((Q5 h.Tree h.Tree.n).n:Nat):Int)).bind λy5=>
   if (y5 != 0) then
    some y5
   else
    (T4 N p).bind λy6=>
    if (y6 != 0) then
     some y6
    else
     O7 N (λd (x2:Int)=>
      if (decide (x2<(l.n:Int))) then
       if ((0:Int)<=x2/\x2<(l.n:Int))then
        (T4 N (l.g x2.toNat).Ua).bind λy9=>
        if (y9 != 0) then
         some y9
        else
         d (wrap .i64 (x2+1))
       else none
      else
       some 0
      ) 0
  ) λk1=>k1 false)=(if p.n=l.n then some (BQ4 N p l (Q5 h.Tree h.Tree.n).n)else some 0) \/ p.n≠l.n:=by
  by_cases f:p.n=l.n
  case neg=>omega
  refine .inl ?_;rw[Fg f];show (R6 N l (((Q5 h.Tree h.Tree.n).n:Nat):Int)).bind _=_;rw[Av1 o (by omega) (by omega) hl,BT1];unfold BQ4;by_cases g1:DE (e2 l (Q5 h.Tree h.Tree.n).n) l.n=0
  case neg=>rw[UC g1,UC g1,Fg (by grind)]
  rw[NY g1,NY g1];by_cases g2:DE (e15 l) l.n=0
  case neg=>rw[UC g2,UC g2,Fg (by grind)]
  rw[NY g2,NY g2,Gb (by decide),(Kt (by omega) (by omega) hp).1,BT1];by_cases g3:wsE N p=0
  case neg=>rw[UC g3,Fg (by grind)]
  rw[NY g3,Gb (by grind)];have e0:∀a:Int,a=orE a 0:=λa=>by
   grind[NY,UC]
  rw[e0 (DE (λi=>wsE N (l.g i).Ua) l.n)];have hk:∀i,i<l.n->(l.g i).Ua.n<900:=λi b=>by
   have:=(Bo9 (Cr g1 i b)).1;omega
  refine Ba3 (by omega) ?_ ?_ ?_
  .intro m i b u;rw[Fg (by grind),Dl,BS9,(Kt (by omega) (hk i b) (hl i b).1).1,BT1,Fg (by grind)]
  .intro m i b u;rw[Fg (by grind),Dl,BS9,(Kt (by omega) (hk i b) (hl i b).1).1,BT1,Gb (by grind),By]
  grind
 by_cases f:p.n=l.n
 case neg=>rw[Fg (.inl f)];exact Fg (by grind)
 have hc:¬((p.n:Int) != (l.n:Int))=true:=by grind
 rw[Ag1 (by omega) (by omega)];by_cases q:emp p
 .rw[Fg (.inr q),Ag0 q];exact Gb hc
 rw[Gb (by grind),Af9 q]
 grind
def Av2 (j:3000000<=N){h:Sv}(t:GD h){p:Sl K0}{l:Sl Ub}(hp:Ks p)(hl:Af8 l):Gq N h p l=some (BD9 N h p l):=by
 unfold Gq BD9;rw[NX j t,BT1];by_cases m:hres N h=0
 case neg=>rw[Fg (by grind),Fg m]
 rw[Gb (by grind),Gb (show ¬hres N h≠0 from λg=>g m)];have d:=hres_zero.1 m;have u:=Tk d.tree;by_cases c:256<l.n
 .rw[Fg (by grind),Fg c]
 rw[Gb (by grind),Gb c,(NZ j t.tree d.tree).2,BT1];by_cases o:p.n=l.n
 case neg=>rw[Fg (.inl o)];exact Fg (by grind)
 have hc:¬((p.n:Int) != (l.n:Int))=true:=by grind
 rw[Wb (by omega) (by omega)];by_cases q:emp p
 .rw[Fg (.inr q),Ag0 q];exact Gb hc
 rw[Gb (by grind),Af9 q];refine (Gb hc).trans ?_;rw[BT1];refine (Gb (by decide)).trans ?_;unfold BQ4;have step:=λ(a:Option Int) (i:Nat)=>AC5 (l:=l) (i:=i) (show (Q5 h.Tree h.Tree.n).n<900 by omega) (λh=>Wb (N:=N) (s:=(l.g i).Ua) (by omega) (by omega)) a;have ent:∀(i:Nat) (a:Int->Option Int),i<l.n->(lt (λ(z4:Bool)=>
  if z4 then
   some (2:Int)
  else
   a (wrap .i64 ((i:Int)+1))
  ) λk4=>
  if (((l.g i).Ua.n:Int) != (((Q5 h.Tree h.Tree.n).n:Nat):Int)) then
   k4 true
  else
   if ((0:Int)<=(i:Int)/\(i:Int)<(l.n:Int))then
    (CR N (l.g i).Ua).bind λr=>
    k4 (!r)
   else none)=if e2 l (Q5 h.Tree h.Tree.n).n i≠0 then some (e2 l (Q5 h.Tree h.Tree.n).n i)else a (wrap .i64 ((i:Int)+1)):=λi a b=>by
  rw[<- step]
  grind
 refine BQ2 (by omega) ?_ ?_ ?_
 .simp_all
 .intro a i b f;rw[Fg (by grind),Dl,BS9,ent i a b,Gb (λg=>g f),By]
 intro a g1;rw[Gb (by simp)];refine Ba3 (by omega) ?_ ?_ ?_
 .intro a i b f;rw[Fg (by grind),Dl,BS9,Ye (by have:=(hl i b).2;omega) (by have:=(hl i b).2;omega),BT1];unfold e15 at f⊢
  grind
 .intro a i b f;rw[Fg (by grind),Dl,BS9,Ye (by have:=(hl i b).2;omega) (by have:=(hl i b).2;omega),BT1];unfold e15 at f;by_cases h:KZ (l.g i).Gloss=true
  .rw[Gb (by grind),By]
  grind
 intro a;rw[Gb (by simp),(Kt (by omega) (by omega) hp).2,BT1];exact Bp0 j (by omega) (λi=>wsE N (l.g i).Ua) (λi b=>(Kt (by omega) (by have:=(Bo9 (Cr g1 i b)).1;omega) (hl i b).1).2) (wsE N p)
structure BE0 (N:Nat) (h:Sv) (p:Sl K0) (l:Sl Ub):Prop where
 hist:PS N h
 n:l.n<=256
 pn:p.n=l.n
 pe:¬emp p
 fn:∀i,i<l.n->(l.g i).Ua.n=(Q5 h.Tree h.Tree.n).n
 fe:∀i,i<l.n->¬emp (l.g i).Ua
 nm:∀i,i<l.n->KZ (l.g i).Gloss=true
 pw:∀i,i<p.n->wOk (p.g i).W
 fw:∀i,i<l.n->∀k,k<(l.g i).Ua.n->wOk ((l.g i).Ua.g k).W
def Tl (a:1000<=N){w:Sl Qb}(hw:okA w):wE N w=0↔wOk w:=by
 obtain⟨e,h1,b⟩:=NV a hw
 have:wE N w=e:=by grind[wE]
 rw[this];exact GC b
def KN {f:Nat->Int}:∀{n:Nat},(∀i,i<n->f i=0)->DE f n=0
 |0,_=>rfl
 |n+1,h=>by rw[Kr (KN (by grind))];grind
def BE1 (b:1000<=N){h:Sv}{p:Sl K0}{l:Sl Ub}(hp:Ks p)(hl:Af8 l):BD9 N h p l=0↔BE0 N h p l:=by
 unfold BD9;constructor
 .intro g;split at g
  .omega
  rename_i g1;split at g
  .cases g
  rename_i g2;split at g
  .cases g
  rename_i g3;obtain⟨d1,g⟩:=Yh g;obtain⟨d2,g⟩:=Yh g;obtain⟨d3,d4⟩:=Yh g;have d1:=Cr d1;have d2:=Cr d2;have d3:=Cr d3;have d4:=Cr d4;refine⟨hres_zero.1 (by omega),by omega,by omega,λe=>g3 (.inr e),λi a=>(Bo9 (d1 i a)).1,λi a=>(Bo9 (d1 i a)).2,λi a=>?_,λi a=>(Tl b (hp i a)).1 (d3 i a),λi a k hk=>(Tl b ((hl i a).1 k hk)).1 (Cr (d4 i a) k hk)⟩
  have:=d2 i a
  unfold e15 at this
  grind
 rintro⟨a1,a2,a3,a4,a5,a6,a7,a8,a9⟩;rw[Gb (λg=>g (hres_zero.2 a1)),Dm,Gb (by grind)];unfold BQ4;have b1:DE (e2 l (Q5 h.Tree h.Tree.n).n) l.n=0:=KN λi a=>Bv1 (by grind);have b2:DE (e15 l) l.n=0:=KN λi a=>Fg (a7 i a);have b3:wsE N p=0:=KN λi a=>(Tl b (hp i a)).2 (a8 i a);rw[NY b1,NY b2,NY b3];exact KN λi a=>KN λk hk=>(Tl b ((hl i a).1 k hk)).2 (a9 i a k hk)
def Tm:∀(d:Nat) (p:Pat),dep d p->∀M,100+d<=M->∃r,Bn M p=some r
 |0,p,h,M,_=>h.elim
 |d+1,p,h,0,hM=>by omega
 |d+1,p,h,M+1,hM=>by
  suffices ∃r,Bn (M+1) p=some r/\True by grind
  show ∃x,AL (Bn M) M p=some x/\_;unfold AL;have hn:=h.1;refine W4 (λi x1 x2=>x2=(i:Int)) p.L.n _ (by omega) rfl ?_;rintro a i x1 x2 c rfl hs;by_cases hl:i<p.L.n
  .obtain⟨r,b⟩:=Tm d (p.L.g i) (h.2 i hl) M (by omega);exact ifT (by grind) (Ab (C0 (by rw[BS9];exact b) (hs hl _ _ (By))))
  exact ifF (by grind) ⟨_,rfl,trivial⟩
def Bp1 (f:2000<=N)(laws:Sl Law):∃r,Fw N laws=some r:=by
 suffices ∃r,Fw N laws=some r/\True by grind
 unfold Fw;refine W4 (λi x1 x2=>x2=(i:Int)) 301 _ (by omega) rfl ?_;rintro d i x1 x2 s rfl hs;by_cases hc:i<laws.n/\i<=300
 .refine ifT (by grind) (Ab ?_);refine W4 (λj x7 x8=>x8=(j:Int)) 2 _ (by omega) rfl ?_;rintro b j x7 x8 t rfl a;by_cases hl:j<2
  .refine ifT (by grind) (ifT (by grind) ?_);obtain⟨r,l,m⟩:=Yd f ((Sl.of [(laws.g (i:Int).toNat).Left,(laws.g (i:Int).toNat).Right]:Sl Pat).g (j:Int).toNat);refine C0 l ?_;by_cases c:r<=40
   .obtain⟨q,o⟩:=Tm 41 _ (m c) N (by omega);exact ifT (by grind) (C0 o (a hl _ _ (By)))
   exact ifF (by grind) (a hl _ _ (By))
  exact ifF (by grind) (hs (by omega) _ _ (By))
 exact ifF (by grind) ⟨_,rfl,trivial⟩
def Ba4 (t:3000000<=N)(h:Sv):∃b,Gr N h=some b/\True:=by
 unfold Gr;by_cases hb:(((decide (70<(h.Tree.n:Int)))||(decide (70<(h.Laws.n:Int))))||(decide (70<(h.On.n:Int))))=true
 .simp_all
 refine ifF hb ?_;have l : h.Laws.n<=70/\h.On.n<=70:=by grind
 refine Y6 (λi x=>x=(i:Int)) h.On.n _ (by omega) rfl ?_;rintro j i x m rfl hs;by_cases f:i<h.On.n
 .refine ifT (by grind) (Ab ?_);by_cases o:(decide (70<((h.On.g (i:Int).toNat).n:Int)))=true
  .simp_all
  exact ifF o (hs f _ (By))
 refine ifF (by grind) ?_;refine Y6 (λi x=>x=(i:Int)) h.Laws.n _ (by omega) rfl ?_;rintro d i x m rfl q;by_cases f:i<h.Laws.n
 .rw[By];refine ifT (by grind) (Ab ?_);obtain⟨r,s⟩:=Bp1 (N:=N) (by omega) (h.Laws.sub (i:Int).toNat ((i+1:Nat):Int).toNat);refine C0 s ?_;have last:∀z3:Bool,∃r,(if z3 then some false else d ((i+1:Nat):Int))=some r/\True:=λz=>by
   cases z
   all_goals simp_all
  refine ltX ?_;by_cases g1:(decide (4<r))=true
  .simp_all
  refine ifF g1 ?_;by_cases g2:(decide (20<((h.Laws.g (i:Int).toNat).If.n:Int)))=true
  .simp_all
  refine ifF g2 ?_;by_cases g3:(decide (20<((h.Laws.g (i:Int).toNat).Out.n:Int)))=true
  .simp_all
  refine ifF g3 ?_;obtain⟨a,ha,_⟩:=Yd (N:=N) (by omega) (h.Laws.g (i:Int).toNat).Left;refine C0 ha ?_;by_cases g4:(decide (41<(a:Int)))=true
  .simp_all
  refine ifF g4 ?_;obtain⟨c,hc,_⟩:=Yd (N:=N) (by omega) (h.Laws.g (i:Int).toNat).Right;exact C0 hc (last _)
 exact ifF (by grind) ⟨_,rfl,trivial⟩
abbrev signC:Str:=[58,39,34,126,94,95,61,96]
def mtB (s:Str):Prop:=1<=s.length/\s.length<=3/\∀b∈s,signC.contains b=true
def Ba5:∀k:Fin 256,HI 0 ((k.val:Nat):Int)=some (signC.contains (UInt8.ofNat k.val)):=by decide +kernel
def BE2 (b:UInt8):HI N ((b.toNat:Nat):Int)=some (signC.contains b):=by
 have:=Ba5 ⟨b.toNat,b.toNat_lt⟩
 rw[show UInt8.ofNat b.toNat=b by simp]at this;exact this
def Ag3 {s:Str}(f:s.length<N)(hs:s.length<1000000000):∃b,Co N s=some b/\(b=true↔mtB s):=by
 unfold Co;refine Y6 (λi x1=>x1=(i:Int)/\∀j (h:j<s.length),j<i->signC.contains s[j]=true) s.length _ f ⟨rfl,λj _ a=>Hc a (by omega)⟩ ?_;rintro d i x1 n ⟨rfl,h⟩ c;by_cases hl:i<s.length
 .refine Ac (Ab ?_);have eb:F0 s (i:Int)=((s[i].toNat:Nat):Int):=by simp[F0,hl]
  rw[eb];refine C0 (BE2 s[i]) ?_;by_cases hb:signC.contains s[i]=true
  .refine ifF (by rw[hb];decide) (c hl _ ⟨By,λj a g=>?_⟩);by_cases e:j=i
   .subst e;exact hb
   exact h j a (by omega)
  exact ifT (by simpa using hb) ⟨false,rfl,by simp,λl=>Hc (l.2.2 s[i] (Ci3 hl)) hb⟩
 refine Az ⟨_,rfl,?_⟩;simp only[BT5,Je];constructor
 .rintro⟨h1,m⟩;refine⟨by omega,by omega,λb hb=>?_⟩;obtain⟨j,a,rfl⟩:=Ca0 hb;exact h j a (by omega)
 rintro⟨h1,m,_⟩;exact⟨by omega,by omega⟩
def BE3 (x y:BitVec 32):E6 .xor .u32 x.toNat y.toNat=((x ^^^ y).toNat:Int):=by simp only[E6,IntKind.bits,DM];exact MX (x ^^^ y).isLt
def tV (n:Nat):BitVec 32:=BitVec.ofNat 32 (2 ^ n-1)
def mgB (n:Nat)(p m c:BitVec 32):Bool:=decide ((c ||| (p ||| m)) &&& ~~~ tV n=0#32)&&(decide (c &&& (p ||| m)=0#32)&&vB p m)
def Ag4 (x:GI):Prop:=∃p m c:BitVec 32,x.Set=sOf p m/\x.Clear=c.toNat/\x.Text.length<1100000
def mgV (n:Nat)(x:GI):Bool:=mgB n (BitVec.ofInt 32 x.Set.Plus) (BitVec.ofInt 32 x.Set.Minus) (BitVec.ofInt 32 x.Clear)
def Bv2 {n:Nat}{x:GI}{p m c:BitVec 32}(h1:x.Set=sOf p m)(a:x.Clear=c.toNat):mgV n x=mgB n p m c:=by simp only[mgV,h1,a,sOf,DM]
def ltG {R:Type}{Q:R->Prop}{K:Bool->Option R}{f:(Bool->Option R)->Option R}{b:Bool}(a:∀k,f k=k b)(h:∃r,K b=some r/\Q r):∃r,lt K f=some r/\Q r:=by unfold lt;rw[a];exact h
def mdup (l:Sl GI)(i:Nat):Prop:=∃k,k<i/\(l.g k).Text=(l.g i).Text
open Classical in
noncomputable def mkE (n:Nat) (l:Sl GI) (i:Nat):Int:=if mtB (l.g i).Text then if mgV n (l.g i) then if mdup l i then 6 else 0 else 2 else 15
noncomputable def Bv3 (n:Nat) (l:Sl GI):Int:=if 32<l.n then 12 else DE (mkE n l) l.n
def mtx {s:Str}(h:s.length<1100000):∃b,(∀{R:Type}(k:Bool->Option R),(if ((s==[]) != false) then k true else if (decide (3<(s.length:Int))) then k true else (Am N s [58,39,34,126,94,95,61,96]).bind λy=>k ((y==[]) != true))=k b)/\(b=true ↔ ¬mtB s):=by
 by_cases a:s=[]
 .subst a;exact⟨true,λ_=>rfl,λ_ g=>Hc g.1 (by decide),λ_=>rfl⟩
 have hp:0<s.length:=List.length_pos_iff.2 a;by_cases c:3<s.length
 .exact⟨true,λk=>by rw[Gb (by simp[a]),Fg (by simp;omega)],λ_ g=>Hc g.2.1 (by omega),λ_=>rfl⟩
 refine⟨(Lib.trimS s signC==[]) != true,λk=>?_,?_⟩
 .rw[Gb (by simp[a]),Gb (by simp;omega)];unfold Am;rw[Fg ⟨by omega,by decide,by decide⟩,BT1]
 by_cases g:Lib.trimS s signC=[]
 .have:=(Ya s signC).1 g
  simp only[g];exact⟨λq=>by simp at q,λq=>Hc ⟨hp,by omega,this⟩ q⟩
 refine⟨λ_ q=>g ((Ya s signC).2 q.2.2),λ_=>by simp[g]⟩
def Bp2 {n:Nat}(hn:n<=24):E6 .xor .u32 4294967295 (wrap .u32 ((shI .shl .u32 1 ((n:Nat):Int))-1))=((~~~ tV n).toNat:Int):=by
 rw[Au4 hn]
 have:=BE3 4294967295#32 (tV n)
 rw[show ((4294967295#32:BitVec 32).toNat:Int)=4294967295 from rfl]at this;refine this.trans ?_;rw[show (4294967295#32:BitVec 32)=BitVec.allOnes 32 from rfl,BitVec.allOnes_xor]
def mgx {N n:Nat}(hn:n<=24){x:GI}(hx:Ag4 x){R:Type}{k:Bool->Option R}:(if ((E6 .and .u32 (E6 .or .u32 x.Clear (E6 .or .u32 x.Set.Plus x.Set.Minus)) (E6 .xor .u32 4294967295 (wrap .u32 ((shI .shl .u32 1 (n:Int))-1)))) != 0) then k true else if ((E6 .and .u32 x.Clear (E6 .or .u32 x.Set.Plus x.Set.Minus)) != 0) then k true else (H4 N x.Set).bind λy=>k (!y))=k (!(mgV n x)):=by
 obtain⟨p,m,c,h1,d,_⟩:=hx;rw[Bv2 h1 d,Bp2 hn,d,h1,Cp];show (if ((E6 .and .u32 (E6 .or .u32 (c.toNat:Int) (E6 .or .u32 (p.toNat:Int) (m.toNat:Int))) ((~~~ tV n).toNat:Int)) != 0) then k true else if ((E6 .and .u32 (c.toNat:Int) (E6 .or .u32 (p.toNat:Int) (m.toNat:Int))) != 0) then k true else _)=_;rw[IK,IK,DN,DN,ne0,ne0];unfold mgB;by_cases a:(c ||| (p ||| m)) &&& ~~~ tV n=0#32
 .rw[Gb (by simp[a])];by_cases b:c &&& (p ||| m)=0#32
  .rw[Gb (by simp[b]),BT1];simp[a,b]
  rw[Fg (by simp[b])];simp[b]
 rw[Fg (by simp[a])];simp[a]
def Ba6 {s:Sl GI}{q:GI}(d:s.n<N)(hs:s.n<1000000) :∃r,D0 N s (λu=>Aj N u q)=some r/\(r=true ↔ ∃i,i<s.n/\(s.g i).Text=q.Text):=by
 unfold D0
 have:∃y,E4 N s (λu=>Aj N u q)=some y/\(0<=y ↔ ∃i,i<s.n/\(s.g i).Text=q.Text):=by
  unfold E4;refine Y6 (λi x1=>x1=(i:Int)/\∀j,j<i->¬(s.g j).Text=q.Text) s.n _ d ⟨rfl,λj a=>Hc a (by omega)⟩ ?_;rintro c i x1 f ⟨rfl,h⟩ b;by_cases hl:i<s.n
  .refine Ac (Ab (C0 rfl ?_));rw[BS9];by_cases hb:(s.g i).Text=q.Text
   .exact ifT (by simp[hb]) ⟨i,rfl,λ_=>⟨i,hl,hb⟩,λ_=>by omega⟩
   refine ifF (by simp[hb]) (b hl _ ⟨By,λj a=>?_⟩);by_cases e:j=i
   .subst e;exact hb
   exact h j (by omega)
  refine Az ⟨-1,rfl,λh=>Hc h (by decide),?_⟩;rintro⟨j,a,hb⟩;exact Hc hb (h j (by omega))
 obtain⟨y,e,hy⟩:=this;exact C0 e ⟨_,rfl,by rw[Je];exact hy⟩
def Bp3 (f:3000000<=N){v:A5}(h1:v.feats.n<=24)(g:v.sounds.n<=256):∃r,S5 N v=some r/\∃z,r=some z/\z.feats=v.feats:=by
 unfold S5;refine C0 (x:=true) rfl (Bk (C0 (x:=v.feats) (Dl) (C0 (x:=v.sounds) (Dl) ?_)));refine W4 (λi x1 x2=>x2=(i:Int)) v.feats.n _ (by omega) rfl ?_;rintro d i x1 x2 j rfl hs;by_cases hl:i<v.feats.n
 .exact Ac (Ab (hs hl _ _ (By)))
 refine Az ?_;refine At6 (λi x3 x4 x5=>x5=(i:Int)) v.sounds.n _ (by omega) rfl ?_;rintro a k x3 x4 x5 hk rfl b;by_cases c:k<v.sounds.n
 .exact Ac (Ab (b c _ _ _ (By)))
 exact Az ⟨_,rfl,_,rfl,rfl⟩
def Ba7 {n:Nat}{l:Sl GI}{i:Nat}(b:DE (mkE n l) i=0)(c:i<l.n):(mkE n l i=0->DE (mkE n l) (i+1)=0)/\∀{e:Int},mkE n l i=e->e≠0->e=DE (mkE n l) l.n:=by have a:=Kr b;refine⟨λg=>by rw[a,g],λ{e} g ge=>?_⟩;rw[EP (i:=i+1) (by rw[a,g];exact ge) l.n c,a,g]
def Bp4 (y:3000000<=N){v:A5}(h1:v.feats.n<=24)(h2:v.sounds.n<=256){l:Sl GI}(hl:∀i,i<l.n->Ag4 (l.g i)):Cm N v l=some (Bv3 v.feats.n l):=by
 refine eqR ?_;unfold Cm Bv3;obtain⟨_,e,z,rfl,ez⟩:=Bp3 y h1 h2;refine C0 e ?_;rw[N0];by_cases d:32<l.n
 .exact Ac ⟨_,rfl,(Fg d).symm⟩
 rw[Gb d];have hf:Q4 N z=some v.feats:=by unfold Q4 J3 D5;rw[ez,BT1,Gb (by decide),Dl];rfl
 refine Az (C0 hf (Ab ?_));refine Y6 (λi x=>x=(i:Int)/\DE (mkE v.feats.n l) i=0) l.n _ (by omega) ⟨rfl,rfl⟩ ?_;rintro t i x hi ⟨rfl,u⟩ hs;by_cases c:i<l.n
 .obtain⟨o,a⟩:=Ba7 u c;refine Ac (Ab ?_);rw[BS9];have f:(l.g i).Text.length<1100000:=by obtain⟨_,_,_,_,_,h⟩:=hl i c;exact h
  obtain⟨b,eb,hb⟩:=mtx (N:=N) f;refine ltG (λk=>eb k) ?_;by_cases ht:mtB (l.g i).Text
  case neg=>exact ifT (hb.2 ht) ⟨_,rfl,a (Gb ht) (by decide)⟩
  refine ifF (λg=>hb.1 g ht) (ltG (λk=>mgx h1 (hl i c)) ?_);by_cases j:mgV v.feats.n (l.g i)=true
  case neg=>exact ifT (by simp[j]) ⟨_,rfl,a ((Fg ht).trans (Gb j)) (by decide)⟩
  refine ifF (by simp[j]) (Ab ?_);obtain⟨r,er,w⟩:=Ba6 (N:=N) (s:=l.take i) (q:=l.g i) (by show i<N;omega) (by show i<1000000;omega);refine C0 er ?_;by_cases m:mdup l i
  .exact ifT (w.2 m) ⟨_,rfl,a ((Fg ht).trans ((Fg j).trans (Fg m))) (by decide)⟩
  exact ifF (λg=>m (w.1 g)) (hs c _ ⟨By,o ((Fg ht).trans ((Fg j).trans (Gb m)))⟩)
 obtain rfl:i=l.n:=by omega
 refine Bj ?_;unfold H5;rw[Dl];exact⟨_,rfl,u.symm⟩
def rgx {N n:Nat}(f:1000<=N)(hn:n<=24){x:GI}(hx:Ag4 x){R:Type}{k:Bool->Option R}:(if ((E6 .andNot .u32 x.Clear (wrap .u32 ((shI .shl .u32 1 (n:Int))-1))) != 0) then k true else (G9 N x.Set).bind λy=>if (!y) then k true else if ((E6 .andNot .u32 (E6 .or .u32 x.Set.Plus x.Set.Minus) (wrap .u32 ((shI .shl .u32 1 (n:Int))-1))) != 0) then k true else k ((E6 .and .u32 x.Clear (E6 .or .u32 x.Set.Plus x.Set.Minus)) != 0))=k (!(mgV n x)):=by
 obtain⟨p,m,c,h1,d,_⟩:=hx;rw[Bv2 h1 d,Au4 hn,d,h1,At p m f];show (if ((E6 .andNot .u32 (c.toNat:Int) ((tV n).toNat:Int)) != 0) then k true else (some (vB p m)).bind λy=>if (!y) then k true else if ((E6 .andNot .u32 (E6 .or .u32 (p.toNat:Int) (m.toNat:Int)) ((tV n).toNat:Int)) != 0) then k true else k ((E6 .and .u32 (c.toNat:Int) (E6 .or .u32 (p.toNat:Int) (m.toNat:Int))) != 0))=_;rw[IK,DN,CX,CX,ne0,ne0,ne0,BT1];have e:(c ||| (p ||| m)) &&& ~~~ tV n=0#32↔c &&& ~~~ tV n=0#32/\(p ||| m) &&& ~~~ tV n=0#32:=by rw[Bu8,or0]
 unfold mgB;by_cases a:c &&& ~~~ tV n=0#32
 .rw[Gb (by simp[a])];by_cases v:vB p m=true
  .rw[Gb (by simp[v])];by_cases o:(p ||| m) &&& ~~~ tV n=0#32
   .rw[Gb (by simp[o]),decide_eq_true (e.2 ⟨a,o⟩),v];by_cases b:c &&& (p ||| m)=0#32<;>simp[b]
   rw[Fg (by simp[o]),decide_eq_false λg=>o (e.1 g).2];rfl
  rw[Fg (by simp[v])];simp[v]
 rw[Fg (by simp[a]),decide_eq_false λg=>a (e.1 g).1];rfl
def Ba8 {α : Type}[Inhabited α](s:Sl α):(Sl.of []:Sl α).app s=s:=by obtain⟨n,g⟩:=s;simp[Sl.of,Sl.app]
def Bp5 (hN:3000000<=N){r:E1}(hm:r.Made=true)(h1:r.F.n<=24)(h2:r.S.n<=256){l:Sl GI}(hl:∀i,i<l.n->Ag4 (l.g i)):Kj N r l=some (Bv3 r.F.n l):=by
 refine eqR ?_;unfold Kj Bv3;refine ifF (by simp[hm]) ?_;by_cases f:32<l.n
 .exact Ac ⟨_,rfl,(Fg f).symm⟩
 rw[Gb f];have w:Y3 N r=some r.F:=by unfold Y3 N8;rw[hm,BT1,Gb (by decide),Fg (by show (0+_)*16<=_/\0+_<=_;omega),Ba8]
 have hs:Al N r=some r.S:=by unfold Al N8;rw[hm,BT1,Gb (by decide),Fg (by show (0+_)*24<=_/\0+_<=_;omega),Ba8]
 refine Az (C0 w (Ab ?_));refine Y6 (λi x=>x=(i:Int)/\DE (mkE r.F.n l) i=0) l.n _ (by omega) ⟨rfl,rfl⟩ ?_;rintro y i x hi ⟨rfl,z⟩ q;by_cases c:i<l.n
 .obtain⟨t,a⟩:=Ba7 z c;refine Ac (Ab ?_);rw[BS9];have a0:(l.g i).Text.length<1100000:=by obtain⟨_,_,_,_,_,h⟩:=hl i c;exact h
  obtain⟨b,eb,hb⟩:=Ag3 (N:=N) (s:=(l.g i).Text) (by omega) (by omega);refine C0 eb ?_;by_cases ht:mtB (l.g i).Text
  case neg=>exact ifT (by
   cases b
   .rfl
   exact Hc (hb.1 rfl) ht) ⟨_,rfl,a (Gb ht) (by decide)⟩
  refine ifF (by simp[hb.2 ht]) (ltG (λk=>rgx (by omega) h1 (hl i c)) ?_);by_cases m:mgV r.F.n (l.g i)=true
  case neg=>exact ifT (by simp[m]) ⟨_,rfl,a ((Fg ht).trans (Gb m)) (by decide)⟩
  refine ifF (by simp[m]) ?_;refine Y6 (λk x=>x=(k:Int)/\∀j,j<k->¬(l.g j).Text=(l.g i).Text) i _ (by omega) ⟨rfl,λj hj=>Hc hj (by omega)⟩ ?_;rintro u k x hk ⟨rfl,h⟩ v;by_cases o:k<i
  .refine Ac (Ab ?_);rw[BS9];by_cases d:(l.g k).Text=(l.g i).Text
   .exact ifT (by simp[d]) ⟨_,rfl,a ((Fg ht).trans ((Fg m).trans (Fg ⟨k,o,d⟩))) (by decide)⟩
   refine ifF (by simp[d]) (v o _ ⟨By,λj hj=>?_⟩);by_cases e:j=k
   .subst e;exact d
   exact h j (by omega)
  have d:¬mdup l i:=fun⟨k',hk',e⟩=>h k' (by omega) e;exact Az (q c _ ⟨By,t ((Fg ht).trans ((Fg m).trans (Gb d)))⟩)
 obtain rfl:i=l.n:=by omega
 refine Bj ?_;unfold Eq N8;rw[hm,w,hs];exact C0 rfl (by rw[N0];exact ifT (by show (0+_)*32<=_/\0+_<=_;omega) ⟨_,rfl,z.symm⟩)
structure Yi (p:B4):Prop where
 feats:∀i,i<p.Feats.n->(p.Feats.g i).length<1100000
 snd:∀i,i<p.Sounds.n->okS (p.Sounds.g i).S/\(p.Sounds.g i).Uc.length<1100000
 sn:p.Sounds.n<1100000
 mrk:∀i,i<p.Marks.n->Ag4 (p.Marks.g i)
 hist:GD p.Sv
 pro:Ks p.Sg
 ent:Af8 p.Sz
def gV (p:B4):Nat->A5
 |0=>⟨p.Feats,AM2 p.Feats p.Feats.n,Sl.nil,[],[]⟩
 |i+1=>BH7 (gV p i) (p.Sounds.g i).Uc (p.Sounds.g i).S
def gR (p:B4):Nat->E1
 |0=>⟨true,(Sl.of []:Sl Str).app p.Feats,Sl.nil⟩
 |i+1=>BS4 (gR p i) (p.Sounds.g i).Uc (p.Sounds.g i).S
def sdE (p:B4)(i:Nat):Int:=BP7 (gV p i).feats.n (gV p i).sounds (p.Sounds.g i).Uc (p.Sounds.g i).S
def gV_f (p:B4):∀i,(gV p i).feats=p.Feats
 |0=>rfl
 |i+1=>gV_f p i
def BE4 {s:Qb}(h:okS s):BS3 s:=by
 obtain⟨p,m,rfl⟩:=h
 simp_all[BS3,sOf,DM]
def BE5 {s:Sl Str}(h:XZ s=0):s.n<=24:=by
 grind[XZ]
def BQ5 {p:B4}(hp:Yi p)(hn:XZ p.Feats=0):∀i,i<=p.Sounds.n->DE (sdE p) i=0->Rel3 (gV p i) (gR p i)
 |0,_,_=>⟨⟨rfl,rfl,rfl,BE5 hn,Cd1 _,λi a=>Hc a (Cf9 i)⟩,rfl,by show (Sl.of []:Sl Str).app p.Feats=p.Feats;exact Ba8 _,rfl⟩
 |i+1,a,h0=>by
  have h1:=Cr h0;have ih:=BQ5 hp hn i (by omega) (by
   grind[DE,sdE,EP])
  have b:=h1 i (by omega);exact⟨Bo5 ih.ok (BE4 (hp.snd i (by omega)).1) b,ih.made,ih.feats,by show (gR p i).S.push _=(gV p i).sounds.push _;rw[ih.sounds]⟩
def Ai5 (p:B4):Int:=if XZ p.Feats≠0 then XZ p.Feats else DE (sdE p) p.Sounds.n
def loop6 {A B C D E F R:Type}{body:(A->B->C->D->E->F->Option R)->A->B->C->D->E->F->Option R}(I:Nat->A×B×C×D×E×F->Prop)(n:Nat)(M0:R->Prop){N:Nat}(l:n<N){a:A}{b:B}{c:C}{d:D}{e:E}{f:F}(m:I 0 (a,b,c,d,e,f))
 (j:∀g i x,i<=n->I i x->(i<n->∀y,I (i+1) y->∃r,g y.1 y.2.1 y.2.2.1 y.2.2.2.1 y.2.2.2.2.1 y.2.2.2.2.2=some r/\M0 r)->∃r,body g x.1 x.2.1 x.2.2.1 x.2.2.2.1 x.2.2.2.2.1 x.2.2.2.2.2=some r/\M0 r):∃r,fix6 N body a b c d e f=some r/\M0 r:=
 AM0 I n M0 (λg i x o q h=>j (λa b c d e f=>g (a,b,c,d,e,f)) i x o q (by omega)) N 0 (a,b,c,d,e,f) (Cd1 _) m l
def Ba9 {p:B4}{i:Nat}(a:DE (sdE p) i=0)(c:i<p.Sounds.n):(sdE p i=0->DE (sdE p) (i+1)=0)/\(sdE p i≠0->DE (sdE p) p.Sounds.n=sdE p i):=by
 have b:=Kr a
 grind[EP]
def pInv (l:3000000<=N){p:B4}(hp:Yi p):Ai N p=some (if Ai5 p=0 then some (gV p p.Sounds.n)else none,Ai5 p):=by
 refine eqR ?_;unfold Ai;have hs:=hp.sn;refine C0 (BC6 p.Feats (by omega) hp.feats) ?_;by_cases hn:XZ p.Feats=0
 case neg=>
  have e:Ai5 p=XZ p.Feats:=Fg hn;rw[Gb hn,M9]
  grind
 have e:Ai5 p=DE (sdE p) p.Sounds.n:=Gb (λg=>g hn);rw[Fg hn,N0];refine ifF (by grind) ?_;refine loop6 (λi x=>x=((gV p i).feats,(gV p i).number,(gV p i).sounds,(gV p i).symbols,(gV p i).values,(i:Int))/\DE (sdE p) i=0) p.Sounds.n _ (by omega) ⟨rfl,rfl⟩ ?_;rintro c i x j ⟨rfl,d⟩ a;dsimp only;by_cases hl:i<p.Sounds.n
 .obtain⟨b,f⟩:=Ba9 d hl;have hR:=BQ5 hp hn i j d;obtain⟨o1,o2⟩:=hp.snd i hl;refine ifT (by grind) (Ab ?_);rw[BS9];refine C0 (iAddS hR.ok _ (BE4 o1) (by omega) (by omega)) ?_;have e3:BP7 (gV p i).feats.n (gV p i).sounds (p.Sounds.g i).Uc (p.Sounds.g i).S=sdE p i:=rfl;rw[e3];by_cases g:sdE p i=0
  .refine ifF (by grind) ?_;dsimp only;rw[Fg g,show IntKind.i64.wrap ((i:Int)+1)=((i+1:Nat):Int) from By];exact a hl (_,_,_,_,_,_) ⟨rfl,b g⟩
  grind
 obtain rfl:i=p.Sounds.n:=by omega
 simp_all
def rInv (r:3000000<=N){p:B4}(hp:Yi p):Bd N p=some (if Ai5 p=0 then some (gR p p.Sounds.n)else none,Ai5 p):=by
 refine eqR ?_;unfold Bd;have hs:=hp.sn;refine C0 (BC5 p.Feats (by omega) hp.feats) ?_;by_cases hn:XZ p.Feats=0
 case neg=>
  have e:Ai5 p=XZ p.Feats:=Fg hn;rw[Gb hn,M9]
  grind
 have e:Ai5 p=DE (sdE p) p.Sounds.n:=Gb (λg=>g hn);rw[Fg hn,N0];refine ifF (by grind) ?_;refine loop4 (λi a b c x=>(a=(gR p i).Made/\b=(gR p i).F/\c=(gR p i).S/\x=(i:Int))/\DE (sdE p) i=0) p.Sounds.n _ (by omega) ⟨⟨rfl,rfl,rfl,rfl⟩,rfl⟩ ?_;rintro j i a b c x q ⟨⟨rfl,rfl,rfl,rfl⟩,l⟩ d;by_cases hl:i<p.Sounds.n
 .obtain⟨f,m⟩:=Ba9 l hl;have hR:=BQ5 hp hn i q l;obtain⟨o1,o2⟩:=hp.snd i hl;refine ifT (by grind) (Ab ?_);rw[BS9];have o:=BD5 (N:=N) (gR p i) hR.made (by rw[hR.feats];exact hR.ok.feats) (by rw[hR.sounds];exact hR.ok.sounds) (p.Sounds.g i).Uc (BitVec.ofInt 32 (p.Sounds.g i).S.Plus) (BitVec.ofInt 32 (p.Sounds.g i).S.Minus) (by omega) (by omega) (by omega);rw[<- BE4 o1,hR.feats,hR.sounds]at o;refine C0 o ?_;have e3:AZ0 (gV p i).feats.n (gV p i).sounds (p.Sounds.g i).Uc (BitVec.ofInt 32 (p.Sounds.g i).S.Plus) (BitVec.ofInt 32 (p.Sounds.g i).S.Minus)=sdE p i:=rfl;rw[e3];by_cases g:sdE p i=0
  .refine ifF (by grind) ?_;dsimp only;rw[Fg g];exact d hl _ _ _ _ ⟨⟨rfl,rfl,rfl,By⟩,f g⟩
  grind
 obtain rfl:i=p.Sounds.n:=by omega
 simp_all
noncomputable def Av3 (N:Nat) (p:B4):Int:=if Ai5 p≠0 then Ai5 p else if Bv3 p.Feats.n p.Marks≠0 then Bv3 p.Feats.n p.Marks else BD9 N p.Sv p.Sg p.Sz
def pChk (b:3000000<=N){p:B4}(hp:Yi p):Y9 N p=some (Av3 N p):=by
 refine eqR ?_;unfold Y9 GV Av3;rw[pInv b hp,BT1];by_cases a:Ai5 p=0
 case neg=>rw[Gb a,M9,Fg a,Fg (by grind)];grind
 rw[Fg a,N0,Gb (by grind),Gb (λg=>g a)];have hn:XZ p.Feats=0:=BY3 λg=>g (by have e:Ai5 p=XZ p.Feats:=Fg g;rw[<- e];omega)
 have c:DE (sdE p) p.Sounds.n=0:=by have e:Ai5 p=DE (sdE p) p.Sounds.n:=Gb (λg=>g hn);rw[<- e];omega
 have hR:=BQ5 hp hn _ (BT8 _) c;rw[Bp4 b hR.ok.feats hR.ok.sounds hp.mrk,BT1,gV_f];by_cases hm:Bv3 p.Feats.n p.Marks=0
 case neg=>rw[Fg (by grind),Fg hm];grind
 rw[Gb (by grind),Gb (λg=>g hm)];exact C0 (x:=(0:Int)) rfl (Bk (C0 (AN2 b hp.hist hp.pro hp.ent) ⟨_,rfl,rfl⟩))
def rChk (b:3000000<=N){p:B4}(hp:Yi p):Gt N p=some (Av3 N p):=by
 refine eqR ?_;unfold Gt Er Av3;rw[rInv b hp,BT1];by_cases a:Ai5 p=0
 case neg=>rw[Gb a,M9,Fg a,Fg (by grind)];grind
 rw[Fg a,N0,Gb (by grind),Gb (λg=>g a)];have hn:XZ p.Feats=0:=BY3 λg=>g (by have e:Ai5 p=XZ p.Feats:=Fg g;rw[<- e];omega)
 have c:DE (sdE p) p.Sounds.n=0:=by have e:Ai5 p=DE (sdE p) p.Sounds.n:=Gb (λg=>g hn);rw[<- e];omega
 have hR:=BQ5 hp hn _ (BT8 _) c;rw[Bp5 b hR.made (by rw[hR.feats];exact hR.ok.feats) (by rw[hR.sounds];exact hR.ok.sounds) hp.mrk,BT1,hR.feats,gV_f];by_cases hm:Bv3 p.Feats.n p.Marks=0
 case neg=>rw[Fg hm];grind
 rw[Gb (λg=>g hm)];exact ifF (by grind) (C0 (Av2 b hp.hist hp.pro hp.ent) ⟨_,rfl,rfl⟩)
def OM:∀(d:Nat) (p:Pat),okP d p->∀M,100+d<=M->T5 M p=some p
 |0,p,h,M,_=>h.elim
 |d+1,p,h,0,hM=>by omega
 |d+1,p,h,M+1,hM=>by
  show U7 (T5 M) M p=some p;unfold U7;have hn:=h.1;refine eqR (Y6 (λi x2=>x2=(i:Int)) p.L.n _ (by omega) rfl ?_);rintro a i x2 b rfl hs;by_cases hl:i<p.L.n
  .refine ifT (by grind) (Ab ?_);rw[BS9];exact C0 (OM d (p.L.g i) (h.2.2 i hl) M (by omega)) (Ab (hs hl _ (By)))
  grind
def Bb0 {N:Nat}(c:3000000<=N){l:Law}(hl:Yc l)(hc:chkAll N l):V6 N l=some l:=by obtain⟨_,h1,a,d,b,_⟩:=hc.f hl;have g:=b.1;unfold V6 B2 H7;rw[OM 40 l.Left (Af2 40 _ (by omega) h1 _ (by simp)) N (by omega),OM 40 l.Right (Af2 40 _ (by omega) a _ (by simp)) N (by omega),BT1,BT1,Dl,BT1,Dl];rfl
def on_ok {N:Nat}{h:Sv}(a:PS N h){x:Nat}(hx:x<h.Tree.n):(h.On.g x).n<=64/\∀i,i<(h.On.g x).n->0<=(h.On.g x).g i/\(h.On.g x).g i<h.Laws.n:=by
 have c:=a.on;refine⟨?_,λj b=>?_⟩
 .have hl:(T7 h x).n<=64:=Ci2 λg=>a.long ⟨x,by omega,g⟩
  grind[Cq,FG,KM,T7]
 have:=a.bad x (by omega)
 constructor
 .exact Int.not_lt.1 λg=>this ⟨j,b,.inl g⟩
 exact Int.not_le.1 λg=>this ⟨j,b,.inr g⟩
def AC6 {N n:Nat}(hn:n<=32)(f:1000<=N):∃s,FB N (n:Int)=some s/\s.n=n+1/\TabR n (λa b=>a=b) s.g:=by
 unfold FB;rw[By];refine Ab ?_;refine W4 (λi x1 x2=>x2=(i:Int)/\x1.n=n+1/\∀a,a<i->x1.g a=U (1#64 <<< a)) (n+1) _ (by omega) (by grind) ?_;rintro c i x1 x2 j ⟨rfl,h1,d⟩ hs;by_cases hl:i<=n
 .refine ifT (by grind) (Ab (hs (by omega) _ _ ⟨By,h1,λa ha=>?_⟩));show (if a=(i:Int).toNat then shI .shl .u64 1 (i:Int)else x1.g a)=_;by_cases e:a=i
  .subst e;rw[Dl,Ac3 _ (by omega)]
  grind
 refine ifF (by grind) ⟨x1,rfl,h1,λa ha=>⟨1#64 <<< a,d a (by omega),λb hb=>?_⟩⟩;rw[XC (by omega) hb,Je];omega
def Bp6 {n:Nat}{f:Nat->Int}(h:∀a,a<=n->f a=0):TabR n (λ_ _=>False) f:=λa ha=>⟨0#64,h a ha,λb hb=>by simp⟩
def AC7 {N n:Nat}{R S:Nat->Nat->Prop}{x y:Sl Int}(hn:n<=32)(f:1000<=N)(hx:x.n=n+1)(hy:y.n=n+1)(hR:TabR n R x.g)(hS:TabR n S y.g) :∃s,FC N x y=some s/\s.n=n+1/\TabR n (λa b=>R a b \/ S a b) s.g:=by
 unfold FC;refine Ab ?_;refine W4 (λi x1 x2=>x2=(i:Int)/\x1.n=n+1/\∀a,a<i->x1.g a=E6 .or .u64 (x.g a) (y.g a)) (n+1) _ (by omega) (by grind) ?_;rintro c i x1 x2 j ⟨rfl,h1,d⟩ hs;by_cases hl:i<=n
 .refine ifT (by grind) (Ab (hs (by omega) _ _ ⟨By,h1,λa ha=>?_⟩))
  grind
 refine ifF (by grind) ⟨x1,rfl,h1,λa ha=>?_⟩;obtain⟨u,e1,g1⟩:=hR a ha;obtain⟨v,e2,g2⟩:=hS a ha;refine⟨u ||| v,by rw[d a (by omega),e1,e2,BS1],λb hb=>?_⟩;rw[BV7,BV9,g1 b hb,g2 b hb]
 grind
def Bb1 {N n:Nat}{x y:Sl Int}(hn:n<=32)(d:1000<=N)(hx:x.n=n+1)(hy:y.n=n+1) :∃b,Gw N x y=some b/\(b=true ↔ ∀a,a<=n->x.g a=y.g a):=by
 unfold Gw;refine Y6 (λi x1=>x1=(i:Int)/\∀a,a<i->x.g a=y.g a) (n+1) _ (by omega) (by grind) ?_;rintro c i x1 f ⟨rfl,j⟩ hs;by_cases hl:i<=n
 .refine ifT (by grind) (Ab ?_);rw[BS9];by_cases e:x.g i=y.g i
  .refine ifF (by grind) (hs (by omega) _ ⟨By,λa ha=>?_⟩)
   grind
  refine ifT (by grind) (by grind)
 exact ifF (by grind) (by grind)
def Wd {N n:Nat}{R S:Nat->Nat->Prop}{x y:Sl Int}(hn:n<=32)(u:1000<=N)(hx:x.n=n+1)(hy:y.n=n+1)(hR:TabR n R x.g)(hS:TabR n S y.g) :∃s,Be N x y=some s/\s.n=n+1/\TabR n (λa b=>∃c,c<=n/\R a c/\S c b) s.g:=by
 unfold Be;refine Ab ?_
 let Row (z:BitVec 64) (a j:Nat):Prop:=∀b,b<64->(z.getLsbD b=true↔b<=n/\∃c,c<j/\c<=n/\R a c/\S c b)
 refine W4 (λi x1 x2=>x2=(i:Int)/\x1.n=n+1/\(∀a,a<i->∃z,x1.g a=U z/\Row z a (n+1))/\∀a,i<=a->x1.g a=0) (n+1) _ (by omega) (by grind) ?_;rintro o i x1 x2 w ⟨rfl,h1,q,r⟩ hs;by_cases hl:i<=n
 .refine ifT (by grind) ?_;refine W4 (λj x7 x8=>x8=(j:Int)/\x7.n=n+1/\(∀a,a<i->∃z,x7.g a=U z/\Row z a (n+1))/\(∃z,x7.g i=U z/\Row z i j)/\∀a,i<a->x7.g a=0) (n+1) _ (by omega)
   ⟨rfl,h1,q,⟨0#64,r i (BT8 _),λb hb=>by simp⟩,by grind⟩ ?_
  rintro m j x7 x8 hj ⟨rfl,g1,g2,⟨z,g3,g4⟩,g5⟩ d;by_cases f:j<=n
  .refine ifT (by grind) (Ab ?_);rw[BS9,BS9];have l:=hR.bit hl (b:=j) (by omega);by_cases hc:R i j
   .refine ifT (l.2 ⟨f,hc⟩) (Ab (d (by omega) _ _ ⟨By,g1,λa ha=>?_,?_,λa ha=>?_⟩))
    .grind
    .obtain⟨v,e,t⟩:=hS j f;refine⟨z ||| v,by show (if i=i then _ else _)=_;rw[Fg rfl,g3,e,BS1],λb hb=>?_⟩;rw[BV7,BV9,g4 b hb,t b hb]
     grind
    grind
   refine ifF (by grind) (d (by omega) _ _ ⟨By,g1,g2,⟨z,g3,λb hb=>?_⟩,g5⟩);rw[g4 b hb]
   grind
  refine ifF (by grind) (hs (by omega) _ _ ⟨By,g1,λa ha=>?_,by grind⟩);by_cases e:a=i
  .grind
  exact g2 a (by omega)
 refine ifF (by grind) ⟨x1,rfl,h1,λa ha=>?_⟩;obtain⟨z,e,hz⟩:=q a (by omega)
 grind
def UD (w:Sl Qb)(p:Pat)(a b:Nat):PR w p a b↔(if p.Kind=0 then a=b
 else if p.Kind=1 then a<w.n/\b=a+1/\(AP1 (w.g a) p.Is != p.Not)=true
 else if p.Kind=2 then a=0/\b=0
 else if p.Kind=6 then a=w.n/\b=w.n
 else if p.Kind=3 then Bu5 w.n (λi=>PR w (p.L.g i)) p.L.n a b
 else if p.Kind=4 then ∃i,i<p.L.n/\PR w (p.L.g i) a b
 else if p.Kind=5 then ∃k:Nat,p.Min<=k/\(p.Max = -1 \/ (k:Int)<=p.Max)/\LM w.n (PR w (p.L.g 0)) k a b
 else False):=by
 cases p with
 |nil=>simp[PR,Pat.Kind]
 |mk kind is no mn mx m g=>exact Ce2
def R0 (w:Sl Qb)(p:Pat)(a b:Nat):Prop:=if p.Kind=0 then a=b else if p.Kind=1 then a<w.n/\b=a+1/\(AP1 (w.g a) p.Is != p.Not)=true else if p.Kind=2 then a=0/\b=0 else if p.Kind=6 then a=w.n/\b=w.n else False
def Bv4 {n:Nat}{R:Nat->Nat->Prop}(hR:Fwd n R){mn k:Nat}(hk:mn<k)(h:∀a b,a<=n->b<=n->LM n R k a b->∃j,mn<=j/\j<k/\LM n R j a b){a:Nat}(ha:a<=n) :∀m b,mn<=m->LM n R m a b->∃j,mn<=j/\j<k/\LM n R j a b
 |0,b,hm,hp=>by grind
 |m+1,b,hm,hp=>by
  by_cases f:m+1<k
  .grind
  obtain⟨c,hc,h1,d⟩:=hp;have hb:=(hR c b hc d).2;obtain⟨j,g1,g2,g3⟩:=Bv4 hR hk h ha m c (by omega) h1;by_cases e:j+1<k
  .exact⟨j+1,by omega,e,c,hc,g3,d⟩
  obtain rfl:k=j+1:=by omega
  exact h a b ha hb ⟨c,hc,g3,d⟩
def Tn {N:Nat}(hN:1000<=N){w:Sl Qb}(hw:w.n<=32):∀(d:Nat) (p:Pat),okP d p->∀M,N+d<=M->∃t,Ed M p w=some t/\t.n=w.n+1/\TabR w.n (PR w p) t.g
 |0,p,h,M,hM=>h.elim
 |d+1,p,⟨hc,h5,hch⟩,0,hM=>by omega
 |d+1,p,⟨hc,h5,hch⟩,M+1,hM=>by
  have ih:=λi hi=>Tn hN hw d (p.L.g i) (hch i hi) M (by omega);show ∃t,DB (Ed M) M p w=some t/\_;unfold DB;rw[By];refine Ab ?_;refine W4 (λi x1 x2=>x2=(i:Int)/\x1.n=w.n+1/\(∀a,a<i->∃z:BitVec 64,x1.g a=U z/\∀b,b<64->(z.getLsbD b=true↔b<=w.n/\R0 w p a b))/\∀a,i<=a->x1.g a=0) (w.n+1) _ (by omega)
   (by grind) ?_
  rintro self i x1 x2 hi ⟨rfl,h1,h2,h3⟩ hs;have keep:(∀b,b<=w.n->¬R0 w p i b)->(∀a,a<i+1->∃z:BitVec 64,x1.g a=U z/\∀b,b<64->(z.getLsbD b=true↔b<=w.n/\R0 w p a b)):=by
   intro h a ha;by_cases e:a=i
   .subst e;exact⟨0#64,h3 a (BT8 _),by grind⟩
   exact h2 a (by omega)
  have put:∀(z:BitVec 64) (v:Int),v=U z->(∀b,b<64->(z.getLsbD b=true↔b<=w.n/\R0 w p i b)) ->
   (∀a,a<i+1->∃z:BitVec 64,(x1.upd (i:Int).toNat v).g a=U z/\∀b,b<64->(z.getLsbD b=true↔b<=w.n/\R0 w p a b))/\∀a,i+1<=a->(x1.upd (i:Int).toNat v).g a=0:=by
   intro z v hv hz;refine⟨λa ha=>?_,λa ha=>?_⟩
   .by_cases e:a=i
    .grind
    obtain⟨z',e1,e2⟩:=h2 a (by omega)
    grind
   grind
  by_cases hl:i<=w.n
  .refine ifT (by grind) ?_;by_cases k0:p.Kind=0
   .refine ifT (by grind) (Ab ?_);obtain⟨p1,p2⟩:=put (1#64 <<< i) _ (Ac3 i (by omega)) (λb hb=>by rw[XC (by omega) hb,Je];simp only[R0,k0,Hu];omega);exact hs (by omega) _ _ ⟨By,h1,p1,p2⟩
   refine ifF (by grind) ?_;by_cases k1:p.Kind=1
   .refine ifT (by grind) ?_;have e0:∀b,R0 w p i b↔i<w.n/\b=i+1/\(AP1 (w.g i) p.Is != p.Not)=true:=λb=>by grind[R0]
    by_cases hlt:i<w.n
    .refine ifT (by grind) (Ab ?_);refine C0 (x:=AP1 (w.g i) p.Is) (by rw[BS9];rfl) ?_;by_cases hb:AP1 (w.g i) p.Is=p.Not
     .refine ifF (by grind) (hs (by omega) _ _ ⟨By,h1,keep λb _=>?_,by grind⟩);rw[e0];grind
     refine ifT (by grind) ?_;rw[By];refine Ab ?_;obtain⟨p1,p2⟩:=put (1#64 <<< (i+1)) _ (Ac3 (i+1) (by omega)) (by grind);exact hs (by omega) _ _ ⟨rfl,h1,p1,p2⟩
    refine ifF (by grind) (hs (by omega) _ _ ⟨By,h1,keep λb _=>?_,by grind⟩);rw[e0];omega
   refine ifF (by grind) ?_;by_cases k2:p.Kind=2
   .refine ifT (by grind) ?_;have e0:∀b,R0 w p i b↔i=0/\b=0:=λb=>by grind[R0]
    by_cases hz:i=0
    .refine ifT (by grind) (Ab ?_);obtain⟨p1,p2⟩:=put 1#64 _ BO1 (by grind);exact hs (by omega) _ _ ⟨By,h1,p1,p2⟩
    refine ifF (by grind) (hs (by omega) _ _ ⟨By,h1,keep λb _=>?_,by grind⟩);rw[e0];omega
   refine ifF (by grind) ?_;by_cases k6:p.Kind=6
   .refine ifT (by grind) ?_;have e0:∀b,R0 w p i b↔i=w.n/\b=w.n:=λb=>by grind[R0]
    by_cases hz:i=w.n
    .refine ifT (by grind) (Ab ?_);obtain⟨p1,p2⟩:=put (1#64 <<< i) _ (Ac3 i (by omega)) (by grind);exact hs (by omega) _ _ ⟨By,h1,p1,p2⟩
    refine ifF (by grind) (hs (by omega) _ _ ⟨By,h1,keep λb _=>?_,by grind⟩);rw[e0];omega
   refine ifF (by grind) (hs (by omega) _ _ ⟨By,h1,keep λb _=>?_,by grind⟩)
   grind[R0]
  refine ifF (by grind) ?_;have t0:TabR w.n (R0 w p) x1.g:=λa ha=>h2 a (by omega);by_cases k3:p.Kind=3
  .refine ifT (by grind) ?_;obtain⟨s,es,a3,a4⟩:=AC6 (N:=M) hw (by omega);refine C0 es ?_;refine W4 (λi (x3:Sl Int) x4=>x4=(i:Int)/\x3.n=w.n+1/\TabR w.n (Bu5 w.n (λi=>PR w (p.L.g i)) i) x3.g) p.L.n _ (by omega) ⟨rfl,a3,a4.congr λa b _ _=>Ce2⟩ ?_;rintro o j x3 x4 hj ⟨rfl,g1,g2⟩ c;by_cases u:j<p.L.n
   .obtain⟨t,et,a5,a6⟩:=ih j u;refine ifT (by grind) (Ab (C0 (by rw[BS9];exact et) ?_));obtain⟨f,ef,l,a1⟩:=Wd (N:=M) hw (by omega) g1 a5 g2 a6;exact C0 ef (c u _ _ ⟨By,l,a1⟩)
   obtain rfl:j=p.L.n:=by omega
   exact Bj ⟨x3,rfl,g1,g2.congr λa b _ _=>by rw[UD];grind⟩
  refine ifF (by grind) ?_;by_cases k4:p.Kind=4
  .refine ifT (by grind) ?_;refine W4 (λi x3 x4=>x4=(i:Int)/\x3.n=w.n+1/\TabR w.n (λa b=>∃q,q<i/\PR w (p.L.g q) a b) x3.g) p.L.n _ (by omega) ⟨rfl,h1,t0.congr λa b _ _=>by grind[R0]⟩ ?_;rintro o j x3 x4 hj ⟨rfl,g1,g2⟩ c;by_cases u:j<p.L.n
   .obtain⟨t,et,a5,a6⟩:=ih j u;refine ifT (by grind) (Ab (C0 (by rw[BS9];exact et) ?_));obtain⟨f,ef,l,a1⟩:=AC7 (N:=M) hw (by omega) g1 a5 g2 a6;refine C0 ef (c u _ _ ⟨By,l,by grind⟩)
    all_goals grind
   obtain rfl:j=p.L.n:=by omega
   exact Bj ⟨x3,rfl,g1,g2.congr λa b _ _=>by rw[UD];grind⟩
  refine ifF (by grind) ?_;by_cases k5:p.Kind=5
  .obtain⟨hn1,hm0,hm1,hmx⟩:=h5 k5;refine ifT (by grind) (Ab ?_);obtain⟨one,eo,ho1,ho2⟩:=ih 0 (by omega);obtain⟨s,es,a3,a4⟩:=AC6 (N:=M) hw (by omega);refine C0 eo (C0 es ?_);have hF:=Ac6 w (p.L.g 0);have fin:∀(t:Sl Int) (k:Nat),t.n=w.n+1->TabR w.n (λa b=>∃j:Nat,p.Min<=j/\j<k/\LM w.n (PR w (p.L.g 0)) j a b) t.g ->
    (∀a b,a<=w.n->b<=w.n->((∃j:Nat,p.Min<=j/\j<k/\LM w.n (PR w (p.L.g 0)) j a b) ↔ ∃j:Nat,p.Min<=j/\(p.Max = -1 \/ (j:Int)<=p.Max)/\LM w.n (PR w (p.L.g 0)) j a b)) ->
    ∃r,some t=some r/\r.n=w.n+1/\TabR w.n (PR w p) r.g:=by
    intro t k e1 e2 e3;exact⟨t,rfl,e1,e2.congr λa b ha hb=>(e3 a b ha hb).trans (by rw[UD];simp[k5])⟩
   refine At6 (λk (x8 x9:Sl Int) x10=>x10=(k:Int)/\x8.n=w.n+1/\x9.n=w.n+1/\TabR w.n (λa b=>∃j:Nat,p.Min<=j/\j<k/\LM w.n (PR w (p.L.g 0)) j a b) x8.g/\TabR w.n (LM w.n (PR w (p.L.g 0)) k) x9.g/\(p.Max = -1 \/ (k:Int)<=p.Max)) 33 _ (by omega)
    ⟨rfl,h1,a3,t0.congr λa b _ _=>by grind[R0],a4.congr λa b _ _=>Ce2,by omega⟩ ?_
   rintro o k x8 x9 x10 hk ⟨rfl,g1,g2,g3,g4,g5⟩ c;obtain⟨f,ef,l,a1⟩:=Wd (N:=M) hw (by omega) g2 ho1 g4 ho2;have next:TabR w.n (LM w.n (PR w (p.L.g 0)) (k+1)) f.g:=a1
   by_cases hmin:p.Min<=(k:Int)
   .refine ifT (by grind) ?_;obtain⟨j,ej,a0,hj2⟩:=AC7 (N:=M) hw (by omega) g1 g2 g3 g4;have m:TabR w.n (λa b=>∃j:Nat,p.Min<=j/\j<k+1/\LM w.n (PR w (p.L.g 0)) j a b) j.g:=hj2.congr λa b _ _=>by
     grind
    refine C0 ej (ltX ?_);by_cases hmaxk:(k:Int)=p.Max
    .refine ifT (by grind) (ifT rfl (fin j (k+1) a0 m (by grind)))
     all_goals grind
    refine ifF (by grind) ?_;by_cases hgt:p.Min<(k:Int)
    .refine ifT (by grind) ?_;obtain⟨b,eb,hb⟩:=Bb1 (N:=M) (x:=x8) (y:=j) hw (by omega) g1 a0;refine C0 eb ?_;by_cases a2:b=true
     .refine ifT a2 (fin j (k+1) a0 m λa b ha hb'=>⟨?_,?_⟩)
      .grind
      rintro⟨q,h1,h2,h3⟩;have heq:=hb.1 a2;obtain⟨q',k1,k2,k3⟩:=Bv4 hF (mn:=p.Min.toNat) (k:=k) (by omega) (λa b ha hb' hp=>by
       have e1:=m.bit ha (b:=b) (by omega);have e2:=g3.bit ha (b:=b) (by omega);rw[<- heq a ha]at e1
       grind) ha q b (by omega) h3
      grind
     refine ifF a2 (C0 ef ?_);have hk33:k<33:=by
      refine Nat.lt_of_le_of_ne hk λe=>a2 (hb.2 λa ha=>?_);subst e;refine g3.uniq (m.congr λa b ha hb'=>⟨?_,?_⟩) ha
      .rintro⟨q,h1,h2,h3⟩;by_cases e:q=33
       .subst e;exact⟨32,by omega,by omega,Ac4 hF ha hw h3⟩
       grind
      grind
     exact c hk33 _ _ _ ⟨By,a0,l,m,next,by omega⟩
    refine ifF (by grind) (Bj (C0 ef (c (by omega) _ _ _ ⟨By,a0,l,m,next,by omega⟩)))
   refine ifF (by grind) (C0 ef (c (by omega) _ _ _ ⟨By,g1,l,by grind,next,by omega⟩))
   all_goals omega
  refine ifF (by grind) ⟨x1,rfl,h1,t0.congr λa b _ _=>?_⟩;rw[UD]
  grind[R0]
def Oa {x y:BitVec 32}(h:∀b,b<32->x.getLsbD b=y.getLsbD b):x=y:=Ch7 h
def BE6 (i:Nat):shI .shl .u32 1 (i:Int)=((1#32 <<< i).toNat:Int):=by rw[show (1:Int)=((1#32).toNat:Int) from rfl,Bt2]
def Bb2 {i j:Nat}(a:j<32):(1#32 <<< i).getLsbD j=decide (j=i):=by
 rw[Ch6,Ck5];by_cases h:j=i
 .subst h;simp[a]
 by_cases b:j<i
 .simp[h,b]
 have:j-i≠0:=by omega
 simp[h,this]
def gB (p m:BitVec 32)(f:Nat):Int:=if p.getLsbD f then 1 else if m.getLsbD f then -1 else 0
def AC8 (p m:BitVec 32)(a:vB p m=true)(f:Nat)(c:f<24)(b:1000<=N):W2 N (sOf p m) (f:Int)=some (gB p m f):=by
 unfold W2;rw[At p m b];simp only[BT1,lt,Dz,VU,gB,a];rw[Fg (by omega:(0:Int)<=(f:Int)),Fg (by omega:(0:Int)<=(f:Int))];have e:(decide ((0:Int)<=(f:Int))&&decide ((f:Int)<24))=true:=by simp;omega
 rw[e];cases h1:p.getLsbD f<;>cases d:m.getLsbD f<;>simp
def gB_eq {p m a b:BitVec 32}(g:vB p m=true)(c : vB a b=true)(f:Nat)(d:f<32):(gB a b f≠0->gB p m f=gB a b f)↔((a.getLsbD f=true->p.getLsbD f=true)/\(b.getLsbD f=true->m.getLsbD f=true)):=by have h1:=((Jb p m).1 g f d).1;have i:=((Jb a b).1 c f d).1;revert h1 i;simp only[gB];cases a.getLsbD f<;>cases b.getLsbD f<;>cases p.getLsbD f<;>cases m.getLsbD f<;>simp
def AP3 (p m a b:BitVec 32):Bool:=vB p m&&(vB a b&&decide (∀i:Fin 32,(a.getLsbD i=true->p.getLsbD i=true)/\(b.getLsbD i=true->m.getLsbD i=true)))
def BE7 (a p:BitVec 32):a &&& ~~~ p=0#32 ↔ ∀i,i<32->(a.getLsbD i=true->p.getLsbD i=true):=by rw[z32];refine forall_congr' λi=>forall_congr' λb=>?_;rw[BW1,BZ2];cases a.getLsbD i<;>cases p.getLsbD i<;>simp[b]
def BE8 (p m a b:BitVec 32):O9 N (sOf p m) (sOf a b)=some (AP3 p m a b):=by
 unfold O9;rw[Cp];simp only[BT1,lt,Cp,CX,eq0,AP3];cases h1:vB p m
 .simp
 cases d:vB a b
 .simp
 simp only[Hu,Ce5];have key:(decide (∀i:Fin 32,(a.getLsbD i=true->p.getLsbD i=true)/\(b.getLsbD i=true->m.getLsbD i=true)))=(decide (a &&& ~~~ p=0#32)&&decide (b &&& ~~~ m=0#32)):=by rw[BV2];simp only[BT5,Je,BE7];exact⟨λh=>⟨λi c=>(h ⟨i,c⟩).1,λi c=>(h ⟨i,c⟩).2⟩,λh i=>⟨h.1 i.1 i.2,h.2 i.1 i.2⟩⟩
 rw[key];by_cases h:a &&& ~~~ p=0#32
 .simp[h]
 simp[h]
def BE9 (p m a b:BitVec 32)(f:1000<=N):V2 N (sOf p m) (sOf a b)=some (AP3 p m a b):=by
 suffices h:∃r,V2 N (sOf p m) (sOf a b)=some r/\r=AP3 p m a b by obtain⟨r,h,rfl⟩:=h;exact h
 unfold V2;rw[At p m f];refine C0 rfl (ltX ?_);cases h1:vB p m
 .exact Ad (ifT rfl ⟨false,rfl,by simp[AP3,h1]⟩)
 refine Bj ?_;rw[At a b f];refine C0 rfl ?_;cases c:vB a b
 .exact Ad ⟨false,rfl,by simp[AP3,c]⟩
 refine Bj ?_;refine Y6 (λi x3=>x3=(i:Int)/\∀j,j<i->((a.getLsbD j=true->p.getLsbD j=true)/\(b.getLsbD j=true->m.getLsbD j=true))) 24 _ (by omega) ⟨rfl,λj n=>Hc n (by omega)⟩ ?_;rintro d i x3 q ⟨rfl,o⟩ hs;by_cases hl:i<24
 .refine Ac (C0 (AC8 a b c i hl f) (ltX ?_));have key:=gB_eq h1 c i (by omega);have fin:(¬(gB a b i≠0->gB p m i=gB a b i))->false=AP3 p m a b:=λhn=>by symm;simp only[AP3,h1,c,Ce5];rw[<- Ci7,Je];intro h;exact hn (key.2 (h ⟨i,by omega⟩))
  have go:(gB a b i≠0->gB p m i=gB a b i)->∃r,d (wrap .i64 ((i:Int)+1))=some r/\r=AP3 p m a b:=λhp=>hs hl _ ⟨By,λj n=>by
   by_cases e:j=i
   .subst e;exact key.1 hp
   exact o j (by omega)⟩
  by_cases g:gB a b i=0
  .exact ifF (by simp[g]) (Bj (go λh=>Hc g h))
  refine ifT (by simp[g]) (C0 (AC8 p m h1 i hl f) ?_);by_cases l:gB p m i=gB a b i
  .exact ifF (by simp[l]) (go λ_=>l)
  exact ifT (by simp[l]) ⟨false,rfl,fin λh=>l (h g)⟩
 refine Az ⟨true,rfl,?_⟩;symm;simp only[AP3,h1,c,Ce5,Je];intro j;by_cases n:j.1<24
 .exact o j.1 (by omega)
 have:=((Jb a b).1 c j.1 j.2).2 (by omega)
 exact⟨λh=>by rw[this.1]at h;exact Hc h (by simp),λh=>by rw[this.2]at h;exact Hc h (by simp)⟩
def Yu (x y s:BitVec 32):BitVec 32:=(x &&& ~~~ s) ||| (y &&& s)
def Bv5 (p m a b s:BitVec 32):DS N (sOf p m) (sOf a b) (s.toNat:Int)=some (sOf (Yu p a s) (Yu m b s)):=by unfold DS;simp only[CX,DN,IK,Yu]
def BQ6 (x:BitVec 32)(f:Nat)(on:Bool):BitVec 32:=if on then (x &&& ~~~ (1#32 <<< f)) ||| (1#32 <<< f)else x &&& ~~~ (1#32 <<< f)
def KO (x:BitVec 32)(f:Nat)(on:Bool){j:Nat}(a:j<32):(BQ6 x f on).getLsbD j=if j=f then on else x.getLsbD j:=by
 unfold BQ6;cases on
 .rw[Gb (by simp),BW1,BZ2,Bb2 a];by_cases e:j=f<;>simp[e,a]
 rw[Fg rfl,BV7,BW1,BZ2,Bb2 a];by_cases e:j=f<;>simp[e,a]
def Bb3 (p m:BitVec 32)(f:Nat)(v:Int):EL N (sOf p m) (f:Int) v=some (sOf (BQ6 p f (v==1)) (BQ6 m f (v == -1))):=by unfold EL;rw[Dl];simp only[BE6,CX,IK];cases h1:v==1<;>cases a:v == -1<;>simp[BQ6]
def Bp7 (p m c a b:BitVec 32):Qb×Int:=if vB p m=true/\vB a b then (if c.toNat<16777216/\c &&& (a ||| b)=0#32 then (sOf (Yu p a (c ||| (a ||| b))) (Yu m b (c ||| (a ||| b))),0)else (⟨0,0⟩,2))else (⟨0,0⟩,14)
def AN3 (p m c a b:BitVec 32):T2 N (sOf p m) (c.toNat:Int) (sOf a b)=some (Bp7 p m c a b):=by
 unfold T2 Bp7;rw[Cp];simp only[BT1,lt,Cp,Ge,IK,DN,Bv5];cases h1:vB p m
 .simp
 cases g:vB a b
 .simp
 by_cases d:c.toNat<16777216
 .have e:((c &&& (a ||| b)).toNat:Int) != 0 ↔ ¬(c &&& (a ||| b)=0#32):=by
   have:=eq0 (c &&& (a ||| b))
   simp only[bne_iff_ne,ne_eq];rw[<- Je (p:=c &&& (a ||| b)=0#32),<- this];simp
  by_cases f:c &&& (a ||| b)=0#32
  .simp[d,f];omega
  have e':=e.2 f;rw[Gb (by simp<;>omega),e'];simp[d,f]
 simp[d];omega
def AN4 (p m c a b:BitVec 32)(t:1000<=N):W3 N (sOf p m) (c.toNat:Int) (sOf a b)=some (Bp7 p m c a b):=by
 suffices h:∃r,W3 N (sOf p m) (c.toNat:Int) (sOf a b)=some r/\r=Bp7 p m c a b by obtain⟨r,h,rfl⟩:=h;exact h
 unfold W3;rw[At p m t];refine C0 rfl (ltX ?_);cases h1:vB p m
 .exact Ad (ifT rfl ⟨_,rfl,by simp[Bp7,h1]⟩)
 refine Bj ?_;rw[At a b t];refine C0 rfl ?_;cases o:vB a b
 .exact Ad ⟨_,rfl,by simp[Bp7,o]⟩
 refine Bj ?_;rw[IK,DN];by_cases hc:c.toNat<16777216/\c &&& (a ||| b)=0#32
 .obtain⟨q,n⟩:=hc;refine ifF (by rw[n];simp;omega) ?_;have y:∀j,j<32->¬(c.getLsbD j=true/\(a.getLsbD j=true \/ b.getLsbD j=true)):=λj d=>by
   have:=(z32 _).1 n j d
   rw[BW1,BV7]at this;revert this;cases c.getLsbD j<;>cases a.getLsbD j<;>cases b.getLsbD j<;>simp
  refine At6 (λi x2 x3 x4=>x4=(i:Int)/\∃P M:BitVec 32,x2=(P.toNat:Int)/\x3=(M.toNat:Int)/\∀j,j<32 ->
   P.getLsbD j=(if j<i/\(c.getLsbD j=true \/ a.getLsbD j=true \/ b.getLsbD j=true)then a.getLsbD j else p.getLsbD j)/\M.getLsbD j=(if j<i/\(c.getLsbD j=true \/ a.getLsbD j=true \/ b.getLsbD j=true)then b.getLsbD j else m.getLsbD j)) 24 _ (by omega)
   ⟨rfl,p,m,rfl,rfl,λj d=>by simp⟩ ?_
  rintro w i x2 x3 x4 hi ⟨rfl,P,M,rfl,rfl,f⟩ hs;by_cases hl:i<24
  .refine Ac (Ab ?_);rw[VU];have u:=AC8 (N:=N) a b o i hl t;have v:=((Jb a b).1 o i (by omega)).1;have z:=y i (by omega);by_cases l:c.getLsbD i=true
   .refine ifT l (C0 (Bb3 P M i 0) (C0 u ?_));have ea:a.getLsbD i=false:=by cases e:a.getLsbD i<;>simp_all
    have eb:b.getLsbD i=false:=by cases e:b.getLsbD i<;>simp_all
    refine ifF (by simp[gB,ea,eb]) (hs hl _ _ _ ⟨By,_,_,rfl,rfl,λj d=>?_⟩);rw[KO _ _ _ d,KO _ _ _ d];by_cases e:j=i
    .subst e;simp[l,ea,eb]
    have:=f j d
    have e2:j<i+1↔j<i:=by omega
    simp only[e,Ih,e2];exact this
   refine ifF l (C0 u ?_);by_cases s:gB a b i=0
   .have ea:a.getLsbD i=false:=by revert s;simp only[gB];cases a.getLsbD i<;>simp
    have eb:b.getLsbD i=false:=by revert s;simp only[gB,ea];cases b.getLsbD i<;>simp
    refine ifF (by simp[s]) (hs hl _ _ _ ⟨By,P,M,rfl,rfl,λj d=>?_⟩);by_cases e:j=i
    .subst e;have:=f j d;simpa[l,ea,eb]using this
    have:=f j d
    have e2:j<i+1↔j<i:=by omega
    simp only[e2];exact this
   refine ifT (by simp[s]) (C0 u (C0 (Bb3 P M i _) (hs hl _ _ _ ⟨By,_,_,rfl,rfl,λj d=>?_⟩)));rw[KO _ _ _ d,KO _ _ _ d];by_cases e:j=i
   .subst e;revert s v;simp only[gB];cases a.getLsbD j<;>cases b.getLsbD j<;>simp
   have:=f j d
   have e2:j<i+1↔j<i:=by omega
   simp only[e,Ih,e2];exact this
  obtain rfl:i=24:=by omega
  refine Bj ⟨_,rfl,?_⟩;simp only[Bp7,h1,o,q,n,and_self,Hu];have hp:=(Jb p m).1 h1;have x:=(Jb a b).1 o;have a0:=(Kn c).1 q;have eP:P=Yu p a (c ||| (a ||| b)):=Oa λj d=>by
   rw[(f j d).1,Yu,BV7,BW1,BW1,BZ2,BV7,BV7];by_cases g:j<24
   .cases c.getLsbD j<;>cases a.getLsbD j<;>cases b.getLsbD j<;>cases p.getLsbD j<;>simp[g,d]
   have g1:=(hp j d).2 (by omega);have g2:=(x j d).2 (by omega);simp[g,g1.1,g2.1]
  have eM:M=Yu m b (c ||| (a ||| b)):=Oa λj d=>by
   rw[(f j d).2,Yu,BV7,BW1,BW1,BZ2,BV7,BV7];by_cases g:j<24
   .cases c.getLsbD j<;>cases a.getLsbD j<;>cases b.getLsbD j<;>cases m.getLsbD j<;>simp[g,d]
   have g1:=(hp j d).2 (by omega);have g2:=(x j d).2 (by omega);simp[g,g1.2,g2.2]
  rw[eP,eM]
 refine ifT ?_ ⟨_,rfl,?_⟩
 .rw[BV9,Je,bne_iff_ne];by_cases h:c.toNat<16777216
  .right
   intro h0;exact hc ⟨h,BX9 (by show _=0;omega)⟩
  left;omega
 simp only[Bp7,h1,o,and_self,Hu];rw[Gb hc]
def Bp8 (p m a b s:BitVec 32):Qb×Int:=if vB p m=true/\vB a b then (if s.toNat<16777216 then (sOf (Yu p a s) (Yu m b s),0)else (⟨0,0⟩,2))else (⟨0,0⟩,14)
def Bp9 (p m a b s:BitVec 32):Y8 N (sOf p m) (sOf a b) (s.toNat:Int)=some (Bp8 p m a b s):=by
 unfold Y8 Bp8;rw[Cp];simp only[BT1,lt,Cp,Bv5];cases h1:vB p m
 .simp
 cases d:vB a b
 .simp
 by_cases c:s.toNat<16777216
 .simp[c];omega
 simp[c];omega
def Bq0 (p m a b s:BitVec 32)(o:1000<=N):Bw N (sOf p m) (sOf a b) (s.toNat:Int)=some (Bp8 p m a b s):=by
 suffices h:∃r,Bw N (sOf p m) (sOf a b) (s.toNat:Int)=some r/\r=Bp8 p m a b s by obtain⟨r,h,rfl⟩:=h;exact h
 unfold Bw;rw[At p m o];refine C0 rfl (ltX ?_);cases h1:vB p m
 .exact Ad (ifT rfl ⟨_,rfl,by simp[Bp8,h1]⟩)
 refine Bj ?_;rw[At a b o];refine C0 rfl ?_;cases l:vB a b
 .exact Ad ⟨_,rfl,by simp[Bp8,l]⟩
 refine Bj ?_;by_cases hc:s.toNat<16777216
 .refine Az ?_;refine At6 (λi x2 x3 x4=>x4=(i:Int)/\∃P M:BitVec 32,x2=(P.toNat:Int)/\x3=(M.toNat:Int)/\∀j,j<32 ->
   P.getLsbD j=(if j<i/\s.getLsbD j then a.getLsbD j else p.getLsbD j)/\M.getLsbD j=(if j<i/\s.getLsbD j then b.getLsbD j else m.getLsbD j)) 24 _ (by omega)
   ⟨rfl,p,m,rfl,rfl,λj c=>by simp⟩ ?_
  rintro t i x2 x3 x4 u ⟨rfl,P,M,rfl,rfl,d⟩ hs;by_cases hl:i<24
  .refine Ac (Ab ?_);rw[VU];have q:=((Jb a b).1 l i (by omega)).1;by_cases g:s.getLsbD i=true
   .refine ifT g (C0 (AC8 (N:=N) a b l i hl o) (C0 (Bb3 P M i _) (hs hl _ _ _ ⟨By,_,_,rfl,rfl,λj c=>?_⟩)));rw[KO _ _ _ c,KO _ _ _ c];by_cases e:j=i
    .subst e;revert q;simp only[gB,g];cases a.getLsbD j<;>cases b.getLsbD j<;>simp
    have:=d j c
    have e2:j<i+1↔j<i:=by omega
    simp only[e,Ih,e2];exact this
   refine ifF g (hs hl _ _ _ ⟨By,P,M,rfl,rfl,λj c=>?_⟩);by_cases e:j=i
   .subst e;have:=d j c;simpa[g]using this
   have:=d j c
   have e2:j<i+1↔j<i:=by omega
   simp only[e2];exact this
  obtain rfl:i=24:=by omega
  refine Bj ⟨_,rfl,?_⟩;simp only[Bp8,h1,l,hc,and_self,Hu];have n:=(Kn s).1 hc;have eP:P=Yu p a s:=Oa λj c=>by
   rw[(d j c).1,Yu,BV7,BW1,BW1,BZ2];by_cases f:j<24
   .cases s.getLsbD j<;>cases a.getLsbD j<;>cases p.getLsbD j<;>simp[f,c]
   rw[Gb (by simp[f]),n j (by omega) c];simp[c]
  have eM:M=Yu m b s:=Oa λj c=>by
   rw[(d j c).2,Yu,BV7,BW1,BW1,BZ2];by_cases f:j<24
   .cases s.getLsbD j<;>cases b.getLsbD j<;>cases m.getLsbD j<;>simp[f,c]
   rw[Gb (by simp[f]),n j (by omega) c];simp[c]
  rw[eP,eM]
 exact Ac ⟨_,rfl,by simp[Bp8,h1,l,hc]⟩
def Bb4 (x:BitVec 64)(h:x≠0#64):Lib.ctz 64 x.toNat<64/\x.getLsbD (Lib.ctz 64 x.toNat)=true/\∀j,j<Lib.ctz 64 x.toNat->x.getLsbD j=false:=by
 have b:x.toNat≠0:=λe=>h (BX9 (by grind));obtain⟨m,hm,a⟩:=Lib.ctzFrom_spec 64 x.toNat (by omega) x.isLt;have e:Lib.ctz 64 x.toNat=Lib.ctzFrom 64 x.toNat:=by unfold Lib.ctz;rw[Gb b]
 rw[e];refine⟨a,?_,λj c=>?_⟩
 .show x.toNat.testBit _=true;rw[hm,Ch8]
  grind
 show x.toNat.testBit _=false;rw[hm,Ch8]
 grind
def ID (x:BitVec 64)(i:Nat):List Int:=((List.range' i (64-i)).filter λj=>x.getLsbD j).map λ(j:Nat)=>(j:Int)
theorem ON {x:BitVec 64}{i:Nat}(h:∀j,j<64->x.getLsbD j=false):ID x i=[]:=by
 grind[ID,List.filter_eq_nil_iff,List.mem_range']
def We {x:BitVec 64}{t:Nat}:∀(k i:Nat),t=i+k->t<64->x.getLsbD t=true->(∀j,j<t->x.getLsbD j=false)->ID x i=(t:Int)::ID x (t+1)
 |0,i,h,ht,hb,hl=>by
  obtain rfl:t=i:=by omega
  unfold ID;rw[show 64-t=(64-(t+1))+1 by omega,Cd8,Ch9 hb];rfl
 |k+1,i,h,ht,hb,hl=>by rw[<- We k (i+1) (by omega) ht hb hl];unfold ID;rw[show 64-i=(64-(i+1))+1 by omega,Cd8,Ci0 (by grind)]
def Av4 {x y:BitVec 64}{i:Nat}(h:∀j,i<=j->x.getLsbD j=y.getLsbD j):ID x i=ID y i:=by
 grind[ID,List.filter_congr,List.mem_range']
def BS7 (M:Nat)(a:Int->Option (List Int))(x1:Int):Option (List Int):= if (x1 != 0) then (I4 M x1).bind λy3=>if (0:Int)<=y3 then Dk y3 (a (E6 .andNot .u64 x1 (shI .shl .u64 1 y3))) else none else some []
def Bb5 {x:BitVec 64}{M:Nat}{a:Int->Option (List Int)}(hx:x≠0#64):BS7 M a (U x)=Dk ((Lib.ctz 64 x.toNat:Nat):Int) (a (U (x &&& ~~~(1#64 <<< Lib.ctz 64 x.toNat)))):=by
 have c:x.toNat≠0:=λe=>hx (BX9 (by grind));have b:=x.isLt;unfold BS7;rw[Fg (by grind)]
 have:I4 M (U x)=some ((Lib.ctz 64 x.toNat:Nat):Int):=by unfold I4;rw[Fg (by grind)];rfl
 rw[this,BT1,Dl,Ac3 _ (Bb4 x hx).1,Bm8]
theorem Ag5 {M:Nat}{a:Int->Option (List Int)}:BS7 M a (U 0#64)=some []:=rfl
def BF0 (M:Nat):∀(k i:Nat) (x:BitVec 64),64-i<=k->(∀j,j<i->x.getLsbD j=false)->∀N,k<N->O7 N (BS7 M) (U x)=some (ID x i):=by
 intro k
 induction k with
 |zero=>
  intro i x hk hl N a;have d:x=0#64:=Ch7 (by grind);subst d
  match N,a with
  |N+1,_=>rw[ON λj g=>by simp,BQ,Ag5]
 |succ k ih=>
  intro i x hk hl N a
  match N,a with
  |N+1,a=>
   by_cases hx:x=0#64
   .grind[ON,BQ,Ag5]
   obtain⟨h1,b,c⟩:=Bb4 x hx;have f:i<=Lib.ctz 64 x.toNat:=by
    grind
   rw[We (Lib.ctz 64 x.toNat-i) i (by omega) h1 b c,BQ,Bb5 hx];generalize Lib.ctz 64 x.toNat=t at h1 b c f;have hb:∀j,j<64->(x &&& ~~~(1#64 <<< t)).getLsbD j=(x.getLsbD j && !decide (j=t)):=(by grind);have hc:ID x (t+1)=ID (x &&& ~~~(1#64 <<< t)) (t+1):=Av4 (by grind);rw[ih (t+1) (x &&& ~~~(1#64 <<< t)) (by omega) (by grind) N (by omega),<- hc];rfl
theorem MD (x:BitVec 64){N:Nat}(a:100<=N):V5 N (U x)=some (ID x 0):=
 BF0 N 64 0 x (by omega) (by omega) N (by omega)
def mem_bitsF {x:BitVec 64}{i:Nat}{y:Int}:y∈ID x i ↔ ∃j:Nat,y=(j:Int)/\i<=j/\j<64/\x.getLsbD j=true:=by
 unfold ID
 grind
def TabA (n:Nat)(R:Nat->Nat->Prop)(f:Nat->Int):Prop:=TabR n R f/\∀a,n<a->f a=0
def TabA.congr {n:Nat}{R R' : Nat->Nat->Prop}{f:Nat->Int}(h:TabA n R f)(c:∀a b,a<=n->b<=n->(R a b↔R' a b)):TabA n R' f:=⟨h.1.congr c,h.2⟩
def zeroA (n:Nat):TabA n (λ_ _=>False) (λ_=>0):=⟨Bp6 λ_ _=>rfl,λ_ _=>rfl⟩
def IE (f:Nat->Int)(i:Nat)(v:Int)(a:Nat):Vg f i v a=if a=i then v else f a:=rfl
def Bv6 {N n:Nat}{R S:Nat->Nat->Prop}{x y:Nat->Int}(hn:n<=32)(f:1000<=N)(hR:TabA n R x)(hS:TabA n S y) :∃s,Q7 N x y=some s/\TabA n (λa b=>R a b \/ S a b) s:=by
 unfold Q7;refine W4 (λi x1 x2=>x2=(i:Int)/\∀a,x1 a=if a<i then E6 .or .u64 (x a) (y a)else x a) 33 _ (by omega) (by grind) ?_;rintro c i x1 x2 g ⟨rfl,d⟩ hs;by_cases hl:i<33
 .refine ifT (by grind) (Ab (Ab (hs (by omega) _ _ ⟨By,λa=>?_⟩)));rw[IE,BS9,BW8,BY0]
  grind
 refine ifF (by grind) ⟨x1,rfl,λa ha=>?_,λa ha=>?_⟩
 .obtain⟨u,e1,g1⟩:=hR.1 a ha;obtain⟨v,e2,g2⟩:=hS.1 a ha;refine⟨u ||| v,by rw[d a,Dl,e1,e2,BS1],λb hb=>?_⟩;rw[BV7,BV9,g1 b hb,g2 b hb]
  grind
 rw[d a];split
 .rw[hR.2 a ha,hS.2 a ha];rfl
 exact hR.2 a ha
def Ku {N n:Nat}(hn:n<=32)(f:1000<=N):∃s,U5 N (n:Int)=some s/\TabA n (λa b=>a=b) s:=by
 unfold U5;rw[By];refine W4 (λi x1 x2=>x2=(i:Int)/\∀a,x1 a=if a<i then U (1#64 <<< a)else 0) (n+1) _ (by omega) (by grind) ?_;rintro c i x1 x2 g ⟨rfl,d⟩ hs;by_cases hl:i<=n
 .refine ifT (by grind) (Ab (hs (by omega) _ _ ⟨By,λa=>?_⟩));rw[IE,BS9,BW8,BY0];by_cases e:a=i
  .subst e;rw[Fg rfl,Dl,Ac3 _ (by omega)]
  grind
 refine ifF (by grind) ⟨x1,rfl,λa ha=>⟨1#64 <<< a,by rw[d a,Dl],λb hb=>?_⟩,by grind⟩;rw[XC (by omega) hb,Je];omega
def QH {N n:Nat}{R S:Nat->Nat->Prop}{x y:Nat->Int}(hn:n<=32)(hN:1000<=N)(hR:TabA n R x)(hS:TabA n S y) :∃s,F9 N x y=some s/\TabA n (λa b=>∃c,c<=n/\R a c/\S c b) s:=by
 unfold F9;refine W4 (λi x3 x4=>x4=(i:Int)/\(∀a,a<i->a<=n->∃z:BitVec 64,x3 a=U z/\∀b,b<64->(z.getLsbD b=true↔b<=n/\∃c,c<=n/\R a c/\S c b))/\∀a,i<=a \/ n<a->x3 a=0) 33 _ (by omega)
  (by grind) ?_
 rintro o i x3 x4 hi ⟨rfl,q,h3⟩ hs;by_cases hl:i<33
 .refine ifT (by grind) (Ab ?_);rw[BS9,BW8,BY0];refine C0 (x:=x i) rfl ?_;by_cases f:i<=n
  .obtain⟨u,e1,g1⟩:=hR.1 i f;refine C0 (x:=ID u 0) (by rw[e1];grind[MD]) ?_;refine Bo0 (λL z=>(∀a,a≠i->z a=x3 a)/\(∀t∈L,∃c:Nat,t=(c:Int)/\c<=n/\R i c)/\∃v:BitVec 64,z i=U v/\∀b,b<64->((v.getLsbD b=true \/ ∃c:Nat,(c:Int)∈L/\b<=n/\S c b)↔(b<=n/\∃c,c<=n/\R i c/\S c b))) ?_ ?_ _ _ ?_
   .rintro z ⟨k1,k2,v,k3,k4⟩;refine hs (by omega) _ _ ⟨By,λa ha g=>?_,λa ha=>?_⟩
    .by_cases e:a=i
     .subst e;exact⟨v,k3,λb hb=>by rw[<- k4 b hb];simp⟩
     obtain⟨z',p1,p2⟩:=q a (by omega) g
     grind
    grind
   .rintro t L z l ⟨k1,k2,v,k3,k4⟩ m;obtain⟨c,rfl,hc,w⟩:=k2 t (by simp);refine Ab (m _ ⟨λa ha=>?_,λt ht=>k2 t (by grind),?_⟩)
    .rw[IE,Dm];grind
    obtain⟨yc,e2,g2⟩:=hS.1 c hc;refine⟨v ||| yc,?_,λb hb=>?_⟩
    .rw[IE,Dl];simp;rw[k3,e2,BS1]
    rw[<- k4 b hb,BV7,BV9,g2 b hb];constructor
    .grind
    rintro (h|⟨c',h,h',d⟩)
    .grind
    rcases BX5.1 h with h|h
    .have:c' = c:=by omega
     grind
    grind
   refine⟨λ_ _=>rfl,λt ht=>?_,0#64,by grind,λb hb=>?_⟩
   .obtain⟨j,rfl,_,r,hb⟩:=mem_bitsF.1 ht
    grind
   simp;constructor
   .rintro⟨c,hc,h,h'⟩;obtain⟨j,r,_,a0,a1⟩:=mem_bitsF.1 hc
    grind
   rintro⟨h,c,hc,h',d⟩;exact⟨c,mem_bitsF.2 (by grind),h,d⟩
  refine C0 (x:=[]) (by rw[hR.2 i (by omega)];exact (MD 0#64 (by omega)).trans (by rw[ON λj r=>by simp])) ?_;exact hs (by omega) _ _ ⟨By,by grind,by grind⟩
 exact ifF (by grind) ⟨x3,rfl,λa ha=>q a (by omega) ha,by grind⟩
def Bq1 (N:Nat)(x:Nat->Int):N2 N x=F9 N x x:=rfl
def BQ7:∀m:Fin 33,(E6 .and .i64 ((m.val:Nat):Int) 1==1)=decide (m.val % 2=1)/\shI .shr .i64 ((m.val:Nat):Int) 1=((m.val / 2:Nat):Int):=by decide +kernel
def Ag6 {N n:Nat}{R:Nat->Nat->Prop}{x:Nat->Int}(hn:n<=32)(j:1000<=N)(v:Fwd n R)(hR:TabA n R x){k:Nat}(hk:k<=32) :∃s,H1 N x (k:Int) (n:Int)=some s/\TabA n (LM n R k) s:=by
 unfold H1;obtain⟨y1,e1,h1⟩:=Ku (N:=N) hn j;refine C0 e1 ?_;refine At6 (λi x1 x2 x3=>x1=((k / 2 ^ i:Nat):Int)/\TabA n (LM n R (2 ^ i)) x2/\TabA n (LM n R (k % 2 ^ i)) x3) 6 _ (by omega) ⟨by simp,?_,?_⟩ ?_
 .exact hR.congr λa b ha hb=>⟨λh=>⟨a,ha,rfl,h⟩,fun⟨c,hc,(h:a=c),h'⟩=>h ▸ h'⟩
 .rw[Nat.pow_zero,Nat.mod_one];exact h1
 rintro o i x1 x2 x3 w ⟨rfl,l,q⟩ hs;have hm:k / 2 ^ i<=32:=BX7 (Nat.div_le_self _ _) hk;obtain⟨b1,b2⟩:=BQ7 ⟨k / 2 ^ i,by omega⟩;simp only at b1 b2;have f:k / 2 ^ i / 2=k / 2 ^ (i+1):=by rw[Nat.div_div_eq_div_mul,Nat.pow_succ]
 have g:k % 2 ^ (i+1)=k % 2 ^ i+2 ^ i*(k / 2 ^ i % 2):=Nat.mod_pow_succ;have d:∃s,N2 N x2=some s/\TabA n (LM n R (2 ^ (i+1))) s:=by
  obtain⟨s,e,h⟩:=QH hn j l l;refine⟨s,(Bq1 N x2).trans e,h.congr λa b ha hb=>?_⟩;rw[show 2 ^ (i+1)=2 ^ i+2 ^ i by rw[Nat.pow_succ];omega]
  simp_all[GQ]
 obtain⟨sq,esq,d⟩:=d;by_cases r:k / 2 ^ i=0
 .refine ifF (by grind) ⟨x3,rfl,?_⟩
  have:k % 2 ^ i=k:=BZ8 (by
   have:=Ck0.1 r
   omega)
  rw[this]at q;omega
 have m:i<6:=by
  grind
 refine ifT (by grind) ?_;by_cases u:k / 2 ^ i % 2=1
 .refine ifT (by rw[b1];grind) ?_;obtain⟨t,et,ht⟩:=QH hn j q l;refine C0 et (C0 esq (hs m _ _ _ ⟨by rw[b2,f],d,ht.congr λa b ha hb=>?_⟩));rw[g,u,BY0]
  grind[GQ]
 simp_all
def BF1 {s c:Qb}(hs:okS s)(hc:okS c):((E6 .or .u32 (E6 .andNot .u32 c.Plus s.Plus) (E6 .andNot .u32 c.Minus s.Minus))==0)=AP1 s c:=by
 obtain⟨p,m,rfl⟩:=hs;obtain⟨a,b,rfl⟩:=hc;have e:∀x y:BitVec 32,((E6 .and .u32 (x.toNat:Int) (y.toNat:Int))==(y.toNat:Int))=decide (y &&& ~~~ x=0#32):=by
  intro x y;rw[DN,BV2];simp only[beq_iff_eq,Je];constructor
  .intro h;have h:x &&& y=y:=BX9 (by omega)
   grind
  intro h
  have:x &&& y=y:=Oa λi d=>by
   have:=(z32 _).1 h i d
   grind
  rw[this]
 unfold AP1;simp only[e,CX,IK,eq0];rw[BV2]
 grind
def Bb6 (o:1000<=N){w:Sl Qb}(hw:w.n<=32)(d:∀i,i<w.n->okS (w.g i)){c:Qb}(hc:okS c)(no:Bool) :∃f,AO N ⟨c,no⟩ w=some f/\TabA w.n (λa b=>a<w.n/\b=a+1/\(AP1 (w.g a) c != no)=true) f:=by
 unfold AO;refine W4 (λi x1 x2=>x2=(i:Int)/\∀a,x1 a=if a<i/\(AP1 (w.g a) c != no) then U (1#64 <<< (a+1))else 0) w.n _ (by omega) (by grind) ?_;rintro j i x1 x2 q ⟨rfl,l⟩ hs;by_cases hl:i<w.n
 .refine ifT (by grind) (Ab ?_);rw[BS9,BF1 (d i hl) hc];by_cases hb:(AP1 (w.g i) c != no)=true
  .refine ifT (by grind) ?_;rw[By];refine Ab (hs hl _ _ ⟨rfl,λa=>?_⟩);rw[IE,BW8,BY0,Ac3 _ (by omega)]
   grind
  refine ifF (by grind) (hs hl _ _ ⟨By,λa=>?_⟩);rw[l a]
  grind
 refine ifF (by grind) ⟨x1,rfl,λa ha=>?_,by grind⟩;by_cases hb:a<w.n/\(AP1 (w.g a) c != no)=true
 .grind
 refine⟨0#64,by rw[l a,Gb (by grind)];rfl,λb m=>?_⟩
 grind
def Bb7 {n a0 b0:Nat}(ha:a0<=n)(hb:b0<=n)(hn:n<=32):TabA n (λa b=>a=a0/\b=b0) (Vg (λ_=>0) a0 (U (1#64 <<< b0))):=by
 refine⟨λa d=>?_,by grind⟩;by_cases e:a=a0
 .refine⟨1#64 <<< b0,by rw[IE,Fg e],λb c=>?_⟩;rw[XC (by omega) c,Je];omega
 refine⟨0#64,by rw[IE,Gb e];rfl,λb c=>?_⟩
 grind
def AC9 {w:Sl Qb}(hw:w.n<=32)(e:Bool):∃f,Ca N ⟨e⟩ w=some f/\TabA w.n (λa b=>a=(if e then w.n else 0)/\b=(if e then w.n else 0)) f:=by
 unfold Ca;cases e
 .refine Bj (Av ⟨_,rfl,?_⟩);exact Bb7 (n:=w.n) (a0:=0) (b0:=0) (by omega) (by omega) hw
 refine ifT rfl (Ab ⟨_,rfl,?_⟩);rw[BS9,BW8,BY0,Ac3 _ (by omega)]
 simp_all[Bb7,BT8]
def BF2 (a:1000<=N){w:Sl Qb}(hw:w.n<=32){rec:Part->Sl Qb->Option (Nat->Int)}{m:Nat}(hm:m<=40){g:Nat->Part}{Q:Nat->Nat->Nat->Prop}
 (hc:∀i,i<m->∃f,rec (g i) w=some f/\TabA w.n (Q i) f):∃f,Dq rec N ⟨⟨m,g⟩⟩ w=some f/\TabA w.n (Bu5 w.n Q m) f:=by
 unfold Dq;obtain⟨y1,e1,h1⟩:=Ku (N:=N) hw a;refine C0 e1 ?_;refine W4 (λi x1 x2=>x2=(i:Int)/\i<=m/\TabA w.n (Bu5 w.n Q i) x1) m _ (by omega) ⟨rfl,by omega,h1⟩ ?_;rintro b i x1 x2 o ⟨rfl,c,d⟩ hs;by_cases hl:i<m
 .refine ifT (by grind) (ifT (by grind) ?_);obtain⟨f,e2,j⟩:=hc i hl;refine C0 (by rw[BS9];exact e2) ?_;obtain⟨s,e3,l⟩:=QH hw a d j;exact C0 e3 (hs hl _ _ ⟨By,hl,l⟩)
 grind
def BF3 (d:1000<=N){w:Sl Qb}(hw:w.n<=32){rec:Part->Sl Qb->Option (Nat->Int)}{m:Nat}(hm:m<=40){g:Nat->Part}{Q:Nat->Nat->Nat->Prop}
 (hc:∀i,i<m->∃f,rec (g i) w=some f/\TabA w.n (Q i) f):∃f,Dr rec N ⟨⟨m,g⟩⟩ w=some f/\TabA w.n (λa b=>∃i,i<m/\Q i a b) f:=by
 unfold Dr;refine W4 (λi x1 x2=>x2=(i:Int)/\i<=m/\TabA w.n (λa b=>∃j,j<i/\Q j a b) x1) m _ (by omega) ⟨rfl,by omega,(zeroA _).congr (by grind)⟩ ?_;rintro c i x1 x2 t ⟨rfl,l,o⟩ hs;by_cases hl:i<m
 .refine ifT (by grind) (ifT (by grind) ?_);obtain⟨f,e2,q⟩:=hc i hl;refine C0 (by rw[BS9];exact e2) ?_;obtain⟨s,e3,r⟩:=Bv6 hw d o q;refine C0 e3 (hs hl _ _ ⟨By,hl,r.congr (by grind)⟩)
  all_goals grind
 obtain rfl:i=m:=by omega
 grind
def BF4 (i:1000<=N){w:Sl Qb}(hw:w.n<=32){rec:Part->Sl Qb->Option (Nat->Int)}{pt:Part}{Q:Nat->Nat->Prop}(d:Fwd w.n Q){f:Nat->Int}(u:rec pt w=some f)(r:TabA w.n Q f)
 {mn mx:Int}(y:0<=mn) (h1:mn<=32) (z:mx = -1 \/ (mn<=mx/\mx<=32)) :
 ∃s,Ds rec N ⟨pt,mn,mx⟩ w=some s/\TabA w.n (λa b=>∃k:Nat,mn<=k/\(mx = -1 \/ (k:Int)<=mx)/\LM w.n Q k a b) s:=by
 obtain⟨m,rfl⟩:∃m:Nat,mn=(m:Int):=⟨mn.toNat,by omega⟩;unfold Ds;refine C0 u ?_;obtain⟨y2,e2,t2⟩:=Ag6 hw i d r (k:=m) (by omega);refine C0 e2 ?_;obtain⟨y3,e3,t3⟩:=Ku (N:=N) hw i;refine C0 e3 ?_;obtain⟨y4,e4,t4⟩:=Bv6 hw i r t3;refine C0 e4 ?_;have l : Fwd w.n (λa b=>Q a b \/ a=b):=λa b ha h=>by
  rcases h with h|h
  .exact d a b ha h
  omega
 have key:∀(K:Nat),K<=32->∃s,((H1 N y4 (K:Int) (w.n:Int)).bind λy5=>(F9 N y2 y5).bind λy6=>some y6)=some s/\TabA w.n (λa b=>∃j,j<=K/\LM w.n Q (m+j) a b) s:=by
  intro K v;obtain⟨y5,e5,t5⟩:=Ag6 hw i l t4 (k:=K) v;refine C0 e5 ?_;obtain⟨y6,e6,t6⟩:=QH hw i t2 t5;refine C0 e6 ⟨y6,rfl,t6.congr λa b ha hb=>?_⟩;constructor
  .rintro⟨c,hc,g1,g2⟩;obtain⟨j,o,g3⟩:=(SB d hc K b).1 g2;exact⟨j,o,(GQ d m ha j b).2 ⟨c,hc,g1,g3⟩⟩
  grind[GQ,SB]
 by_cases hx:mx<0
 .refine ifT (decide_eq_true hx) ?_;obtain⟨s,e,t⟩:=key w.n hw;refine⟨s,e,t.congr λa b ha hb=>?_⟩;constructor
  .grind
  rintro⟨k,hk,_,g⟩;obtain⟨c,hc,g1,g3⟩:=(GQ d m ha (k-m) b).1 (by rw[show m+(k-m)=k by omega];exact g);obtain⟨j,o,g4⟩:=Ac5 d hc (k-m) g3;exact⟨j,o,(GQ d m ha j b).2 ⟨c,hc,g1,g4⟩⟩
 refine ifF (by grind) ?_;obtain⟨M,rfl⟩:∃M:Nat,mx=(M:Int):=⟨mx.toNat,by omega⟩;have q:IntKind.i64.wrap ((M:Int)-(m:Int))=((M-m:Nat):Int):=by rw[Qf];omega
 rw[show IntKind.i64.wrap ((⟨pt,(m:Int),(M:Int)⟩:BN8).max-(⟨pt,(m:Int),(M:Int)⟩:BN8).min)=((M-m:Nat):Int) from q];obtain⟨s,e,t⟩:=key (M-m) (by omega);refine⟨s,e,t.congr λa b ha hb=>?_⟩;constructor
 .grind
 rintro⟨k,hk,x,g⟩;exact⟨k-m,by omega,by rw[show m+(k-m)=k by omega];exact g⟩
def okQ:Nat->Pat->Prop
 |0,_=>False
 |d+1,p=>Tc p/\p.L.n<=40/\∀i,i<p.L.n->okQ d (p.L.g i)
theorem AD0:∀(d:Nat) (p:Pat),okQ d p->okQ (d+1) p
 |0,_,h=>h.elim
 |d+1,p,⟨h1,h2,h3⟩=>⟨h1,h2,λi a=>AD0 d _ (h3 i a)⟩
def Bb8:∀(k:Nat) (l:List Pat),k<=40->chk k l->∀p∈l,okQ k p
 |0,l,_,h,p,hp=>by rw[show l=[] from h]at hp;grind
 |k+1,[],_,_,p,hp=>by grind
 |k+1,q::l,hk,⟨hn,h⟩,p,hp=>by
  have ih:=Bb8 k _ (by omega) h;rcases BX5.1 hp with rfl|hp
  .have hl:=Td k _ h;rw[BW7,FF]at hl;exact⟨hn,by omega,λi a=>ih _ (BW5 _ (VW a))⟩
  grind[AD0,List.mem_append_right]
def vS.ok {s:Qb}(h:vS s):okS s:=by obtain⟨p,m,e,_⟩:=h;exact⟨p,m,e⟩
def BF5 (K:Nat)(p:Pat)(pt:Part):Prop:=∀(w:Sl Qb),w.n<=32->(∀i,i<w.n->okS (w.g i))->∀M,K<=M->∃f,Cc M pt w=some f/\TabA w.n (PR w p) f
def To {N:Nat}(v:1000<=N):∀(d:Nat),d<=40->∀(p:Pat),okQ d p->∀M,N+d<=M->∃pt,Cb M p=some pt/\BF5 (N+d) p pt
 |0,_,p,h,_,_=>h.elim
 |d+1,hd,p,⟨hn,hc,hch⟩,0,hM=>by omega
 |d+1,hd,p,⟨hn,hc,hch⟩,M+1,hM=>by
  show ∃pt,Af (Cb M) M p=some pt/\_;unfold Af;refine W4 (λi x1 x2=>x2=(i:Int)/\i<=p.L.n/\x1.n=i/\∀j,j<i->BF5 (N+d) (p.L.g j) (x1.g j)) p.L.n _ (by omega) (by grind) ?_;rintro q i x1 x2 t ⟨rfl,h1,u,o⟩ hs;by_cases hl:i<p.L.n
  .refine ifT (by grind) (Ab ?_);obtain⟨pt,e,y⟩:=To v d (by omega) (p.L.g i) (hch i hl) M (by omega);refine C0 (by rw[BS9];exact e) ?_;refine ifT (by grind) (hs hl _ _ ⟨By,hl,by grind,λj z=>?_⟩)
   grind
  obtain rfl:i=p.L.n:=by omega
  have fin:∀(pt:Part),(∀(w:Sl Qb),w.n<=32->(∀i,i<w.n->okS (w.g i))->∀M,N+d<=M->∃f,Cc (M+1) pt w=some f/\TabA w.n (PR w p) f)->∃r,some pt=some r/\BF5 (N+(d+1)) p r:=by
   intro pt h;refine⟨pt,rfl,λw hw c M' l=>?_⟩;obtain⟨M'',rfl⟩:∃M'',M' = M'' + 1:=⟨M' - 1,by omega⟩
   grind
  refine Bj ?_;obtain⟨⟨k0,k6⟩,n1,n2,n3,n4,n5⟩:=hn;by_cases k1:p.Kind=1
  .refine ifT (by grind) (fin _ λw hw c M' l=>?_);obtain⟨f,e,h⟩:=Bb6 (N:=M') (by omega) hw c n5.ok p.Not;refine⟨f,e,h.congr λa b _ _=>?_⟩;rw[UD];grind
  refine ifF (by grind) ?_;by_cases k2:p.Kind=2
  .refine ifT (by grind) (fin _ λw hw c M' l=>?_);obtain⟨f,e,h⟩:=AC9 (N:=M') hw false;refine⟨f,e,h.congr λa b _ _=>?_⟩;rw[UD];grind
  refine ifF (by grind) ?_;by_cases k6:p.Kind=6
  .refine ifT (by grind) (fin _ λw hw c M' l=>?_);obtain⟨f,e,h⟩:=AC9 (N:=M') hw true;refine⟨f,e,h.congr λa b _ _=>?_⟩;rw[UD];grind
  refine ifF (by grind) ?_;by_cases k4:p.Kind=4
  .refine ifT (by grind) (fin _ λw hw c M' l=>?_);obtain⟨f,e,h⟩:=BF3 (N:=M') (by omega) hw (rec:=Cc M') (m:=x1.n) (g:=x1.g) (Q:=λi=>PR w (p.L.g i)) (by omega) λi t=>o i (by omega) w hw c M' (by omega);refine⟨f,e,h.congr λa b _ _=>?_⟩;rw[UD,u];grind
  refine ifF (by grind) ?_;by_cases k5:p.Kind=5
  .obtain⟨g1,g2,g3,g4⟩:=n4 k5;refine ifT (by grind) (Ab (fin _ λw hw c M' l=>?_));obtain⟨f,e,h⟩:=o 0 (by omega) w hw c M' (by omega);obtain⟨s,e2,x⟩:=BF4 (N:=M') (by omega) hw (rec:=Cc M') (Ac6 w (p.L.g 0)) e h g2 g3 g4;refine⟨s,e2,x.congr λa b _ _=>?_⟩;rw[UD];grind
  refine ifF (by grind) (fin _ λw hw c M' l=>?_);obtain⟨f,e,h⟩:=BF2 (N:=M') (by omega) hw (rec:=Cc M') (m:=x1.n) (g:=x1.g) (Q:=λi=>PR w (p.L.g i)) (by omega) λi t=>o i (by omega) w hw c M' (by omega);refine⟨f,e,h.congr λa b _ _=>?_⟩;rw[UD,u];by_cases k3:p.Kind=3
  .grind
  have k0' : p.Kind=0:=by omega
  rw[n2 k3 k4 k5];simp[k0',Bu5]
def Wf (u:3000<=N){p:Pat}(hp:okPS p){w:Sl Qb}(hs:w.n<1000000/\w.n+1000<N)(hw:∀i,i<w.n->okS (w.g i)) :∃r,Bp N p w=some r/\(r.2=0↔chk 40 [p]/\wOk w)/\(r.2=0->TabA w.n (PR w p) r.1):=by
 unfold Bp;obtain⟨e,l,hc⟩:=XY (N:=N) (by omega) hp;refine C0 l ?_;by_cases m:e=0
 case neg=>simp_all
 refine ifF (by grind) ?_;by_cases hn:32<w.n
 .exact ifT (by grind) ⟨_,rfl,⟨by omega,λh=>by have:=h.2.1;omega⟩,by omega⟩
 refine ifF (by grind) ?_;have o:∀i,∃b:Bool,i<w.n->X9 N (w.g i)=some b/\(b=true ↔ ¬vS (w.g i)):=by
  intro i;by_cases a:i<w.n
  .obtain⟨x,y,l⟩:=hw i a;refine⟨!vB x y,λ_=>⟨?_,?_⟩⟩
   all_goals grind[X9,Af1,At7,vB]
  exact⟨false,λh=>Hc h a⟩
 obtain⟨b,hb⟩:=Cd6 o;obtain⟨r,q,d⟩:=PO (N:=N) (by omega) hs.1 (f:=λu1=>X9 N u1) λi a=>(hb i a).1;refine C0 q ?_;by_cases c:r=true
 .refine ifT c ⟨_,rfl,⟨by omega,λh=>?_⟩,by omega⟩;obtain⟨i,a,j⟩:=d.1 c;exact Hc (h.2.2 i a) ((hb i a).2.1 j)
 refine ifF c ?_;have s:wOk w:=⟨by omega,by grind⟩;obtain⟨pt,ep,t⟩:=To (N:=1000) (by omega) 40 (BT8 _) p (Bb8 40 [p] (BT8 _) (hc.1 m) p (by simp)) N (by omega);refine C0 ep ?_;obtain⟨f,ef,v⟩:=t w (by omega) hw N (by omega)
 simp_all
def AN5 (l:3000<=N){p:Pat}(hp:okPS p){w:Sl Qb}(hs:w.n<1000000/\w.n+1000<N)(hw:∀i,i<w.n->okS (w.g i))(at_:Int) :∃r,Dt N p w at_=some r/\(0<r.1.n↔chk 40 [p]/\wOk w/\0<=at_/\at_<=w.n/\∃a,a<=w.n/\PR w p a at_.toNat):=by
 unfold Dt;obtain⟨y,e,h1,m⟩:=Wf l hp hs hw;refine C0 e (ltX ?_);by_cases f:y.2=0
 case neg=>
  simp_all
 refine ifT (by grind) ?_;obtain⟨hc,d⟩:=h1.1 f;have o:=m f;have hn:=d.1;unfold Bm;by_cases q:at_<0 \/ (w.n:Int)<at_
 .rw[Fg (by grind)];refine C0 rfl (by grind)
 rw[Gb (by grind)];refine C0 rfl (Bj ?_);obtain⟨k,rfl⟩:∃k:Nat,at_=(k:Int):=⟨at_.toNat,by omega⟩;rw[By,BS9];refine W4 (λi x2 x3=>x3=(i:Int)/\x2.n<=i/\(0<x2.n ↔ ∃a,a<i/\PR w p a k)) (w.n+1) _ (by omega) (by grind) ?_;rintro j i x2 x3 s ⟨rfl,g1,g2⟩ c;by_cases hl:i<=w.n
 .refine ifT (by grind) (Ab ?_);rw[BS9,BW8,BY0];have hb:=o.1.bit hl (b:=k) (by omega);by_cases t:PR w p i k
  .refine ifT (by grind) (ifT (by grind) (c (by omega) _ _ ⟨By,by grind,by grind,by grind⟩))
  refine ifF (by grind) (c (by omega) _ _ ⟨By,by omega,λh=>?_,by grind⟩)
  all_goals grind
 refine ifF (by grind) (by grind)
 all_goals grind
def Av5 (L:List Int)(hL:L.length<1000):∃s,Q1 N L=some s/\s.n=L.length:=by
 unfold Q1 J8
 have:∃s:Sl Int,T9 L (λ(a:Sl Int->Option (Sl Int)) (x1:Int) (z1:Sl Int)=>
  if (Qd 8 (z1.n+(Sl.of [x1]:Sl Int).n))then
   a (z1.push x1)
  else none
  ) (λ(z1:Sl Int)=>some z1) Ox=some s/\s.n=L.length:=by
  refine Bo0 (λl z=>z.n+l.length=L.length) (by grind) (λt l z b h hs=>?_) L _ (by simp);simp at h;exact ifT (by grind) (hs _ (by grind))
 grind
def Bq2 (j:3000<=N){p:Pat}(hp:okPS p){w:Sl Qb}(hs:w.n<1000000/\w.n+1000<N)(hw:∀i,i<w.n->okS (w.g i))(at_:Int) :∃r,Gg N p w at_=some r/\(0<r.1.n↔chk 40 [p]/\wOk w/\0<=at_/\at_<=w.n/\∃b,b<=w.n/\PR w p at_.toNat b):=by
 unfold Gg;obtain⟨y,e,h1,l⟩:=Wf j hp hs hw;refine C0 e (ltX ?_);by_cases d:y.2=0
 case neg=>
  simp_all
 refine ifT (by grind) ?_;obtain⟨hc,a⟩:=h1.1 d;have m:=l d;have hn:=a.1;unfold Bm;by_cases o:at_<0 \/ (w.n:Int)<at_
 .rw[Fg (by grind)];refine C0 rfl (by grind)
 rw[Gb (by grind)];refine C0 rfl (Bj ?_);obtain⟨k,rfl⟩:∃k:Nat,at_=(k:Int):=⟨at_.toNat,by omega⟩;refine Ab ?_;rw[BS9,BW8,BY0];obtain⟨u,e1,g1⟩:=m.1 k (by omega);refine C0 (x:=y.1 k) rfl (C0 (x:=ID u 0) (by rw[e1];grind[MD]) ?_);obtain⟨s,es,c⟩:=Av5 (N:=N) (ID u 0) (by
  grind[ID,List.length_map,Nat.lt_of_le_of_lt,List.length_filter_le])
 refine C0 es ⟨_,rfl,?_⟩;show 0<s.n↔_;rw[c,List.length_pos_iff_exists_mem];constructor
 .rintro⟨t,ht⟩;obtain⟨b,rfl,_,hb,f⟩:=mem_bitsF.1 ht
  grind
 rintro⟨_,_,_,_,b,hb,h⟩;exact⟨(b:Int),mem_bitsF.2 (by grind)⟩
def AD1 (c:2000<=N){p:Pat}(hp:okPS p){w:Sl Qb}(hw:∀i,i<w.n->okS (w.g i)):∃e,FD N p w=some e/\(e=0↔chk 40 [p]/\wOk w):=by
 unfold FD;obtain⟨e,d,hc⟩:=Te c hp;refine C0 d ?_;by_cases f:e=0
 .obtain⟨e2,a,b⟩:=HN (N:=N) (by omega) hw;exact ifT (by grind) (C0 a ⟨e2,rfl,(GC b).trans (by grind)⟩)
 grind
def Av6 (q:3000<=N){p:Pat}(hp:okPS p){w:Sl Qb}(hw:∀i,i<w.n->okS (w.g i))(at_:Int) :∃r,EM N p w at_=some r/\(0<r.1.n↔chk 40 [p]/\wOk w/\0<=at_/\at_<=w.n/\∃a,a<=w.n/\PR w p a at_.toNat):=by
 unfold EM;obtain⟨e,j,h1⟩:=AD1 (N:=N) (by omega) hp hw;refine C0 j ?_;by_cases l:e=0
 case neg=>simp_all
 refine ifF (by grind) ?_;obtain⟨hc,d⟩:=h1.1 l;have hn:=d.1;by_cases m:at_<0 \/ (w.n:Int)<at_
 .exact ifT (by grind) (by grind)
 refine ifF (by grind) ?_;obtain⟨k,rfl⟩:∃k:Nat,at_=(k:Int):=⟨at_.toNat,by omega⟩;obtain⟨t,et,tn,o⟩:=Tn (N:=1000) (by omega) hn 40 p (Af2 40 [p] (BT8 _) hc p (by simp)) N (by omega);refine C0 et ?_;rw[BS9];refine W4 (λi x2 x3=>x3=(i:Int)/\x2.n<=i/\(0<x2.n ↔ ∃a,a<i/\PR w p a k)) (w.n+1) _ (by omega) (by grind) ?_;rintro f i x2 x3 s ⟨rfl,g1,g2⟩ c;by_cases hl:i<=w.n
 .refine ifT (by grind) (Ab ?_);rw[BS9];have hb:=o.bit hl (b:=k) (by omega);by_cases u:PR w p i k
  .refine ifT (by grind) (ifT (by grind) (c (by omega) _ _ ⟨By,by grind,by grind,by grind⟩))
  refine ifF (by grind) (c (by omega) _ _ ⟨By,by omega,λh=>?_,by grind⟩)
  all_goals grind
 refine ifF (by grind) (by grind)
 all_goals grind
def Bb9 (q:3000<=N){p:Pat}(hp:okPS p){w:Sl Qb}(hw:∀i,i<w.n->okS (w.g i))(at_:Int) :∃r,HJ N p w at_=some r/\(0<r.1.n↔chk 40 [p]/\wOk w/\0<=at_/\at_<=w.n/\∃b,b<=w.n/\PR w p at_.toNat b):=by
 unfold HJ;obtain⟨e,j,h1⟩:=AD1 (N:=N) (by omega) hp hw;refine C0 j ?_;by_cases l:e=0
 case neg=>simp_all
 refine ifF (by grind) ?_;obtain⟨hc,d⟩:=h1.1 l;have hn:=d.1;by_cases m:at_<0 \/ (w.n:Int)<at_
 .exact ifT (by grind) (by grind)
 refine ifF (by grind) ?_;obtain⟨k,rfl⟩:∃k:Nat,at_=(k:Int):=⟨at_.toNat,by omega⟩;obtain⟨t,et,tn,o⟩:=Tn (N:=1000) (by omega) hn 40 p (Af2 40 [p] (BT8 _) hc p (by simp)) N (by omega);refine C0 et ?_;rw[BS9];refine W4 (λi x2 x3=>x3=(i:Int)/\x2.n<=i/\(0<x2.n ↔ ∃b,b<i/\PR w p k b)) (w.n+1) _ (by omega) (by grind) ?_;rintro f i x2 x3 s ⟨rfl,g1,g2⟩ c;by_cases hl:i<=w.n
 .refine ifT (by grind) (Ab ?_);have hb:=o.bit (a:=k) (by omega) (b:=i) (by omega);by_cases u:PR w p k i
  .refine ifT (by grind) (ifT (by grind) (c (by omega) _ _ ⟨By,by grind,by grind,by grind⟩))
  refine ifF (by grind) (c (by omega) _ _ ⟨By,by omega,λh=>?_,by grind⟩)
  all_goals grind
 refine ifF (by grind) (by grind)
 all_goals grind
end Go.AM
