/- Part 9. -/
import Derived.Test.YtcoileenpgjmoaaGreatDoorDF
import Derived.Test.YtcoileenpgjmoaaGreatDoorDG
import Derived.Test.YtcoileenpgjmoaaGreatDoorDH
set_option linter.defProp false
set_option linter.unusedSimpArgs false
set_option linter.unusedVariables false
set_option linter.unusedSectionVars false
namespace Go.AM
def Ki:=@Option.bind_some
def Kg:=@Int.toNat_natCast
def Fa:=@decide_eq_true_eq
def Dl{c:Prop}{i:Decidable c}{α:Sort _}{a b:α}(h:¬c:=by simp;omega):(if c then a else b)=b:=Er h
def Cm{c:Prop}{i:Decidable c}{α:Sort _}{a b:α}(h:¬c:=by omega):(if c then a else b)=b:=Er h
def Ck{c:Prop}{i:Decidable c}{α:Sort _}{a b:α}(h:c:=by simp;omega):(if c then a else b)=a:=Ej h
def Ch{c:Prop}{i:Decidable c}{α:Sort _}{a b:α}(h:c:=by omega):(if c then a else b)=a:=Ej h
open IntKind (wrap)
def Bp9:=@List.flatMap_cons
def Bq6:=@Classical.axiomOfChoice
def Bs2:=@List.reverse_append
def Bs9:=@BitVec.getLsbD_or
def Bu2:=@List.mem_append
def Bu3:=@List.length_reverse
def Bu4:=@List.length_take_le
def Bu5:=@List.filterMap_cons
def Bu8:=@BitVec.getLsbD_and
def Bu9:=@UInt8.toNat_ofNat'
def Bv8:=@BitVec.eq_of_getLsbD_eq
def Bv9:=@Nat.testBit_two_pow_mul
def Bw6:=@Nat.testBit_lt_two_pow
def Bw7:=@List.reverse_singleton
def Bx1:=@List.singleton_append
def Bx2:=@List.length_filter_le
def Bx3:=@Int.zero_mul
def Bx8:=@BitVec.getLsbD_of_ge
def Bx9:=@List.reverse_reverse
def By4:=@List.flatMap_append
def By5:=@Int.one_mul
def Bz5:=@BitVec.getLsbD_not
def Bz6:=@Nat.lt_of_le_of_lt
def Bz7:=@List.cons.inj
def Bz8:=@List.countP_append
open Go.Proofs
def AC3 {A R:Type}{body:(A->Option R)->A->Option R}(I:Nat->A->Prop)(n:Nat)(M8:R->Prop)
 (b:∀self i a,i<=n->I i a->(i<n->∀a',I (i+1) a' -> ∃r,self a' = some r/\M8 r)->∃r,body self a=some r/\M8 r) :
 ∀(N i:Nat) (a:A),i<=n->I i a->n-i<N->∃r,X4 N body a=some r/\M8 r
 |0,_,_,_,_,h=>by omega
 |N+1,i,a,hi,hI,h=>by rw[I3];exact b _ i a hi hI λc a' d=>AC3 I n M8 b N (i+1) a' c d (by omega)
def FC {A R:Type}{body:(A->Option R)->A->Option R}(I:Nat->A->Prop)(n:Nat)(M8:R->Prop){N:Nat}(c:n<N){a:A}(d:I 0 a)
 (b:∀self i a,i<=n->I i a->(i<n->∀a',I (i+1) a' -> ∃r,self a' = some r/\M8 r)->∃r,body self a=some r/\M8 r):∃r,X4 N body a=some r/\M8 r:=
 AC3 I n M8 b N 0 a (Bn0 _) d c
def V5 {A B R:Type}{body:(A->B->Option R)->A->B->Option R}(I:Nat->A->B->Prop)(n:Nat)(M8:R->Prop){N:Nat}(g:n<N){a:A}{b:B}(j:I 0 a b)
 (d:∀c i a b,i<=n->I i a b->(i<n->∀a' b',I (i+1) a' b' -> ∃r,c a' b' = some r/\M8 r)->∃r,body c a b=some r/\M8 r):∃r,BA N body a b=some r/\M8 r:=
 AC3 (λi x=>I i x.1 x.2) n M8 (λc i x l m h=>d (λa b=>c (a,b)) i x.1 x.2 l m λhl a' b' f=>h hl (a',b') f) N 0 (a,b) (Bn0 _) j g
def XZ {A B C R:Type}{body:(A->B->C->Option R)->A->B->C->Option R}(I:Nat->A->B->C->Prop)(n:Nat)(M8:R->Prop){N:Nat}(j:n<N){a:A}{b:B}{c:C}(l:I 0 a b c)
 (f:∀d i a b c,i<=n->I i a b c->(i<n->∀a' b' c',I (i+1) a' b' c' -> ∃r,d a' b' c' = some r/\M8 r)->∃r,body d a b c=some r/\M8 r):∃r,At0 N body a b c=some r/\M8 r:=
 AC3 (λi x=>I i x.1 x.2.1 x.2.2) n M8 (λd i x m o h=>f (λa b c=>d (a,b,c)) i x.1 x.2.1 x.2.2 m o λhl a' b' c' g=>h hl (a',b',c') g) N 0 (a,b,c) (Bn0 _) l j
def B8 {X R:Type}{Q:R->Prop}{o:Option X}{f:X->Option R}{x:X}(h:o=some x)(a:∃r,f x=some r/\Q r):∃r,o.bind f=some r/\Q r:=by subst h;exact a
def ltX {R A:Type}{Q:R->Prop}{k:A->Option R}{f:(A->Option R)->Option R}(h:∃r,f k=some r/\Q r):∃r,lt k f=some r/\Q r:=h
def ifT {R:Type}{Q:R->Prop}{p:Prop}[Decidable p]{a b:Option R}(h:p)(c:∃r,a=some r/\Q r):∃r,(if p then a else b)=some r/\Q r:=by rw[Ej h];exact c
def At{R:Type}{Q:R->Prop}{p:Prop}[Decidable p]{a b:Option R}(h2:∃ r,a=some r/\Q r)(h:p:=by decide):∃ r,(if p then a else b)=some r/\Q r:=ifT h h2
def Aj{R:Type}{Q:R->Prop}{p:Prop}[Decidable p]{a b:Option R}(h2:∃ r,a=some r/\Q r)(h:p:=by simp):∃ r,(if p then a else b)=some r/\Q r:=ifT h h2
def Ai{R:Type}{Q:R->Prop}{p:Prop}[Decidable p]{a b:Option R}(h2:∃ r,a=some r/\Q r)(h:p:=by simp;omega):∃ r,(if p then a else b)=some r/\Q r:=ifT h h2
def Ad{R:Type}{Q:R->Prop}{p:Prop}[Decidable p]{a b:Option R}(h2:∃ r,a=some r/\Q r)(h:p:=by omega):∃ r,(if p then a else b)=some r/\Q r:=ifT h h2
def ifF {R:Type}{Q:R->Prop}{p:Prop}[Decidable p]{a b:Option R}(h:¬p)(c:∃r,b=some r/\Q r):∃r,(if p then a else b)=some r/\Q r:=by rw[Er h];exact c
def Bp{R:Type}{Q:R->Prop}{p:Prop}[Decidable p]{a b:Option R}(h2:∃ r,b=some r/\Q r)(h:¬p:=by decide):∃ r,(if p then a else b)=some r/\Q r:=ifF h h2
def Bl{R:Type}{Q:R->Prop}{p:Prop}[Decidable p]{a b:Option R}(h2:∃ r,b=some r/\Q r)(h:¬p:=by simp):∃ r,(if p then a else b)=some r/\Q r:=ifF h h2
def Bk{R:Type}{Q:R->Prop}{p:Prop}[Decidable p]{a b:Option R}(h2:∃ r,b=some r/\Q r)(h:¬p:=by simp;omega):∃ r,(if p then a else b)=some r/\Q r:=ifF h h2
def Au{R:Type}{Q:R->Prop}{p:Prop}[Decidable p]{a b:Option R}(h2:∃ r,b=some r/\Q r)(h:¬p:=by omega):∃ r,(if p then a else b)=some r/\Q r:=ifF h h2
def D1 {n:Int}(h : -9223372036854775808<=n)(h' : n<=9223372036854775807):IntKind.i64.wrap n=n:=by
 by_cases a:0<=n
 .have h1:n % (2 ^ 64:Int)=n:=Bm7 a (by omega);unfold wrap;simp only[IntKind.bits,IntKind.signed,h1];rw[Er];simp;omega
 have h1:n % (2 ^ 64:Int)=n+2 ^ 64:=by rw[<- Int.add_emod_right];exact Bm7 (by omega) (by omega)
 unfold wrap;simp only[IntKind.bits,IntKind.signed,h1];rw[Ej]
 .omega
 simp;omega
theorem Lk {n:Int}(h : -9223372036854775808<=n:=by omega)(k : n<=9223372036854775807:=by omega) :IntKind.i64.wrap n=n:=D1 h k
def F5 {i:Nat}(h:i<1000000000000000000):IntKind.i64.wrap ((i:Int)+1)=((i+1:Nat):Int):=by rw[Lk];rfl
def Bq{i:Nat}(h:i<1000000000000000000:=by omega):IntKind.i64.wrap ((i:Int)+1)=((i+1:Nat):Int):=F5 h
def AC4 {i:Nat}(a:1<=i)(h:i<1000000000000000000):IntKind.i64.wrap ((i:Int)-1)=((i-1:Nat):Int):=by rw[Lk];omega
def QM {i j:Nat}(h:i+j<1000000000000000000):IntKind.i64.wrap ((i:Int)+(j:Int))=((i+j:Nat):Int):=by rw[Lk];rfl
end Go.AM
namespace Go.AM
variable {N:Nat}
open Go.Proofs
abbrev sOf (x y:BitVec 32):Jb:=⟨(x.toNat:Int),(y.toNat:Int)⟩
def okS (s:Jb):Prop:=∃p m:BitVec 32,s=sOf p m
def eq0 (x:BitVec 32):((x.toNat:Int)==0)=decide (x=0#32):=by
 rw[Br5];simp only[beq_iff_eq,Fa];constructor
 .intro h;apply Bm8;show x.toNat=0;omega
 rintro rfl;rfl
def z32 (x:BitVec 32):x=0#32 ↔ ∀i,i<32->x.getLsbD i=false:=by
 constructor
 .rintro rfl i a;simp
 intro h;apply Bv8;intro i a;rw[h i a];simp
def Ao0 (x:BitVec 32):x.toNat<16777216 ↔ ∀i,24<=i->i<32->x.getLsbD i=false:=by
 constructor
 .intro h i a b;exact Bw6 (Bi0 h (Br8 (n:=2) (i:=24) (by omega) a))
 intro h;refine Nat.lt_pow_two_of_testBit (n:=24) _ λi a=>?_;by_cases c:i<32
 .exact h i a c
 exact Bw6 (Bi0 x.isLt (Br8 (by omega) (by omega)))
def vB (p m:BitVec 32):Bool:=decide (∀i:Fin 32,¬(p.getLsbD i=true/\m.getLsbD i=true)/\(24<=i.1->p.getLsbD i=false/\m.getLsbD i=false))
def AI5 (p m:BitVec 32):vB p m=true ↔ ∀i,i<32->¬(p.getLsbD i=true/\m.getLsbD i=true)/\(24<=i->p.getLsbD i=false/\m.getLsbD i=false):=by rw[vB,Fa];exact⟨λh i a=>h ⟨i,a⟩,λh i=>h i.1 i.2⟩
def AC5 (p m:BitVec 32):p &&& m=0#32 ↔ ∀i,i<32->¬(p.getLsbD i=true/\m.getLsbD i=true):=by rw[z32];refine forall_congr' λi=>forall_congr' λa=>?_;rw[Bu8,Bool.and_eq_false_iff];cases p.getLsbD i<;>cases m.getLsbD i<;>simp
def Bb7 (p m:BitVec 32):vB p m=true↔p &&& m=0#32/\(p ||| m).toNat<16777216:=by
 rw[AI5,AC5,Ao0];constructor
 .intro h;refine⟨λi a=>(h i a).1,λi h1 b=>?_⟩
  have:=(h i b).2 h1
  rw[Bs9,this.1,this.2];rfl
 rintro⟨h1,b⟩ i a;refine⟨h1 i a,λc=>?_⟩
 have:=b i c a
 rw[Bs9,Bool.or_eq_false_iff]at this;exact this
def Db (p m:BitVec 32):H7 N (sOf p m)=some (vB p m):=by unfold H7;rw[Sy,YQ,eq0];congr 1;rw[Br5,Bb7];simp only[Bg0,Fa];exact⟨λh=>⟨h.1,by have:=h.2;omega⟩,λh=>⟨h.1,by have:=h.2;omega⟩⟩
def shr24 (x:BitVec 32):(shI .shr .u32 (x.toNat:Int) 24==0)=decide (x.toNat<16777216):=by
 rw[show (24:Int)=((24:Nat):Int) from rfl,AH3,Br5];simp only[beq_iff_eq,Fa,Bv5,Bv0]
 have:=Nat.div_eq_zero_iff (a:=x.toNat) (b:=2 ^ 24)
 omega
def VZ (p m:BitVec 32):CA N (sOf p m)=some (vB p m):=by unfold CA;rw[Sy,YQ,eq0,shr24];congr 1;rw[Br5,Bb7];simp only[Bg0,Fa]
def Wa (p m:BitVec 32):R6 N (sOf p m)=some (vB p m):=VZ (N:=N) p m
def At1 (x y s:BitVec 32):BitVec 32:=(x &&& ~~~ s) ||| (y &&& s)
def AI6 (p m a b s:BitVec 32):Dm N (sOf p m) (sOf a b) (s.toNat:Int)=some (sOf (At1 p a s) (At1 m b s)):=by unfold Dm;simp only[Aa8,Sy,YQ,At1]
def chgE (p m c a b:BitVec 32):Jb×Int:=if vB p m=true/\vB a b then (if c.toNat<16777216/\c &&& (a ||| b)=0#32 then (sOf (At1 p a (c ||| (a ||| b))) (At1 m b (c ||| (a ||| b))),0)else (⟨0,0⟩,2))else (⟨0,0⟩,14)
def Ad6 (p m c a b:BitVec 32):Z7 N (sOf p m) (c.toNat:Int) (sOf a b)=some (chgE p m c a b):=by
 unfold Z7 chgE;rw[Db];simp only[Ki,lt,Db,Fh,YQ,Sy,AI6];cases h1:vB p m
 .simp
 cases g:vB a b
 .simp
 by_cases d:c.toNat<16777216
 .have e:((c &&& (a ||| b)).toNat:Int) != 0 ↔ ¬(c &&& (a ||| b)=0#32):=by
   have:=eq0 (c &&& (a ||| b))
   simp only[bne_iff_ne,ne_eq];rw[<- Fa (p:=c &&& (a ||| b)=0#32),<- this];simp
  by_cases f:c &&& (a ||| b)=0#32
  .simp[d,f];omega
  have e':=e.2 f;rw[Er (by simp<;>omega),e'];simp[d,f]
 simp[d];omega
def takE (p m a b s:BitVec 32):Jb×Int:=if vB p m=true/\vB a b then (if s.toNat<16777216 then (sOf (At1 p a s) (At1 m b s),0)else (⟨0,0⟩,2))else (⟨0,0⟩,14)
def AC6 (p m a b s:BitVec 32):Cz N (sOf p m) (sOf a b) (s.toNat:Int)=some (takE p m a b s):=by
 unfold Cz takE;rw[Db];simp only[Ki,lt,Db,AI6];cases h1:vB p m
 .simp
 cases d:vB a b
 .simp
 by_cases c:s.toNat<16777216
 .simp[c];omega
 simp[c];omega
end Go.AM
namespace Go.AM
open Go.Proofs
def vS (s:Jb):Prop:=∃p m:BitVec 32,s=sOf p m/\vB p m=true
def TD (p:Pat):Prop:= (0<=p.Kind/\p.Kind<=6)/\(p.Kind≠1->(p.Is.Plus=0/\p.Is.Minus=0)/\p.Not=false)/\(p.Kind≠3->p.Kind≠4->p.Kind≠5->p.L.n=0)/\(p.Kind≠5->p.Min=0/\p.Max=0) /\ (p.Kind=5->p.L.n=1/\0<=p.Min/\p.Min<=32/\(p.Max = -1 \/ (p.Min<=p.Max/\p.Max<=32)))/\vS p.Is
def Ao1 {s:Jb}{p m:BitVec 32}(h:s=sOf p m):vS s↔vB p m=true:=by
 constructor
 .rintro⟨q,r,e,a⟩;rw[h]at e;have e1:(p.toNat:Int)=q.toNat:=congrArg Jb.Plus e;have e2:(m.toNat:Int)=r.toNat:=congrArg Jb.Minus e;rw[Bm8 (show p.toNat=q.toNat by omega),Bm8 (show m.toNat=r.toNat by omega)];exact a
 exact λa=>⟨p,m,h,a⟩
def okPS:Pat->Prop
 |.nil=>True
 |.mk _ is _ _ _ n g=>okS is/\∀i,i<n->okPS (g i)
def okPS.is {p:Pat}(h:okPS p):okS p.Is:=by
 cases p with
 |nil=>exact⟨0#32,0#32,rfl⟩
 |mk _ is _ _ _ n g=>exact h.1
def okPS.L {p:Pat}(h:okPS p){i:Nat}(a:i<p.L.n):okPS (p.L.g i):=by
 cases p with
 |nil=>exact Es a (by show ¬i<0;omega)
 |mk _ is _ _ _ n g=>exact h.2 i a
def chk:Nat->List Pat->Prop
 |0,l=>l=[]
 |_+1,[]=>True
 |k+1,p::l=>TD p/\chk k (p.L.toList++l)
def AR3:∀k,chk k []
 |0=>rfl
 |_+1=>trivial
def TE:∀(k:Nat) (l:List Pat),chk k l->l.length<=k
 |0,l,h=>by rw[show l=[] from h];exact Bg5 _
 |k+1,[],_=>Bn0 _
 |k+1,p::l,⟨_,h⟩=>by
  have:=TE k _ h
  rw[Bi1]at this;simp only[Bi8];omega
def Ad7 {α : Type}{s:Sl α}{i:Nat}(h:i<s.n):s.g i∈s.toList:=Bl0.2 ⟨i,Bk1.2 h,rfl⟩
def Gz {α : Type}(s:Sl α):s.toList.length=s.n:=by simp[Sl.toList]
def Ya {α : Type}(s:Sl α){i:Nat}(h:i<s.n):s.toList.drop i=s.g i::s.toList.drop (i+1):=by
 have hl:i<s.toList.length:=by rw[Gz];exact h
 rw[Bp4 hl];simp[Sl.toList]
def PG {α : Type}(s:Sl α):s.toList.drop s.n=[]:=Bn6 (by rw[Gz];exact Bg5 _)
end Go.AM
namespace Go.AM
open Go.Proofs
def Ao2 (x:BitVec 64)(h:x≠0#64):Lib.ctz 64 x.toNat<64/\x.getLsbD (Lib.ctz 64 x.toNat)=true/\∀j,j<Lib.ctz 64 x.toNat->x.getLsbD j=false:=by
 have b:x.toNat≠0:=λe=>h (Bm8 (by simpa using e));obtain⟨m,hm,a⟩:=Lib.ctzFrom_spec 64 x.toNat (by omega) x.isLt;have e:Lib.ctz 64 x.toNat=Lib.ctzFrom 64 x.toNat:=by unfold Lib.ctz;rw[Er b]
 rw[e];refine⟨a,?_,λj c=>?_⟩
 .show x.toNat.testBit _=true;rw[hm,Bv9];simp[<- hm,Nat.testBit_zero]
 show x.toNat.testBit _=false;rw[hm,Bv9];simp[<- hm];omega
def Hj (x:BitVec 64)(i:Nat):List Int:=((List.range' i (64-i)).filter λj=>x.getLsbD j).map λ(j:Nat)=>(j:Int)
def RI {x:BitVec 64}{i:Nat}(h:∀j,j<64->x.getLsbD j=false):Hj x i=[]:=by
 unfold Hj;rw[List.filter_eq_nil_iff.2 λj a=>by
  have:=List.mem_range'.1 a
  simp;exact h j (by omega)]
 rfl
def RJ {x:BitVec 64}{t:Nat}:∀(k i:Nat),t=i+k->t<64->x.getLsbD t=true->(∀j,j<t->x.getLsbD j=false)->Hj x i=(t:Int)::Hj x (t+1)
 |0,i,h,ht,hb,hl=>by
  obtain rfl:t=i:=by omega
  unfold Hj;rw[show 64-t=(64-(t+1))+1 by omega,Bt2,List.filter_cons_of_pos hb];rfl
 |k+1,i,h,ht,hb,hl=>by rw[<- RJ k (i+1) (by omega) ht hb hl];unfold Hj;rw[show 64-i=(64-(i+1))+1 by omega,Bt2,List.filter_cons_of_neg (by simp;exact hl i (by omega))]
def Yb {x y:BitVec 64}{i:Nat}(h:∀j,i<=j->x.getLsbD j=y.getLsbD j):Hj x i=Hj y i:=by unfold Hj;rw[List.filter_congr λj a=>h j (by have:=List.mem_range'.1 a;omega)]
def Bf3 (M:Nat)(a:Int->Option (List Int))(x1:Int):Option (List Int):= if (x1 != 0) then (I4 M x1).bind λy3=>if (0:Int)<=y3 then Ah y3 (a (P2 .andNot .u64 x1 (shI .shl .u64 1 y3))) else none else some []
def Ao3 {x:BitVec 64}{M:Nat}{a:Int->Option (List Int)}(hx:x≠0#64):Bf3 M a (U x)=Ah ((Lib.ctz 64 x.toNat:Nat):Int) (a (U (x &&& ~~~(1#64 <<< Lib.ctz 64 x.toNat)))):=by
 have c:x.toNat≠0:=λe=>hx (Bm8 (by simpa using e));have b:=x.isLt;unfold Bf3;rw[Ck]
 have:I4 M (U x)=some ((Lib.ctz 64 x.toNat:Nat):Int):=by unfold I4;rw[Ej ⟨show (0:Int)<=(x.toNat:Int) by omega,show (x.toNat:Int)<18446744073709551616 by omega⟩];rfl
 rw[this,Ki,Ch,AB5 _ (Ao2 x hx).1,AB4]
def Wb {M:Nat}{a:Int->Option (List Int)}:Bf3 M a (U 0#64)=some []:=rfl
def AR4 (M:Nat):∀(k i:Nat) (x:BitVec 64),64-i<=k->(∀j,j<i->x.getLsbD j=false)->∀N,k<N->X4 N (Bf3 M) (U x)=some (Hj x i):=by
 intro k
 induction k with
 |zero=>
  intro i x hk hl N b;have g:x=0#64:=Bv8 λj a=>by simp;exact hl j (by omega)
  subst g
  match N,b with
  |N+1,_=>rw[RI λj a=>by simp,I3,Wb]
 |succ k ih=>
  intro i x hk hl N b
  match N,b with
  |N+1,b=>
   by_cases hx:x=0#64
   .subst hx;rw[RI λj a=>by simp,I3,Wb]
   obtain⟨h1,c,d⟩:=Ao2 x hx;have l:i<=Lib.ctz 64 x.toNat:=by
    by_cases m:Lib.ctz 64 x.toNat<i
    .rw[hl _ m]at c;cases c
    omega
   rw[RJ (Lib.ctz 64 x.toNat-i) i (by omega) h1 c d,I3,Ao3 hx];generalize Lib.ctz 64 x.toNat=t at h1 c d l;have hb:∀j,j<64->(x &&& ~~~(1#64 <<< t)).getLsbD j=(x.getLsbD j && !decide (j=t)):=λj a=>by rw[Bu8,Bz5,An4 h1 a];simp[a]
   have hc:Hj x (t+1)=Hj (x &&& ~~~(1#64 <<< t)) (t+1):=Yb λj a=>by
    by_cases f:j<64
    .rw[hb j f];have:¬j=t:=by omega
     simp[this]
    rw[Bx8 _ _ (by omega),Bx8 _ _ (by omega)]
   rw[ih (t+1) (x &&& ~~~(1#64 <<< t)) (by omega) (λj a=>by
    rw[hb j (by omega)];by_cases e:j=t
    .simp[e]
    rw[d j (by omega)];rfl) N (by omega),<- hc]
   rfl
def PH (x:BitVec 64){N:Nat}(b:100<=N):T3 N (U x)=some (Hj x 0):=
 AR4 N 64 0 x (by omega) (λj a=>Es a (by omega)) N (by omega)
def mem_bitsF {x:BitVec 64}{i:Nat}{y:Int}:y∈Hj x i ↔ ∃j:Nat,y=(j:Int)/\i<=j/\j<64/\x.getLsbD j=true:=by
 unfold Hj;simp only[Bl0,Br2,List.mem_range'_1];constructor
 .rintro⟨j,⟨h1,a⟩,rfl⟩;exact⟨j,rfl,h1.1,by omega,a⟩
 rintro⟨j,rfl,h1,a,b⟩;exact⟨j,⟨⟨h1,by omega⟩,b⟩,rfl⟩
def Wc {T A R:Type}{body:(A->Option R)->T->A->Option R}{k:A->Option R}{M8:R->Prop}(J:List T->A->Prop)(c:∀a,J [] a->∃r,k a=some r/\M8 r)
 (b:∀t L a self,J (t::L) a->(∀a',J L a' -> ∃r,self a' = some r/\M8 r)->∃r,body self t a=some r/\M8 r):∀(L:List T) (a:A),J L a->∃r,T1 L body k a=some r/\M8 r
 |[],a,h=>c a h
 |t::L,a,h=>b t L a _ h λa' h'=>Wc J c b L a' h'
def AC7 (f:Nat->Int)(i:Nat)(v:Int)(a:Nat):OD f i v a=if a=i then v else f a:=rfl
def UB (n:Nat)(z:BitVec 64):Prop:=∀b,b<64->z.getLsbD b=true->b<=n
def TU (n:Nat)(f:Nat->Int):Prop:=∀a,∃z:BitVec 64,f a=U z/\UB n z
def TU.zero (n:Nat):TU n (λ_=>0):=λa=>⟨0#64,rfl,λb _ h=>by simp at h⟩
def TU.upd {n:Nat}{f:Nat->Int}(h:TU n f)(i:Nat){z:BitVec 64}(b:UB n z):TU n (OD f i (U z)):=λa=>by
 rw[AC7];split
 .exact⟨z,rfl,b⟩
 exact h a
def UB.or {n:Nat}{u v:BitVec 64}(h:UB n u)(g:UB n v):UB n (u ||| v):=λb hb e=>by rw[Bs9,Bk8]at e;exact e.elim (h b hb) (g b hb)
def UB.one {n k:Nat}(h:k<=n)(hn:n<64):UB n (1#64 <<< k):=λb hb e=>by rw[An4 (by omega) hb,Fa]at e;omega
def Bb8 {N n:Nat}{x y:Nat->Int}(c:1000<=N)(hx:TU n x)(hy:TU n y):∃s,P5 N x y=some s/\TU n s:=by
 unfold P5;refine V5 (λi x1 x2=>x2=(i:Int)/\TU n x1) 33 _ (by omega) ⟨rfl,hx⟩ ?_;rintro b i x1 x2 d ⟨rfl,a⟩ hs;by_cases hl:i<33
 .refine Ai (Ad (Ad (hs (by omega) _ _ ⟨Bq,?_⟩)));obtain⟨u,e1,g1⟩:=a (0+(i:Int).toNat*1);obtain⟨v,e2,g2⟩:=hy (0+(i:Int).toNat*1);rw[e1,e2,or64];exact a.upd _ (g1.or g2)
 exact Bk ⟨x1,rfl,a⟩
def Kq {N n:Nat}(hn:n<=32)(c:1000<=N):∃s,S7 N (n:Int)=some s/\TU n s:=by
 unfold S7;rw[Bq];refine V5 (λi x1 x2=>x2=(i:Int)/\TU n x1) (n+1) _ (by omega) ⟨rfl,TU.zero n⟩ ?_;rintro a i x1 x2 d ⟨rfl,b⟩ hs;by_cases hl:i<=n
 .refine Ai (Ad (hs (by omega) _ _ ⟨Bq,?_⟩));rw[AB5 _ (by omega)];exact b.upd _ (UB.one hl (by omega))
 exact Bk ⟨x1,rfl,b⟩
def TF {N n:Nat}{x y:Nat->Int}(hn:n<=32)(q:1000<=N)(hx:TU n x)(hy:TU n y):∃s,F2 N x y=some s/\TU n s:=by
 unfold F2;refine V5 (λi x3 x4=>x4=(i:Int)/\TU n x3) 33 _ (by omega) ⟨rfl,TU.zero n⟩ ?_;rintro g i x3 x4 r ⟨rfl,l⟩ hs;by_cases hl:i<33
 .refine Ai (Ad ?_);obtain⟨u,e1,g1⟩:=hx (0+(i:Int).toNat*1);refine B8 rfl (B8 (x:=Hj u 0) (by rw[e1];exact PH u (by omega)) ?_);refine Wc (λL z=>TU n z/\∀t∈L,∃c:Nat,t=(c:Int)/\c<=n) ?_ ?_ _ _ ⟨l,λt ht=>?_⟩
  .exact λz m=>hs (by omega) _ _ ⟨Bq,m.1⟩
  .rintro t L z d ⟨k1,k2⟩ f;obtain⟨c,rfl,hc⟩:=k2 t (by simp);refine Ad (f _ ⟨?_,λt ht=>k2 t (by simp[ht])⟩);obtain⟨a,e2,g2⟩:=k1 (0+(i:Int).toNat*1);obtain⟨b,e3,g3⟩:=hy (0+(c:Int).toNat*1);rw[e2,e3,or64];exact k1.upd _ (g2.or g3)
  obtain⟨j,rfl,_,o,hb⟩:=mem_bitsF.1 ht;exact⟨j,rfl,g1 j o hb⟩
 exact Bk ⟨x3,rfl,l⟩
def AC8 (N:Nat)(x:Nat->Int):P0 N x=F2 N x x:=rfl
end Go.AM
namespace Go.AM
variable {N:Nat}
open Go.Proofs
def Bb9:∀m:Fin 33,shI .shr .i64 ((m.val:Nat):Int) 1=((m.val / 2:Nat):Int):=by decide +kernel
def Zo {N n:Nat}{x:Nat->Int}(hn:n<=32)(d:1000<=N)(hx:TU n x){k:Nat}(hk:k<=32):∃s,G5 N x (k:Int) (n:Int)=some s/\TU n s:=by
 unfold G5;obtain⟨y1,e1,h1⟩:=Kq (N:=N) hn d;refine B8 e1 ?_;refine XZ (λi x1 x2 x3=>x1=((k / 2 ^ i:Nat):Int)/\TU n x2/\TU n x3) 6 _ (by omega) ⟨by simp,hx,h1⟩ ?_;rintro l i x1 x2 x3 m ⟨rfl,f,g⟩ hs;have hm:k / 2 ^ i<=32:=Bk3 (Nat.div_le_self _ _) hk;have b2:=Bb9 ⟨k / 2 ^ i,by omega⟩;simp only at b2;have a:k / 2 ^ i / 2=k / 2 ^ (i+1):=by rw[Nat.div_div_eq_div_mul,Nat.pow_succ]
 obtain⟨sq,esq,b⟩:=TF hn d f f;rw[<- AC8]at esq;by_cases j:k / 2 ^ i=0
 .exact ifF (by simp[j]) ⟨x3,rfl,g⟩
 have c:i<6:=by
  by_cases h:i<6
  .exact h
  exact Es (Bq7 (Bz6 hk (Bi0 (by decide:32<2 ^ 6) (Br8 (by omega) (by omega))))) j
 refine ifT (decide_eq_true (Int.natCast_pos.2 (By6 j))) ?_;obtain⟨t,et,ht⟩:=TF hn d g f;split
 .exact B8 et (B8 esq (hs c _ _ _ ⟨by rw[b2,a],b,ht⟩))
 exact B8 esq (hs c _ _ _ ⟨by rw[b2,a],b,g⟩)
def AC9 (d:1000<=N){w:Sl Jb}(hw:w.n<=32)(c:Jb)(no:Bool):∃f,Ay N ⟨c,no⟩ w=some f/\TU w.n f:=by
 unfold Ay;refine V5 (λi x1 x2=>x2=(i:Int)/\TU w.n x1) w.n _ (by omega) ⟨rfl,TU.zero _⟩ ?_;rintro b i x1 x2 g ⟨rfl,a⟩ hs;by_cases hl:i<w.n
 .refine Ai (Ad ?_);rw[Bq];split
  .refine Ad (hs hl _ _ ⟨rfl,?_⟩);rw[AB5 _ (by omega)];exact a.upd _ (UB.one (by omega) (by omega))
  exact hs hl _ _ ⟨rfl,a⟩
 exact Bk ⟨x1,rfl,a⟩
def Ao4 {w:Sl Jb}(hw:w.n<=32)(e:Bool):∃f,BR N ⟨e⟩ w=some f/\TU w.n f:=by
 unfold BR;cases e
 .exact Bl (At ⟨_,rfl,(TU.zero w.n).upd 0 (z:=1#64 <<< 0) (UB.one (by omega) (by omega))⟩)
 refine ifT rfl (Ad ⟨_,rfl,?_⟩);rw[AB5 _ (by omega)];exact (TU.zero w.n).upd _ (UB.one (by omega) (by omega))
def Bc0 (a:1000<=N){w:Sl Jb}(hw:w.n<=32){rec:Part->Sl Jb->Option (Nat->Int)}{m:Nat}(hm:m<=40){g:Nat->Part}
 (hc:∀i,i<m->∃f,rec (g i) w=some f/\TU w.n f):∃f,CQ rec N ⟨⟨m,g⟩⟩ w=some f/\TU w.n f:=by
 unfold CQ;obtain⟨y1,e1,h1⟩:=Kq (N:=N) hw a;refine B8 e1 ?_;refine V5 (λi x1 x2=>x2=(i:Int)/\TU w.n x1) m _ (by omega) ⟨rfl,h1⟩ ?_;rintro b i x1 x2 l ⟨rfl,c⟩ hs;by_cases hl:i<m
 .refine Ai (ifT (by show (0:Int)<=i/\(i:Int)<m;omega) ?_);obtain⟨f,e2,d⟩:=hc i hl;obtain⟨s,e3,j⟩:=TF hw a c d;exact B8 (by rw[Kg];exact e2) (B8 e3 (hs hl _ _ ⟨Bq,j⟩))
 exact Bk ⟨x1,rfl,c⟩
def Bc1 (c:1000<=N){w:Sl Jb}{rec:Part->Sl Jb->Option (Nat->Int)}{m:Nat}(hm:m<=40){g:Nat->Part}
 (hc:∀i,i<m->∃f,rec (g i) w=some f/\TU w.n f):∃f,CR rec N ⟨⟨m,g⟩⟩ w=some f/\TU w.n f:=by
 unfold CR;refine V5 (λi x1 x2=>x2=(i:Int)/\TU w.n x1) m _ (by omega) ⟨rfl,TU.zero _⟩ ?_;rintro a i x1 x2 l ⟨rfl,b⟩ hs;by_cases hl:i<m
 .refine Ai (ifT (by show (0:Int)<=i/\(i:Int)<m;omega) ?_);obtain⟨f,e2,d⟩:=hc i hl;obtain⟨s,e3,j⟩:=Bb8 c b d;exact B8 (by rw[Kg];exact e2) (B8 e3 (hs hl _ _ ⟨Bq,j⟩))
 exact Bk ⟨x1,rfl,b⟩
def Bc2 (a:1000<=N){w:Sl Jb}(hw:w.n<=32){rec:Part->Sl Jb->Option (Nat->Int)}{pt:Part}{f:Nat->Int}(d:rec pt w=some f)(c:TU w.n f)
 {mn mx:Int}(i:0<=mn) (h1:mn<=32) (j:mx = -1 \/ (mn<=mx/\mx<=32)):∃s,CS rec N ⟨pt,mn,mx⟩ w=some s/\TU w.n s:=by
 obtain⟨m,rfl⟩:∃m:Nat,mn=(m:Int):=⟨mn.toNat,by omega⟩;unfold CS;refine B8 d ?_;obtain⟨y2,e2,t2⟩:=Zo hw a c (k:=m) (by omega);refine B8 e2 ?_;obtain⟨y3,e3,t3⟩:=Kq (N:=N) hw a;refine B8 e3 ?_;obtain⟨y4,e4,t4⟩:=Bb8 a c t3;refine B8 e4 ?_;have key:∀(K:Nat),K<=32->∃s,((G5 N y4 (K:Int) (w.n:Int)).bind λy5=>(F2 N y2 y5).bind λy6=>some y6)=some s/\TU w.n s:=by intro K g;obtain⟨y5,e5,t5⟩:=Zo hw a t4 (k:=K) g;obtain⟨y6,e6,t6⟩:=TF hw a t2 t5;exact B8 e5 (B8 e6 ⟨y6,rfl,t6⟩)
 by_cases hx:mx<0
 .exact ifT (decide_eq_true hx) (key w.n hw)
 refine ifF (by simpa using hx) ?_;obtain⟨M,rfl⟩:∃M:Nat,mx=(M:Int):=⟨mx.toNat,by omega⟩;have b:IntKind.i64.wrap ((M:Int)-(m:Int))=((M-m:Nat):Int):=by rw[Lk];omega
 rw[show IntKind.i64.wrap ((⟨pt,(m:Int),(M:Int)⟩:Ba7).max-(⟨pt,(m:Int),(M:Int)⟩:Ba7).min)=((M-m:Nat):Int) from b];exact key (M-m) (by omega)
def okQ:Nat->Pat->Prop
 |0,_=>False
 |d+1,p=>TD p/\p.L.n<=40/\∀i,i<p.L.n->okQ d (p.L.g i)
def Zp:∀(d:Nat) (p:Pat),okQ d p->okQ (d+1) p
 |0,_,h=>h.elim
 |d+1,p,⟨h1,h2,h3⟩=>⟨h1,h2,λi a=>Zp d _ (h3 i a)⟩
def TG:∀(k:Nat) (l:List Pat),k<=40->chk k l->∀p∈l,okQ k p
 |0,l,_,h,p,hp=>by rw[show l=[] from h]at hp;cases hp
 |k+1,[],_,_,p,hp=>by cases hp
 |k+1,q::l,hk,⟨hn,h⟩,p,hp=>by
  have ih:=TG k _ (by omega) h;rcases Bi3.1 hp with rfl|hp
  .have hl:=TE k _ h;rw[Bi1,Gz]at hl;exact⟨hn,by omega,λi a=>ih _ (Bi9 _ (Ad7 a))⟩
  exact Zp k p (ih p (Bh9 _ hp))
def vS.ok {s:Jb}(h:vS s):okS s:=by obtain⟨p,m,e,_⟩:=h;exact⟨p,m,e⟩
def AD0 (K:Nat)(pt:Part):Prop:=∀(w:Sl Jb),w.n<=32->∀M,K<=M->∃f,BU M pt w=some f/\TU w.n f
def RK {N:Nat}(q:1000<=N):∀(d:Nat),d<=40->∀(p:Pat),okQ d p->∀M,N+d<=M->∃pt,BS M p=some pt/\AD0 (N+d) pt
 |0,_,p,h,_,_=>h.elim
 |d+1,hd,p,⟨hn,hc,hch⟩,0,hM=>by omega
 |d+1,hd,p,⟨hn,hc,hch⟩,M+1,hM=>by
  show ∃pt,Z0 (BS M) M p=some pt/\_;unfold Z0;refine V5 (λi x1 x2=>x2=(i:Int)/\x1.n=i/\∀j,j<i->AD0 (N+d) (x1.g j)) p.L.n _ (by omega) ⟨rfl,rfl,λj c=>Es c (by omega)⟩ ?_;rintro l i x1 x2 o ⟨rfl,t,b⟩ hs;by_cases hl:i<p.L.n
  .refine Ai (Ad ?_);obtain⟨pt,e,s⟩:=RK q d (by omega) (p.L.g i) (hch i hl) M (by omega);refine B8 (by rw[Kg];exact e) ?_;refine ifT (by show (x1.n+1)*16<=_/\x1.n+1<=_;omega) (hs hl _ _ ⟨Bq,by show x1.n+1=i+1;omega,λj c=>?_⟩);show AD0 _ (if j<x1.n then x1.g j else pt);split
   .exact b j (by omega)
   exact s
  obtain rfl:i=p.L.n:=by omega
  have fin:∀(pt:Part),(∀(w:Sl Jb),w.n<=32->∀M,N+d<=M->∃f,BU (M+1) pt w=some f/\TU w.n f)->∃r,some pt=some r/\AD0 (N+(d+1)) r:=by intro pt h;refine⟨pt,rfl,λw hw M' a=>?_⟩;obtain⟨M'',rfl⟩:∃M'',M' = M'' + 1:=⟨M' - 1,by omega⟩;exact h w hw M'' (by omega)
  refine Bl ?_;by_cases k1:p.Kind=1
  .exact ifT (by simp[k1]) (fin _ λw hw M' a=>AC9 (N:=M') (by omega) hw _ _)
  refine ifF (by simp[k1]) ?_;by_cases k2:p.Kind=2
  .exact ifT (by simp[k2]) (fin _ λw hw M' a=>Ao4 (N:=M') hw false)
  refine ifF (by simp[k2]) ?_;by_cases k6:p.Kind=6
  .exact ifT (by simp[k6]) (fin _ λw hw M' a=>Ao4 (N:=M') hw true)
  refine ifF (by simp[k6]) ?_;by_cases k4:p.Kind=4
  .exact ifT (by simp[k4]) (fin _ λw hw M' a=>Bc1 (N:=M') (by omega) (rec:=BU M') (m:=x1.n) (g:=x1.g) (by omega) λi o=>b i (by omega) w hw M' (by omega))
  refine ifF (by simp[k4]) ?_;by_cases k5:p.Kind=5
  .obtain⟨g1,g2,g3,g4⟩:=hn.2.2.2.2.1 k5;refine ifT (by simp[k5]) (Ad (fin _ λw hw M' a=>?_));obtain⟨f,e,h⟩:=b 0 (by omega) w hw M' (by omega);exact Bc2 (N:=M') (by omega) hw (rec:=BU M') e h g2 g3 g4
  exact ifF (by simp[k5]) (fin _ λw hw M' a=>Bc0 (N:=M') (by omega) hw (rec:=BU M') (m:=x1.n) (g:=x1.g) (by omega) λi o=>b i (by omega) w hw M' (by omega))
end Go.AM
namespace Go.AM
variable {N:Nat}
open IntKind (wrap)
open Go.Proofs
def Ad8 {p:Pat}(hp:okS p.Is):∃e,BP N p=some e/\(e=0↔TD p):=by
 obtain⟨a,b,i⟩:=hp;have m:=Ao1 i;have V:R6 N p.Is=some (vB a b):=by rw[i];exact Wa a b
 have e0:((p.Is.Plus==0)&&(p.Is.Minus==0))=decide (p.Is.Plus=0/\p.Is.Minus=0):=by rw[Br5];simp
 have fin:(TD p↔vS p.Is)->∃e,((R6 N p.Is).bind λy1=>if (!y1) then some (14:Int)else some 0)=some e/\(e=0↔TD p):=by
  intro c;rw[V];refine B8 rfl ?_;rw[c,m];cases vB a b
  .exact ifT rfl ⟨14,rfl,by simp⟩
  exact Bl ⟨0,rfl,by simp⟩
 have bad:∀{x:Int},x≠0->¬TD p->∃e,some x=some e/\(e=0↔TD p):=λhx h=>⟨_,rfl,λd=>Es d hx,λd=>Es d h⟩;unfold BP;by_cases hk:p.Kind=0 \/ p.Kind=2 \/ p.Kind=6
 .refine ifT (by rcases hk with h|h|h<;>simp[h]) (ltX ?_);rw[e0];by_cases g1:p.Is.Plus=0/\p.Is.Minus=0
  case neg=>exact ifT (by simp[g1]) (ifT rfl (bad (by decide) λh=>g1 (h.2.1 (by omega)).1))
  refine ifF (by simp[g1]) ?_;by_cases g2:p.Not=true
  .exact ifT g2 (ifT rfl (bad (by decide) λh=>by have:=(h.2.1 (by omega)).2;rw[g2]at this;cases this))
  refine ifF g2 ?_;by_cases g3:p.Min=0
  case neg=>exact ifT (by simp[g3]) (ifT rfl (bad (by decide) λh=>g3 (h.2.2.2.1 (by omega)).1))
  refine ifF (by simp[g3]) ?_;by_cases g4:p.Max=0
  case neg=>exact ifT (by simp[g4]) (ifT rfl (bad (by decide) λh=>g4 (h.2.2.2.1 (by omega)).2))
  refine ifF (by simp[g4]) ?_;by_cases g5:p.L.n=0
  case neg=>exact Ai (bad (by decide) λh=>g5 (h.2.2.1 (by omega) (by omega) (by omega)))
  refine Bk (fin ?_);exact⟨λh=>h.2.2.2.2.2,λh=>⟨by omega,λ_=>⟨g1,by simpa using g2⟩,λ_ _ _=>g5,λ_=>⟨g3,g4⟩,λf=>by omega,h⟩⟩
 refine ifF (by simp only[not_or]at hk;simp[hk]) ?_;by_cases k1:p.Kind=1
 .refine ifT (by simp[k1]) (ltX ?_);refine Bl ?_;by_cases g3:p.Min=0
  case neg=>exact ifT (by simp[g3]) (ifT rfl (bad (by decide) λh=>g3 (h.2.2.2.1 (by omega)).1))
  refine ifF (by simp[g3]) ?_;by_cases g4:p.Max=0
  case neg=>exact ifT (by simp[g4]) (ifT rfl (bad (by decide) λh=>g4 (h.2.2.2.1 (by omega)).2))
  refine ifF (by simp[g4]) ?_;by_cases g5:p.L.n=0
  case neg=>exact Ai (bad (by decide) λh=>g5 (h.2.2.1 (by omega) (by omega) (by omega)))
  refine Bk (fin ?_);exact⟨λh=>h.2.2.2.2.2,λh=>⟨by omega,λh1=>Es k1 h1,λ_ _ _=>g5,λ_=>⟨g3,g4⟩,λf=>by omega,h⟩⟩
 refine ifF (by simp[k1]) (ltX ?_);rw[e0];have tail:∀(x y:Int),(TD p↔(p.Is.Plus=0/\p.Is.Minus=0)/\p.Not=false/\x=0/\y=0/\vS p.Is)->∃e,(if (((((decide (p.Is.Plus=0/\p.Is.Minus=0) != true)||p.Not)||(x != 0))||(y != 0))||(decide (0<0))) then some (2:Int)else
  (R6 N p.Is).bind λy3=>if (!y3) then some 14 else some 0)=some e/\(e=0↔TD p):=by
  intro x y c;by_cases g:(p.Is.Plus=0/\p.Is.Minus=0)/\p.Not=false/\x=0/\y=0
  .obtain⟨g1,g2,g3,g4⟩:=g;exact ifF (by simp[g1,g2,g3,g4]) (fin (c.trans ⟨λh=>h.2.2.2.2,λh=>⟨g1,g2,g3,g4,h⟩⟩))
  refine ifT ?_ (bad (by decide) λh=>g ⟨(c.1 h).1,(c.1 h).2.1,(c.1 h).2.2.1,(c.1 h).2.2.2.1⟩);simp only[Bk8,bne_iff_ne,ne_eq,Fa];by_cases g1:p.Is.Plus=0/\p.Is.Minus=0
  .by_cases g2:p.Not=true
   .simp[g2]
   by_cases g3:x=0
   .have:¬y=0:=λg4=>g ⟨g1,by simpa using g2,g3,g4⟩
    simp[this]
   simp[g3]
  simp[g1]
 by_cases k34:p.Kind=3 \/ p.Kind=4
 .refine ifT (by rcases k34 with h|h<;>simp[h]) (tail _ _ ?_);constructor
  .exact λh=>⟨(h.2.1 k1).1,(h.2.1 k1).2,(h.2.2.2.1 (by omega)).1,(h.2.2.2.1 (by omega)).2,h.2.2.2.2.2⟩
  rintro⟨h1,d,j,l,f⟩;exact⟨by omega,λ_=>⟨h1,d⟩,λh h'=>by omega,λ_=>⟨j,l⟩,λh=>by omega,f⟩
 refine ifF (by simp only[not_or]at k34;simp[k34]) ?_;by_cases k5:p.Kind=5
 .refine ifT (by simp[k5]) ?_;by_cases g:p.L.n=1/\0<=p.Min/\p.Min<=32/\(p.Max = -1 \/ (p.Min<=p.Max/\p.Max<=32))
  .refine ifF (by simp only[Bk8,Bg0,bne_iff_ne,ne_eq,Fa];omega) (tail 0 0 ?_);constructor
   .exact λh=>⟨(h.2.1 k1).1,(h.2.1 k1).2,rfl,rfl,h.2.2.2.2.2⟩
   rintro⟨h1,d,j,l,f⟩;exact⟨by omega,λ_=>⟨h1,d⟩,λ_ _ h=>Es k5 h,λh=>Es k5 h,λ_=>g,f⟩
  exact ifT (by simp only[Bk8,Bg0,bne_iff_ne,ne_eq,Fa];omega) (bad (by decide) λh=>g (h.2.2.2.2.1 k5))
 exact ifF (by simp[k5]) (bad (by decide) λh=>by have:=h.1;omega)
def Ao5 {x:Sl Pat}{m:Nat}(h:x.n=m+1):x.toList.reverse=x.g m::(x.take m).toList.reverse:=by unfold Sl.toList;rw[h,Br4,Bo7,Bs2];rfl
def AD1 (z:Sl Pat)(q:Pat):((z.push Pat.nil).upd z.n q).toList.reverse=q::z.toList.reverse:=by
 rw[Ao5 (m:=z.n) rfl];have e1:((z.push Pat.nil).upd z.n q).g z.n=q:=by simp
 have e2:(((z.push Pat.nil).upd z.n q).take z.n).toList=z.toList:=by
  unfold Sl.toList;refine Bi6 λi a=>?_
  have:i<z.n:=Bk1.1 a
  show (if i=z.n then q else if i<z.n then z.g i else Pat.nil)=z.g i;rw[Cm,Ej this]
 rw[e1,e2]
def Yc (q:Sl Pat)(c:q.n<N)(hs:q.n<1000000):E3 N q=some ((List.range q.n).reverse.map λ(i:Nat)=>((i:Int),q.g i)):=by
 unfold E3;have h:∀(m:Nat),m<=q.n->∀F,m<F->X4 F (λ(a:Int->Option (List (Int×Pat))) (x1:Int)=>
  if (decide (0<=x1)) then
   if ((0:Int)<=x1/\x1<(q.n:Int))then
    Ah (x1,q.g x1.toNat) (
     a (wrap .i64 (x1-1))
     )
   else none
  else
   some []) ((m:Int)-1)=some ((List.range m).reverse.map λ(i:Nat)=>((i:Int),q.g i)):=by
  intro m
  induction m with
  |zero=>
   intro _ F b
   match F,b with
   |F+1,_=>rfl
  |succ m ih=>
   intro hm F b
   match F,b with
   |F+1,b=>rw[I3];rw[show ((m+1:Nat):Int)-1=(m:Int) by omega,Ej (by simp),Ch,Lk,ih (by omega) F (by omega),Kg,Br4,Bs2,Bw7,Bx1,Bh7];rfl
 rw[Lk];exact h q.n (Bg5 _) N c
def AR5 {k:Nat}(hk:k<=40){c:Sl Pat}{l:List Pat}:chk k ((c.take (min 41 c.n)).toList++l)↔chk k (c.toList++l):=by
 by_cases h:c.n<=41
 .rw[Nat.min_eq_right h]
 constructor
 .intro a
  have:=TE _ _ a
  rw[Bi1,Gz]at this
  have:(c.take (min 41 c.n)).n=41:=Bp7 (by omega)
  omega
 intro a
 have:=TE _ _ a
 rw[Bi1,Gz]at this;omega
def TH (hN:2000<=N){p:Pat}(hp:okPS p):∃e,Az N p=some e/\(e=0↔chk 40 [p]):=by
 unfold Az;refine V5 (λi x3 x4=>x4=(i:Int)/\x3.n<=1+41*i/\(∀q∈x3.toList.reverse,okPS q)/\(chk 40 [p]↔chk (40-i) x3.toList.reverse)) 40 _ (by omega)
  ⟨rfl,by show 1<=_;omega,λq l=>by rw[show (Sl.of [p]:Sl Pat).toList.reverse=[p] from rfl]at l;rw[Bl4.1 l];exact hp,Bs0⟩ ?_
 rintro x i x3 x4 hi ⟨rfl,h1,c,f⟩ hs;rcases hn:x3.n with _|m
 .refine Bl ⟨0,rfl,λ_=>f.2 ?_,λ_=>rfl⟩
  have:x3.toList.reverse=[]:=by unfold Sl.toList;rw[hn];rfl
  rw[this];exact AR3 _
 rw[Ao5 hn]at f c;refine ifT (decide_eq_true (by omega)) ?_;by_cases r:i=40
 .subst r;refine Aj ⟨12,rfl,λh=>Es h (by decide),λh=>?_⟩
  have:(x3.g m::(x3.take m).toList.reverse)=[]:=f.1 h
  cases this
 refine Bk ?_;have hw:IntKind.i64.wrap (((m+1:Nat):Int)-1)=(m:Int):=by rw[Lk];omega
 simp only[hw,Kg];refine Ad (Ad ?_);obtain⟨e,y,a⟩:=Ad8 (N:=N) (c (x3.g m) (by simp)).is;refine B8 y ?_;rw[show 40-i=(39-i)+1 by omega]at f;by_cases o:e=0
 case neg=>exact ifT (by simp[o]) ⟨e,rfl,λh=>Es h o,λh=>Es (a.2 (f.1 h).1) o⟩
 refine ifF (by simp[o]) ?_;have hc:(if (41:Int)<((x3.g m).L.n:Int)then (41:Int)else ((x3.g m).L.n:Int))=((min 41 (x3.g m).L.n:Nat):Int):=by split<;>omega
 simp only[hc,Kg];refine Ad (B8 rfl (B8 (Yc _ (by show min 41 _<N;omega) (by show min 41 _<1000000;omega)) ?_));generalize s:(x3.g m).L.take (min 41 (x3.g m).L.n)=C;have a0:C.n<=41:=by rw[<- s];exact Nat.min_le_left _ _
 refine Wc (λL z=>∃j,j<=C.n/\L=((List.range j).reverse.map λ(i:Nat)=>((i:Int),C.g i))/\z.n=m+(C.n-j)/\z.toList.reverse=C.toList.drop j++(x3.take m).toList.reverse) ?_ ?_ _ _ ⟨C.n,Bg5 _,rfl,by show m=_;omega,by rw[PG];rfl⟩
 .rintro z ⟨j,hj,hL,hz,b⟩;have u:j=0:=by
   cases j with
   |zero=>rfl
   |succ j=>simp[Br4]at hL
  subst u;rw[Bv1]at b;refine hs (by omega) _ _ ⟨Bq,by omega,λq l=>?_,?_⟩
  .rw[b]at l;rcases Bu2.1 l with h|h
   .obtain⟨i',d,rfl⟩:=Bl0.1 h;have d:=Bk1.1 d;rw[<- s]at d⊢;exact (c (x3.g m) (by simp)).L (Bi0 d (Nat.min_le_right _ _))
   exact c q (by simp[h])
  rw[b,f,show 40-(i+1)=39-i by omega,<- s,AR5 (by omega)];exact⟨λh=>h.2,λh=>⟨a.1 o,h⟩⟩
 rintro t L z v ⟨j,hj,hL,hz,b⟩ w;cases j with
 |zero=>simp at hL
 |succ j=>rw[Br4,Bs2,Bw7,Bx1,Bh7]at hL;obtain⟨rfl,rfl⟩:=Bz7 hL;have e1:(z.n:Int).toNat=z.n:=Kg _;refine ifT ⟨⟨⟨by show (z.n+1)*64<=_;omega,by show z.n+1<=_;omega⟩,by show (0:Int)<=_/\(z.n:Int)<((z.n+1:Nat):Int);omega⟩,by show z.n<z.n+1;omega⟩ ?_;refine w _ ⟨j,by omega,rfl,by show z.n+1=_;omega,?_⟩;rw[AD1,b,Ya C (i:=j) (by omega),Bi7]
end Go.AM
namespace Go.AM
open IntKind (wrap)
open Go.Proofs
def wOk (w:Sl Jb):Prop:=w.n<=32/\∀i,i<w.n->vS (w.g i)
def MX {N:Nat}{w:Sl Jb}(m:w.n<N)(hs:w.n<1000000){f:Jb->Option Bool}{b:Nat->Bool}(o:∀i,i<w.n->f (w.g i)=some (b i)) :∃r,B6 N w f=some r/\(r=true ↔ ∃i,i<w.n/\b i=true):=by
 unfold B6 F1
 have:∃y,X4 N (λ(a:Int->Option Int) (x1:Int)=>
  if (decide (x1<(w.n:Int))) then
   if ((0:Int)<=x1/\x1<(w.n:Int))then
    (f (w.g x1.toNat)).bind λy3=>
    if y3 then
     some x1
    else
     a (wrap .i64 (x1+1))
   else none
  else
   some (-1)) 0=some y/\(0<=y ↔ ∃i,i<w.n/\b i=true):=by
  refine FC (λi x1=>x1=(i:Int)/\∀j,j<i->b j=false) w.n _ m ⟨rfl,λj c=>Es c (by omega)⟩ ?_;rintro l i x1 q ⟨rfl,h⟩ d;by_cases hl:i<w.n
  .refine Ai (Ad (B8 (by rw[Kg];exact o i hl) ?_));cases hb:b i
   .refine Bl (d hl _ ⟨Bq,λj c=>?_⟩);by_cases e:j=i
    .subst e;exact hb
    exact h j (by omega)
   exact ifT rfl ⟨i,rfl,λ_=>⟨i,hl,hb⟩,λ_=>by omega⟩
  refine Bk ⟨-1,rfl,λh=>Es h (by decide),?_⟩;rintro⟨j,c,hb⟩;rw[h j (by omega)]at hb;cases hb
 obtain⟨y,e,hy⟩:=this;exact B8 e ⟨_,rfl,by rw[Fa];exact hy⟩
def Wd {N:Nat}(v:3000<=N){p:Pat}(hp:okPS p){w:Sl Jb}(hs:w.n<1000000/\w.n+1000<N)(hw:∀i,i<w.n->okS (w.g i)) :∃r,AY N p w=some r/\(r.2=0->wOk w/\TU w.n r.1):=by
 unfold AY;obtain⟨e,d,hc⟩:=TH (N:=N) (by omega) hp;refine B8 d ?_;by_cases j:e=0
 case neg=>exact ifT (by simp[j]) ⟨_,rfl,λh=>Es h j⟩
 refine ifF (by simp[j]) ?_;by_cases hn:32<w.n
 .exact Ai ⟨_,rfl,λh=>Es h (by decide)⟩
 refine Bk ?_;have q:∀i,∃b:Bool,i<w.n->W4 N (w.g i)=some b/\(b=true ↔ ¬vS (w.g i)):=by
  intro i;by_cases a:i<w.n
  .obtain⟨x,y,d⟩:=hw i a;refine⟨!vB x y,λ_=>⟨?_,?_⟩⟩
   .unfold W4;rw[d,Wa];rfl
   rw[Ao1 d];cases vB x y<;>simp
  exact⟨false,λh=>Es h a⟩
 obtain⟨b,hb⟩:=Bq6 q;obtain⟨r,s,l⟩:=MX (N:=N) (by omega) hs.1 (f:=λu1=>W4 N u1) λi a=>(hb i a).1;refine B8 s ?_;by_cases c:r=true
 .exact ifT c ⟨_,rfl,λh=>Es h (by decide)⟩
 refine ifF c ?_;have m:wOk w:=⟨by omega,λi a=>Bj9 λo=>c (l.2 ⟨i,a,(hb i a).2.2 o⟩)⟩;obtain⟨pt,ep,t⟩:=RK (N:=1000) (by omega) 40 (Bg5 _) p (TG 40 [p] (Bg5 _) (hc.1 j) p (by simp)) N (by omega);obtain⟨f,ef,u⟩:=t w (by omega) N (by omega);exact B8 ep (B8 ef ⟨_,rfl,λ_=>⟨m,u⟩⟩)
end Go.AM
namespace Go.AM
variable {N:Nat}
open Go.Proofs
def Ao6 (f:3000<=N){p:Pat}(hp:okPS p){w:Sl Jb}(hs:w.n<1000000/\w.n+1000<N)(hw:∀i,i<w.n->okS (w.g i))(k:Nat) :∃r,CT N p w (k:Int)=some r/\(r.1.n≠0->wOk w):=by
 unfold CT;obtain⟨y,e,h1⟩:=Wd f hp hs hw;refine B8 e (ltX ?_);by_cases c:y.2=0
 case neg=>exact ifF (by simp[c]) (ifT (by simp[c]) ⟨_,rfl,λh=>Es rfl h⟩)
 refine ifT (by simp[c]) ?_;obtain⟨a,j⟩:=h1 c;have hn:=a.1;unfold AU;split
 .exact B8 rfl (At ⟨_,rfl,λh=>Es rfl h⟩)
 refine B8 rfl (Bl ?_);rw[Bq];refine V5 (λi x2 x3=>x3=(i:Int)/\x2.n<=i) (w.n+1) _ (by omega) ⟨rfl,Bg5 _⟩ ?_;rintro d i x2 x3 l ⟨rfl,g1⟩ b;by_cases hl:i<=w.n
 .refine Ai (Ad ?_);split
  .exact ifT (by show (x2.n+1)*8<=_/\x2.n+1<=_;omega) (b (by omega) _ _ ⟨Bq,by show x2.n+1<=_;omega⟩)
  exact b (by omega) _ _ ⟨Bq,by omega⟩
 exact Bk ⟨_,rfl,λ_=>a⟩
def Yd (L:List Int)(hL:L.length<1000):∃s,P1 N L=some s/\s.n=L.length:=by
 unfold P1 J4
 have:∃s:Sl Int,T1 L (λ(a:Sl Int->Option (Sl Int)) (x1:Int) (z1:Sl Int)=>
  if (Ke 8 (z1.n+(Sl.of [x1]:Sl Int).n))then
   a (z1.push x1)
  else none
  ) (λ(z1:Sl Int)=>some z1) Ir=some s/\s.n=L.length:=by
  refine Wc (λl z=>z.n+l.length=L.length) (λz h=>⟨z,rfl,by simpa using h⟩) (λt l z b h hs=>?_) L _ (by simp);simp only[Bi8]at h;exact ifT (by show (z.n+1)*8<=_/\z.n+1<=_;omega) (hs _ (by show z.n+1+l.length=_;omega))
 obtain⟨s,e,hn⟩:=this;exact B8 e ⟨s,rfl,hn⟩
def AR6 (c:3000<=N){p:Pat}(hp:okPS p){w:Sl Jb}(hs:w.n<1000000/\w.n+1000<N)(hw:∀i,i<w.n->okS (w.g i))(k:Nat) :∃r,Fj N p w (k:Int)=some r/\(r.1.n≠0->k<=w.n):=by
 unfold Fj;obtain⟨y,e,h1⟩:=Wd c hp hs hw;refine B8 e (ltX ?_);by_cases a:y.2=0
 case neg=>exact ifF (by simp[a]) (ifT (by simp[a]) ⟨_,rfl,λh=>Es rfl h⟩)
 refine ifT (by simp[a]) ?_;obtain⟨b,d⟩:=h1 a;have hn:=b.1;unfold AU;by_cases f:w.n<k
 .rw[Ck];exact B8 rfl (At ⟨_,rfl,λh=>Es rfl h⟩)
 rw[Dl];refine B8 rfl (Bl (Ad ?_));obtain⟨u,e1,g1⟩:=d (0+(k:Int).toNat*1);refine B8 rfl (B8 (x:=Hj u 0) (by rw[e1];exact PH u (by omega)) ?_);obtain⟨s,es,_⟩:=Yd (N:=N) (Hj u 0) (by unfold Hj;rw[Bj6];exact Bz6 (Bx2 _ _) (by simp))
 exact B8 es ⟨_,rfl,λ_=>by omega⟩
end Go.AM
namespace Go.AM
open IntKind (wrap)
open Go.Proofs
def Bc3 (w:Sl Jb)(e:Int):Prop:=(32<w.n/\e=11) \/ (w.n<=32/\(∃i,i<w.n/\¬vS (w.g i))/\e=14) \/ (wOk w/\e=0)
def Bc4 {w:Sl Jb}{e e' : Int}(h:Bc3 w e)(h' : Bc3 w e'):e=e':=by
 rcases h with⟨h1,a⟩ | ⟨h1,⟨i,b,c⟩,a⟩ | ⟨h1,a⟩<;>rcases h' with⟨g1,g2⟩ | ⟨g1,⟨j,d,gv⟩,g2⟩ | ⟨g1,g2⟩
 .omega
 .omega
 .have:=g1.1;omega
 .omega
 .omega
 .exact Es (g1.2 i b) c
 .have:=h1.1;omega
 .exact Es (h1.2 j d) gv
 omega
def IJ {w:Sl Jb}{e:Int}(h:Bc3 w e):e=0↔wOk w:=by
 rcases h with⟨h1,a⟩ | ⟨h1,⟨i,b,c⟩,a⟩ | ⟨h1,a⟩
 .exact⟨λh=>by omega,λh=>by have:=h.1;omega⟩
 .exact⟨λh=>by omega,λh=>Es (h.2 i b) c⟩
 exact⟨λ_=>h1,λ_=>a⟩
def Ao7 {N:Nat}(o:1000<=N){w:Sl Jb}(hw:∀i,i<w.n->okS (w.g i))(V:Jb->Option Bool)(f:∀p m:BitVec 32,V (sOf p m)=some (vB p m)) :∃e,(if (decide (32<(w.n:Int))) then
 some (11:Int)
 else
  X4 N (λa (x1:Int)=>
   if (decide (x1<(w.n:Int))) then
    if ((0:Int)<=x1/\x1<(w.n:Int))then
     (V (w.g x1.toNat)).bind λy3=>
     if (!y3) then
      some 14
     else
      a (wrap .i64 (x1+1))
    else none
   else
    some 0
   ) 0)=some e/\Bc3 w e:=by
 by_cases hn:32<w.n
 .exact Ai ⟨11,rfl,.inl ⟨hn,rfl⟩⟩
 refine Bk ?_;refine FC (λi x1=>x1=(i:Int)/\∀j,j<i->vS (w.g j)) w.n _ (by omega) ⟨rfl,λj b=>Es b (by omega)⟩ ?_;rintro d i x1 q ⟨rfl,h⟩ hs;by_cases hl:i<w.n
 .obtain⟨p,m,c⟩:=hw i hl;refine Ai (Ad (B8 (by rw[Kg,c];exact f p m) ?_));cases hb:vB p m
  .refine ifT rfl ⟨14,rfl,.inr (.inl ⟨by omega,⟨i,hl,λl=>?_⟩,rfl⟩)⟩
   have:=(Ao1 c).1 l;rw[hb]at this;cases this
  refine Bl (hs hl _ ⟨Bq,λj b=>?_⟩);by_cases e:j=i
  .subst e;exact (Ao1 c).2 hb
  exact h j (by omega)
 exact Bk ⟨0,rfl,.inr (.inr ⟨⟨by omega,λj b=>h j (by omega)⟩,rfl⟩)⟩
def IK {N:Nat}(a:1000<=N){w:Sl Jb}(hw:∀i,i<w.n->okS (w.g i)):∃e,W8 N w=some e/\Bc3 w e:=
 Ao7 a hw (CA N) λp m=>VZ p m
end Go.AM
namespace Go.AM
open Go.Proofs
def AR7 {N:Nat}{s c:Jb}(hs:okS s)(hc:okS c):∃b,R9 N s c=some b:=by
 obtain⟨p,m,rfl⟩:=hs;obtain⟨a,b,rfl⟩:=hc;unfold R9;rw[Db];simp only[Ki,lt,Db]
 repeat' split
 all_goals exact⟨_,rfl⟩
def okL (l:Law):Prop:=okPS l.Left/\okPS l.Right/\∀i,i<l.If.n->okS (l.If.g i)
def okW (w:Sl Jb):Prop:=w.n<1000/\∀i,i<w.n->okS (w.g i)
def Ao8 {N:Nat}(a:3000<=N){l:Law}(hl:okL l)(hk:l.If.n<=4){w:Sl Jb}(hw:okW w)(i:Nat)(f:i<2000) :∃b,Z8 N (i:Int) l w=some b/\(b=true->wOk w/\i+l.If.n<=w.n):=by
 unfold Z8;have hs:w.n<1000000/\w.n+1000<N:=⟨by have:=hw.1;omega,by have:=hw.1;omega⟩;obtain⟨y1,e1,h1⟩:=Ao6 (N:=N) a hl.1 hs hw.2 i;refine B8 e1 ?_;by_cases c:y1.1.n=0
 .exact ifT (by simp[c]) ⟨false,rfl,by simp⟩
 refine Bk ?_;rw[QM (by omega)];obtain⟨y2,e2,d⟩:=AR6 (N:=N) a hl.2.1 hs hw.2 (i+l.If.n);refine B8 e2 ⟨_,rfl,λh=>⟨h1 c,d ?_⟩⟩;rw[Fa]at h;omega
end Go.AM
namespace Go.AM
open IntKind (wrap)
open Go.Proofs
def hitL (l:Law)(w:Sl Jb):Nat->List Int->Prop
 |_,[]=>True
 |i,t::L=>∃j:Nat,t=(j:Int)/\i<=j/\j+l.If.n<=w.n/\wOk w/\hitL l w (j+1) L
def hitL.le {l:Law}{w:Sl Jb}{i j:Nat}(h:i<=j):∀{L:List Int},hitL l w j L->hitL l w i L
 |[],_=>trivial
 |t::L,⟨k,h1,h2,h3⟩=>⟨k,h1,by omega,h3⟩
def Ao9 {N:Nat}(x:3000<=N){l:Law}(hl:okL l)(hk:l.If.n<=4){w:Sl Jb}(hw:okW w)(i:Nat)(u:i<1500):∃L,AB N l w (i:Int)=some L/\hitL l w i L:=by
 unfold AB;show ∃L,(some (l,w)).bind _=some L/\_;rw[Ki];simp only[]
 suffices h:∀(k i:Nat),i<1501->w.n+1-i<=k->∀F,k<F->∃r,X4 F (λ(a:Int->Option (List Int)) (x2:Int)=>
  if (decide ((wrap .i64 (x2+(l.If.n:Int)))<=(w.n:Int))) then
   X4 N (λ(c:Int->Option (List Int)) (x4:Int)=>
    if (decide (x4<(l.If.n:Int))) then
     if ((0:Int)<=x4/\x4<(l.If.n:Int))then
      if ((0:Int)<=(wrap .i64 (x2+x4))/\(wrap .i64 (x2+x4))<(w.n:Int))then
       (R9 N (w.g (wrap .i64 (x2+x4)).toNat) (l.If.g x4.toNat)).bind λq=>
       if (!q) then
        a (wrap .i64 (x2+1))
       else
        c (wrap .i64 (x4+1))
      else none
     else none
    else
     (Z8 N x2 l w).bind λs=>
     if s then
      Ah x2 (
       a (wrap .i64 (x2+1))
       )
     else
      a (wrap .i64 (x2+1))
    ) 0
  else
   some []
  ) (i:Int)=some r/\hitL l w i r from h (w.n+1-i) i (by omega) (Bg5 _) N (by have:=hw.1;omega)
 have y:=hw.1;intro k
 induction k with
 |zero=>
  intro i u t F m
  match F,m with
  |F+1,_=>rw[I3,QM (by omega)];exact Bk ⟨_,rfl,trivial⟩
 |succ k ih=>
  intro i u t F m
  match F,m with
  |F+1,m=>
   rw[I3,QM (by omega)];by_cases hn:i+l.If.n<=w.n
   case neg=>exact Bk ⟨_,rfl,trivial⟩
   refine Ai ?_;obtain⟨r,o,d⟩:=ih (i+1) (by omega) (by omega) F (by omega);rw[<- Bq]at o;refine FC (λj x1=>x1=(j:Int)) l.If.n _ (by omega) rfl ?_;rintro v j x1 z rfl hs;by_cases f:j<l.If.n
   .rw[QM (by omega)];refine Ai (Ad (Ad ?_));obtain⟨b,eb⟩:=AR7 (N:=N) (hw.2 (i+j) (by omega)) (hl.2.2 j f);refine B8 (by rw[Kg,Kg];exact eb) ?_;cases b
    .exact ifT rfl ⟨r,o,d.le (by omega)⟩
    exact Bl (hs f _ (Bq))
   refine Bk ?_;obtain⟨b,eb,hb⟩:=Ao8 x hl hk hw i (by omega);refine B8 eb ?_;cases b
   .exact Bl ⟨r,o,d.le (by omega)⟩
   exact ifT rfl ⟨(i:Int)::r,by rw[o];rfl,i,rfl,Bg5 _,hn,(hb rfl).1,d⟩
def AI7 {N:Nat}(a:3000<=N){l:Law}(hl:okL l)(hk:l.If.n<=4){w:Sl Jb}(hw:okW w)(i:Nat)(c:i<1500) :∃b,DT N l w (i:Int)=some b/\(b=true->i+l.If.n<=w.n/\wOk w):=by
 unfold DT;obtain⟨L,h1,d⟩:=Ao9 a hl hk hw i c;refine B8 (x:=(l,w,(i:Int))) rfl (B8 h1 ?_)
 match L,d with
 |[],_=>exact⟨false,rfl,by simp⟩
 |t::L,⟨j,h3,h4,h5,h6,_⟩=>exact⟨t==(i:Int),rfl,λe=>⟨by have:=eq_of_beq e;omega,h6⟩⟩
end Go.AM
namespace Go.AM
variable {N:Nat}
open Go.Proofs
def okO (x:Ei):Prop:=okS x.Set/\(∃c:BitVec 32,x.Clear=(c.toNat:Int))/\∃t:BitVec 32,x.Take=(t.toNat:Int)
def AI8 {p m a b s:BitVec 32}(h1:vB p m=true)(d:vB a b=true):vB (At1 p a s) (At1 m b s)=true:=by rw[AI5]at *;intro i c;have g1:=h1 i c;have g2:=d i c;simp only[At1,Bs9,Bu8,Bz5];revert g1 g2;cases s.getLsbD i<;>cases p.getLsbD i<;>cases m.getLsbD i<;>cases a.getLsbD i<;>cases b.getLsbD i<;>simp[c]
def vS0:vS (⟨0,0⟩:Jb):=⟨0#32,0#32,rfl,by decide +kernel⟩
def Ap0 {s t:Jb}{c:Int}(hs:okS s)(hc:∃b:BitVec 32,c=(b.toNat:Int))(ht:okS t):∃y,Z7 N s c t=some y/\vS y.1:=by
 obtain⟨p,m,rfl⟩:=hs;obtain⟨a,b,rfl⟩:=ht;obtain⟨d,rfl⟩:=hc;refine⟨_,Ad6 p m d a b,?_⟩;unfold chgE;split
 .rename_i h;split
  .exact⟨_,_,rfl,AI8 h.1 h.2⟩
  exact vS0
 exact vS0
def AR8 {s t:Jb}{c:Int}(hs:okS s)(hc:∃b:BitVec 32,c=(b.toNat:Int))(ht:okS t):∃y,Cz N s t c=some y/\vS y.1:=by
 obtain⟨p,m,rfl⟩:=hs;obtain⟨a,b,rfl⟩:=ht;obtain⟨d,rfl⟩:=hc;refine⟨_,AC6 p m a b d,?_⟩;unfold takE;split
 .rename_i h;split
  .exact⟨_,_,rfl,AI8 h.1 h.2⟩
  exact vS0
 exact vS0
def Bc5 (l:Law):Prop:=l.Out.n<=6/\∀i,i<l.Out.n->okO (l.Out.g i)/\(l.Out.g i).From<l.If.n/\((l.Out.g i).Take≠0->0<=(l.Out.g i).Of/\(l.Out.g i).Of<l.If.n)
def AR9 (hN:1000<=N){l:Law}(o:Bc5 l){cut:Sl Jb}(hn:cut.n=l.If.n)(hc:∀i,i<cut.n->okS (cut.g i)) :∃s,DS N l cut=some s/\s.n=l.Out.n/\∀i,i<s.n->vS (s.g i):=by
 have v:=o.1;unfold DS;refine V5 (λi x1 x2=>x2=(i:Int)/\x1.n=i/\∀j,j<x1.n->vS (x1.g j)) l.Out.n _ (by omega) ⟨rfl,rfl,λj q=>Es q (Bh2 j)⟩ ?_;rintro r i x1 x2 hi ⟨rfl,h1,t⟩ hs;by_cases a:i<l.Out.n
 .obtain⟨⟨b,c,d⟩,w,f⟩:=o.2 i a;have x:okS (⟨(if (decide (0<=(l.Out.g i).From)) then (cut.g (l.Out.g i).From.toNat).Plus else 0),(if (decide (0<=(l.Out.g i).From)) then (cut.g (l.Out.g i).From.toNat).Minus else 0)⟩:Jb):=by
   by_cases u:0<=(l.Out.g i).From
   .simp only[u,decide_true,Eu];exact hc _ (by omega)
   simp only[u,decide_false,Bg3,Ev];exact⟨0#32,0#32,rfl⟩
  obtain⟨y,e1,hy⟩:=Ap0 (N:=N) x c b;have nx:∀z,vS z->_:=λz m=>hs a (x1.push z) _ ⟨Bq,by show x1.n+1=_;omega,λj q=>by
   show vS (if j<x1.n then x1.g j else z);split
   .exact t j (by assumption)
   exact m⟩
  have sz:∀z:Jb,(x1.n+(Sl.of [z]:Sl Jb).n)*8<=140737488355328/\x1.n+(Sl.of [z]:Sl Jb).n<=140737488355328:=λz=>by show (x1.n+1)*8<=_/\x1.n+1<=_;omega
  refine Ai (Ad ?_);rw[Kg];refine ifT (λh=>by have:=of_decide_eq_true h;omega) (B8 e1 ?_);by_cases ht:(l.Out.g i).Take=0
  .exact ifF (by simp[ht]) (ifT (sz _) (nx _ hy))
  obtain⟨g1,g2⟩:=f ht;obtain⟨z,e3,m⟩:=AR8 (N:=N) hy.ok d (hc (l.Out.g i).Of.toNat (by omega));exact ifT (by simp[ht]) (Ad (B8 e3 (ifT (sz _) (nx _ m))))
 exact Bk ⟨_,rfl,by omega,t⟩
end Go.AM
namespace Go.AM
open Go.Proofs
def AD2 {N:Nat}{x:Ei}(hx:okO x)(k:Int):∃b,AZ N x k=some b:=by
 obtain⟨⟨a,b,c⟩,_⟩:=hx;unfold AZ;simp only[lt,c,Db,Ki]
 repeat' split
 all_goals exact⟨_,rfl⟩
end Go.AM
namespace Go.AM
open Go.Proofs
def Ap1 {N:Nat}{s:Str}:∃b,Dp N s=some b:=by
 unfold Dp lt;dsimp only;split
 .split
  .unfold DB;rename_i h;have h:=of_decide_eq_true h;rw[Ej ⟨by omega,by decide,by decide⟩];exact⟨_,rfl⟩
  exact⟨_,rfl⟩
 exact⟨_,rfl⟩
end Go.AM
namespace Go.AM
variable {N:Nat}
open IntKind (wrap)
open Go.Proofs
def We {s:Sl Ei}(m:s.n<N)(hs:s.n<1000000){f:Ei->Option Bool}{b:Nat->Bool}(o:∀i,i<s.n->f (s.g i)=some (b i)) :∃r,D4 N s f=some r/\(r=true ↔ ∃i,i<s.n/\b i=true):=by
 unfold D4 F9
 have:∃y,X4 N (λ(a:Int->Option Int) (x1:Int)=>
  if (decide (x1<(s.n:Int))) then
   if ((0:Int)<=x1/\x1<(s.n:Int))then
    (f (s.g x1.toNat)).bind λy3=>
    if y3 then
     some x1
    else
     a (wrap .i64 (x1+1))
   else none
  else
   some (-1)) 0=some y/\(0<=y ↔ ∃i,i<s.n/\b i=true):=by
  refine FC (λi x1=>x1=(i:Int)/\∀j,j<i->b j=false) s.n _ m ⟨rfl,λj c=>Es c (by omega)⟩ ?_;rintro l i x1 q ⟨rfl,h⟩ d;by_cases hl:i<s.n
  .refine Ai (Ad (B8 (by rw[Kg];exact o i hl) ?_));cases hb:b i
   .refine Bl (d hl _ ⟨Bq,λj c=>?_⟩);by_cases e:j=i
    .subst e;exact hb
    exact h j (by omega)
   exact ifT rfl ⟨i,rfl,λ_=>⟨i,hl,hb⟩,λ_=>by omega⟩
  refine Bk ⟨-1,rfl,λh=>Es h (by decide),?_⟩;rintro⟨j,c,hb⟩;rw[h j (by omega)]at hb;cases hb
 obtain⟨y,e,hy⟩:=this;exact B8 e ⟨_,rfl,by rw[Fa];exact hy⟩
def TI (l:Law):Prop:=okL l/\l.Name.length<1100000/\l.If.n<1100000/\l.Out.n<1100000/\∀i,i<l.Out.n->okO (l.Out.g i)
def Ad9 {s:Jb}(hs:okS s):∃b,H7 N s=some b/\(b=true↔vS s):=by obtain⟨p,m,e⟩:=hs;exact⟨vB p m,by rw[e];exact Db p m,(Ao1 e).symm⟩
def AD3 {x:Ei}(hx:okO x){k:Int}(h:AZ N x k=some true):x.From<k/\(x.Take≠0->0<=x.Of/\x.Of<k):=by
 obtain⟨⟨a,b,c⟩,_,_⟩:=hx;unfold AZ at h;simp only[lt,c,Db,Ki]at h;by_cases h1:x.From < -1
 .simp[h1]at h
 by_cases d:k<=x.From
 .simp[h1,d]at h
 refine⟨by omega,λht=>?_⟩;simp only[h1,d,decide_false,Bg3,Ev]at h;by_cases f:(!vB a b)=true
 .rw[Ej f]at h;cases h
 rw[Er f]at h;split at h
 .cases h
 rw[Er (by simp[ht])]at h;simpa using h
def chkAll (N:Nat)(l:Law):Prop:=Dp N l.Name=some true/\chk 40 [l.Left]/\chk 40 [l.Right]/\l.If.n<=4/\l.Out.n<=6/\l.If.n+l.Out.n≠0/\1<=l.Mode/\l.Mode<=3/\(∀i,i<l.If.n->vS (l.If.g i))/\∀i,i<l.Out.n->AZ N (l.Out.g i) l.If.n=some true
def lawE (N:Nat)(l:Law)(e:Int):Prop:=(e=0/\chkAll N l) \/ (e=17/\¬chkAll N l)
def lawF (l:Law):Prop:=okL l/\chk 40 [l.Left]/\chk 40 [l.Right]/\l.If.n<=4/\Bc5 l/\l.If.n+l.Out.n≠0/\1<=l.Mode/\l.Mode<=3
def chkAll.f {N:Nat}{l:Law}(hl:TI l)(h:chkAll N l):lawF l:=by obtain⟨_,h1,b,c,d,g,j,m,o,n⟩:=h;exact⟨hl.1,h1,b,c,⟨d,λi a=>⟨hl.2.2.2.2 i a,AD3 (hl.2.2.2.2 i a) (n i a)⟩⟩,g,j,m⟩
def IV (hN:3000000<=N){l:Law}(hl:TI l):∃e,AA N l=some e/\lawE N l e:=by
 have u:=hl.2.1;have v:=hl.2.2.1;have x:=hl.2.2.2.1;unfold AA;obtain⟨b0,e0⟩:=Ap1 (N:=N) (s:=l.Name);refine B8 e0 ?_;cases b0
 .exact ifT rfl ⟨17,rfl,.inr ⟨rfl,λh=>by have:=h.1;rw[e0]at this;cases this⟩⟩
 refine Bl ?_;obtain⟨y2,e2,o⟩:=TH (N:=N) (by omega) hl.1.1;refine B8 e2 ?_;by_cases c2:y2=0
 case neg=>exact ifT (by simpa using c2) ⟨17,rfl,.inr ⟨rfl,λh=>c2 (o.2 h.2.1)⟩⟩
 refine ifF (by simp[c2]) ?_;obtain⟨y3,e3,q⟩:=TH (N:=N) (by omega) hl.1.2.1;refine B8 e3 ?_;by_cases c3:y3=0
 case neg=>exact ifT (by simpa using c3) ⟨17,rfl,.inr ⟨rfl,λh=>c3 (q.2 h.2.2.1)⟩⟩
 refine ifF (by simp[c3]) ?_;by_cases c4:4<l.If.n
 .exact Ai ⟨17,rfl,.inr ⟨rfl,λh=>by have:=h.2.2.2.1;omega⟩⟩
 refine Bk ?_;by_cases c5:6<l.Out.n
 .exact Ai ⟨17,rfl,.inr ⟨rfl,λh=>by have:=h.2.2.2.2.1;omega⟩⟩
 refine Bk ?_;rw[QM (by omega)];by_cases c6:l.If.n+l.Out.n=0
 .exact ifT (by rw[c6];rfl) ⟨17,rfl,.inr ⟨rfl,λh=>h.2.2.2.2.2.1 c6⟩⟩
 refine Bk ?_;by_cases c7:l.Mode<1 \/ 3<l.Mode
 .exact Ai ⟨17,rfl,.inr ⟨rfl,λh=>by have g1:=h.2.2.2.2.2.2.1;have g2:=h.2.2.2.2.2.2.2.1;omega⟩⟩
 refine Bk ?_;have y:∀i,∃b,i<l.If.n->Bb N (l.If.g i)=some b/\(b=true ↔ ¬vS (l.If.g i)):=by
  intro i;by_cases a:i<l.If.n
  .obtain⟨b,eb,hb⟩:=Ad9 (N:=N) (hl.1.2.2 i a);refine⟨!b,λ_=>⟨by unfold Bb;rw[eb];rfl,?_⟩⟩;rw[<- hb];simp
  exact⟨false,λh=>Es h a⟩
 obtain⟨f,j⟩:=Bq6 y;obtain⟨y4,e4,r⟩:=MX (N:=N) (w:=l.If) (by omega) (by omega) (f:=λu1=>Bb N u1) (λi a=>(j i a).1);refine B8 e4 ?_;cases c:y4
 case true=>obtain⟨i,a,hb⟩:=r.1 c;exact ifT rfl ⟨17,rfl,.inr ⟨rfl,λh=>(j i a).2.1 hb (h.2.2.2.2.2.2.2.2.1 i a)⟩⟩
 refine Bl ?_;have z:∀i,∃b,i<l.Out.n->Ba N (l.Out.g i) (l.If.n:Int)=some b/\(b=true ↔ ¬AZ N (l.Out.g i) l.If.n=some true):=by
  intro i;by_cases a:i<l.Out.n
  .obtain⟨b,eb⟩:=AD2 (N:=N) (hl.2.2.2.2 i a) (l.If.n:Int);refine⟨!b,λ_=>⟨by unfold Ba;rw[eb];rfl,?_⟩⟩;rw[eb];simp
  exact⟨false,λh=>Es h a⟩
 obtain⟨g,m⟩:=Bq6 z;obtain⟨y5,e5,t⟩:=We (N:=N) (s:=l.Out) (by omega) (by omega) (f:=λu2=>Ba N u2 (l.If.n:Int)) (λi a=>(m i a).1);refine B8 e5 ?_;cases d:y5
 case true=>obtain⟨i,a,hb⟩:=t.1 d;exact ifT rfl ⟨17,rfl,.inr ⟨rfl,λh=>(m i a).2.1 hb (h.2.2.2.2.2.2.2.2.2 i a)⟩⟩
 refine Bl ⟨0,rfl,.inl ⟨rfl,e0,o.1 c2,q.1 c3,by omega,by omega,c6,by omega,by omega,λi a=>?_,λi a=>?_⟩⟩
 .refine Bj9 λhn=>?_
  have:=r.2 ⟨i,a,(j i a).2.2 hn⟩
  rw[c]at this;cases this
 refine Bj9 λhn=>?_
 have:=t.2 ⟨i,a,(m i a).2.2 hn⟩
 rw[d]at this;cases this
end Go.AM
namespace Go.AM
variable {N:Nat}
open IntKind (wrap)
open Go.Proofs
def nf:(!false)=true:=rfl
def app0 {α : Type}{s t:Sl α}(h:s.n=0):s.app t=t:=by cases t;simp[Sl.app,h]
def AI9 {α : Type}[Inhabited α](s:Sl (Sl α)):Nat->Sl α
 |0=>Sl.nil
 |k+1=>(AI9 s k).app (s.g k)
def AJ0 {α : Type}[Inhabited α](s:Sl (Sl α)){B:Nat}:∀k,(∀i,i<k->(s.g i).n<=B)->(AI9 s k).n<=k*B
 |0,_=>by simp[AI9]
 |k+1,h=>by
  have:=AJ0 s k λi a=>h i (by omega)
  have:=h k (by omega)
  show (AI9 s k).n+(s.g k).n<=_;rw[Bt1];omega
def Ye {s:Sl (Sl Jb)}(hn:s.n<1000)(d:1000<=N)(hs:∀i,i<s.n->(s.g i).n<=3000000) :A9 N s=some (AI9 s s.n):=by
 suffices h:∃r,A9 N s=some r/\r=AI9 s s.n by obtain⟨r,h,rfl⟩:=h;exact h
 unfold A9;refine V5 (λ(i:Nat) (x1 x2:Int)=>x2=(i:Int)/\0<=x1/\x1<=(i:Int)*3000000) s.n _ (by omega) ⟨rfl,Int.le_refl 0,by simp⟩ ?_;rintro b i x1 x2 c ⟨rfl,f,h1⟩ a;by_cases hl:i<s.n
 .have:=hs i hl
  refine Ai (Ad ?_);rw[Kg,Lk];exact Bk (a hl _ _ ⟨Bq,by omega,by omega⟩)
 refine Bk (B8 (x:=Sl.nil) ?_ ?_)
 .unfold J8;rw[Ch]
 refine V5 (λi x1 x2=>x2=(i:Int)/\x1=AI9 s i) s.n _ (by omega) ⟨rfl,rfl⟩ ?_;rintro b i x1 x2 c ⟨rfl,rfl⟩ a;by_cases hl:i<s.n
 .have g1:=hs i hl;have g2:=AJ0 s i (B:=3000000) λj l=>hs j (by omega);refine Ai (ifT ⟨by omega,?_⟩ (a hl _ _ ⟨Bq,?_⟩))
  .rw[Kg];omega
  rw[Kg];rfl
 exact Bk ⟨_,rfl,by congr 1;omega⟩
def repl (w:Sl Jb)(i k:Nat)(y:Sl Jb):Sl Jb:=((w.take i).app y).app (w.drop (i+k))
abbrev vW (s:Sl Jb):Prop:=∀j,j<s.n->vS (s.g j)
def Zq {s t:Sl Jb}(h:vW s)(h' : vW t):vW (s.app t):=λj a=>by
 have a:j<s.n+t.n:=a;show vS (if j<s.n then s.g j else t.g (j-s.n));split
 .exact h j (by assumption)
 exact h' _ (by omega)
def Ap2 {s:Sl Jb}(h:vW s)(k:Nat):vW (s.drop k):=λj a=>h _ (by have a:j<s.n-k:=a;omega)
def Ap3 {s:Sl Jb}(h:vW s){k:Nat}(hk:k<=s.n):vW (s.take k):=λj a=>h _ (by have a:j<k:=a;omega)
def AJ1 (a:1000<=N){l:Law}(b:Bc5 l){w:Sl Jb}(hw:vW w){i:Nat}(d:i+l.If.n<=w.n) :∃s,DS N l (w.sub i (i+l.If.n))=some s/\s.n=l.Out.n/\vW s:=
 AR9 a b (cut:=w.sub i (i+l.If.n)) (by show i+l.If.n-i=_;omega) λj c=>(hw (i+j) (by have:j<i+l.If.n-i:=c;omega)).ok
def cat3 (a b c:Sl Jb):AI9 (Sl.of [a,b,c]:Sl (Sl Jb)) 3=(a.app b).app c:=by show ((Iw.app a).app b).app c=_;rw[app0 (s:=Iw) rfl]
def Ap4 (d:1000<=N){a b c:Sl Jb}(ha:a.n<=3000000)(hb:b.n<=3000000)(hc:c.n<=3000000):A9 N (Sl.of [a,b,c]:Sl (Sl Jb))=some ((a.app b).app c):=by
 have h:=Ye (N:=N) (s:=(Sl.of [a,b,c]:Sl (Sl Jb))) (by show 3<1000;omega) d λi f=>by
  match i,f with
  |0,_=>exact ha
  |1,_=>exact hb
  |2,_=>exact hc
 rw[h];exact congrArg some (cat3 a b c)
def RL (a:1000<=N){l:Law}(b:Bc5 l){w:Sl Jb}(c:w.n<1000)(hw:vW w){i:Nat}(d:i+l.If.n<=w.n) :∃s,U0 N l w (i:Int)=some s/\s.n=w.n-l.If.n+l.Out.n/\vW s:=by
 obtain⟨y,h1,g,f⟩:=AJ1 a b hw d;have j:=b.1;refine⟨repl w i l.If.n y,?_,by show i+y.n+(w.n-(i+l.If.n))=_;omega,Zq (Zq (Ap3 hw (by omega)) f) (Ap2 hw _)⟩;unfold U0;rw[QM (by omega),Ch,Kg,Kg,h1,Ki,Ch,
  Ap4 a (by show i<=_;omega) (by omega) (by show w.n-(i+l.If.n)<=_;omega)]
 rfl
abbrev Zr:=List (Int×Sl Jb)
def vL (L:Zr):Prop:=∀x∈L,vW x.2
def Wf:vL []:=λx hx=>Es hx (by simp)
def Yf {x:Int×Sl Jb}{L:Zr}(h:vW x.2)(hL:vL L):vL (x::L):=λy hy=>by
 rcases Bi3.1 hy with rfl|hy
 .exact h
 exact hL y hy
def Ap5 (N:Nat)(l:Law)(a:Sl Jb->Int->Option Zr)(x5:Sl Jb)(x6:Int):Option Zr:= if (decide ((wrap .i64 (x6+(l.If.n:Int)))<=(x5.n:Int))) then (DT N l x5 x6).bind λc=>if (!c) then a x5 (wrap .i64 (x6+1)) else (U0 N l x5 x6).bind λb=>Ah (x6,b) (if ((l.If.n:Int)==0) then a b (wrap .i64 ((wrap .i64 (x6+(l.Out.n:Int)))+1)) else a b (wrap .i64 (x6+(l.Out.n:Int)))) else some []
def AD4 (g:3000<=N){l:Law}(o:lawF l):∀(m:Nat) (w:Sl Jb) (i:Nat),w.n<=100->vW w->i<=200->w.n+1<=i+m->∀M,m<M->∃L,BA M (Ap5 N l) w i=some L/\vL L/\L.length<=m:=by
 obtain⟨hl,_,_,hk,d,q,_,_⟩:=o;have v:=d.1;intro m
 induction m with
 |zero=>intro w i hn a r hm M t;obtain⟨M,rfl⟩:∃K,M=K+1:=⟨M-1,by omega⟩;rw[CK,Ap5,QM (by omega),Dl];exact⟨[],rfl,Wf,Bg5 _⟩
 |succ m ih=>
  intro w i hn a r hm M t;obtain⟨M,rfl⟩:∃K,M=K+1:=⟨M-1,by omega⟩;rw[CK,Ap5,QM (by omega)];by_cases hle:i+l.If.n<=w.n
  case neg=>rw[Dl];exact⟨[],rfl,Wf,by simp⟩
  obtain⟨b,e1,h1⟩:=AI7 g hl hk (w:=w) ⟨by omega,λj u=>(a j u).ok⟩ i (by omega);rw[Ck,e1,Ki];cases b
  .rw[Ej nf,Bq];obtain⟨L,g1,g2,g3⟩:=ih w (i+1) hn a (by omega) (by omega) M (by omega);exact⟨L,g1,g2,by omega⟩
  have f:=(h1 rfl).2.1;obtain⟨s,r1,r2,r3⟩:=RL (N:=N) (by omega) d (by omega) a hle;rw[Er (by simp),r1,Ki,QM (by omega),Bq];obtain⟨L,g1,g2,g3⟩:=ih s (if l.If.n=0 then i+l.Out.n+1 else i+l.Out.n) (by omega) r3 (by split<;>omega) (by split<;>omega) M (by omega);refine⟨((i:Int),s)::L,?_,Yf r3 g2,by simp;omega⟩;by_cases c:l.If.n=0
  .rw[Ej c]at g1;rw[Ej (by simp[c]),g1];rfl
  rw[Er c]at g1;rw[Er (by simp[c]),g1];rfl
def AS0 (N:Nat)(l:Law)(a:Sl Jb->Int->Option Zr)(x7:Sl Jb)(x8:Int):Option Zr:= if (decide (0<=x8)) then (DT N l x7 x8).bind λc=>if (!c) then a x7 (wrap .i64 (x8-1)) else (U0 N l x7 x8).bind λb=>Ah (x8,b) (a b (wrap .i64 (x8-(if (l.If.n:Int)<1 then 1 else (l.If.n:Int))))) else some []
def AS1 (q:3000<=N){l:Law}(r:lawF l):∀(m:Nat) (w:Sl Jb) (i:Int),w.n<=100->vW w -> -100<=i->i+1<=m->m<=200->∀M,m<M->∃L,BA M (AS0 N l) w i=some L/\vL L/\L.length<=m:=by
 obtain⟨hl,_,_,hk,f,t,_,_⟩:=r;have y:=f.1;intro m
 induction m with
 |zero=>intro w i hn a u hm c M v;obtain⟨M,rfl⟩:∃K,M=K+1:=⟨M-1,by omega⟩;rw[CK,AS0,Dl];exact⟨[],rfl,Wf,Bg5 _⟩
 |succ m ih=>
  intro w i hn a u hm c M v;obtain⟨M,rfl⟩:∃K,M=K+1:=⟨M-1,by omega⟩;rw[CK,AS0];by_cases hle:0<=i
  case neg=>rw[Dl];exact⟨[],rfl,Wf,by simp⟩
  obtain⟨k,rfl⟩:∃k:Nat,i=(k:Int):=⟨i.toNat,by omega⟩;obtain⟨b,e1,h1⟩:=AI7 q hl hk (w:=w) ⟨by omega,λj x=>(a j x).ok⟩ k (by omega);rw[Ej (by simp),e1,Ki];cases b
  .rw[Ej nf,Lk];obtain⟨L,g1,g2,g3⟩:=ih w ((k:Int)-1) hn a (by omega) (by omega) (by omega) M (by omega);exact⟨L,g1,g2,by omega⟩
  obtain⟨hle,d⟩:=h1 rfl;have g:=d.1;obtain⟨s,r1,r2,r3⟩:=RL (N:=N) (by omega) f (by omega) a hle;rw[Er (by simp),r1,Ki];obtain⟨L,g1,g2,g3⟩:=ih s (if l.If.n=0 then (k:Int)-1 else (k:Int)-l.If.n) (by omega) r3 (by split<;>omega) (by split<;>omega) (by omega) M (by omega);refine⟨((k:Int),s)::L,?_,Yf r3 g2,by simp;omega⟩;by_cases o:l.If.n=0
  .rw[Ej o]at g1;rw[Ch,Lk,g1];rfl
  rw[Er o]at g1;rw[Cm,Lk,g1];rfl
end Go.AM
namespace Go.AM
open IntKind (wrap)
open Go.Proofs
abbrev AllS:=Sl Jb×Int×Int
def Ae0 (N:Nat)(l:Law)(q0:Sl Jb)(a:AllS->Option Zr)(x1:Int)(z1:AllS):Option Zr:= if (decide (x1<z1.2.1)) then a (z1.1,z1.2.1,z1.2.2) else if (((0:Int)<=(wrap .i64 (x1+z1.2.2))/\(wrap .i64 (x1+z1.2.2))<=(z1.1.n:Int))/\((0:Int)<=x1/\x1<=(wrap .i64 (x1+(l.If.n:Int)))/\(wrap .i64 (x1+(l.If.n:Int)))<=(q0.n:Int)))then (DS N l (q0.sub x1.toNat (wrap .i64 (x1+(l.If.n:Int))).toNat)).bind λy6=>if ((0:Int)<=(wrap .i64 (x1+(l.If.n:Int)))/\(wrap .i64 (x1+(l.If.n:Int)))<=(q0.n:Int))then (A9 N (Sl.of [z1.1.take (wrap .i64 (x1+z1.2.2)).toNat,y6,q0.drop (wrap .i64 (x1+(l.If.n:Int))).toNat]:Sl (Sl Jb))).bind λy7=>Ah (x1,y7) (a (y7,wrap .i64 (x1+(if (l.If.n:Int)<1 then 1 else (l.If.n:Int))),wrap .i64 ((wrap .i64 (z1.2.2+(l.Out.n:Int)))-(l.If.n:Int)))) else none else none
def Ap6 {N:Nat}(f:3000<=N){l:Law}(a:Bc5 l)(hk:l.If.n<=4){w:Sl Jb}(b:vW w):∀(L:List Int) (i:Nat) (acc:Sl Jb) (next sh:Int),hitL l w i L->i<=33->vW acc->(acc.n:Int)=w.n+sh->0<=next->0<=next+sh->sh<=6*i ->
 ∃R,T1 L (Ae0 N l w) (λ_=>some []) (acc,next,sh)=some R/\vL R/\R.length<=L.length
 |[],i,acc,next,sh,_,_,_,_,_,_,_=>⟨[],rfl,Wf,Bg5 _⟩
 |t::L,i,acc,next,sh,⟨j,et,h2,h3,h4,h5⟩,hi,ha,hn,h0,hs,h6=>by
  subst et;have m:=h4.1;have o:=a.1;show ∃R,Ae0 N l w (T1 L (Ae0 N l w) λ_=>some []) (j:Int) (acc,next,sh)=some R/\_;unfold Ae0;by_cases g:(j:Int)<next
  .obtain⟨R,r1,r2,r3⟩:=Ap6 f a hk b L (j+1) acc next sh h5 (by omega) ha hn h0 hs (by omega)
   exact ifT (by simpa using g) ⟨R,r1,r2,by simp;omega⟩
  obtain⟨y,p1,p3,p4⟩:=AJ1 (N:=N) (by omega) a b h3;obtain⟨k,ek⟩:∃k:Nat,(j:Int)+sh=(k:Int):=⟨((j:Int)+sh).toNat,by omega⟩;have es:wrap .i64 ((j:Int)+sh)=(k:Int):=by rw[Lk,ek]
  simp only[es];rw[QM (by omega)];simp only[Kg];refine ifF (by simpa using g) (Ad (B8 p1 (Ad ?_)));refine B8 (Ap4 (by omega) (by show k<=_;omega) (by omega) (by show w.n-(j+l.If.n)<=_;omega)) ?_;have c:vW (((acc.take k).app y).app (w.drop (j+l.If.n))):=Zq (Zq (Ap3 ha (by omega)) p4) (Ap2 b _);have d:(((acc.take k).app y).app (w.drop (j+l.If.n))).n=k+y.n+(w.n-(j+l.If.n)):=rfl;generalize ((acc.take k).app y).app (w.drop (j+l.If.n))=z at c d;have en:wrap .i64 ((j:Int)+(if (l.If.n:Int)<1 then 1 else (l.If.n:Int)))=(j:Int)+(if (l.If.n:Int)<1 then 1 else (l.If.n:Int)):=D1 (by split<;>omega) (by split<;>omega);have eh:wrap .i64 ((wrap .i64 (sh+(l.Out.n:Int)))-(l.If.n:Int))=sh+l.Out.n-l.If.n:=by rw[Lk (n:=sh+(l.Out.n:Int)),Lk]
  rw[en,eh];obtain⟨R,r1,r2,r3⟩:=Ap6 f a hk b L (j+1) z ((j:Int)+(if (l.If.n:Int)<1 then 1 else (l.If.n:Int))) (sh+l.Out.n-l.If.n) h5 (by omega) c (by omega) (by split<;>omega) (by split<;>omega) (by omega);exact⟨((j:Int),z)::R,by show Ah _ (T1 L (Ae0 N l w) (λ_=>some []) _)=_;rw[r1];rfl,Yf c r2,by simp;omega⟩
abbrev DocS:=(Sl Int)×(Sl (Sl Jb))×Int
def Wg:∀(L:Zr) (x:Sl Int) (y:Sl (Sl Jb)),x.n+L.length<=100000->y.n+L.length<=100000->vL L->(∀i,i<y.n->wOk (y.g i)) ->
 ∃r,T1 L (λ(a:Sl Int×Sl (Sl Jb)->Option DocS) (x1:Int×(Sl Jb)) (z1:(Sl Int)×(Sl (Sl Jb)))=>
  if (decide (32<(x1.2.n:Int))) then
   some (Ir,(Sl.nil:Sl (Sl Jb)),11)
  else
   if (Ke 8 (z1.1.n+(Sl.of [x1.1]:Sl Int).n))then
    if (Ke 24 (z1.2.n+(Sl.of [x1.2]:Sl (Sl Jb)).n))then
     a (z1.1.push x1.1,z1.2.push x1.2)
    else none
   else none
  ) (λ(z1:(Sl Int)×(Sl (Sl Jb)))=>
   some (z1.1,z1.2,0)
  ) (x,y)=some r/\(r.2.2=11 \/ (r.2.2=0/\r.2.1.n<=100000/\∀i,i<r.2.1.n->wOk (r.2.1.g i)))
 |[],x,y,_,hy,_,h=>⟨_,rfl,.inr ⟨rfl,hy,h⟩⟩
 |(p,v)::L,x,y,hx,hy,hL,h=>by
  simp only[Bi8]at hx hy;by_cases b:32<v.n
  .exact⟨_,Ej (decide_eq_true (show (32:Int)<(v.n:Int) by omega)),.inl rfl⟩
  obtain⟨r,r1,r2⟩:=Wg L (x.push p) (y.push v) (by show x.n+1+_<=_;omega) (by show y.n+1+_<=_;omega) (λz c=>hL z (Bh3 _ c)) λi d=>by
   show wOk (if i<y.n then y.g i else v);split
   .exact h i (by assumption)
   exact⟨by omega,hL (p,v) (by simp)⟩
  refine⟨r,?_,r2⟩;rw[T1,Dl,Ej (by show (x.n+1)*8<=_/\x.n+1<=_;omega),Ej (by show (y.n+1)*24<=_/\y.n+1<=_;omega)];exact r1
def hitL.len {l:Law}{w:Sl Jb}:∀{L:List Int}{i:Nat},hitL l w i L->L.length<=w.n+1-i
 |[],i,_=>Bn0 _
 |t::L,i,⟨j,_,h2,h3,_,h5⟩=>by have:=hitL.len h5;simp;omega
def vOk {w:Sl Jb}(h:wOk w):okW w:=⟨by have:=h.1;omega,λi a=>(h.2 i a).ok⟩
def AD5 (N:Nat)(l:Law):Prop:=TI l/\chkAll N l
def AD6 {N:Nat}(o:3000000<=N){l:Law}(hl:AD5 N l){w:Sl Jb}(a:wOk w) :∃r,Fl N l w=some r/\(r.2.2=11 \/ (r.2.2=0/\r.2.1.n<=100000/\∀i,i<r.2.1.n->wOk (r.2.1.g i))):=by
 obtain⟨e,e1,q⟩:=IV o hl.1;obtain⟨e',e3,b⟩:=IK (N:=N) (by omega) λi c=>(a.2 i c).ok;obtain rfl:e=0:=q.elim (·.1) λh=>Es hl.2 h.2;obtain rfl:=(IJ b).2 a;obtain⟨d,_,_,hk,s,t,u,v⟩:=id (hl.2.f hl.1);have j:=hl.2.f hl.1;have hn:=a.1;have key:∃L,Dq N w l (l.If.n:Int) (l.Out.n:Int)=some L/\vL L/\L.length<=100:=by
  unfold Dq;by_cases c1:l.Mode=1
  .refine ifT (by simp[c1]) ?_;obtain⟨H,h1,m⟩:=Ao9 (N:=N) (by omega) d hk (vOk a) 0 (by omega);obtain⟨R,r1,r2,r3⟩:=Ap6 (N:=N) (by omega) s hk a.2 H 0 w 0 0 m (by omega) a.2 (by omega) (by omega) (by omega) (by omega)
   have:=m.len
   show ∃R,(AB N l w ((0:Nat):Int)).bind (λL1=>T1 L1 (Ae0 N l w) (λ_=>some []) (w,0,0))=some R/\_;exact B8 h1 ⟨R,r1,r2,by omega⟩
  refine ifF (by simp[c1]) ?_;by_cases c2:l.Mode=2
  .obtain⟨L,g1,g2,g3⟩:=AD4 (N:=N) (by omega) j (w.n+1) w 0 (by omega) a.2 (by omega) (by omega) N (by omega);exact ifT (by simp[c2]) ⟨L,g1,g2,by omega⟩
  obtain⟨L,g1,g2,g3⟩:=AS1 (N:=N) (by omega) j (w.n+1) w ((w.n:Int)-(l.If.n:Int)) (by omega) a.2 (by omega) (by omega) (by omega) N (by omega);refine ifF (by simp[c2]) (Ai ⟨L,?_,g2,by omega⟩);rw[Lk];exact g1
 obtain⟨L,g1,g2,g3⟩:=key;have hc:Fk N l w=some 0:=by unfold Fk;rw[e1,Ki,Er (by decide),e3];try rfl
 unfold Fl;rw[hc,Ki,Er (by decide),Lu,Ki];show ∃r,(Dq N w l (l.If.n:Int) (l.Out.n:Int)).bind _=some r/\_;rw[g1,Ki];exact Wg L _ _ (by show 0+_<=_;omega) (by show 0+_<=_;omega) g2 λi c=>Es c (Bh2 i)
def AS2 {N:Nat}(b:3000000<=N){l:Law}(hl:AD5 N l){w:Sl Jb}(hw:wOk w):∃v e,Cp N l w=some (v,e)/\(e=11 \/ (e=0/\wOk v)):=by
 obtain⟨⟨x,y,e⟩,h1,h⟩:=AD6 b hl hw;have c:=hw.1;unfold Cp;rw[h1,Ki];rcases h with h|⟨h,a,d⟩
 .obtain rfl:e=11:=h;exact⟨_,_,Ej (show ((11:Int) != 0)=true by decide),.inl rfl⟩
 obtain rfl:e=0:=h;replace a:y.n<=100000:=a;rw[Er (show ¬((0:Int) != 0)=true by decide)];by_cases hy:y.n=0
 .rw[Er (by simp[hy])];unfold A5;rw[Ch];exact⟨w,0,rfl,.inr ⟨rfl,hw⟩⟩
 have e1:wrap .i64 ((y.n:Int)-1)=((y.n-1:Nat):Int):=AC4 (by omega) (by omega);dsimp only;rw[e1,Kg,Ck,Ch];exact⟨_,_,rfl,.inr ⟨rfl,d (y.n-1) (show y.n-1<y.n by omega)⟩⟩
end Go.AM
namespace Go.AM
variable {N:Nat}
open IntKind (wrap)
open Go.Proofs
def Wh {s:Sl Law}(m:s.n<N)(hs:s.n<1000000){f:Law->Option Bool}{b:Nat->Bool}(o:∀i,i<s.n->f (s.g i)=some (b i)) :∃r,D5 N s f=some r/\(r=true ↔ ∃i,i<s.n/\b i=true):=by
 unfold D5 G0
 have:∃y,X4 N (λ(a:Int->Option Int) (x1:Int)=>
  if (decide (x1<(s.n:Int))) then
   if ((0:Int)<=x1/\x1<(s.n:Int))then
    (f (s.g x1.toNat)).bind λy3=>
    if y3 then
     some x1
    else
     a (wrap .i64 (x1+1))
   else none
  else
   some (-1)) 0=some y/\(0<=y ↔ ∃i,i<s.n/\b i=true):=by
  refine FC (λi x1=>x1=(i:Int)/\∀j,j<i->b j=false) s.n _ m ⟨rfl,λj c=>Es c (by omega)⟩ ?_;rintro l i x1 q ⟨rfl,h⟩ d;by_cases hl:i<s.n
  .refine Ai (Ad (B8 (by rw[Kg];exact o i hl) ?_));cases hb:b i
   .refine Bl (d hl _ ⟨Bq,λj c=>?_⟩);by_cases e:j=i
    .subst e;exact hb
    exact h j (by omega)
   exact ifT rfl ⟨i,rfl,λ_=>⟨i,hl,hb⟩,λ_=>by omega⟩
  refine Bk ⟨-1,rfl,λh=>Es h (by decide),?_⟩;rintro⟨j,c,hb⟩;rw[h j (by omega)]at hb;cases hb
 obtain⟨y,e,hy⟩:=this;exact B8 e ⟨_,rfl,by rw[Fa];exact hy⟩
def Ap7 (N:Nat)(laws:Sl Law):Prop:=laws.n<=64/\∀i,i<laws.n->chkAll N (laws.g i)
def Ca (laws:Sl Law):Prop:=∀i,i<laws.n->TI (laws.g i)
def Ap8 (d:3000000<=N){laws:Sl Law}(hl:Ca laws):∃e,BW N laws=some e/\(e=0->Ap7 N laws):=by
 unfold BW;by_cases hn:64<laws.n
 .exact Ai ⟨12,rfl,λh=>by cases h⟩
 refine Bk ?_;have j:∀i,∃b,i<laws.n->T4 N (laws.g i)=some b/\(b=true ↔ ¬chkAll N (laws.g i)):=by
  intro i;by_cases a:i<laws.n
  .obtain⟨e,e1,l⟩:=IV d (hl i a);refine⟨e != 0,λ_=>⟨by unfold T4;rw[e1];rfl,?_⟩⟩;rcases l with⟨rfl,h⟩ | ⟨rfl,h⟩
   .exact⟨λh=>Es h (by decide),λg=>Es h g⟩
   exact⟨λ_=>h,λ_=>by decide⟩
  exact⟨false,λh=>Es h a⟩
 obtain⟨f,c⟩:=Bq6 j;obtain⟨r,e1,h1⟩:=Wh (N:=N) (s:=laws) (by omega) (by omega) (f:=λu1=>T4 N u1) (λi a=>(c i a).1);refine B8 e1 ?_;cases m:r
 .refine Bl ⟨0,rfl,λ_=>⟨by omega,λi a=>Bj9 λhn=>?_⟩⟩
  have:=h1.2 ⟨i,a,(c i a).2.2 hn⟩
  rw[m]at this;cases this
 exact ifT rfl ⟨17,rfl,λh=>by cases h⟩
def Ae1 (c:3000000<=N){laws:Sl Law}(hl:Ca laws){w:Sl Jb}(hw:∀i,i<w.n->okS (w.g i)) :∃e,BX N laws (Sl.of [w]:Sl (Sl Jb))=some e/\(e=0->Ap7 N laws/\wOk w):=by
 unfold BX;obtain⟨e,e1,h1⟩:=Ap8 c hl;refine B8 e1 ?_;by_cases a:e=0
 case neg=>exact ifT (by simpa using a) ⟨e,rfl,λh=>Es h a⟩
 refine ifF (by simp[a]) (ifF (by show ¬decide ((256:Int)<((1:Nat):Int))=true;decide) ?_);refine FC (λi x1=>x1=(i:Int)/\(0<i->wOk w)) 1 _ (by omega) ⟨rfl,λh=>Es h (by omega)⟩ ?_;rintro b i x1 j ⟨rfl,h⟩ hs;by_cases d:i<1
 .obtain rfl:i=0:=by omega
  obtain⟨e,e1,f⟩:=IK (N:=N) (by omega) hw;refine ifT (by show decide (((0:Nat):Int)<((1:Nat):Int))=true;decide) (ifT (by show (0:Int)<=((0:Nat):Int)/\((0:Nat):Int)<((1:Nat):Int);omega) (B8 e1 ?_));by_cases a:e=0
  .exact ifF (by simp[a]) (hs (by omega) _ ⟨rfl,λ_=>(IJ f).1 a⟩)
  exact ifT (by simpa using a) ⟨e,rfl,λh=>Es h a⟩
 exact ifF (by show ¬decide ((i:Int)<((1:Nat):Int))=true;simp;omega) ⟨0,rfl,λ_=>⟨h1 a,h (by omega)⟩⟩
def MY (N:Nat)(c:Int)(q1:Sl Law)(a:Sl Jb->Int->Option Zr)(x1:Sl Jb)(x2:Int):Option Zr:= if (decide (x2<(q1.n:Int))) then if ((0:Int)<=x2/\x2<(q1.n:Int))then (Cp N (q1.g x2.toNat) x1).bind λy4=>if (y4.2 != 0) then if y4.2=c then some []else none else Ah (wrap .i64 (x2+1),y4.1) (a y4.1 (wrap .i64 (x2+1))) else none else if c=0 then some []else none
def PI {c:Int}{laws:Sl Law}{a:Sl Jb->Int->Option Zr}{w:Sl Jb}{i:Nat}(d:i<laws.n)(b:laws.n<=64){y:Sl Jb×Int}(h:Cp N (laws.g i) w=some y) :MY N c laws a w (i:Int)=if (y.2 != 0) then (if y.2=c then some []else none)else Ah (((i+1:Nat):Int),y.1) (a y.1 ((i+1:Nat):Int)):=by unfold MY;rw[Ej (show decide ((i:Int)<(laws.n:Int))=true by simp;omega),Ch,Kg,h,Ki,Bq]
def Ap9:Sl Jb->Zr->Sl Jb
 |w,[]=>w
 |_,(_,v)::L=>Ap9 v L
def TJ:∀(L:Zr) (w:Sl Jb),T1 L (λ(a:Sl Jb->Option (Sl Jb)) (x1:Int×(Sl Jb)) (z1:Sl Jb)=>a x1.2) (λ(z1:Sl Jb)=>some z1) w=some (Ap9 w L)
 |[],w=>rfl
 |(p,v)::L,w=>TJ L v
def Aq0 (d:3000000<=N){laws:Sl Law}(hl:Ca laws)(b:Ap7 N laws):∀(m i:Nat) (w:Sl Jb),wOk w->i<=laws.n->laws.n<=i+m->∀M,m<M ->
 (∃L,BA M (MY N 0 laws) w i=some L/\wOk (Ap9 w L)) \/ (∃L,BA M (MY N 0 laws) w i=none/\BA M (MY N 11 laws) w i=some L):=by
 have c:=b.1;intro m
 induction m with
 |zero=>intro i w hw f hm M g;obtain⟨M,rfl⟩:∃K,M=K+1:=⟨M-1,by omega⟩;exact .inl ⟨[],by rw[CK,MY,Dl,Ej rfl],hw⟩
 |succ m ih=>
  intro i w hw f hm M g;obtain⟨M,rfl⟩:∃K,M=K+1:=⟨M-1,by omega⟩;by_cases a:i<laws.n
  case neg=>exact .inl ⟨[],by rw[CK,MY,Dl,Ej rfl],hw⟩
  obtain⟨v,e,g1,g2⟩:=AS2 d ⟨hl i a,b.2 i a⟩ hw;rw[CK,CK,PI a c g1,PI a c g1];rcases g2 with rfl|⟨rfl,g2⟩
  .exact .inr ⟨[],rfl,rfl⟩
  rw[Er (by simp),Er (by simp)];rcases ih (i+1) v g2 (by omega) (by omega) M (by omega)with⟨L,a1,a2⟩ | ⟨L,a1,a2⟩
  .exact .inl ⟨((i+1:Nat),v)::L,by dsimp only;rw[a1];rfl,a2⟩
  exact .inr ⟨((i+1:Nat),v)::L,by dsimp only;rw[a1];rfl,by dsimp only;rw[a2];rfl⟩
def PJ (l:3000000<=N){laws:Sl Law}(hl:Ca laws){w:Sl Jb}(hw:∀i,i<w.n->okS (w.g i)):∃r,K0 N laws w=some r/\(r.2=0->wOk r.1):=by
 obtain⟨e,e1,m⟩:=Ae1 l hl hw;unfold K0;rw[e1,Ki];by_cases j:e=0
 case neg=>exact⟨_,Ej (by simpa using j),λh=>Es h j⟩
 rw[Er (by simp[j])];obtain⟨d,f⟩:=m j;have o:=d.1;have q:=f.1;have b:∀c,K6 N c laws w=(Ah (0,w) (BA N (MY N c laws) w ((0:Nat):Int))).bind λL1=>T1 L1 (λ(a:Sl Jb->Option (Sl Jb)) (x1:Int×(Sl Jb)) (z1:Sl Jb)=>a x1.2) (λ(z1:Sl Jb)=>some z1) Iw:=by intro c;unfold K6 DC Cc A5;rw[Ki,Ej (by dsimp only;omega),Ki];rfl
 unfold Cd;rw[b,b];rcases Aq0 l hl d laws.n 0 w f (by omega) (by omega) N (by omega)with⟨L,g1,g2⟩ | ⟨L,g1,g2⟩
 .rw[g1]
  have:(Ah (0,w) (some L)).bind (λL1=>T1 L1 (λ(a:Sl Jb->Option (Sl Jb)) (x1:Int×(Sl Jb)) (z1:Sl Jb)=>a x1.2) (λ(z1:Sl Jb)=>some z1) Iw)=some (Ap9 w L):=TJ _ _
  rw[this];exact⟨_,rfl,λ_=>g2⟩
 rw[g1,g2]
 have:(Ah (0,w) (some L)).bind (λL1=>T1 L1 (λ(a:Sl Jb->Option (Sl Jb)) (x1:Int×(Sl Jb)) (z1:Sl Jb)=>a x1.2) (λ(z1:Sl Jb)=>some z1) Iw)=some (Ap9 w L):=TJ _ _
 rw[this];exact⟨_,rfl,λh=>by cases h⟩
end Go.AM
namespace Go.AM
open Go.Proofs
def PK {α : Type}(s:Sl α)(a : α):(s.push a).toList=s.toList++[a]:=by
 show (List.range (s.n+1)).map (λi=>if i<s.n then s.g i else a)=_;rw[Br4,Bo7];congr 1
 .exact Bi6 λi b=>Ej (Bk1.1 b)
 simp
def Ec {α : Type}(s:Sl α):s.toList.length=s.n:=by simp[Sl.toList]
def Aq1 {N:Nat}{x y:Sl Jb}(d:x.n<N)(hs:x.n<10000000):∃b,R5 N x y=some b:=by
 have h:∃b,E6 N x y=some b/\True:=by
  unfold E6;by_cases hn:x.n=y.n
  case neg=>exact Ai ⟨false,rfl,trivial⟩
  refine ifF (by simp[hn]) ?_;refine FC (λi x1=>x1=(i:Int)) x.n _ d rfl ?_;rintro c i x1 f rfl a;by_cases hl:i<x.n
  .refine Ai (Ad ?_);split
   .exact⟨false,rfl,trivial⟩
   exact a hl _ (Bq)
  exact Bk ⟨true,rfl,trivial⟩
 obtain⟨b,h,_⟩:=h;exact⟨b,by unfold R5;rw[h];rfl⟩
abbrev okA (w:Sl Jb):Prop:=∀i,i<w.n->okS (w.g i)
end Go.AM
namespace Go.AM
variable {N:Nat}
open IntKind (wrap)
open Go.Proofs
abbrev Bc6 (y:Int):Bool:=((((decide (97<=y))&&(decide (y<=122)))||((decide (65<=y))&&(decide (y<=90))))||((decide (48<=y))&&(decide (y<=57))))||(y==45)
def Nw (s:Str):Bool:=(decide (1<=s.length)&&decide (s.length<=24))&&s.all λc=>Bc6 ((c.toNat:Nat):Int)
def Zs {α : Type}{o:Option α}{a : α}(h:∃r,o=some r/\r=a):o=some a:=by obtain⟨r,h,rfl⟩:=h;exact h
def Aq2 (l:1000<=N){s:Str}(hb:Nw s=true){let_:Int->Option Bool}(hl:∀y,let_ y=some (Bc6 y)){fin:Bool}(f:1<=s.length->s.length<=24->fin=true) :X4 N (λ(a:Int->Option Bool) (x1:Int)=>
  if (decide (x1<(s.length:Int))) then
   if ((0:Int)<=x1/\x1<(s.length:Int))then
    (let_ (HW s x1)).bind λy3=>
    if (!y3) then
     some false
    else
     a (wrap .i64 (x1+1))
   else none
  else
   some fin
 ) 0=some true:=by
 unfold Nw at hb;rw[Bg0,Bg0,Fa,Fa,Bg7]at hb;obtain⟨⟨h1,g⟩,j⟩:=hb;refine Zs (FC (λi x1=>x1=(i:Int)) s.length _ (by omega) rfl ?_);rintro d i x1 m rfl c;by_cases b:i<s.length
 .have eb:HW s (i:Int)=((s[i].toNat:Nat):Int):=by simp[HW,b]
  refine Ai (Ad (B8 (hl _) ?_));rw[eb,j s[i] (Bt4 b)];exact Bl (c b _ (Bq))
 exact Bk ⟨_,rfl,f h1 g⟩
def Aq3 (a:1000<=N){s:Str}(hb:Nw s=true):DU N s=some true:=by unfold DU;exact Aq2 a hb (λy=>rfl) λ_ _=>by simp;omega
def AD7 (a:1000<=N){s:Str}(hb:Nw s=true):EJ N s=some true:=by unfold EJ;exact Aq2 a hb (λy=>rfl) λ_ _=>by simp;omega
def Bc7 (t:Sl Node)(v:Nat):Prop:=(v=0->(t.g 0).Parent = -1)/\(0<v->0<=(t.g v).Parent/\(t.g v).Parent<v)/\Nw (t.g v).Name=true/\∀u,u<v->(t.g u).Name≠(t.g v).Name
def Ex (t:Sl Node):Prop:=1<=t.n/\t.n<=63/\∀v,v<t.n->Bc7 t v
def Mf {ν : Type}{k s:Str}{v : ν}:∀es:List (Str × ν),T0 eqS s (Eh eqS k v es)=if s=k then some v else T0 eqS s es
 |[]=>by simp only[Eh,T0];by_cases h:s=k<;>simp[eqS,h]
 |(a,x)::es=>by
  simp only[Eh];by_cases h:k=a
  .subst h;rw[Ej (by simp[eqS])];simp only[T0];by_cases b:s=k<;>simp[eqS,b]
  rw[Er (by simp[eqS,h])];simp only[T0];rw[Mf es];by_cases b:s=k
  .subst b;simp[eqS,h]
  simp[b]
def AD8 (q:3000000<=N){t:Sl Node}(ht:Ex t):Dr N t=some 0:=by
 obtain⟨s,o,hk⟩:=ht;unfold Dr;refine Zs (ifT (λ_ _=>by omega) (ifF (by simp[(hk 0 (by omega)).1 rfl];omega) ?_));refine FC (λi x1=>x1=(i:Int)) t.n _ (by omega) rfl ?_;rintro c i x1 u rfl hs;by_cases d:i<t.n
 case neg=>exact Bk ⟨0,rfl,rfl⟩
 obtain⟨k1,k2,k3,k4⟩:=hk i d;have a:=AD7 (N:=N) (by omega) k3;refine Ai (ltX ?_);dsimp only;rw[Kg,a];have rest:∃r,(if (false:Bool) then some 16 else
  X4 N (λ(b:Int->Option Int) (x7:Int)=>
   if (decide (x7<(i:Int))) then
    if (((0:Int)<=x7/\x7<(t.n:Int))/\((0:Int)<=(i:Int)/\(i:Int)<(t.n:Int)))then
     if (((t.g x7.toNat).Name==(t.g i).Name) != false) then
      some 16
     else
      b (wrap .i64 (x7+1))
    else none
   else
    c (wrap .i64 ((i:Int)+1))
   ) 0)=some r/\r=0:=by
  refine Bl ?_;refine FC (λk x7=>x7=(k:Int)) i _ (by omega) rfl ?_;rintro l k x7 hk rfl m;by_cases f:k<i
  .refine Ai (Ad ?_);rw[Kg];exact ifF (by simp[k4 k f]) (m f _ (Bq))
  exact Bk (hs d _ (Bq))
 by_cases j:0<i
 .have:=k2 j
  exact Ai (Ad (Bk (Ad (Bk (Ad (B8 rfl rest))))))
 exact Bk (Ad (B8 rfl rest))
def NJ (d:3000000<=N){t:Sl Node}(ht:Ex t):W9 N t=some 0:=by
 obtain⟨f,c,hk⟩:=ht;unfold W9;refine Zs (Bk ?_);refine V5 (λi (x2:List (Str×Bool)) x3=>x3=(i:Int)/\∀s,(∀u,u<i->(t.g u).Name≠s)->T0 eqS s x2=none) t.n _ (by omega) ⟨rfl,λs _=>rfl⟩ ?_;rintro b i x2 x3 j ⟨rfl,hm⟩ hs;by_cases a:i<t.n
 case neg=>exact Bk ⟨0,rfl,rfl⟩
 obtain⟨k1,k2,k3,k4⟩:=hk i a;have e1:(if 0<wrap .i64 ((i:Int)-1)then (0:Int)else wrap .i64 ((i:Int)-1))=if i=0 then -1 else 0:=by rw[Lk];split<;>split<;>omega
 refine Ai (Ad (ltX ?_));dsimp only;rw[Kg,e1,Aq3 (N:=N) (by omega) k3,hm _ k4];have hp:(t.g i).Parent<i/\(if i=0 then -1 else 0)<=(t.g i).Parent:=by
  by_cases e:i=0
  .subst e;have:=k1 rfl;rw[Ej rfl];omega
  have:=k2 (by omega);rw[Er e];omega
 refine Bk (Bk (B8 rfl (Bl ?_)));rw[CL];refine Bl (hs a _ _ ⟨Bq,λs h=>?_⟩);rw[Mf,Er λe=>h i (by omega) e.symm];exact hm s λu l=>h u (by omega)
end Go.AM
namespace Go.AM
variable {N:Nat}
open IntKind (wrap)
open Go.Proofs
structure wkH (h:History):Prop where
 tree:Ex h.Tree
 ten:h.Tree.n<=10
 ln:h.Laws.n<=64
 laws:∀i,i<h.Laws.n->TI (h.Laws.g i)
 on:h.On.n=h.Tree.n
 row:∀v,v<h.On.n->(h.On.g v).n<=5
 rng:∀v,v<h.On.n->∀k,k<(h.On.g v).n->0<=(h.On.g v).g k/\(h.On.g v).g k<h.Laws.n
structure okH (N:Nat) (h:History):Prop where
 tree:Ex h.Tree
 ten:h.Tree.n<=10
 ln:h.Laws.n<=64
 laws:∀i,i<h.Laws.n->AD5 N (h.Laws.g i)
 on:h.On.n=h.Tree.n
 row:∀v,v<h.On.n->(h.On.g v).n<=5
 rng:∀v,v<h.On.n->∀k,k<(h.On.g v).n->0<=(h.On.g v).g k/\(h.On.g v).g k<h.Laws.n
 chk:K3 N h=some 0
def GA {t:Sl Node}(ht:Ex t){v:Nat}(a:v<t.n):(v=0/\(t.g v).Parent = -1) \/ ∃p:Nat,p<v/\(t.g v).Parent=(p:Int):=by
 have hk:=ht.2.2 v a;by_cases b:v=0
 .subst b;exact .inl ⟨rfl,hk.1 rfl⟩
 obtain⟨g1,g2⟩:=hk.2.1 (by omega);exact .inr ⟨(t.g v).Parent.toNat,by omega,by omega⟩
def AD9 (hN:3000000<=N){h:History}(f:wkH h):AC N h=some 0:=by
 have x:=f.ten;have hn:=f.on;unfold AC;refine Zs (Ad ?_);refine XZ (λi (x4:Sl Int) (x5:Bool) x6=>x6=(i:Int)/\x4.n=h.On.n/\(∀v,v<i->0<=x4.g v/\x4.g v<=5*(v+1))/\x5=false) h.On.n _ (by omega) ⟨rfl,by show ((h.On.n:Nat):Int).toNat=_;omega,λv m=>Es m (by omega),rfl⟩ ?_;rintro j i x4 x5 x6 hle ⟨rfl,hx,hp,rfl⟩ hs;by_cases c:i<h.On.n
 case neg=>exact Bk (Bl ⟨0,rfl,rfl⟩)
 have w:=f.row i c;refine Ai (ifT (by rw[Kg];omega) (Ad (ltX ?_)));rw[Kg];have rest:∀z:Sl Int,z.n=h.On.n->(∀v,v<i->z.g v=x4.g v)->0<=z.g i/\z.g i<=5*(i+1)->∃r,(if (((0:Int)<=(i:Int)/\(i:Int)<(z.n:Int))/\i<z.n)then
  if (decide (64<(z.g i))) then
   some 2
  else
   BA N (λ(d:Bool->Int->Option Int) (b:Bool) (a:Int)=>
    if (decide (a<((h.On.g i).n:Int))) then
     if ((0:Int)<=a/\a<((h.On.g i).n:Int))then
      d ((b||(decide (((h.On.g i).g a.toNat)<0)))||(decide ((h.Laws.n:Int)<=((h.On.g i).g a.toNat)))) (wrap .i64 (a+1))
     else none
    else
     j z b (wrap .i64 ((i:Int)+1))
    ) false 0
  else none)=some r/\r=0:=by
  intro z y o q;refine Ad (Bk ?_);refine V5 (λk (b:Bool) a=>a=(k:Int)/\b=false) (h.On.g i).n _ (by omega) ⟨rfl,rfl⟩ ?_;rintro s k b a hk ⟨rfl,rfl⟩ t;by_cases l:k<(h.On.g i).n
  .have:=f.rng i c k l
   refine Ai (Ad (t l _ _ ⟨Bq,?_⟩));rw[Kg,decide_eq_false (by omega),decide_eq_false (by omega)];rfl
  refine Bk (hs c _ _ _ ⟨Bq,y,λv m=>?_,rfl⟩);by_cases e:v=i
  .subst e;exact q
  rw[o v (by omega)];exact hp v (by omega)
 rcases GA f.tree (v:=i) (by omega)with⟨_,e⟩ | ⟨p,u,e⟩
 .rw[e];refine Bp (rest _ hx (λv m=>?_) ?_)
  .show (if v=i then _ else x4.g v)=_;rw[Cm]
  show 0<=(if i=i then ((h.On.g i).n:Int)else _)/\(if i=i then ((h.On.g i).n:Int)else _)<=_;rw[Ej rfl];omega
 have a0:=hp p u;rw[e];refine Aj (ifT ?_ ?_)
 .show ((((((0:Int)<=(i:Int)/\(i:Int)<(x4.n:Int))/\i<x4.n)/\(0:Int)<=(p:Int)/\(p:Int)<(x4.n:Int))/\(p:Int).toNat<x4.n)/\(0:Int)<=(i:Int)/\(i:Int)<(x4.n:Int))/\i<x4.n;omega
 rw[Kg];refine rest _ hx (λv m=>?_) ?_
 .show (if v=i then _ else if v=i then _ else x4.g v)=_;rw[Cm,Cm]
 have e:((x4.upd i ((h.On.g i).n:Int)).upd i (wrap .i64 (((x4.upd i ((h.On.g i).n:Int)).g i)+((x4.upd i ((h.On.g i).n:Int)).g p)))).g i=((h.On.g i).n:Int)+x4.g p:=by show (if i=i then wrap .i64 ((if i=i then ((h.On.g i).n:Int)else _)+(if p=i then _ else x4.g p))else _)=_;rw[Ej rfl,Ej rfl,Cm,Lk]
 rw[e];omega
def Zt {ν : Type}{k:Str}{v : ν}:∀{es:List (Str × ν)},T0 eqS k es=none->(Eh eqS k v es).length=es.length+1
 |[],_=>rfl
 |(a,x)::es,h=>by
  simp only[T0]at h;simp only[Eh];by_cases e:eqS k a=true
  .rw[Ej e]at h;cases h
  rw[Er e]at h;rw[Er e,Bi8,Zt h];rfl
def RM (d:3000000<=N){h:History}(c:wkH h):∃e,K3 N h=some e/\((e=0->∀i,i<h.Laws.n->chkAll N (h.Laws.g i))/\((∀i,i<h.Laws.n->chkAll N (h.Laws.g i))->(∀u v,u<v->v<h.Laws.n->(h.Laws.g u).Name≠(h.Laws.g v).Name)->e=0)):=by
 have o:=c.ln;unfold K3;refine B8 (NJ d c.tree) (Bp (Bk ?_));refine V5 (λi (x1:List (Str×Int)) x2=>x2=(i:Int)/\(∀j,j<i->chkAll N (h.Laws.g j))/\((∀u v,u<v->v<h.Laws.n->(h.Laws.g u).Name≠(h.Laws.g v).Name)->(∀s,(∀u,u<i->(h.Laws.g u).Name≠s)->T0 eqS s x1=none)/\x1.length=i)) h.Laws.n _ (by omega) ⟨rfl,λj f=>Es f (by omega),λ_=>⟨λs _=>rfl,rfl⟩⟩ ?_;rintro l i x1 x2 hle ⟨rfl,hc,hm⟩ hs;by_cases a:i<h.Laws.n
 .obtain⟨y,y1,hy⟩:=IV d (c.laws i a);refine Ai (Ad (B8 (by rw[Kg];exact y1) ?_));rcases hy with⟨rfl,hy⟩ | ⟨rfl,hy⟩
  case inr=>exact At ⟨17,rfl,λe=>(by cases e),λg=>Es (g i a) hy⟩
  refine Bp ?_;have b : ∀j,j<i+1->chkAll N (h.Laws.g j):=λj f=>by
   by_cases e:j=i
   .subst e;exact hy
   exact hc j (by omega)
  rw[Kg];rcases g:T0 eqS (h.Laws.g i).Name x1 with _|v
  .rw[CL];refine hs a _ _ ⟨Bq,b,λD=>⟨λs hs=>?_,by rw[Zt g,(hm D).2]⟩⟩;rw[Mf,Er λe=>hs i (by omega) e.symm];exact (hm D).1 s λu m=>hs u (by omega)
  rw[EV];exact hs a _ _ ⟨Bq,b,λD=>by have:=(hm D).1 _ λu m=>D u i m a;rw[g]at this;cases this⟩
 refine Bk ?_;rw[Xf];have b : ∀i,i<h.Laws.n->chkAll N (h.Laws.g i):=λj f=>hc j (by omega);by_cases hl:x1.length<h.Laws.n
 .exact Ai ⟨6,rfl,λe=>(by cases e),λ_ D=>(by have:=(hm D).2;omega)⟩
 exact Bk (ifF (by simp[c.on]) (B8 (AD9 d c) ⟨0,rfl,λ_=>b,λ_ _=>rfl⟩))
def AJ2 {h:History}(a:wkH h)(c:∀i,i<h.Laws.n->chkAll N (h.Laws.g i))(hc:K3 N h=some 0):okH N h:=⟨a.tree,a.ten,a.ln,λi b=>⟨a.laws i b,c i b⟩,a.on,a.row,a.rng,hc⟩
end Go.AM
namespace Go.AM
variable {N:Nat}
open IntKind (wrap)
open Go.Proofs
def AJ3 {t:Sl Node}(ht:Ex t){u:Nat}(a:u<t.n) : -1<=(t.g u).Parent/\(t.g u).Parent<u:=by
 rcases GA ht a with⟨b,e⟩ | ⟨p,hp,e⟩
 .rw[e];omega
 rw[e];omega
inductive Up (t:Sl Node):Nat->List Int->Prop
 |root {v:Nat}(h:(t.g v).Parent = -1):Up t v [(v:Int)]
 |step {v p:Nat}{L:List Int}(h:(t.g v).Parent=(p:Int)) (hL:Up t p L):Up t v ((v:Int)::L)
def Up.det {t:Sl Node}{v:Nat}{L:List Int}(h:Up t v L):∀{L' : List Int},Up t v L' -> L=L':=by
 induction h with
 |root h1=>
  intro L' g;cases g with
  |root _=>rfl
  |step h2 _=>omega
 |step h1 _ ih=>
  intro L' g;cases g with
  |root h2=>omega
  | @step _ q _ h2 g=>have e:(_:Int)=(q:Int):=h1.symm.trans h2;rw[Int.natCast_inj.1 e]at ih;rw[ih g]
def Mg {α : Type}{s:Sl α}{i:Nat}(h:i<s.n):s.toList.take (i+1)=s.toList.take i++[s.g i]:=by rw[List.take_add_one];simp[Sl.toList,h]
def AJ4 (q:3000000<=N){t:Sl Node}(ht:Ex t){v:Nat}(r:v<t.n):∃L,S8 N (v:Int) t=some L/\L.length<=64/\(∀x∈L,∃u:Nat,x=(u:Int)/\u<t.n)/\Up t v L.reverse:=by
 have l:=ht.2.1;unfold S8;refine V5 (λi (x1:Int) (x2:Sl Int)=>-1<=x1/\x1<t.n/\x1+i<=v/\x2.n=i/\(∀j,j<x2.n->∃u:Nat,x2.g j=(u:Int)/\u<t.n)/\((x1 = -1/\Up t v x2.toList) \/ (0<=x1/\∀L,Up t x1.toNat L->Up t v (x2.toList++L)))) (v+1) _ (by omega) ⟨by omega,by omega,by omega,rfl,λj c=>Es c (Bh2 j),.inr ⟨by omega,λL h=>h⟩⟩ ?_;rintro d i x1 x2 s ⟨h1,y,z,h4,f,a⟩ hs;by_cases hx:0<=x1
 .obtain⟨u,rfl⟩:∃u:Nat,x1=u:=⟨x1.toNat,by omega⟩;refine Aj (ifT ⟨by show (x2.n+1)*8<=_/\x2.n+1<=_;omega,by omega⟩ ?_);have a:∀L,Up t u L->Up t v (x2.toList++L):=a.elim (λh=>Es h.1 (by omega)) (λh=>h.2);rw[Kg];have hp:=AJ3 ht (u:=u) (by omega);refine hs (by omega) _ _ ⟨hp.1,by omega,by omega,by show x2.n+1=_;omega,λj c=>?_,?_⟩
  .show ∃w:Nat,(if j<x2.n then x2.g j else (u:Int))=w/\w<t.n;split
   .exact f j (by assumption)
   exact⟨u,rfl,by omega⟩
  rw[PK];rcases GA ht (v:=u) (by omega)with⟨_,e⟩ | ⟨p,_,e⟩
  .exact .inl ⟨e,a _ (.root e)⟩
  refine .inr ⟨by omega,λL hL=>?_⟩;rw[e,Kg]at hL;rw[Bo5];exact a _ (.step e hL)
 refine Bk ?_;have a:Up t v x2.toList:=a.elim (λh=>h.2) (λh=>Es h.1 hx);have hb:∀(m M:Nat),m<=x2.n->m<M->X4 M (λ(b:Int->Option (List Int)) (x3:Int)=>
  if (decide (0<=x3)) then
   if (((0:Int)<=x3/\x3<(x2.n:Int))/\x3.toNat<x2.n)then
    Ah (x2.g x3.toNat) (
     b (wrap .i64 (x3-1))
     )
   else none
  else
   some []
  ) ((m:Int)-1)=some (x2.toList.take m).reverse:=by
  intro m
  induction m with
  |zero=>intro M _ o;obtain⟨M,rfl⟩:∃K,M=K+1:=⟨M-1,by omega⟩;rw[I3,Er (by decide)];rfl
  |succ m ih=>intro M hm o;obtain⟨M,rfl⟩:∃K,M=K+1:=⟨M-1,by omega⟩;rw[Mg (by omega),Bs2,I3,show ((m+1:Nat):Int)-1=(m:Int) by omega,Ej (by simp),Ch,Lk,ih M (by omega) (by omega),Kg];rfl
 rw[Lk];have hm:=hb x2.n N (Bg5 _) (by omega);rw[Bm3 (by rw[Ec];exact Bg5 _)]at hm;refine⟨_,hm,by rw[Bu3,Ec];omega,λx hx=>?_,by rw[Bx9];exact a⟩;obtain⟨j,c,rfl⟩:=Bl0.1 (Bt3.1 hx);exact f j (Bk1.1 c)
abbrev Yg (h:History)(x:Int):List Int:=(h.On.g x.toNat).toList
def AJ5 {α : Type}(s t:Sl α):(s.app t).toList=s.toList++t.toList:=by
 show (List.range (s.n+t.n)).map (λi=>if i<s.n then s.g i else t.g (i-s.n))=_;rw[List.range_add,Bo7];congr 1
 .exact Bi6 λi a=>Ej (Bk1.1 a)
 rw[Bn4];exact Bi6 λi _=>(Er (show ¬s.n+i<s.n by omega)).trans (congrArg t.g (Nat.add_sub_cancel_left ..))
abbrev Bc8 (h:History)(s:Sl Int):Prop:=∀k,k<s.n->0<=s.g k/\s.g k<h.Laws.n
def AS3 (j:3000000<=N){h:History}(b:okH N h){v:Nat}(l:v<h.Tree.n):∃s,Z9 N h (v:Int)=some (s,0)/\s.n<=1000/\Bc8 h s/\∃L,Up h.Tree v L/\s.toList=L.reverse.flatMap (Yg h):=by
 have m:=b.on;obtain⟨L,l1,l2,l3,l4⟩:=AJ4 j b.tree l;unfold Z9;rw[b.chk,Ki,Er (by decide),U6,Ki,Dl,Bc,Ki];show ∃s,(S8 N (v:Int) h.Tree).bind _=_/\_;rw[l1,Ki];have key:∃r:Sl Int×Int,T1 L (λ(a:Sl Int->Option ((Sl Int)×Int)) (x1:Int) (z1:Sl Int)=>
  if (((0:Int)<=x1/\x1<(h.On.n:Int))/\(Ke 8 (z1.n+(h.On.g x1.toNat).n)))then
   a (z1.app (h.On.g x1.toNat))
  else none
  ) (λ(z1:Sl Int)=>
   some (z1,0)
  ) Ir=some r/\(r.2=0/\r.1.n<=1000/\Bc8 h r.1/\r.1.toList=L.flatMap (Yg h)):=by
  refine Wc (λ(R:List Int) (z:Sl Int)=>z.n+5*R.length<=1000/\Bc8 h z/\(∀x∈R,∃u:Nat,x=(u:Int)/\u<h.Tree.n)/\z.toList++R.flatMap (Yg h)=L.flatMap (Yg h)) (λz c=>⟨_,rfl,rfl,by have:=c.1;simp at this;omega,c.2.1,by simpa using c.2.2.2⟩) ?_ L _ ⟨by show 0+_<=_;omega,λk hk=>Es hk (Bh2 k),l3,rfl⟩;rintro x R z d ⟨h1,o,f,q⟩ hs;obtain⟨u,rfl,t⟩:=f x (by simp);have i:=b.row u (by omega);simp only[Bi8]at h1;rw[Kg];refine Ad (hs _ ⟨by show z.n+(h.On.g u).n+_<=_;omega,λk hk=>?_,λy hy=>f y (by simp[hy]),by rw[AJ5,<- q,Bp9,Bo5,Yg,Kg]⟩);have hk:k<z.n+(h.On.g u).n:=hk;show 0<=(if k<z.n then z.g k else (h.On.g u).g (k-z.n))/\(if k<z.n then z.g k else (h.On.g u).g (k-z.n))<_;split
  .exact o k (by assumption)
  exact b.rng u (by omega) _ (by omega)
 obtain⟨⟨s,e⟩,k1,k2,k3,k4,k5⟩:=key;obtain rfl:e=0:=k2;exact⟨s,k1,k3,k4,_,l4,by rw[Bx9];exact k5⟩
def Mh:∀(d:Nat) (p:Pat),okQ d p->∀M,100+d<=M->S0 M p=some p
 |0,p,h,M,_=>h.elim
 |d+1,p,h,0,hM=>by omega
 |d+1,p,h,M+1,hM=>by
  show S9 (S0 M) M p=some p;unfold S9;have hn:=h.2.1;refine Zs (FC (λi x2=>x2=(i:Int)) p.L.n _ (by omega) rfl ?_);rintro a i x2 b rfl hs;by_cases hl:i<p.L.n
  .refine Ai (Ad ?_);rw[Kg];exact B8 (Mh d (p.L.g i) (h.2.2 i hl) M (by omega)) (Ad (hs hl _ (Bq)))
  exact Bk (Ad ⟨_,rfl,rfl⟩)
def Wi (a:3000000<=N){l:Law}(hl:AD5 N l):T5 N l=some l:=by obtain⟨h1,b,c,d⟩:=hl.1;obtain⟨_,c1,c2,c3,c4,_⟩:=hl.2;unfold T5 A5 H6;rw[Mh 40 l.Left (TG 40 _ (by omega) c1 _ (by simp)) N (by omega),Mh 40 l.Right (TG 40 _ (by omega) c2 _ (by simp)) N (by omega),Ki,Ki,Ch,Ki,Ch];rfl
def HJ {α : Type}[Inhabited α](l:List α):Sl α:=l.foldl Sl.push Sl.nil
def Mi {α : Type}[Inhabited α](l:List α)(x : α):HJ (l++[x])=(HJ l).push x:=List.foldl_append
def NK {α : Type}[Inhabited α](l:List α):(HJ l).toList=l:=by
 have:∀(l:List α) (s:Sl α),(l.foldl Sl.push s).toList=s.toList++l:=by
  intro l
  induction l with
  |nil=>intro s;simp
  |cons x l ih=>intro s;rw[Br1,ih,PK];simp
 exact this l Sl.nil
def Aq4 {α : Type}[Inhabited α](l:List α):(HJ l).n=l.length:=by rw[<- Ec,NK]
abbrev PL (h:History)(l:List Int):List Law:=l.map λx=>h.Laws.g x.toNat
def Aq5 (c:3000000<=N){h:History}(d:okH N h){l:Sl Int}(hn:l.n<=1000)(hl:Bc8 h l):R7 N h l=some (HJ (PL h l.toList)):=by
 unfold R7;refine Zs (V5 (λi (x1:Sl Law) x2=>x2=(i:Int)/\x1=HJ (PL h (l.toList.take i))) l.n _ (by omega) ⟨rfl,rfl⟩ ?_);rintro b i x1 x2 hle ⟨rfl,rfl⟩ hs;have hx:(HJ (PL h (l.toList.take i))).n<=i:=by rw[Aq4,Bj6];exact Bu4 _ _
 by_cases a:i<l.n
 .have f:=hl i a;refine Ai ?_;rw[Kg];exact ifT ⟨by omega,f⟩ (B8 (Wi c (d.laws (l.g i).toNat (by omega))) (ifT (by show (_+1)*200<=_/\_+1<=_;omega) (hs a _ _ ⟨Bq,by rw[Mg a];show _=HJ (List.map _ (_++[l.g i]));rw[Bo7];exact (Mi _ _).symm⟩)))
 exact Bk ⟨_,rfl,by rw[Bm3 (by rw[Ec];omega)]⟩
def TL {h:History}(a:okH N h){l:List Int}(hl:∀x∈l,0<=x/\x<h.Laws.n):Ca (HJ (PL h l)):=λj b=>by
 have hm:(HJ (PL h l)).g j∈(HJ (PL h l)).toList:=Bl0.2 ⟨j,Bk1.2 b,rfl⟩;rw[NK]at hm;obtain⟨x,hx,e⟩:=Bl0.1 hm
 have:=hl x hx
 rw[<- e];exact (a.laws x.toNat (by omega)).1
def Yh {h:History}{s:Sl Int}(hs:Bc8 h s):∀x∈s.toList,0<=x/\x<h.Laws.n:=λx hx=>by obtain⟨j,a,rfl⟩:=Bl0.1 hx;exact hs j (Bk1.1 a)
def Aq6 (b:3000000<=N){h:History}(a:okH N h){v:Nat}(c:v<h.Tree.n):∃L,Up h.Tree v L/\O7 N h (v:Int)=some (HJ (PL h (L.reverse.flatMap (Yg h))),0)/\Ca (HJ (PL h (L.reverse.flatMap (Yg h)))):=by obtain⟨l,l1,l2,l3,L,l4,l5⟩:=AS3 b a c;refine⟨L,l4,?_,by rw[<- l5];exact TL a (Yh l3)⟩;unfold O7;rw[l1,Ki];show (R7 N h l).bind _=_;rw[Aq5 b a l2 l3,l5];rfl
def At_ok (d:3000000<=N){h:History}(a:okH N h){w:Sl Jb}(hw:okA w)(v:Int):∃r,CB N h w v=some r/\(r.2=0->wOk r.1):=by
 have o:=a.on;unfold CB CV;rw[a.chk,Ki,Er (by decide)];obtain⟨e,e1,q⟩:=IK (N:=N) (by omega) hw;rw[e1];simp only[Ki];by_cases b:e=0
 case neg=>exact ifT (by simpa using b) ⟨_,rfl,λe=>Es e b⟩
 have f:wOk w:=(IJ q).1 b;refine ifF (by simp[b]) ?_;rw[U6,Ki];by_cases t:0<=v/\v<(h.Tree.n:Int)
 case neg=>exact Ai ⟨_,rfl,λe=>Es e (by decide)⟩
 refine Bk ?_;rw[Bc,Ki];obtain⟨u,rfl⟩:∃u:Nat,v=(u:Int):=⟨v.toNat,by omega⟩;obtain⟨L,l1,l2,l3,_⟩:=AJ4 d a.tree (v:=u) (by omega);refine B8 l1 ?_;refine Wc (λ(R:List Int) (z:Sl Jb)=>wOk z/\∀x∈R,∃u:Nat,x=(u:Int)/\u<h.Tree.n) (λz b=>⟨_,rfl,λ_=>b.1⟩) ?_ L _ ⟨f,l3⟩;rintro x R z j ⟨h1,m⟩ hs;obtain⟨u,rfl,hu⟩:=m x (by simp);have s1:=Aq5 d a (l:=h.On.g u) (by have:=a.row u (by omega);omega) (a.rng u (by omega));obtain⟨r,r1,r2⟩:=PJ d (TL a (Yh (a.rng u (by omega)))) (w:=z) λi s=>(h1.2 i s).ok;rw[Kg];refine Ad (B8 s1 (B8 r1 ?_));by_cases c:r.2=0
 .exact ifF (by simp[c]) (hs _ ⟨r2 c,λy hy=>m y (by simp[hy])⟩)
 exact ifT (by simpa using c) ⟨_,rfl,λe=>Es e c⟩
end Go.AM
namespace Go.AM
variable {N:Nat}
open IntKind (wrap)
open Go.Proofs
def TM (t:Sl Node)(v:Nat):Prop:=∀u,0<u->u<t.n->(t.g u).Parent≠(v:Int)
open Classical in
noncomputable def O2 (t:Sl Node):Nat->Sl Int
 |0=>Ir
 |i+1=>if TM t i then (O2 t i).push (i:Int)else O2 t i
def PM {t:Sl Node}{i:Nat}(h:TM t i):O2 t (i+1)=(O2 t i).push (i:Int):=Ej h
def TN {t:Sl Node}{i:Nat}(h:¬TM t i):O2 t (i+1)=O2 t i:=Er h
def Yi (t:Sl Node):∀i,(O2 t i).n<=i
 |0=>Bg5 0
 |i+1=>by
  have:=Yi t i
  by_cases h:TM t i
  .rw[PM h];show (O2 t i).n+1<=i+1;omega
  rw[TN h];omega
def Kr (t:Sl Node):∀i k,k<(O2 t i).n->∃v:Nat,v<i/\(O2 t i).g k=(v:Int)
 |0,k,hk=>Es hk (Bh2 k)
 |i+1,k,hk=>by
  by_cases h:TM t i
  .rw[PM h]at hk⊢;have hk:k<(O2 t i).n+1:=hk;show ∃v:Nat,v<i+1/\(if k<(O2 t i).n then (O2 t i).g k else (i:Int))=(v:Int);by_cases a:k<(O2 t i).n
   .rw[Ej a];obtain⟨v,h1,b⟩:=Kr t i k a;exact⟨v,by omega,b⟩
   rw[Er a];exact⟨i,by omega,rfl⟩
  rw[TN h]at hk⊢;obtain⟨v,h1,b⟩:=Kr t i k hk;exact⟨v,by omega,b⟩
def AE0 (s:3000000<=N){t:Sl Node}(ht:Ex t):∃X,AD N t=some X/\(X.n=t.n/\∀v,v<t.n->((X.g v).n=0↔TM t v)):=by
 have o:=ht.2.1;unfold AD;refine Ad (V5 (λi x (X:Sl (Sl Int))=>x=(i:Int)/\X.n=t.n/\∀v,v<t.n->(((X.g v).n=0 ↔ ∀u,0<u->u<i->(t.g u).Parent≠(v:Int))/\(X.g v).n<=i)) t.n _ (by omega)
  ⟨rfl,rfl,λv b=>⟨⟨λ_ u h1 a=>Es a (Bh2 u),λ_=>rfl⟩,Bg5 0⟩⟩ ?_)
 rintro l i x X hle ⟨rfl,c,f⟩ hs;by_cases hl:i<t.n
 case neg=>
  obtain rfl:i=t.n:=by omega
  exact Bl ⟨X,rfl,c,λv b=>(f v b).1⟩
 refine ifT (by simpa using hl) (Ad ?_);rw[Kg,Bq];rcases GA ht hl with⟨q,h1⟩ | ⟨p,hp,e⟩
 .subst q;rw[h1];refine ifT (by show Int.toNat (-1)<X.n;rw[c];exact hl) (ltX (Bl (hs hl _ _ ⟨rfl,c,λv b=>?_⟩)));have e:(X.upd (Int.toNat (-1)) (X.g (Int.toNat (-1)))).g v=X.g v:=by
   show (if v=_ then X.g (Int.toNat (-1))else X.g v)=X.g v;split
   .rename_i e;rw[e]
   rfl
  rw[e];obtain⟨g1,g2⟩:=f v b;exact⟨g1.trans ⟨λ_ u h1 a=>Es a (by omega),λ_ u h1 a=>Es a (by omega)⟩,by omega⟩
 rw[e,Kg];have j:p<t.n:=by omega
 have m:=(f p j).2;refine Ad (ltX (Ai (ifT ⟨⟨by omega,by rw[c];omega⟩,by omega,by omega⟩ (hs hl _ _ ⟨rfl,c,λv b=>?_⟩))));show ((if v=p then (X.g p).push (i:Int)else X.g v).n=0↔_)/\(if v=p then (X.g p).push (i:Int)else X.g v).n<=i+1;by_cases d:v=p
 .subst d;rw[Ej rfl];refine⟨⟨λh=>Es h (Nat.succ_ne_zero _),λh=>Es e (h i (by omega) (by omega))⟩,?_⟩;show (X.g v).n+1<=i+1;omega
 rw[Er d];obtain⟨g1,g2⟩:=f v b;refine⟨g1.trans ⟨λh u h1 a=>?_,λh u h1 a=>h u h1 (by omega)⟩,by omega⟩;by_cases r:u=i
 .subst r;rw[e];omega
 exact h u h1 (by omega)
def Bc9 {R:Type}{Q:R->Prop}{a:Sl Int->Int->Option R}{t:Sl Node}{i:Nat}(c:i<1000){b:Bool}(hb:b=true↔TM t i)(h:∃r,a (O2 t (i+1)) ((i+1:Nat):Int)=some r/\Q r) :∃r,(if b then
  if (Ke 8 ((O2 t i).n+(Sl.of [(i:Int)]:Sl Int).n))then
   a ((O2 t i).push (i:Int)) (wrap .i64 ((i:Int)+1))
  else none
  else a (O2 t i) (wrap .i64 ((i:Int)+1)))=some r/\Q r:=by
 have hn:=Yi t i;rw[Bq];by_cases hk:TM t i
 .rw[PM hk]at h;exact ifT (hb.2 hk) (ifT ⟨by show ((O2 t i).n+1)*8<=_;omega,by show (O2 t i).n+1<=_;omega⟩ h)
 rw[TN hk]at h;exact ifF (λg=>hk (hb.1 g)) h
def Yj (c:3000000<=N){t:Sl Node}(ht:Ex t):∃r,CW N t=some r/\r=O2 t t.n:=by
 have d:=ht.2.1;unfold CW;obtain⟨X,e,a,hk⟩:=AE0 c ht;refine B8 e (V5 (λi x1 x2=>x2=(i:Int)/\x1=O2 t i) t.n _ (by omega) ⟨rfl,rfl⟩ ?_);rintro b i x1 x2 hle ⟨rfl,rfl⟩ hs;by_cases hl:i<t.n
 .refine ifT (by rw[a];simpa using hl) (Ad ?_);rw[Kg];exact Bc9 (by omega) (by rw[<- hk i hl];simp) (hs hl _ _ ⟨rfl,rfl⟩)
 obtain rfl:i=t.n:=by omega
 exact ifF (by rw[a];simp) ⟨_,rfl,rfl⟩
def AE1 (l:3000000<=N){t:Sl Node}(ht:Ex t){v:Nat}(m:v<t.n):∃r,BY N t (v:Int)=some r/\(r.n=0↔TM t v):=by
 have f:=ht.2.1;unfold BY;refine V5 (λi (x1:Sl Int) x2=>x2=(i:Int)/\x1.n<=i/\(x1.n=0 ↔ ∀u,0<u->u<i->(t.g u).Parent≠(v:Int))) t.n _ (by omega) ⟨rfl,Bg5 0,λ_ u h1 a=>Es a (Bh2 u),λ_=>rfl⟩ ?_;rintro b i x1 x2 hle ⟨rfl,hn,c⟩ hs;by_cases hl:i<t.n
 .refine ifT (by simpa using hl) (Ad ?_);rw[Kg,Bq];by_cases hp:(t.g i).Parent=(v:Int)
  .have d:0<i:=by
    rcases GA ht hl with⟨d,h1⟩ | ⟨p,hp,e⟩
    .rw[h1]at hp;omega
    omega
   refine ifT (by simpa using hp) (ifT ⟨by show (x1.n+1)*8<=_;omega,by show x1.n+1<=_;omega⟩ (hs hl _ _ ⟨rfl,by show x1.n+1<=i+1;omega,λh=>Es h (Nat.succ_ne_zero _),λh=>Es hp (h i d (by omega))⟩))
  refine ifF (by simpa using hp) (hs hl _ _ ⟨rfl,by omega,c.trans ⟨λh u h1 a=>?_,λh u h1 a=>h u h1 (by omega)⟩⟩);by_cases j:u=i
  .subst j;exact hp
  exact h u h1 (by omega)
 obtain rfl:i=t.n:=by omega
 exact Bl ⟨_,rfl,c⟩
def IL (a:3000000<=N){t:Sl Node}(ht:Ex t):U1 N t=some (O2 t t.n,0)/\AE N t=some (O2 t t.n,0):=by
 have c:=ht.2.1;unfold U1 AE;rw[NJ a ht,AD8 a ht,Ki,Ki,Er (by decide),Er (by decide)];obtain⟨r,g1,rfl⟩:=Yj a ht;refine⟨by rw[g1];rfl,Zs (V5 (λi x1 x2=>x2=(i:Int)/\x1=O2 t i) t.n _ (by omega) ⟨rfl,rfl⟩ ?_)⟩;rintro b i x1 x2 hle ⟨rfl,rfl⟩ hs;by_cases hl:i<t.n
 .refine ifT (by simpa using hl) ?_;obtain⟨r,k1,k2⟩:=AE1 a ht hl;exact B8 k1 (Bc9 (by omega) (by rw[<- k2];simp) (hs hl _ _ ⟨rfl,rfl⟩))
 obtain rfl:i=t.n:=by omega
 exact Bl ⟨_,rfl,rfl⟩
def Hk {t:Sl Node}(ht:Ex t):(O2 t t.n).n<=63:=by have:=Yi t t.n;have:=ht.2.1;omega
end Go.AM
namespace Go.AM
variable {N:Nat}
open IntKind (wrap)
open Go.Proofs
def Bd0 {t:Sl Node}(ht:Ex t):∀(M v:Nat),v+2<=M->v<t.n->∃L,X4 M (λ(a:Int->Option (List Int)) (x1:Int)=>
 if (decide (0<=x1)) then
  Ah x1 (
   if ((0:Int)<=x1/\x1<(t.n:Int))then
    a (t.g x1.toNat).Parent
   else none
   )
 else
  some []) (v:Int)=some L/\L.length<=v+1/\Up t v L
 |0,v,hM,_=>by omega
 |M+1,v,hM,hv=>by
  rw[I3,Ej (by simp),Ch,Kg];rcases GA ht hv with⟨_,e⟩ | ⟨p,hp,e⟩
  .obtain⟨M,rfl⟩:∃K,M=K+1:=⟨M-1,by omega⟩;rw[e,I3,Er (by decide)];exact⟨[(v:Int)],rfl,by simp,.root e⟩
  obtain⟨L,l1,l2,l3⟩:=Bd0 ht M p (by omega) (by omega);rw[e,l1];exact⟨(v:Int)::L,rfl,by simp;omega,.step e l3⟩
def Bd1 {x:Sl Int}(hn:x.n<100000)(d:x.n<N):∃s,I5 N x=some s/\s.toList=x.toList.reverse:=by
 unfold I5;refine XZ (λi (x1:Sl Int) x2 x3=>x2=(i:Int)/\x3=(x.n:Int)-1-(i:Int)/\x1.n=x.n/\∀j,j<x.n->x1.g j=if j<i \/ x.n-1-i<j then x.g (x.n-1-j)else x.g j) x.n _ d ⟨rfl,(Lk).trans (by omega),rfl,λj a=>(Cm).symm⟩ ?_;rintro c i x1 x2 x3 f ⟨rfl,rfl,hx,a⟩ hs;by_cases hl:(i:Int)<(x.n:Int)-1-(i:Int)
 .have e3:((x.n:Int)-1-(i:Int)).toNat=x.n-1-i:=by omega
  refine ifT (by simpa using hl) (ifT (by rw[Sl.upd];dsimp only;omega) ?_);rw[Kg,e3];refine hs (by omega) _ _ _ ⟨Bq,by rw[Lk];omega,hx,λj b=>?_⟩;show (if j=x.n-1-i then x1.g i else if j=i then x1.g (x.n-1-i)else x1.g j)=_;by_cases e1:j=x.n-1-i
  .rw[Ej e1,Ch,a i (by omega),Cm,show x.n-1-j=i by omega]
  rw[Er e1];by_cases e2:j=i
  .rw[Ej e2,Ch,a _ (by omega),Cm,e2]
  rw[Er e2,a j b];by_cases e4:j<i \/ x.n-1-i<j
  .rw[Ej e4,Ch]
  rw[Er e4,Cm]
 refine ifF (by simpa using hl) ⟨_,rfl,Bw0 (by rw[Bu3,Ec,Ec,hx]) λj h1 l=>?_⟩;have h1:j<x.n:=by rw[Ec]at h1;omega
 rw[List.getElem_reverse];simp only[Sl.toList,List.getElem_map,Bu7,Bj6,Bs8];rw[a j h1];by_cases e4:j<i \/ x.n-1-i<j
 .rw[Ej e4]
 rw[Er e4,show x.n-1-j=j by omega]
def AS4 (c:3000000<=N){t:Sl Node}(ht:Ex t){v:Nat}(d:v<t.n):∃s L,Fq N t (v:Int)=some (s,0)/\s.n<=64/\s.toList=L.reverse/\Up t v L:=by
 have f:=ht.2.1;have hc:DV N t (Sl.of [(v:Int)]:Sl Int)=some 0:=by
  unfold DV;rw[NJ c ht,Ki,Er (by decide)];refine Zs (FC (λi x=>x=(i:Int)) 1 _ (by omega) rfl ?_);rintro a i x l rfl hs;by_cases hl:i<1
  .obtain rfl:i=0:=by omega
   exact Aj (Aj (Bk (hs hl _ (Bq))))
  exact Bk ⟨_,rfl,rfl⟩
 obtain⟨L,l1,l2,l3⟩:=Bd0 ht N v (by omega) d;have b:∃z,G6 N L=some z/\z.toList=L:=by unfold G6;refine Wc (λR (z:Sl Int)=>z.n+R.length=L.length/\z.toList++R=L) (λz b=>⟨z,rfl,by simpa using b.2⟩) ?_ L _ ⟨by simp,rfl⟩;rintro x R z a ⟨h1,g⟩ hs;simp only[Bi8]at h1;exact ifT (by show (z.n+1)*8<=_/\z.n+1<=_;omega) (hs _ ⟨by show z.n+1+_=_;omega,by rw[PK,<- g];simp⟩)
 obtain⟨z,z1,z2⟩:=b;have j:z.n=L.length:=by rw[<- z2,Ec]
 obtain⟨s,s1,s2⟩:=Bd1 (N:=N) (x:=z) (by omega) (by omega);refine⟨s,L,?_,by have:=congrArg List.length s2;rw[Ec,Bu3,Ec]at this;omega,by rw[s2,z2],l3⟩;unfold Fq;rw[hc,Ki,Er (by decide),Ly,Ki];show (Fo N (v:Int) t).bind _=_;unfold Fo;rw[l1,Ki];unfold U2;rw[z1,Ki,Ki,s1];rfl
def Up.mem {t:Sl Node}{v:Nat}{L:List Int}(h:Up t v L):v<t.n->Ex t->∀x∈L,∃u:Nat,u<t.n/\x=(u:Int):=by
 induction h with
 |root _=>exact λa _ x hx=>⟨_,a,Bl4.1 hx⟩
 |step h1 _ ih=>
  intro a ht x hx;rcases Bi3.1 hx with e|hx
  .exact⟨_,a,e⟩
  exact ih (by have:=(AJ3 ht a).2;omega) ht x hx
def lineP (h:History)(v:Nat)(X:Sl Law):Prop:=∃L,Up h.Tree v L/\X=HJ (PL h (L.reverse.flatMap (Yg h)))
def lineP.det {h:History}{v:Nat}{X Y:Sl Law}(a:lineP h v X)(b:lineP h v Y):X=Y:=by obtain⟨L,l1,rfl⟩:=a;obtain⟨M,m1,rfl⟩:=b;rw[l1.det m1]
def lineP.laws {N:Nat}{h:History}(a:okH N h){v:Nat}(b:v<h.Tree.n){X:Sl Law}(c:lineP h v X):Ca X:=by obtain⟨L,l1,rfl⟩:=c;have d:=a.on;refine TL a λx hx=>?_;obtain⟨y,hy,hx⟩:=Bw1.1 hx;obtain⟨u,f,rfl⟩:=l1.mem b a.tree y (Bt3.1 hy);rw[Yg,Kg]at hx;exact Yh (a.rng u (by omega)) x hx
def Ae2 (hN:3000000<=N){h:History}(f:okH N h):∃X,Z3 N h (-1)=some X/\(X.n=(O2 h.Tree h.Tree.n).n/\∀k,k<X.n->lineP h ((O2 h.Tree h.Tree.n).g k).toNat (X.g k)):=by
 have a3:=Hk f.tree;have hon:=f.on;have t:∀k,k<(O2 h.Tree h.Tree.n).n->∃u:Nat,u<h.Tree.n/\(O2 h.Tree h.Tree.n).g k=(u:Int):=λk hk=>Kr h.Tree h.Tree.n k hk;unfold Z3;refine B8 (IL hN f.tree).1 ?_;generalize O2 h.Tree h.Tree.n=s at a3 t;refine ifT (by dsimp only;omega) (ifT (by dsimp only;omega) ?_);dsimp only;refine XZ (λi (K:Nat) (X:Sl (Sl Law)) y=>i=K/\y=(i:Int)/\X.n=s.n/\∀k,(k<i->lineP h (s.g k).toNat (X.g k))/\(i<=k->X.g k=Sl.nil)) s.n _ (by omega) ⟨rfl,rfl,rfl,λk=>⟨λh=>Es h (Bh2 k),λ_=>rfl⟩⟩ ?_;rintro self i K X y hle ⟨rfl,rfl,hX,b⟩ hs;by_cases hl:i<s.n
 case neg=>exact Bk (ifT ⟨by omega,hX⟩ ⟨_,rfl,hX,λk hk=>(b k).1 (by omega)⟩)
 obtain⟨u,hu,x⟩:=t i hl;obtain⟨w,L,w1,w2,w3,w4⟩:=AS4 hN f.tree hu;have a0:=w4.mem hu f.tree;refine Ai (Ad ?_);rw[Kg,x];refine B8 w1 ?_;dsimp only;refine V5 (λm (X' : Sl (Sl Law)) z=>z=(m:Int)/\X'.n=s.n/\X'.g i=HJ (PL h ((w.toList.take m).flatMap (Yg h)))/\((w.toList.take m).flatMap (Yg h)).length<=5*m/\∀k,k≠i->X'.g k=X.g k) w.n _ (by omega) ⟨rfl,hX,(b i).2 (Bg5 i),Bn0 _,λk _=>rfl⟩ ?_;rintro self2 m X' z hm ⟨rfl,a1,j,hn',l⟩ hs2;by_cases o:m<w.n
 case neg=>
  rw[Bm3 (by rw[Ec];omega),w3]at j;refine Bk (ifT ⟨rfl,hl⟩ (hs hl _ _ _ ⟨rfl,Bq,a1,λk=>⟨λh=>?_,λh=>?_⟩⟩))
  .by_cases e:k=i
   .subst e;rw[x];exact⟨L,w4,j⟩
   rw[l k e];exact (b k).1 (by omega)
  rw[l k (by omega)];exact (b k).2 (by omega)
 obtain⟨v,hv,a2⟩:=a0 (w.g m) (Bt3.1 (w3 ▸ Bl0.2 ⟨m,Bk1.2 o,rfl⟩));have hrow:=f.row v (by omega);have hT:(w.toList.take (m+1)).flatMap (Yg h)=(w.toList.take m).flatMap (Yg h)++(h.On.g v).toList:=by rw[Mg o,By4,a2];simp[Yg]
 refine Ai ?_;rw[Kg,a2,Kg];refine Ad ?_;refine V5 (λq (X'' : Sl (Sl Law)) z=>z=(q:Int)/\X''.n=s.n/\X''.g i=HJ (PL h ((w.toList.take m).flatMap (Yg h)++(h.On.g v).toList.take q))/\∀k,k≠i->X''.g k=X.g k) (h.On.g v).n _ (by omega) ⟨rfl,a1,by rw[j,Bt0,Bk6],l⟩ ?_;rintro self3 q X'' z hq ⟨rfl,c,a,d⟩ hs3;by_cases r:q<(h.On.g v).n
 case neg=>rw[Bm3 (show (h.On.g v).toList.length<=q by rw[Ec];omega)]at a;exact Bk (hs2 o _ _ ⟨Bq,c,by rw[a,hT],by rw[hT,Bi1,Ec];omega,d⟩)
 have hvq:=f.rng v (by omega) q r;have hb:(X''.g i).n<=5*m+q:=by
  rw[a,Aq4,Bj6,Bi1]
  have:=Bu4 q (h.On.g v).toList
  omega
 refine Ai (Ad ?_);rw[Kg];refine Ai (Ad (Ad (Ad (hs3 r _ _ ⟨Bq,c, ?_,λk hk=>?_⟩))))
 .show (if i=i then (X''.g i).push _ else _)=_;rw[Ej rfl,a,Mg r,<- Bo5];show _=HJ (List.map _ (_++[(h.On.g v).g q]));rw[Bo7];exact (Mi _ _).symm
 show (if k=i then _ else X''.g k)=_;rw[Er hk];exact d k hk
def Bf4 (p:Int):Str:=[UInt8.ofNat (wrap .u8 p).toNat,UInt8.ofNat (wrap .u8 (shI .shr .u32 p 8)).toNat,UInt8.ofNat (wrap .u8 (shI .shr .u32 p 16)).toNat]
def Af4 (s:Jb):Str:=Bf4 s.Plus++Bf4 s.Minus
def TO (s:Sl Int):Ab0 s=s.toList.map λi=>UInt8.ofNat i.toNat:=by show _=((List.range s.n).map s.g).map _;rw[Bn4];rfl
def Wj (s t:Sl Int):Ab0 (s.app t)=Ab0 s++Ab0 t:=by rw[TO,TO,TO,AJ5,Bo7]
def Bd2 (d:3000000<=N){w:Sl Jb}(c:w.n<=32):DX N w=some (w.toList.flatMap Af4):=by
 refine Zs ?_;unfold DX;refine V5 (λm (x1:Sl Int) x2=>x2=(m:Int)/\x1.n=6*m/\Ab0 x1=(w.toList.take m).flatMap Af4) w.n _ (by omega) ⟨rfl,rfl,rfl⟩ ?_;rintro a m x1 x2 hm ⟨rfl,f,b⟩ hs;by_cases hl:m<w.n
 .refine Ai (Ad (ifT (by show (x1.n+3)*1<=_/\x1.n+3<=_;omega) (ifT (by show (x1.n+3+3)*1<=_/\x1.n+3+3<=_;omega) (hs hl _ _ ⟨Bq,by show x1.n+3+3=_;omega,?_⟩))));rw[Wj,Wj,b,Mg hl,By4,Bo5,Kg];simp only[Bp9,List.flatMap_nil,Bk6];rfl
 exact Bk ⟨_,rfl,by rw[b,Bm3 (by rw[Ec];omega)]⟩
abbrev Yk:List Jb:=[⟨2,5⟩,⟨3,4⟩,⟨5,2⟩]
def AS5:∀s∈Yk,∀t∈Yk,Af4 s=Af4 t->s=t:=by decide +kernel
def Zu:∀(L M:List Jb),(∀s∈L,s∈Yk)->(∀s∈M,s∈Yk)->L.flatMap Af4=M.flatMap Af4->L=M
 |[],[],_,_,_=>rfl
 |[],b::M,_,_,h=>by
  have:=congrArg List.length h
  simp[Bp9,Af4,Bf4]at this
 |a::L,[],_,_,h=>by
  have:=congrArg List.length h
  simp[Bp9,Af4,Bf4]at this
 |a::L,b::M,hL,hM,h=>by rw[Bp9,Bp9]at h;obtain⟨h1,c⟩:=List.append_inj h rfl;rw[AS5 a (hL a (by simp)) b (hM b (by simp)) h1,Zu L M (λs hs=>hL s (by simp[hs])) (λs hs=>hM s (by simp[hs])) c]
def wrd (w:Sl Jb):Prop:=∃L:List Jb,(∀s∈L,s∈Yk)/\w=HJ L
def wrd.inj {v w:Sl Jb}(a:wrd v)(hw:wrd w)(h:v.toList.flatMap Af4=w.toList.flatMap Af4):v=w:=by obtain⟨L,l1,rfl⟩:=a;obtain⟨M,m1,rfl⟩:=hw;rw[NK,NK]at h;rw[Zu L M l1 m1 h]
def drv (N:Nat)(X:Sl (Sl Law))(k:Nat)(w:Sl Jb):F3:=match K0 N (X.g k) w with
 |some r=>⟨r.2==0,r.1⟩
 |none=>⟨false,w⟩
def Aq7 (a:3000000<=N){X:Sl (Sl Law)}{k:Nat}(b:Ca (X.g k)){w:Sl Jb}(hw:wOk w):∃r,K0 N (X.g k) w=some r/\drv N X k w=⟨r.2==0,r.1⟩/\(r.2=0->wOk r.1):=by obtain⟨r,r1,r2⟩:=PJ a b (w:=w) λi c=>(hw.2 i c).ok;refine⟨r,r1,?_,r2⟩;unfold drv;rw[r1]
def AS6 (N:Nat)(X:Sl (Sl Law))(M:Sl (List (Str×F3))):Prop:=M.n=X.n/\∀k,∀a f,(a,f)∈M.g k->∀w,wrd w->w.toList.flatMap Af4=a->f=drv N X k w
def Wk {k:Str}{v:F3}:∀{es:List (Str×F3)},T0 eqS k es=some v->(k,v)∈es
 |[],h=>by cases h
 |(a,x)::es,h=>by
  unfold T0 at h;by_cases e:eqS k a=true
  .rw[Ej e]at h;obtain rfl:=Bl5 h;rw[show k=a by simpa[eqS]using e];simp
  rw[Er e]at h;exact Bh3 _ (Wk h)
def Zv {k a:Str}{v f:F3}:∀{es:List (Str×F3)},(a,f)∈Eh eqS k v es->(a,f)∈es \/ (a=k/\f=v)
 |[],h=>by simp only[Eh,Bl4,Bg4]at h;exact .inr h
 |(b,x)::es,h=>by
  unfold Eh at h;by_cases e:eqS k b=true
  .rw[Ej e]at h;rcases Bi3.1 h with h|h
   .simp only[Bg4]at h;exact .inr h
   exact .inl (Bh3 _ h)
  rw[Er e]at h;rcases Bi3.1 h with h|h
  .exact .inl (by rw[h];simp)
  exact (Zv h).imp (Bh3 _) id
def AS7 (l:3000000<=N){X:Sl (Sl Law)}{p:F3}(hp:p.Has=true->wrd p.W/\wOk p.W){k:Nat}(hk:k<X.n)(m:Ca (X.g k)){M:Sl (List (Str×F3))}(i:AS6 N X M) :∃M',J5 N p (k:Int) M X=some (if p.Has then (drv N X k p.W).W else Sl.nil,p.Has&&(drv N X k p.W).Has,M')/\AS6 N X M':=by
 have j:=i.1;unfold J5;by_cases b:p.Has=true
 case neg=>exact⟨M,by rw[Ej (by simpa using b),Er b,show p.Has=false by simpa using b];rfl,i⟩
 obtain⟨hc,hw⟩:=hp b;rw[Er (by simp[b]),Kg,Ch,Ch,Bd2 l hw.1,Ki,Ej b,b,By8];cases ha:T0 eqS (p.W.toList.flatMap Af4) (M.g k)with
 |some v=>have e:=i.2 k _ v (Wk ha) p.W hc rfl;exact⟨M,by rw[<- e];rfl,i⟩
 |none=>
  obtain⟨r,r1,r2,r3⟩:=Aq7 l m hw;rw[CL,Ch,r1,Ki,r2];refine⟨_,rfl,j,λq a f hm w c d=>?_⟩;replace hm:(a,f)∈(if q=k then Eh eqS _ (⟨r.2==0,r.1⟩:F3) (M.g k)else M.g q):=hm;by_cases e:q=k
  .rw[Ej e]at hm;rcases Zv hm with hm|⟨e1,e2⟩
   .subst e;exact i.2 q a f hm w c d
   rw[e2,e,c.inj hc (d.trans e1),r2]
  rw[Er e]at hm;exact i.2 q a f hm w c d
end Go.AM
namespace Go.AM
variable {N:Nat}
open IntKind (wrap)
open Go.Proofs
abbrev okF (f:F3):Prop:=wOk f.W/\(f.Has=false->f.W.n=0)
structure okE (p:Sl F3) (l:Sl Entry) (F:Nat):Prop where
 n:l.n<=256
 pn:p.n=l.n
 pf:∀i,i<p.n->okF (p.g i)
 fn:∀i,i<l.n->(l.g i).Forms.n=F
 ff:∀i,i<l.n->∀k,k<(l.g i).Forms.n->okF ((l.g i).Forms.g k)
 nm:∀i,i<l.n->Nw (l.g i).Gloss=true
def Zw {l:Sl F3}(c:l.n<N)(hn:l.n<1000000)(hl:∀i,i<l.n->okF (l.g i)):Aa N l=some true:=by
 have h:E2 N l (λ(u1:F3)=>Ce N u1)=some (-1):=by
  unfold E2;refine Zs (FC (λi x1=>x1=(i:Int)) l.n _ c rfl ?_);rintro b i x1 j rfl hs;by_cases a:i<l.n
  .refine Ai (Ad (B8 rfl ?_));rw[Kg];have d:=(hl i a).2;refine ifF ?_ (hs a _ (Bq));cases f:(l.g i).Has
   .rw[d f];simp
   simp
  exact Bk ⟨_,rfl,rfl⟩
 unfold Aa E9;rw[h];rfl
def Zx (d:1000<=N){l:Sl F3}(hn:l.n<1000)(hl:∀i,i<l.n->okF (l.g i)):Ab N l=some 0:=by
 unfold Ab;refine Zs (FC (λi x1=>x1=(i:Int)) l.n _ (by omega) rfl ?_);rintro b i x1 f rfl hs;by_cases a:i<l.n
 .obtain⟨hw,_⟩:=hl i a;obtain⟨e,e1,c⟩:=IK (N:=N) (by omega) λk hk=>(hw.2 k hk).ok;obtain rfl:=(IJ c).2 hw;exact Ai (Ad (B8 (by rw[Kg];exact e1) (Bp (hs a _ (Bq)))))
 exact Bk ⟨_,rfl,rfl⟩
def Aq8 (b:3000000<=N){s:Str}(hs:Nw s=true):BZ N s=some true:=by
 unfold BZ;rw[NJ b (t:=Sl.of [⟨-1,s⟩]) ⟨Bg5 1,by show 1<=63;omega,λv a=>?_⟩];rfl;obtain rfl:v=0:=by have a:v<1:=a;omega
 exact⟨λ_=>rfl,λh=>Es h (by omega),hs,λu c=>Es c (by omega)⟩
def Wl (g:3000000<=N){h:History}(c:okH N h){p:Sl F3}{l:Sl Entry}(hl:okE p l (O2 h.Tree h.Tree.n).n):U7 N h p l=some 0:=by
 have o:=Hk c.tree;have hn:=hl.n;have q:=hl.pn;have r:Z2 N l (((O2 h.Tree h.Tree.n).n:Nat):Int)=some 0:=by
  unfold Z2;refine Zs (FC (λi x1=>x1=(i:Int)) l.n _ (by omega) rfl ?_);rintro b i x1 j rfl hs;by_cases a:i<l.n
  .have m:=hl.fn i a;refine Ai (Ad (ltX ?_));rw[Kg];exact ifF (by simp[m]) (B8 (Zw (by omega) (by omega) (hl.ff i a)) (Bp (hs a _ (Bq))))
  refine Bk (FC (λi x1=>x1=(i:Int)) l.n _ (by omega) rfl ?_);rintro d i x1 j rfl f;by_cases a:i<l.n
  .exact Ai (Ad (B8 (by rw[Kg];exact Aq8 g (hl.nm i a)) (Bp (f a _ (Bq)))))
  exact Bk ⟨_,rfl,rfl⟩
 unfold U7;refine Zs (B8 (c.chk) (Bp (B8 (IL g c.tree).1 (Bk (ltX ?_)))));refine Bk (B8 (Zw (by omega) (by omega) hl.pf) (Bp ?_));refine B8 r (Bp (B8 (Zx (by omega) (by omega) hl.pf) (Bp ?_)));refine FC (λi x1=>x1=(i:Int)) l.n _ (by omega) rfl ?_;rintro b i x1 j rfl hs;by_cases a:i<l.n
 .have m:=hl.fn i a;exact Ai (Ad (B8 (by rw[Kg];exact Zx (by omega) (by omega) (hl.ff i a)) (Bp (hs a _ (Bq)))))
 exact Bk ⟨_,rfl,rfl⟩
def AE2 (i:Nat):Nat->Nat->List B7
 |0,_=>[]
 |m+1,k=>⟨(i:Int),(k:Int)⟩::AE2 i m (k+1)
def Jc (w:Nat->Nat):Nat->Nat->List B7
 |0,_=>[]
 |m+1,i=>AE2 i (w i) 0++Jc w m (i+1)
def Zy {i:Nat}{q:B7}:∀{m k:Nat},q∈AE2 i m k->∃j:Nat,q=⟨(i:Int),(j:Int)⟩/\j<k+m
 |0,_,h=>by cases h
 |m+1,k,h=>by
  rcases Bi3.1 h with rfl|h
  .exact⟨k,rfl,by omega⟩
  obtain⟨j,e,a⟩:=Zy h;exact⟨j,e,by omega⟩
def Wm {w:Nat->Nat}{q:B7}:∀{m i:Nat},q∈Jc w m i->∃a b:Nat,q=⟨(a:Int),(b:Int)⟩/\a<i+m/\b<w a
 |0,_,h=>by cases h
 |m+1,i,h=>by
  rcases Bu2.1 h with h|h
  .obtain⟨j,e,c⟩:=Zy h;exact⟨i,j,e,by omega,by omega⟩
  obtain⟨a,b,e,ha,hb⟩:=Wm h;exact⟨a,b,e,by omega,hb⟩
def Zz {i:Nat}:∀m k,(AE2 i m k).length=m
 |0,_=>rfl
 |m+1,k=>congrArg (· + 1) (Zz m (k+1))
def PN {w:Nat->Nat}:∀{m i:Nat},(∀a,a<i+m->w a<=63)->(Jc w m i).length<=m*63
 |0,_,_=>Bn0 _
 |m+1,i,h=>by have h1:=PN (w:=w) (m:=m) (i:=i+1) λa ha=>h a (by omega);have b:=h i (by omega);rw[Jc,Bi1,Zz];omega
abbrev fwL (l:Sl Entry)(i:Nat):Nat:=(l.g i).Forms.n
abbrev frm (l:Sl Entry)(q:B7):F3:=(l.g q.a0.toNat).Forms.g q.a1.toNat
abbrev atP (l:Sl Entry)(q:B7):CF×Sl Jb:=(⟨q.a0,q.a1⟩,(frm l q).W)
def AJ6 {l:Sl Entry}{i:Nat}(c:i<l.n){R:List (CF×Sl Jb)}{rest:Option (List (CF×Sl Jb))}(b:rest=some R)(hn:(l.g i).Forms.n<100000):∀(m M k:Nat),k+m=(l.g i).Forms.n->m<M->X4 M (λ(a:Int->Option (List (CF×Sl Jb))) (x4:Int)=>
 if (decide (x4<((l.g i).Forms.n:Int))) then
  if ((0:Int)<=x4/\x4<((l.g i).Forms.n:Int))then
   if ((l.g i).Forms.g x4.toNat).Has then
    Ah ((⟨(i:Int),x4⟩:CF),((l.g i).Forms.g x4.toNat).W) (
     a (wrap .i64 (x4+1))
     )
   else
    a (wrap .i64 (x4+1))
  else none
 else
  rest) (k:Int)=some (((AE2 i m k).filter λq=>(frm l q).Has).map (atP l)++R)
 |0,M,k,hk,hM=>by obtain⟨M,rfl⟩:∃K,M=K+1:=⟨M-1,by omega⟩;rw[I3,Dl];exact b
 |m+1,M,k,hk,hM=>by obtain⟨M,rfl⟩:∃K,M=K+1:=⟨M-1,by omega⟩;have h1:=AJ6 c b hn m M (k+1) (by omega) (by omega);rw[I3,Ck,Ch,Kg,Bq,h1,AE2,List.filter_cons];simp only[frm,Kg];split<;>rfl
def AS8 {l:Sl Entry}{F:Nat}(o:1000000<=N)(hn:l.n<=256)(r:F<=63)(c:∀i,i<l.n->(l.g i).Forms.n=F):X8 N l=some (((Jc (fwL l) l.n 0).filter λq=>(frm l q).Has).map (atP l)):=by
 have key:∀(m M i:Nat),i+m=l.n->m<M->X4 M (λ(b:Int->Option (List (CF×Sl Jb))) (x2:Int)=>
  if (decide (x2<(l.n:Int))) then
   if ((0:Int)<=x2/\x2<(l.n:Int))then
    X4 N (λa (x4:Int)=>
     if (decide (x4<((l.g x2.toNat).Forms.n:Int))) then
      if ((0:Int)<=x4/\x4<((l.g x2.toNat).Forms.n:Int))then
       if ((l.g x2.toNat).Forms.g x4.toNat).Has then
        Ah ((⟨x2,x4⟩:CF),((l.g x2.toNat).Forms.g x4.toNat).W) (
         a (wrap .i64 (x4+1))
         )
       else
        a (wrap .i64 (x4+1))
      else none
     else
      b (wrap .i64 (x2+1))
     ) 0
   else none
  else
   some []) (i:Int)=some (((Jc (fwL l) m i).filter λq=>(frm l q).Has).map (atP l)):=by
  intro m
  induction m with
  |zero=>intro M i d f;obtain⟨M,rfl⟩:∃K,M=K+1:=⟨M-1,by omega⟩;rw[I3,Dl];rfl
  |succ m ih=>intro M i d f;obtain⟨M,rfl⟩:∃K,M=K+1:=⟨M-1,by omega⟩;have j:=c i (by omega);rw[I3,Ck,Ch,Kg,Bq,Jc,List.filter_append,Bo7];exact AJ6 (by omega) (ih M (i+1) (by omega) (by omega)) (by omega) _ N 0 (Bj2 _) (by show (l.g i).Forms.n<N;omega)
 exact key l.n N 0 (by omega) (by omega)
def badB (N:Nat)(p:Sl F3)(X:Sl (Sl Law))(c:Int)(a:(Sl (List (Str×F3)))×(Sl A8)->Option (Sl A8×Int))(x1:CF×(Sl Jb))(z1:(Sl (List (Str×F3)))×(Sl A8)):Option (Sl A8×Int):= if ((0:Int)<=x1.1.entry/\x1.1.entry<(p.n:Int))then (J5 N (p.g x1.1.entry.toNat) x1.1.leaf z1.1 X).bind λy8=>if (!y8.2.1) then if (Ke 32 (z1.2.n+(Sl.of [(⟨x1.1.entry,x1.1.leaf,2,c⟩:A8)]:Sl A8).n))then a (y8.2.2,z1.2.push (⟨x1.1.entry,x1.1.leaf,2,c⟩:A8)) else none else (R5 N y8.1 x1.2).bind λy9=>if (!y9) then if (Ke 32 (z1.2.n+(Sl.of [(⟨x1.1.entry,x1.1.leaf,1,c⟩:A8)]:Sl A8).n))then a (y8.2.2,z1.2.push (⟨x1.1.entry,x1.1.leaf,1,c⟩:A8)) else none else a (y8.2.2,z1.2) else none
def kdX (N:Nat)(X:Sl (Sl Law))(p f:F3)(k:Nat):Option Int:= if f.Has then (if (p.Has&&(drv N X k p.W).Has) then (if R5 N (drv N X k p.W).W f.W=some true then none else some 1)else some 2)else none
def exQ (N:Nat)(X:Sl (Sl Law))(p:Sl F3)(l:Sl Entry)(c:Int)(q:B7):Option A8:=(kdX N X (p.g q.a0.toNat) (frm l q) q.a1.toNat).map λt=>⟨q.a0,q.a1,t,c⟩
def AJ7 {N:Nat}(j:3000000<=N){p:Sl F3}{l:Sl Entry}{F:Nat}(hl:okE p l F)(hw:∀i,i<p.n->(p.g i).Has=true->wrd (p.g i).W){X:Sl (Sl Law)}(x2:X.n=F)(x3:∀k,k<X.n->Ca (X.g k)){c:Int}:∀(R:List B7) (M:Sl (List (Str×F3))) (z:Sl A8),AS6 N X M->z.n+R.length<=16128->(∀q∈R,(∃i k:Nat,q=⟨(i:Int),(k:Int)⟩/\i<l.n/\k<(l.g i).Forms.n)/\(frm l q).Has=true) ->
 ∃y,T1 (R.map (atP l)) (badB N p X c) (λz1=>some (z1.2,0)) (M,z)=some y/\(y.2=0/\y.1.toList=z.toList++R.filterMap (exQ N X p l c))
 |[],M,z,_,_,_=>⟨_,rfl,rfl,by simp⟩
 |q::R,M,z,h3,o,h5=>by
  obtain⟨⟨i,k,rfl,u,hk⟩,s⟩:=h5 q (by simp);have o:z.n+(R.length+1)<=16128:=o;have v:=hl.pn;have a : k<X.n:=by rw[x2,<- hl.fn i u];exact hk
  have f:=(hl.pf i (by omega)).1;obtain⟨M',r1,r2⟩:=AS7 j (p:=p.g i) (λh=>⟨hw i (by omega) h,f⟩) a (x3 k a) h3;obtain⟨r,_,d2,d3⟩:=Aq7 j (X:=X) (k:=k) (x3 k a) f;have ih:=AJ7 (c:=c) j hl hw x2 x3 R M';have ih:=λz' m=>ih z' r2 m λq w=>h5 q (by simp[w]);have b:(0:Int)<=(i:Int)/\(i:Int)<(p.n:Int):=by omega
  have rr:=(show J5 N (p.g (i:Int).toNat) (k:Int) M X=J5 N (p.g i) (k:Int) M X by rw[Kg]).trans r1;simp only[frm,Kg]at s;have go:∀t:Int,exQ N X p l c ⟨(i:Int),(k:Int)⟩=some ⟨(i:Int),(k:Int),t,c⟩->∃y,T1 (R.map (atP l)) (badB N p X c) (λz1=>some (z1.2,0)) (M',z.push ⟨(i:Int),(k:Int),t,c⟩)=some y/\(y.2=0/\y.1.toList=z.toList++((⟨(i:Int),(k:Int)⟩:B7)::R).filterMap (exQ N X p l c)):=λt ht=>by obtain⟨y,y1,y2,y3⟩:=ih (z.push ⟨(i:Int),(k:Int),t,c⟩) (by show z.n+1+_<=_;omega);exact⟨y,y1,y2,by rw[y3,PK,Bu5,ht];simp⟩
  have ex:exQ N X p l c ⟨(i:Int),(k:Int)⟩=(kdX N X (p.g i) ((l.g i).Forms.g k) k).map λt=>⟨(i:Int),(k:Int),t,c⟩:=rfl;rw[kdX,Ej s]at ex;have sz:(z.n+(Sl.of [(⟨(i:Int),(k:Int),2,c⟩:A8)]:Sl A8).n)*32<=140737488355328/\z.n+(Sl.of [(⟨(i:Int),(k:Int),2,c⟩:A8)]:Sl A8).n<=140737488355328:=by show (z.n+1)*32<=_/\z.n+1<=_;omega
  by_cases hb:((p.g i).Has&&(drv N X k (p.g i).W).Has)=true
  case neg=>exact ifT b (B8 rr (ifT (show (!((p.g i).Has&&(drv N X k (p.g i).W).Has))=true by rw[Bool.eq_false_iff.2 hb];rfl) (ifT sz (go 2 (by rw[ex,Er hb];rfl)))))
  rw[Ej hb]at ex;have d:(p.g i).Has=true/\(drv N X k (p.g i).W).Has=true:=by simpa using hb
  have a0:(drv N X k (p.g i).W).W.n<=32:=by rw[d2]at d⊢;exact (d3 (by simpa using d.2)).1
  rw[Ej d.1]at rr;obtain⟨e,e1⟩:=Aq1 (N:=N) (x:=(drv N X k (p.g i).W).W) (y:=((l.g i).Forms.g k).W) (by omega) (by omega);rw[e1]at ex;have e1' : R5 N (drv N X k (p.g i).W).W ((l.g (i:Int).toNat).Forms.g (k:Int).toNat).W=some e:=by rw[Kg,Kg];exact e1
  cases e
  .exact ifT b (B8 rr (ifF (by simp[hb]) (B8 e1' (ifT rfl (ifT sz (go 1 ex))))))
  obtain⟨y,y1,y2,y3⟩:=ih z (by omega);exact ifT b (B8 rr (ifF (by simp[hb]) (B8 e1' (Bp ⟨y,y1,y2,by rw[y3,Bu5,ex];rfl⟩))))
def AS9 (o:3000000<=N){h:History}(j:okH N h){p:Sl F3}{l:Sl Entry}(hl:okE p l (O2 h.Tree h.Tree.n).n)(hw:∀i,i<p.n->(p.g i).Has=true->wrd (p.g i).W) :∃X:Sl (Sl Law),X.n=(O2 h.Tree h.Tree.n).n/\(∀k,k<X.n->lineP h ((O2 h.Tree h.Tree.n).g k).toNat (X.g k))/\∀c:Int,0<=c/\c<=1073741824->∃b,DY N h p l c=some (b,0)/\b.toList=(Jc (fwL l) l.n 0).filterMap (exQ N X p l c):=by
 obtain⟨X,x1,x2,x3⟩:=Ae2 o j;have d:=Hk j.tree;have hn:=hl.n;have a1:=AS8 (N:=N) (by omega) hl.n d hl.fn;have x4:∀k,k<X.n->Ca (X.g k):=λk hk=>by obtain⟨v,u,e⟩:=Kr h.Tree h.Tree.n k (by omega);exact (x3 k hk).laws j (by rw[e];exact u)
 refine⟨X,x2,x3,λc hc=>?_⟩;have t:=PN (w:=fwL l) (m:=l.n) (i:=0) λa hx=>by show (l.g a).Forms.n<=_;rw[hl.fn a (by omega)];exact d
 have r:=Bx2 (λq=>(frm l q).Has) (Jc (fwL l) l.n 0);obtain⟨⟨b,e⟩,y1,y2,y3⟩:=AJ7 (c:=c) o hl hw x2 x4 ((Jc (fwL l) l.n 0).filter λq=>(frm l q).Has) ⟨X.n,λ_=>[]⟩ Sl.nil ⟨rfl,λk a f hm=>by cases hm⟩ (by show 0+_<=_;omega) (λq s=>by obtain⟨h1,x⟩:=Br2.1 s;obtain⟨a,b,e,ha,hb⟩:=Wm h1;exact⟨⟨a,b,e,by omega,hb⟩,x⟩)
 obtain rfl:e=0:=y2;refine⟨b,?_,?_⟩
 .unfold DY;rw[Wl o j hl,Ki,Er (by decide),Dl,x1,Ki,Bd,Ki,a1,Ki];exact y1
 have y3:b.toList=((Jc (fwL l) l.n 0).filter λq=>(frm l q).Has).filterMap (exQ N X p l c):=y3;rw[y3,List.filterMap_filter];congr 1;funext q;split
 .rfl
 rename_i s;unfold exQ kdX;rw[Er s];rfl
end Go.AM
namespace Go.AM
open IntKind (wrap)
open Go.Proofs
def AE3 {N:Nat}(hN:3000000<=N){h:History}(a:okH N h){u k:Nat}(hu:u<h.Tree.n)(hk:k+1<(h.On.g u).n) :∃r,R8 N h (u:Int) (k:Int)=some r/\(r.2=0/\r.1.Tree=h.Tree/\wkH r.1):=by
 have h63:=a.tree.2.1;have t:=a.ln;have hon:=a.on;have ho:=a.row u (by omega);unfold R8;have eP:wrap .i64 (((h.On.g u).n:Int)-1)=(((h.On.g u).n-1:Nat):Int):=AC4 (by omega) (by omega);refine B8 a.chk (Bp (B8 rfl ?_));rw[Kg,Kg,eP];have d:((decide (0<=(u:Int)))&&(decide ((u:Int)<(h.Tree.n:Int))))=true:=by simp;omega
 rw[d];refine ifT (λ_ _=>by omega) (Bk ?_);refine B8 (x:=h.Tree) (Ch) ?_;refine V5 (λi (x1:Sl Law) x2=>x2=(i:Int)/\x1.n=i/\Ca x1) h.Laws.n _ (by omega) ⟨rfl,rfl,λj b=>Es b (Bh2 j)⟩ ?_;rintro y i x1 x2 hle ⟨rfl,hx,b⟩ hs;by_cases f:i<h.Laws.n
 .have q1:=Wi hN (a.laws i f);refine Ai (Ad ?_);rw[Kg];refine B8 q1 (ifT (by show (x1.n+1)*200<=_/\x1.n+1<=_;omega) (hs f _ _ ⟨Bq,by show x1.n+1=_;omega,λj m=>?_⟩));show TI (if j<x1.n then x1.g j else h.Laws.g i);split
  .exact b j (by assumption)
  exact (a.laws i f).1
 refine Bk ?_;clear hs;refine V5 (λv (x3:Sl (Sl Int)) x4=>x4=(v:Int)/\x3.n=v/\∀j,j<v->x3.g j=h.On.g j) h.On.n _ (by omega) ⟨rfl,rfl,λj b=>Es b (by omega)⟩ ?_;rintro o v x3 x4 hv ⟨rfl,hx3,c⟩ q;by_cases l:v<h.On.n
 .have z:=a.row v l;refine Ai (Ad ?_);rw[Kg];refine B8 (x:=h.On.g v) (Ch) (ifT (by show (x3.n+1)*24<=_/\x3.n+1<=_;omega) (q l _ _ ⟨Bq,by show x3.n+1=_;omega,λj m=>?_⟩));show (if j<x3.n then x3.g j else h.On.g v)=_;by_cases e:j=v
  .subst e;rw[Cm]
  rw[Ch];exact c j (by omega)
 have eK:wrap .i64 ((k:Int)+1)=((k+1:Nat):Int):=Bq;rw[eK,Kg,c u (by omega)];refine Bk (Ad (Ad ⟨_,rfl,rfl,rfl,a.tree,a.ten,by show x1.n<=64;omega,b,by show x3.n=h.Tree.n;omega,λw hw=>?_,λw hw=>?_⟩))
 .have hw:w<x3.n:=hw;show (if w=u then _ else x3.g w).n<=5;split
  .exact ho
  rw[c w (by omega)];exact a.row w (by omega)
 have hw:w<x3.n:=hw;show ∀j,j<(if w=u then _ else x3.g w).n->0<=(if w=u then _ else x3.g w).g j/\(if w=u then _ else x3.g w).g j<(x1.n:Int);have s:x1.n=h.Laws.n:=by omega
 rw[s];split
 .intro j b;have b:j<(h.On.g u).n:=b;have r:=a.rng u (by omega);show 0<=(if j=k+1 then (h.On.g u).g k else if j=k then (h.On.g u).g (k+1)else (h.On.g u).g j)/\(if j=k+1 then (h.On.g u).g k else if j=k then (h.On.g u).g (k+1)else (h.On.g u).g j)<_;split
  .exact r k (by omega)
  split
  .exact r _ hk
  exact r j b
 rw[c w (by omega)];exact a.rng w (by omega)
def AE4 {N:Nat}(a:3000000<=N){h:History}(b:wkH h){v:Nat}(d:v<h.Tree.n):∃r,O7 N h (v:Int)=some r/\Ca r.1:=by
 obtain⟨e,e1,e2,_⟩:=RM a b;by_cases c:e=0
 .subst c;obtain⟨s,_,s1,s2⟩:=Aq6 a (AJ2 b (e2 rfl) e1) d;exact⟨_,s1,s2⟩
 unfold O7 Z9 R7;rw[e1,Ki,Ej (by simpa using c),Ki];obtain⟨M,rfl⟩:∃K,N=K+1:=⟨N-1,by omega⟩;rw[CK,Er (by show ¬decide ((0:Int)<((0:Nat):Int))=true;decide)];exact⟨_,rfl,λj f=>Es f (Bh2 j)⟩
end Go.AM
namespace Go.AM
variable {N:Nat}
open IntKind (wrap)
open Go.Proofs
def AJ8 (c:3000000<=N){laws:Sl Law}(hl:Ca laws){p f:F3}(hp:wOk p.W):∃b,G2 N laws p f=some b:=by
 unfold G2;by_cases h:((!p.Has)||(!f.Has))=true
 .exact⟨false,Ej h⟩
 rw[Er h];obtain⟨⟨v,e⟩,r1,r2⟩:=PJ c hl (w:=p.W) λi d=>(hp.2 i d).ok;rw[r1,Ki];by_cases a:e=0
 .subst a;have g:v.n<=32:=(r2 rfl).1;obtain⟨b,hb⟩:=Aq1 (N:=N) (x:=v) (y:=f.W) (by omega) (by omega);exact⟨b,by show ((R5 N v f.W).bind λy3=>some y3)=some b;rw[hb];rfl⟩
 exact⟨false,by dsimp only;rw[lt,Er (by simpa using a)]⟩
def AE5 (L:Sl (Sl Law))(m:Nat):Prop:=L.n=m/\∀k,Ca (L.g k)
def ZA (b:3000000<=N){h:History}(a:wkH h):∃L,K7 N h=some L/\AE5 L (O2 h.Tree h.Tree.n).n:=by
 have f:=Hk a.tree;unfold K7;rw[(IL b a.tree).1,Ki];refine V5 (λi x1 x2=>x2=(i:Int)/\AE5 x1 i) (O2 h.Tree h.Tree.n).n _ (by omega) ⟨rfl,rfl,λk j l=>Es l (Bh2 j)⟩ ?_;rintro c i x1 x2 hle ⟨rfl,hn,d⟩ hs;by_cases hl:i<(O2 h.Tree h.Tree.n).n
 .obtain⟨v,m,e⟩:=Kr h.Tree h.Tree.n i hl;obtain⟨s,s1,s2⟩:=AE4 b a m;refine ifT (by simpa using hl) (ifT (by dsimp only;omega) ?_);rw[Kg];refine B8 (by show O7 N h ((O2 h.Tree h.Tree.n).g i)=_;rw[e];exact s1) (ifT (by show (x1.n+1)*24<=_/\x1.n+1<=_;omega) (hs hl _ _ ⟨Bq,by show x1.n+1=_;omega,λk=>?_⟩));show Ca (if k<x1.n then x1.g k else s.1);split
  .exact d k
  exact s2
 obtain rfl:i=(O2 h.Tree h.Tree.n).n:=by omega
 exact Bl ⟨x1,rfl,hn,d⟩
def AE6 (c:3000000<=N){h:History}(b:okH N h):∃L,K7 N h=some L/\L.n=(O2 h.Tree h.Tree.n).n/\∀k,k<L.n->lineP h ((O2 h.Tree h.Tree.n).g k).toNat (L.g k):=by
 have j:=Hk b.tree;unfold K7;rw[(IL c b.tree).1,Ki];refine V5 (λi (x1:Sl (Sl Law)) x2=>x2=(i:Int)/\x1.n=i/\∀k,k<x1.n->lineP h ((O2 h.Tree h.Tree.n).g k).toNat (x1.g k)) (O2 h.Tree h.Tree.n).n _ (by omega) ⟨rfl,rfl,λk hk=>Es hk (Bh2 k)⟩ ?_;rintro d i x1 x2 hle ⟨rfl,hn,f⟩ hs;by_cases hl:i<(O2 h.Tree h.Tree.n).n
 .obtain⟨v,l,e⟩:=Kr h.Tree h.Tree.n i hl;obtain⟨L,s0,s1,s2⟩:=Aq6 c b l;refine ifT (by simpa using hl) (ifT (by dsimp only;omega) ?_);rw[Kg];refine B8 (by show O7 N h ((O2 h.Tree h.Tree.n).g i)=_;rw[e];exact s1) (ifT (by show (x1.n+1)*24<=_/\x1.n+1<=_;omega) (hs hl _ _ ⟨Bq,by show x1.n+1=_;omega,λk hk=>?_⟩));have hk:k<x1.n+1:=hk;show lineP h _ (if k<x1.n then x1.g k else _);by_cases a:k<x1.n
  .rw[Ej a];exact f k a
  rw[Er a,show k=i by omega,e];exact⟨L,s0,rfl⟩
 obtain rfl:i=(O2 h.Tree h.Tree.n).n:=by omega
 exact Bl ⟨x1,rfl,hn,f⟩
def inR (l:Sl Entry)(q:B7):Prop:=∃i k:Nat,q=⟨(i:Int),(k:Int)⟩/\i<l.n/\k<(l.g i).Forms.n
def ZB {N:Nat}(o:3000000<=N){p:B9}{laws:Sl (Sl Law)}{i:Nat}(r:i<p.Entries.n)(j:p.Protos.n=p.Entries.n)(d:wOk (p.Protos.g i).W)(a:AE5 laws (p.Entries.g i).Forms.n)(u:(p.Entries.g i).Forms.n<100000)
 {rest:Option (List B7)}{R:List B7}(s:rest=some R) (hR:∀q∈R,inR p.Entries q):∀(m M k:Nat),k+m=(p.Entries.g i).Forms.n->m<M->∃R',X4 M (λ(c:Int->Option (List B7)) (x4:Int)=>
  if (decide (x4<((p.Entries.g i).Forms.n:Int))) then
   if ((0:Int)<=x4/\x4<((p.Entries.g i).Forms.n:Int))then
    if (((0:Int)<=x4/\x4<(laws.n:Int))/\((0:Int)<=(i:Int)/\(i:Int)<(p.Protos.n:Int)))then
     (G2 N (laws.g x4.toNat) (p.Protos.g i) ((p.Entries.g i).Forms.g x4.toNat)).bind λy9=>
     if y9 then
      Ah (⟨(i:Int),x4⟩:B7) (
       c (wrap .i64 (x4+1))
       )
     else
      c (wrap .i64 (x4+1))
    else none
   else none
  else
   rest
  ) (k:Int)=some R' /\ (∀q∈R',inR p.Entries q)/\R'.length<=m+R.length
 |_,0,_,_,hM=>Es hM (Bh2 _)
 |0,M+1,k,hk,_=>by rw[I3,Dl];exact⟨R,s,hR,by omega⟩
 |m+1,M+1,k,hk,hM=>by
  obtain⟨R',h1,t,w⟩:=ZB o r j d a u s hR m M (k+1) (by omega) (by omega);obtain⟨b,hb⟩:=AJ8 (p:=p.Protos.g i) (f:=(p.Entries.g i).Forms.g k) o (a.2 k) d;have v:=a.1;rw[I3,Ck,Ch,Ch,Kg,hb,Ki,Bq,h1];cases b
  .exact⟨R',by rw[Er (by decide)],t,by omega⟩
  refine⟨⟨(i:Int),(k:Int)⟩::R',by rw[Ej rfl];rfl,λq l=>?_,by simp;omega⟩;rcases Bi3.1 l with rfl|l
  .exact⟨i,k,rfl,r,by omega⟩
  exact t q l
def AE7 (o:3000000<=N){p:B9}{laws:Sl (Sl Law)}{F:Nat}(hn:p.Entries.n<=256)(v:F<=63)(d:p.Protos.n=p.Entries.n)(f:∀i,i<p.Protos.n->wOk (p.Protos.g i).W)(r:∀i,i<p.Entries.n->(p.Entries.g i).Forms.n=F)(c:AE5 laws F) :∃R,Da N p laws=some R/\(∀q∈R,inR p.Entries q)/\R.length<=16128:=by
 have key:∀(m M i:Nat),i+m=p.Entries.n->m<M->∃R,X4 M (λ(b:Int->Option (List B7)) (x2:Int)=>
  if (decide (x2<(p.Entries.n:Int))) then
   if ((0:Int)<=x2/\x2<(p.Entries.n:Int))then
    X4 N (λa (x4:Int)=>
     if (decide (x4<((p.Entries.g x2.toNat).Forms.n:Int))) then
      if ((0:Int)<=x4/\x4<((p.Entries.g x2.toNat).Forms.n:Int))then
       if (((0:Int)<=x4/\x4<(laws.n:Int))/\((0:Int)<=x2/\x2<(p.Protos.n:Int)))then
        (G2 N (laws.g x4.toNat) (p.Protos.g x2.toNat) ((p.Entries.g x2.toNat).Forms.g x4.toNat)).bind λy9=>
        if y9 then
         Ah (⟨x2,x4⟩:B7) (
          a (wrap .i64 (x4+1))
          )
        else
         a (wrap .i64 (x4+1))
       else none
      else none
     else
      b (wrap .i64 (x2+1))
     ) 0
   else none
  else
   some []) (i:Int)=some R/\(∀q∈R,inR p.Entries q)/\R.length<=m*63:=by
  intro m
  induction m with
  |zero=>intro M i hk s;obtain⟨M,rfl⟩:∃M',M=M' + 1:=⟨M-1,by omega⟩;rw[I3,Dl];exact⟨[],rfl,λq t=>by simp at t,by simp⟩
  |succ m ih=>intro M i hk s;obtain⟨M,rfl⟩:∃M',M=M' + 1:=⟨M-1,by omega⟩;obtain⟨R,h1,j,u⟩:=ih M (i+1) (by omega) (by omega);have l:=r i (by omega);obtain⟨R',g1,g2,g3⟩:=ZB o (p:=p) (laws:=laws) (i:=i) (by omega) d (f i (by omega)) (by rw[l];exact c) (by omega) h1 j F N 0 (by omega) (by omega);rw[I3,Ck,Ch,Kg,Bq];exact⟨R',g1,g2,by omega⟩
 obtain⟨R,h1,j,u⟩:=key p.Entries.n N 0 (by omega) (by omega);exact⟨R,h1,j,by omega⟩
def Ae3 {R:List B7}(h:R.length<=16128):∃s,N5 N R=some s/\s.toList=R:=by
 have key:∀(R:List B7) (z:Sl B7),z.n+R.length<=20000->∃s,T1 R (λ(a:Sl B7->Option (Sl B7)) (x1:B7) (z1:Sl B7)=>
  if (Ke 16 (z1.n+(Sl.of [x1]:Sl B7).n))then
   a (z1.push x1)
  else none
  ) (λ(z1:Sl B7)=>some z1) z=some s/\s.toList=z.toList++R:=by
  intro R
  induction R with
  |nil=>exact λz _=>⟨z,rfl,by simp⟩
  |cons x R ih=>intro z c;have c:z.n+(R.length+1)<=20000:=c;obtain⟨s,h1,b⟩:=ih (z.push x) (by show z.n+1+R.length<=_;omega);refine⟨s,?_,by rw[b,PK];simp⟩;show (if _ then _ else none)=_;rw[Ej (by show (z.n+1)*16<=_/\z.n+1<=_;omega)];exact h1
 obtain⟨s,h1,b⟩:=key R (Sl.nil:Sl B7) (by show 0+_<=_;omega);refine⟨s,?_,b⟩;unfold N5 H2;rw[h1];rfl
end Go.AM
namespace Go.AM
variable {N:Nat}
open IntKind (wrap)
open Go.Proofs
def exG (h g:History):Prop:=g.Tree=h.Tree/\wkH g
def Aq9 {N:Nat}(d:3000000<=N){h:History}(b:okH N h){v:Nat}(f:v<h.Tree.n){rest:Option (List (B7×History))}{R:List (B7×History)}(i:rest=some R)(hR:∀q∈R,exG h q.2) :∀(m M k:Nat),k+m=(h.On.g v).n-1->m<M->∃R',X4 M (λ(a:Int->Option (List (B7×History))) (x4:Int)=>
  if (decide (x4<(wrap .i64 (((h.On.g v).n:Int)-1)))) then
   (R8 N h (v:Int) x4).bind λy9=>
   Ah ((⟨(v:Int),x4⟩:B7),y9.1) (
    a (wrap .i64 (x4+1))
    )
  else
   rest
  ) (k:Int)=some R' /\ (∀q∈R',exG h q.2)/\R'.length<=m+R.length
 |_,0,_,_,hM=>Es hM (Bh2 _)
 |0,M+1,k,hk,_=>by have j:=b.row v (by have:=b.on;omega);rw[I3,Lk (n:=((h.On.g v).n:Int)-1),Dl];exact⟨R,i,hR,by omega⟩
 |m+1,M+1,k,hk,hM=>by
  have j:=b.row v (by have:=b.on;omega);obtain⟨R',h1,l,o⟩:=Aq9 d b f i hR m M (k+1) (by omega) (by omega);obtain⟨g,g1,_,g2⟩:=AE3 d b f (k:=k) (by omega);refine⟨(⟨(v:Int),(k:Int)⟩,g.1)::R', ?_,λq c=>?_,by simp;omega⟩
  .rw[I3,Ej (by rw[Lk (n:=((h.On.g v).n:Int)-1)];simp;omega),g1,Ki,Bq,h1];rfl
  rcases Bi3.1 c with rfl|c
  .exact g2
  exact l q c
def AT0 (f:3000000<=N){p:B9}(c:okH N p.History):∃R,Y2 N p=some R/\(∀q∈R,exG p.History q.2)/\R.length<=4032:=by
 have j:=c.tree.2.1;have l:=c.on;have key:∀(m M i:Nat),i+m=p.History.On.n->m<M->∃R,X4 M (λ(a:Int->Option (List (B7×History))) (x2:Int)=>
  if (decide (x2<(p.History.On.n:Int))) then
   if ((0:Int)<=x2/\x2<(p.History.On.n:Int))then
    X4 N (λb (x4:Int)=>
     if (decide (x4<(wrap .i64 (((p.History.On.g x2.toNat).n:Int)-1)))) then
      (R8 N p.History x2 x4).bind λy9=>
      Ah ((⟨x2,x4⟩:B7),y9.1) (
       b (wrap .i64 (x4+1))
       )
     else
      a (wrap .i64 (x2+1))
     ) 0
   else none
  else
   some []) (i:Int)=some R/\(∀q∈R,exG p.History q.2)/\R.length<=m*64:=by
  intro m
  induction m with
  |zero=>intro M i hk o;obtain⟨M,rfl⟩:∃M',M=M' + 1:=⟨M-1,by omega⟩;rw[I3,Dl];exact⟨[],rfl,λq r=>by simp at r,by simp⟩
  |succ m ih=>intro M i hk o;obtain⟨M,rfl⟩:∃M',M=M' + 1:=⟨M-1,by omega⟩;obtain⟨R,h1,d,s⟩:=ih M (i+1) (by omega) (by omega);have t:=c.row i (by omega);obtain⟨R',g1,g2,g3⟩:=Aq9 f c (v:=i) (by omega) h1 d ((p.History.On.g i).n-1) N 0 (by omega) (by omega);rw[I3,Ck,Ch,Kg,Bq];exact⟨R',g1,g2,by omega⟩
 obtain⟨R,h1,d,s⟩:=key p.History.On.n N 0 (by omega) (by omega);exact⟨R,h1,d,by omega⟩
structure Ae4 (N:Nat) (p:B9):Prop where
 chk:X0 N p=some 0
 hist:okH N p.History
 ents:okE p.Protos p.Entries (O2 p.History.Tree p.History.Tree.n).n
def Bd3 {h:History}(a:okH N h):wkH h:=⟨a.tree,a.ten,a.ln,λi b=>(a.laws i b).1,a.on,a.row,a.rng⟩
def Bd4 {α : Type}{s:Sl α}{k:Nat}(h:k<s.n):s.g k∈s.toList:=Bl0.2 ⟨k,Bk1.2 h,rfl⟩
def AE8 (c:3000000<=N){p:B9}(hp:Ae4 N p):∃s,Bg N p=some (s,0)/\s.n<=10000:=by
 have ha:=hp.ents;have j:=hp.hist;have hn:=ha.n;have l:=ha.pn;have m:=Hk j.tree
 suffices ∃r,Bg N p=some r/\(r.2=0/\r.1.n<=10000) by obtain⟨⟨s,e⟩,r1,r2,r3⟩:=this;obtain rfl:e=0:=r2;exact⟨s,r1,r3⟩
 unfold Bg;refine B8 hp.chk (Bp ?_);obtain⟨L,l1,l2⟩:=ZA c (Bd3 j);refine B8 l1 (B8 rfl ?_);obtain⟨R,f1,f2,f3⟩:=AE7 c (p:=p) (laws:=L) hn m l (λi o=>(ha.pf i o).1) ha.fn l2;obtain⟨G,c1,c2⟩:=Ae3 (N:=N) f3;refine B8 f1 (B8 c1 (B8 rfl ?_));obtain⟨X,e1,e2,e3⟩:=AT0 c j;refine B8 e1 ?_;have hG:∀i,i<G.n->inR p.Entries (G.g i):=λi o=>f2 _ (by rw[<- c2];exact Bd4 o);have hGn:G.n<=16128:=by have:=congrArg List.length c2;rw[Ec]at this;omega
 refine Wc (λ(L:List (B7×History)) (z:Sl IT)=>(∀q∈L,exG p.History q.2)/\z.n+L.length<=4032) (λz d=>⟨(z,0),rfl,rfl,by have:=d.2;simp at this;show z.n<=_;omega⟩) ?_ X (Sl.nil:Sl IT) ⟨e2,by show 0+_<=_;omega⟩;rintro x Y z w ⟨hx,d⟩ hs;have d:z.n+(Y.length+1)<=4032:=d;obtain⟨g1,g2⟩:=hx x (by simp);obtain⟨L',m1,m2⟩:=ZA c g2;rw[g1]at m2;refine B8 m1 ?_;refine FC (λi x5=>x5=(i:Int)) G.n _ (by omega) rfl ?_;rintro t i x5 hle rfl u;by_cases hl:i<G.n
 .obtain⟨a,b,ge,ga,gb⟩:=hG i hl;refine ifT (by simpa using hl) (Ad ?_);rw[Kg,ge];have hF:=ha.fn a ga;have hL':=m2.1;obtain⟨y,hy⟩:=AJ8 (p:=p.Protos.g a) (f:=(p.Entries.g a).Forms.g b) c (m2.2 b) (ha.pf a (by omega)).1;refine ifT (by dsimp only;rw[Kg];omega) ?_;refine B8 (x:=y) (by simpa using hy) ?_;cases y
  .exact ifT rfl (ifT (by show (z.n+1)*32<=_/\z.n+1<=_;omega) (hs _ ⟨λq v=>hx q (Bh3 _ v),by show z.n+1+Y.length<=_;omega⟩))
  exact Bp (u hl _ (Bq))
 exact ifF (by simpa using hl) (hs z ⟨λq v=>hx q (Bh3 _ v),by omega⟩)
def AT1 (a:3000000<=N){p:B9}(hp:Ae4 N p)(hw:∀i,i<p.Protos.n->(p.Protos.g i).Has=true->wrd (p.Protos.g i).W):∃X:Sl (Sl Law),X.n=(O2 p.History.Tree p.History.Tree.n).n/\(∀k,k<X.n->lineP p.History ((O2 p.History.Tree p.History.Tree.n).g k).toNat (X.g k)) /\
 ∀c:Int,0<=c/\c<=1073741824->∃b s,X1 N p c=some (⟨b,s⟩,0)/\b.toList=(Jc (fwL p.Entries) p.Entries.n 0).filterMap (exQ N X p.Protos p.Entries c):=by
 obtain⟨X,x1,x2,x3⟩:=AS9 a hp.hist hp.ents hw;obtain⟨s,s1,_⟩:=AE8 a hp;refine⟨X,x1,x2,λc hc=>?_⟩;obtain⟨b,b1,b2⟩:=x3 c hc;refine⟨b,s,?_,b2⟩;unfold X1 Bf;rw[hp.chk,Ki,Er (by decide),Dl,Ki,Er (by decide),b1,Ki,s1,Ki]
end Go.AM
namespace Go.AM
open Go.Proofs
def dep:Nat->Pat->Prop
 |0,_=>False
 |d+1,p=>p.L.n<=40/\∀i,i<p.L.n->dep d (p.L.g i)
def AJ9:∀(d:Nat) (p:Pat),dep d p->∀e,d<=e->dep e p
 |0,_,h,_,_=>h.elim
 |d+1,p,h,0,he=>by omega
 |d+1,p,h,e+1,he=>⟨h.1,λi a=>AJ9 d _ (h.2 i a) e (by omega)⟩
def Wn {N:Nat}(o:1000<=N):∀(d:Nat),d<=40->∀(p:Pat) (M:Nat),N+d+2<=M->∃r:Nat,Co M p ((40-d:Nat):Int)=some (r:Int)/\40-d<r/\r<=41/\(r<=40->dep (d+1) p)
 |d,hd,p,0,hM=>by omega
 |d,hd,p,M+1,hM=>by
  have:∃x,Co (M+1) p ((40-d:Nat):Int)=some x/\∃r:Nat,x=(r:Int)/\40-d<r/\r<=41/\(r<=40->dep (d+1) p):=by
   show ∃x,CP (Co M) M p _=some x/\_;unfold CP;rw[Bq];refine V5 (λi x1 x2=>x2=(i:Int)/\∃k:Nat,x1=(k:Int)/\40-d+1+i<=k/\k<=41/\i<=p.L.n/\(k<=40->∀j,j<i->dep d (p.L.g j))) 41 _ (by omega) ⟨rfl,40-d+1,rfl,by omega,by omega,by omega,λ_ j b=>Es b (by omega)⟩ ?_;rintro f i x1 x2 q ⟨rfl,k,rfl,h1,c,s,l⟩ hs;by_cases hc:i<p.L.n/\k<=40
   .refine ifT (by simp only[Bg0,Fa];omega) (Ad ?_);obtain⟨r,m,r1,r2,r3⟩:=Wn o (40-k) (by omega) (p.L.g i) M (by omega);rw[show ((40-(40-k):Nat):Int)=(k:Int) by omega]at m;refine B8 (by rw[Kg];exact m) (hs (by omega) _ _ ⟨Bq,r,rfl,by omega,r2,by omega,λa j b=>?_⟩);by_cases e:j=i
    .subst e;exact AJ9 _ _ (r3 a) d (by omega)
    exact l hc.2 j (by omega)
   refine ifF (by simp only[Bg0,Fa];omega) ⟨_,rfl,k,rfl,by omega,c,λhk=>⟨by omega,λj b=>l hk j (by omega)⟩⟩
  obtain⟨x,h1,r,rfl,c⟩:=this;exact⟨r,h1,c⟩
def PO:∀(d:Nat) (p:Pat),dep d p->∀M,100+d<=M->∃r,AW M p=some r
 |0,p,h,M,_=>h.elim
 |d+1,p,h,0,hM=>by omega
 |d+1,p,h,M+1,hM=>by
  suffices ∃r,AW (M+1) p=some r/\True by obtain⟨r,h,_⟩:=this;exact⟨r,h⟩
  show ∃x,Aw (AW M) M p=some x/\_;unfold Aw;have hn:=h.1;refine V5 (λi x1 x2=>x2=(i:Int)) p.L.n _ (by omega) rfl ?_;rintro a i x1 x2 c rfl hs;by_cases hl:i<p.L.n
  .obtain⟨r,b⟩:=PO d (p.L.g i) (h.2 i hl) M (by omega);exact Ai (Ad (B8 (by rw[Kg];exact b) (hs hl _ _ (Bq))))
  exact Bk ⟨_,rfl,trivial⟩
def TP {N:Nat}(b:2000<=N)(p:Pat):∃r:Nat,Dn N p=some (r:Int)/\(r<=40->dep 41 p):=by obtain⟨r,h1,_,_,a⟩:=Wn (N:=1000) (by omega) 40 (by omega) p N (by omega);exact⟨r,by unfold Dn;rw[show Co N p 0=some (r:Int) from h1];rfl,a⟩
def AE9 {N:Nat}(f:2000<=N)(laws:Sl Law):∃r,EI N laws=some r:=by
 suffices ∃r,EI N laws=some r/\True by obtain⟨r,h,_⟩:=this;exact⟨r,h⟩
 unfold EI;refine V5 (λi x1 x2=>x2=(i:Int)) 301 _ (by omega) rfl ?_;rintro d i x1 x2 s rfl hs;by_cases hc:i<laws.n/\i<=300
 .refine ifT (by simp only[Bg0,Fa];omega) (Ad ?_);refine V5 (λj x7 x8=>x8=(j:Int)) 2 _ (by omega) rfl ?_;rintro b j x7 x8 t rfl a;by_cases hl:j<2
  .refine ifT (by show decide ((j:Int)<((2:Nat):Int))=true;simp;omega) (ifT (by show (0:Int)<=(j:Int)/\(j:Int)<((2:Nat):Int);omega) ?_);obtain⟨r,l,m⟩:=TP f ((Sl.of [(laws.g (i:Int).toNat).Left,(laws.g (i:Int).toNat).Right]:Sl Pat).g (j:Int).toNat);refine B8 l ?_;by_cases c:r<=40
   .obtain⟨q,o⟩:=PO 41 _ (m c) N (by omega);exact Ai (B8 o (a hl _ _ (Bq)))
   exact Bk (a hl _ _ (Bq))
  exact ifF (by show ¬decide ((j:Int)<((2:Nat):Int))=true;simp;omega) (hs (by omega) _ _ (Bq))
 exact ifF (by simp only[Bg0,Fa];omega) ⟨_,rfl,trivial⟩
end Go.AM
namespace Go.AM
open IntKind (wrap)
open Go.Proofs
def Ar0 {N:Nat}(t:3000000<=N)(h:History):∃b,Fw N h=some b/\True:=by
 unfold Fw;by_cases hb:(((decide (70<(h.Tree.n:Int)))||(decide (70<(h.Laws.n:Int))))||(decide (70<(h.On.n:Int))))=true
 .exact ifT hb ⟨_,rfl,trivial⟩
 refine ifF hb ?_;have o : h.Laws.n<=70/\h.On.n<=70:=by simp at hb;omega
 refine FC (λi x=>x=(i:Int)) h.On.n _ (by omega) rfl ?_;rintro l i x q rfl hs;by_cases d:i<h.On.n
 .refine Ai (Ad ?_);by_cases m:(decide (70<((h.On.g (i:Int).toNat).n:Int)))=true
  .exact ifT m ⟨_,rfl,trivial⟩
  exact ifF m (hs d _ (Bq))
 refine Bk ?_;refine FC (λi x=>x=(i:Int)) h.Laws.n _ (by omega) rfl ?_;rintro f i x q rfl j;by_cases d:i<h.Laws.n
 .rw[Bq];refine Ai (Ad ?_);obtain⟨r,s⟩:=AE9 (N:=N) (by omega) (h.Laws.sub (i:Int).toNat ((i+1:Nat):Int).toNat);refine B8 s ?_;have last:∀z3:Bool,∃r,(if z3 then some false else f ((i+1:Nat):Int))=some r/\True:=λz=>by
   cases z
   .exact Bl (j d _ rfl)
   exact ifT rfl ⟨_,rfl,trivial⟩
  refine ltX ?_;by_cases g1:(decide (4<r))=true
  .exact ifT g1 (last _)
  refine ifF g1 ?_;by_cases g2:(decide (20<((h.Laws.g (i:Int).toNat).If.n:Int)))=true
  .exact ifT g2 (last _)
  refine ifF g2 ?_;by_cases g3:(decide (20<((h.Laws.g (i:Int).toNat).Out.n:Int)))=true
  .exact ifT g3 (last _)
  refine ifF g3 ?_;obtain⟨a,ha,_⟩:=TP (N:=N) (by omega) (h.Laws.g (i:Int).toNat).Left;refine B8 ha ?_;by_cases g4:(decide (41<(a:Int)))=true
  .exact ifT g4 (last _)
  refine ifF g4 ?_;obtain⟨c,hc,_⟩:=TP (N:=N) (by omega) (h.Laws.g (i:Int).toNat).Right;exact B8 hc (last _)
 exact Bk ⟨_,rfl,trivial⟩
structure TQ (x:Small):Prop where
 par:∀i,i<x.Parents.n->∃k:Nat,x.Parents.g i=(k:Int)/\k<256
 laws:Ca x.Laws
 on:∀i,i<x.On.n->∃k:Nat,x.On.g i=(k:Int)/\k<65536
def TR {n:Nat}(h:n<256):IntKind.u8.wrap (n:Int)=n:=by have h1:((n:Int) % (2 ^ 8:Int))=n:=Bm7 (by omega) (by omega);unfold wrap;simp only[IntKind.bits,IntKind.signed,h1,Bp5,Bg3,Ev]
def Ar1 (a j:Nat):Str:=[UInt8.ofNat (a+j)]
def Ar2 {a j:Nat}(h:a+j<256):[UInt8.ofNat (wrap .u8 ((a:Int)+(wrap .u8 (j:Int)))).toNat]=Ar1 a j:=by rw[TR (by omega),<- Int.natCast_add,TR h,Kg];rfl
def ZC {a i j:Nat}(b:a+i<256)(c:a+j<256)(h:Ar1 a i=Ar1 a j):i=j:=by
 have:=congrArg UInt8.toNat (Bz7 h).1
 rw[Bu9,Bu9]at this;omega
def Ar3:∀j:Fin 10,Nw (Ar1 97 j.val)=true:=by decide +kernel
def AT2 (x:Small):Nat->Node
 |0=>⟨-1,[114]⟩
 |j+1=>⟨(((x.Parents.g j).toNat % (j+1):Nat):Int),Ar1 97 (j+1)⟩
def AU4 (x:Small)(j:Nat):Law:=⟨Ar1 65 j,(x.Laws.g j).Left,(x.Laws.g j).Right,(x.Laws.g j).If,(x.Laws.g j).Out,(x.Laws.g j).Mode⟩
def Ar4 {x:Small}(hx:TQ x){j:Nat}(d:j<x.Laws.n):TI (AU4 x j):=by obtain⟨⟨a,b,c⟩,l,f,g,i⟩:=hx.laws j d;exact⟨⟨a,b,c⟩,by show 1<_;omega,f,g,i⟩
def AF0 {x:Small}{t:Sl Node}(hn:t.n<=10)(ht:∀j,j<t.n->t.g j=AT2 x j){v:Nat}(c:v<t.n):Bc7 t v:=by
 have a:∀j,j<t.n->0<j->(AT2 x j).Name=Ar1 97 j:=λj _ d=>by obtain⟨k,rfl⟩:∃k,j=k+1:=⟨j-1,by omega⟩;rfl
 have b:∀j,j<10->([114]:Str)≠Ar1 97 j:=λj f h=>by
  have:=congrArg UInt8.toNat (Bz7 h).1
  rw[Bu9]at this;have e:(114:UInt8).toNat=114:=rfl;omega
 refine⟨λh=>by rw[ht 0 (by omega)];rfl,λd=>?_,?_,λu i=>?_⟩
 .obtain⟨k,rfl⟩:∃k,v=k+1:=⟨v-1,by omega⟩;rw[ht _ c];show 0<=(((x.Parents.g k).toNat % (k+1):Nat):Int)/\(((x.Parents.g k).toNat % (k+1):Nat):Int)<((k+1:Nat):Int)
  have:=Bp0 (x.Parents.g k).toNat (show 0<k+1 by omega)
  omega
 .rw[ht _ c];by_cases d:v=0
  .subst d;show Nw [114]=true;decide +kernel
  rw[a v c (by omega)];exact Ar3 ⟨v,by omega⟩
 rw[ht _ c,ht u (by omega),a v c (by omega)];by_cases d:u=0
 .subst d;exact b v (by omega)
 rw[a u (by omega) (by omega)];exact λh=>by have:=ZC (by omega) (by omega) h;omega
def AF1 {N:Nat}(hN:3000000<=N){x:Small}(hx:TQ x) :∃r:History×Bool,Z5 N x=some r/\((r.2=false/\r.1.Tree.n=0) \/ okH N r.1):=by
 unfold Z5;refine V5 (λi (x1:Sl Node) x2=>x2=((i+1:Nat):Int)/\x1.n=i+1/\∀j,j<i+1->x1.g j=AT2 x j) 9 _ (by omega) ⟨rfl,rfl,λj s=>by obtain rfl:j=0:=(by omega);rfl⟩ ?_;rintro self i x1 x2 hi ⟨rfl,hn1,h1⟩ hs;by_cases hlt:i+1<=x.Parents.n/\i+1<10
 .obtain⟨k,hk,a0⟩:=hx.par i (by omega);have e1:wrap .i64 (((i+1:Nat):Int)-1)=(i:Int):=by rw[AC4 (by omega) (by omega)];rfl
  refine Ai ?_;rw[e1,Kg,hk,Lk (n:=(k:Int))];refine ifT ⟨⟨by omega,by omega⟩,by omega⟩ (ifT (by show (x1.n+1)*24<=_/\x1.n+1<=_;omega) (hs (by omega) _ _ ⟨Bq,by show x1.n+1=_;omega,λj s=>?_⟩));show (if j<x1.n then x1.g j else _)=_;by_cases e:j<x1.n
  .rw[Ej e];exact h1 j (by omega)
  obtain rfl:j=i+1:=by omega
  rw[Er e];have e2:[UInt8.ofNat (wrap .u8 (97+(wrap .u8 ((i+1:Nat):Int)))).toNat]=Ar1 97 (i+1):=Ar2 (a:=97) (by omega);rw[e2];show (⟨_,_⟩:Node)=⟨(((x.Parents.g i).toNat % (i+1):Nat):Int),Ar1 97 (i+1)⟩;rw[hk,Kg];rfl
 refine Bk ?_;clear hs;refine V5 (λi (x4:Sl Law) x5=>x5=(i:Int)/\x4.n=i/\∀j,j<i->x4.g j=AU4 x j/\j<x.Laws.n/\chkAll N (AU4 x j)) 6 _ (by omega) ⟨rfl,rfl,λj s=>Es s (by omega)⟩ ?_;rintro self2 m x4 x5 hm ⟨rfl,hn4,z⟩ a1;by_cases a2:m<x.Laws.n/\m<6
 .obtain⟨a3,hm6⟩:=a2;have e2:[UInt8.ofNat (wrap .u8 (65+(wrap .u8 (m:Int)))).toNat]=Ar1 65 m:=Ar2 (a:=65) (by omega);have hin:=Ar4 hx a3;refine Ai (Ad ?_);rw[Kg,e2];obtain⟨b,hb,_⟩:=Ar0 hN (⟨(Sl.nil:Sl Node),(Sl.of [AU4 x m]:Sl Law),(Sl.nil:Sl (Sl Int))⟩:History);have hl:Fx N (AU4 x m)=some b:=by unfold Fx;rw[hb];rfl
  refine B8 hl (ltX ?_);cases b
  .exact ifT rfl (ifT rfl ⟨_,rfl,.inl ⟨rfl,rfl⟩⟩)
  refine Bp ?_;obtain⟨e,he,hE⟩:=IV hN hin;refine B8 he ?_;rcases hE with⟨rfl,hc⟩ | ⟨rfl,_⟩
  .refine Bp (ifT (by show (x4.n+1)*200<=_/\x4.n+1<=_;omega) (a1 hm6 _ _ ⟨Bq,by show x4.n+1=_;omega,λj s=>?_⟩));show (if j<x4.n then x4.g j else AU4 x m)=_/\_;by_cases e:j<x4.n
   .rw[Ej e];exact z j (by omega)
   obtain rfl:j=m:=by omega
   rw[Er e];exact⟨rfl,a3,hc⟩
  exact At ⟨_,rfl,.inl ⟨rfl,rfl⟩⟩
 refine Bk ?_;clear a1;have hL1:wrap .i64 ((x4.n:Int)+1)=((x4.n+1:Nat):Int):=Bq;rw[hL1];refine V5 (λv (f:Sl (Sl Int)) a4=>a4=(v:Int)/\f.n=v/\∀u,u<v->(f.g u).n<=5/\∀j,j<(f.g u).n->0<=(f.g u).g j/\(f.g u).g j<x4.n) x1.n _ (by omega) ⟨rfl,rfl,λj s=>Es s (by omega)⟩ ?_;rintro self5 v f a4 o ⟨rfl,hn10,t⟩ hs5;by_cases hvl:v<x1.n
 .obtain⟨c,hc,hc2⟩:∃c:Nat,Eb N x.On (v:Int)=some (c:Int)/\c<65536:=by
   unfold Eb;by_cases h:v<x.On.n
   .obtain⟨k,hk,a0⟩:=hx.on v h;exact⟨k,by rw[Ck,Ch,Kg,hk,Lk],a0⟩
   exact⟨0,by rw[Dl];rfl,by omega⟩
  refine Ai (B8 hc ?_);refine V5 (λq (l:Sl Int) a5=>l.n=q/\(∃d:Nat,a5=(d:Int)/\d<65536)/\∀j,j<l.n->0<=l.g j/\l.g j<x4.n) 5 _ (by omega) ⟨rfl,⟨c,rfl,hc2⟩,λj s=>Es s (Bh2 j)⟩ ?_;rintro self6 q l a5 hq ⟨hn14,⟨d,rfl,hd⟩,a6⟩ hs6;refine Ad ?_;have em:(d:Int).tmod ((x4.n+1:Nat):Int)=((d % (x4.n+1):Nat):Int):=rfl;have ed:(d:Int).tdiv ((x4.n+1:Nat):Int)=((d / (x4.n+1):Nat):Int):=rfl;rw[em,ed];have a7:=Bp0 d (show 0<x4.n+1 by omega);have a8:=Nat.div_le_self d (x4.n+1);generalize d / (x4.n+1)=d1 at a8;generalize d % (x4.n+1)=m1 at a7;by_cases g:m1≠0/\q<5
  .rw[AC4 (by omega) (by omega),Lk (n:=(d1:Int))];refine Ai (ifT ⟨⟨by omega,by show (l.n+1)*8<=_;omega,by show l.n+1<=_;omega⟩,by omega⟩ (hs6 (by omega) _ _ ⟨by show l.n+1=_;omega,⟨_,rfl,by omega⟩,λj s=>?_⟩));show 0<=(if j<l.n then l.g j else _)/\(if j<l.n then l.g j else _)<_;by_cases e:j<l.n
   .rw[Ej e];exact a6 j e
   rw[Er e];omega
  refine Bk (ifT (by show (f.n+1)*24<=_/\f.n+1<=_;omega) (hs5 hvl _ _ ⟨Bq,by show f.n+1=_;omega,λu hu=>?_⟩));show (if u<f.n then f.g u else l).n<=5/\∀j,j<(if u<f.n then f.g u else l).n->0<=(if u<f.n then f.g u else l).g j/\(if u<f.n then f.g u else l).g j<_;by_cases e:u<f.n
  .rw[Ej e];exact t u (by omega)
  rw[Er e];exact⟨by omega,a6⟩
 obtain rfl:v=x1.n:=by omega
 have w:Ex x1:=⟨by omega,by omega,λv o=>AF0 (by omega) (λj s=>h1 j (by omega)) o⟩;have hw:wkH (⟨x1,x4,f⟩:History):=⟨w,by show x1.n<=10;omega,by show x4.n<=64;omega,λi y=>?_,by show f.n=x1.n;omega,λv o=>(t v (by have o:v<f.n:=o;omega)).1,λv o=>(t v (by have o:v<f.n:=o;omega)).2⟩
 .have hc:∀i,i<x4.n->chkAll N (x4.g i):=λi y=>by rw[(z i (by omega)).1];exact (z i (by omega)).2.2
  obtain⟨e,e1,_,e2⟩:=RM hN hw;obtain rfl:=e2 hc λu v huv o hn=>by
   have o:v<x4.n:=o;have hn:(x4.g u).Name=(x4.g v).Name:=hn;rw[(z u (by omega)).1,(z v (by omega)).1]at hn
   have:=ZC (a:=65) (by omega) (by omega) hn
   omega
  exact Bl ⟨_,rfl,.inr (AJ2 hw hc e1)⟩
 have y:i<x4.n:=y;show TI (x4.g i);obtain⟨e,hil,_⟩:=z i (by omega);rw[e];exact Ar4 hx hil
end Go.AM
namespace Go.AM
variable {N:Nat}
open IntKind (wrap)
open Go.Proofs
def Ar5 {n:Nat}(h:n<4294967296):IntKind.u32.wrap (n:Int)=n:=by have h1:((n:Int) % (2 ^ 32:Int))=n:=Bm7 (by omega) (by omega);unfold wrap;simp only[IntKind.bits,IntKind.signed,h1,Bp5,Bg3,Ev]
def wrd.push {w:Sl Jb}(hw:wrd w){z:Jb}(a:z∈Yk):wrd (w.push z):=by obtain⟨L,l1,rfl⟩:=hw;exact⟨L++[z],λs hs=>(Bu2.1 hs).elim (l1 s) λh=>Bl4.1 h ▸ a,(Mi L z).symm⟩
def Yl (o:1000<=N){s:Str}(hs:s.length<=32):∃w,P8 N s=some w/\wOk w/\wrd w:=by
 unfold P8;refine V5 (λi (x1:Sl Jb) x2=>x2=(i:Int)/\x1.n=i/\vW x1/\wrd x1) s.length _ (by omega) ⟨rfl,rfl,λj d=>Es d (Bh2 j),[],by simp,rfl⟩ ?_;rintro a i x1 x2 q ⟨rfl,h1,f,l⟩ b;by_cases hl:i<s.length
 .have nx:∀z:Jb,vS z->z∈Yk->∃r,(if (Ke 8 (x1.n+(Sl.of [z]:Sl Jb).n))then a (x1.push z) (wrap .i64 ((i:Int)+1))else none)=some r/\(wOk r/\wrd r):=λz m c=>
   ifT (by show (x1.n+1)*8<=_/\x1.n+1<=_;omega) (b hl _ _ ⟨Bq,by show x1.n+1=_;omega,λj d=>by
    show vS (if j<x1.n then x1.g j else z);split
    .exact f j (by assumption)
    exact m,l.push c⟩)
  refine Ai (Ad ?_);split
  .exact nx _ ⟨2#32,5#32,rfl,by decide +kernel⟩ (by simp)
  split
  .exact nx _ ⟨3#32,4#32,rfl,by decide +kernel⟩ (by simp)
  exact nx _ ⟨5#32,2#32,rfl,by decide +kernel⟩ (by simp)
 exact Bk ⟨x1,rfl,⟨by omega,f⟩,l⟩
def ifC {R:Type}{Q:R->Prop}{p:Prop}[Decidable p]{a b:Option R}(h1:∃r,a=some r/\Q r)(c:∃r,b=some r/\Q r):∃r,(if p then a else b)=some r/\Q r:=by
 split
 .exact h1
 exact c
def Ym:wOk Iw:=⟨Bn0 _,λi a=>Es a (Bh2 i)⟩
def AT3 (a:1000<=N){s:Str}(hs:s.length<=32):∃f,T6 N s=some f/\okF f/\(f.Has=true->wrd f.W):=by
 unfold T6;obtain⟨w,w1,w2,w3⟩:=Yl a hs;split
 .exact⟨_,rfl,⟨Ym,λ_=>rfl⟩,λh=>by cases h⟩
 exact B8 w1 ⟨_,rfl,⟨w2,λh=>by cases h⟩,λ_=>w3⟩
def Wo (v:3000000<=N){h:History}(x:okH N h){lv:Sl Int}(hl:lv.n<=63){n:Int}{s:Str}(hs:s.length<=32){K:Sl F3->Option (B9×Bool)}{Q:B9×Bool->Prop}
 (y:∀fs:Sl F3,fs.n=lv.n->(∀k,k<fs.n->okF (fs.g k))->∃r,K fs=some r/\Q r) (p0:B9) (z:Q (p0,false)):∃r,BA N (λ(c:Sl F3->Int->Option (B9×Bool)) (a:Sl F3) (b:Int)=>
  if (decide (b<(lv.n:Int))) then
   (P8 N s).bind λd=>
   if (0:Int)<=(wrap .i64 (10+(wrap .i64 (2*(b.tmod 8)))))then
    if (((shI .shr .u32 n (wrap .i64 (10+(wrap .i64 (2*(b.tmod 8)))))).tmod 4)==0) then
     if (Ke 32 (a.n+(Sl.of [(⟨false,Iw⟩:F3)]:Sl F3).n))then
      c (a.push (⟨false,Iw⟩:F3)) (wrap .i64 (b+1))
     else none
    else
     if (if (((shI .shr .u32 n (wrap .i64 (10+(wrap .i64 (2*(b.tmod 8)))))).tmod 4)==1) then ((shI .shr .u32 n (wrap .i64 (10+(wrap .i64 (2*(b.tmod 8)))))).tmod 4)==1 else ((shI .shr .u32 n (wrap .i64 (10+(wrap .i64 (2*(b.tmod 8)))))).tmod 4)==2) then
      if (((0:Int)<=b/\b<(lv.n:Int))/\b.toNat<lv.n)then
       (CB N h d (lv.g b.toNat)).bind λl=>
       if (l.2 != 0) then
        some (p0,false)
       else
        if (Ke 32 (a.n+(Sl.of [(⟨true,l.1⟩:F3)]:Sl F3).n))then
         c (a.push (⟨true,l.1⟩:F3)) (wrap .i64 (b+1))
        else none
      else none
     else
      if (Ke 32 (a.n+(Sl.of [(⟨true,d⟩:F3)]:Sl F3).n))then
       c (a.push (⟨true,d⟩:F3)) (wrap .i64 (b+1))
      else none
   else none
  else K a
  ) (Sl.nil:Sl F3) 0=some r/\Q r:=by
 obtain⟨w,w1,w2,_⟩:=Yl (N:=N) (by omega) hs;refine V5 (λi (a:Sl F3) b=>b=(i:Int)/\a.n=i/\∀k,k<a.n->okF (a.g k)) lv.n _ (by omega) ⟨rfl,rfl,λk hk=>Es hk (Bh2 k)⟩ ?_;rintro m i a b hi ⟨rfl,h1,u⟩ o;by_cases q:i<lv.n
 case neg=>exact Bk (y _ (by omega) u)
 have nx:∀f:F3,okF f->∃r,(if (Ke 32 (a.n+(Sl.of [f]:Sl F3).n))then m (a.push f) (wrap .i64 ((i:Int)+1))else none)=some r/\Q r:=λf hf=>
  ifT (by show (a.n+1)*32<=_/\a.n+1<=_;omega) (o q _ _ ⟨Bq,by show a.n+1=_;omega,λk hk=>by
   show okF (if k<a.n then a.g k else f);split
   .exact u k (by assumption)
   exact hf⟩)
 have hm:(i:Int).tmod 8=((i % 8:Nat):Int):=rfl;have hm8:=Bp0 i (show 0<8 by omega);refine Ai (B8 w1 (ifT (by rw[hm,Lk (n:=2*_),Lk];omega) ?_));refine ifC (nx _ ⟨Ym,λ_=>rfl⟩) (ifC ?_ (nx ⟨true,w⟩ ⟨w2,λe=>by cases e⟩))
 obtain⟨r,r1,r2⟩:=At_ok v x (w:=w) (λj hj=>(w2.2 j hj).ok) (lv.g (i:Int).toNat);refine Ad (B8 r1 ?_);by_cases t:r.2=0
 .exact ifF (by simp[t]) (nx ⟨true,r.1⟩ ⟨r2 t,λe=>by cases e⟩)
 exact ifT (by simpa using t) ⟨_,rfl,z⟩
structure Ar6 (x:Am6):Prop where
 H:TQ x.H
 L:∀i,i<x.L.n->∃b:BitVec 32,x.L.g i=(b.toNat:Int)
def Ae5:(Du 4194304).isSome=true:=by decide +kernel
def RN:Sl Str:=(Du 4194304).getD Sl.nil
def AF2:Du 4194304=some RN:=by obtain⟨v,a⟩:=Bh1.1 Ae5;unfold RN;rw[a];rfl
def AF3 (h:History)(p:Sl F3)(e:Sl Entry):Ea 4194304 ⟨RN,Sl.nil,Sl.nil,h,p,e⟩=some 0:=by
 have:Ea 4194304 ⟨RN,Sl.nil,Sl.nil,⟨Sl.nil,Sl.nil,Sl.nil⟩,Sl.nil,Sl.nil⟩=some 0:=by decide +kernel
 exact this
def AF4:∀i:Fin 4,Nw [103,UInt8.ofNat (wrap .u8 (48+(wrap .u8 ((i.val:Nat):Int)))).toNat]=true:=by decide +kernel
def ZD {h:History}{p:Sl F3}{l:Sl Entry}(a:okH 4194304 h)(hl:okE p l (O2 h.Tree h.Tree.n).n):Ae4 4194304 ⟨RN,Sl.nil,Sl.nil,h,p,l⟩:=⟨by unfold X0;rw[AF3,Ki,Er (by decide)];show (U7 4194304 h p l).bind _=_;rw[Wl (by omega) a hl];rfl,a,hl⟩
structure casP (p:B9):Prop where
 ok:Ae4 4194304 p
 fe:p.Feats=RN
 so:p.Sounds=Sl.nil
 ma:p.Marks=Sl.nil
 wd:∀i,i<p.Protos.n->(p.Protos.g i).Has=true->wrd (p.Protos.g i).W
def AF5 {x:Am6}(hx:Ar6 x):∃r,AJ 4194304 x=some r/\(r.2=true->casP r.1):=by
 have w:3000000<=4194304:=by omega
 unfold AJ;obtain⟨⟨h,ok⟩,m1,m2⟩:=AF1 w hx.H;refine B8 m1 ?_;have bad:∀{e:Sl Int×Int},(ok=false \/ e.2≠0)->((!ok)||(e.2 != 0))=true:=λ{e} g=>by
  rcases g with g|g
  .simp[g]
  simp[g]
 rcases m2 with⟨g1,g2⟩ | c
 .obtain rfl:ok=false:=g1
  have:∃r,AE 4194304 h.Tree=some r:=by unfold AE Dr;have g2:h.Tree.n=0:=g2;rw[g2];exact⟨_,rfl⟩
  obtain⟨r,hr⟩:=this;exact B8 hr (ifT (bad (.inl rfl)) ⟨_,rfl,λe=>by cases e⟩)
 have c:okH 4194304 h:=c;refine B8 (IL w c.tree).2 ?_;have d:=Hk c.tree;have t:=@ZD h;generalize O2 h.Tree h.Tree.n=lv at d t;by_cases hb:ok=true
 case neg=>exact ifT (bad (.inl (by simpa using hb))) ⟨_,rfl,λe=>by cases e⟩
 subst hb;refine Bl (B8 AF2 ?_);refine XZ (λi (x7:Sl F3) (x8:Sl Entry) x9=>x9=(i:Int)/\x7.n=i/\x8.n=i/\(∀k,k<x7.n->okF (x7.g k)/\((x7.g k).Has=true->wrd (x7.g k).W))/\∀k,k<x8.n->(x8.g k).Forms.n=lv.n/\(∀j,j<(x8.g k).Forms.n->okF ((x8.g k).Forms.g j))/\Nw (x8.g k).Gloss=true) 4 _ (by omega) ⟨rfl,rfl,rfl,λk hk=>Es hk (Bh2 k),λk hk=>Es hk (Bh2 k)⟩ ?_;rintro u i x7 x8 x9 hi ⟨rfl,h7,h8,l,a⟩ hs;by_cases m:i<x.L.n/\i<4
 case neg=>exact Bk ⟨_,rfl,λ_=>⟨t c ⟨by omega,by omega,λk hk=>(l k hk).1,λk hk=>(a k hk).1,λk hk=>(a k hk).2.1,λk hk=>(a k hk).2.2⟩,by dsimp only,by dsimp only,by dsimp only,λk hk=>(l k hk).2⟩⟩
 obtain⟨b,hb⟩:=hx.L i m.1;refine Ai (Ad ?_);rw[Kg,hb];refine V5 (λk (o:Str) v=>v=(k:Int)/\o.length=k) 4 _ (by omega) ⟨rfl,rfl⟩ ?_;rintro y k o v hk ⟨rfl,h16⟩ z;have hm:((b.toNat:Nat):Int).tmod 4=((b.toNat % 4:Nat):Int):=rfl;have hm4:=Bp0 b.toNat (show 0<4 by omega);rw[hm,Lk (n:=((b.toNat % 4:Nat):Int))];by_cases hkl:k<=b.toNat % 4
 .have e1:wrap .i64 (2+(wrap .i64 (2*(k:Int))))=((2+2*k:Nat):Int):=by rw[Lk (n:=2*_),Lk];omega
  have e2:(shI .shr .u32 (b.toNat:Int) ((2+2*k:Nat):Int)).tmod 4=(((b >>> (2+2*k)).toNat % 4:Nat):Int):=by rw[AH3];rfl
  have hq:=Bp0 (b >>> (2+2*k)).toNat (show 0<4 by omega);rw[e1,e2];generalize (b >>> (2+2*k)).toNat % 4=q at hq;have e3:wrap .u32 ((q:Int)+1)=((q+1:Nat):Int):=Ar5 (n:=q+1) (by omega);have h4:(([112,98,97,97]:Str).length:Int)=4:=rfl;rw[e3,h4,Kg,Kg];have hd:((([112,98,97,97]:Str).take (q+1)).drop q).length=1:=by rw[Bh4,Bm4];show min (q+1) 4-q=1;omega
  exact Ai (ifT ⟨⟨⟨by omega,by omega⟩,by omega,by omega,by omega⟩,by rw[hd];omega⟩ (z (by omega) _ _ ⟨Bq,by rw[Bi1,hd];omega⟩))
 refine Bk ?_;obtain⟨f,f1,f2,f3⟩:=AT3 (N:=4194304) (by omega) (s:=o) (by omega);refine B8 f1 (ltX ?_);have a0:=AF4 ⟨i,m.2⟩;have K:∀z3:Bool×Sl Jb,okF ⟨z3.1,z3.2⟩/\(z3.1=true->wrd z3.2)->∀fs:Sl F3,fs.n=lv.n->(∀k,k<fs.n->okF (fs.g k))->∃r,(if (Ke 32 (x7.n+(Sl.of [(⟨z3.1,z3.2⟩:F3)]:Sl F3).n))then
  if (Ke 40 (x8.n+(Sl.of [(⟨[103,UInt8.ofNat (wrap .u8 (48+(wrap .u8 (i:Int)))).toNat],fs⟩:Entry)]:Sl Entry).n))then
   u (x7.push (⟨z3.1,z3.2⟩:F3)) (x8.push (⟨[103,UInt8.ofNat (wrap .u8 (48+(wrap .u8 (i:Int)))).toNat],fs⟩:Entry)) (wrap .i64 ((i:Int)+1))
  else none
  else none)=some r/\(r.2=true->casP r.1):=by
  intro z3 hz fs a1 a2;refine ifT (by show (x7.n+1)*32<=_/\x7.n+1<=_;omega) (ifT (by show (x8.n+1)*40<=_/\x8.n+1<=_;omega) (hs m.2 _ _ _ ⟨Bq,by show x7.n+1=_;omega,by show x8.n+1=_;omega,λk hk=>?_,λk hk=>?_⟩))
  .show okF (if k<x7.n then x7.g k else _)/\((if k<x7.n then x7.g k else _).Has=true->wrd (if k<x7.n then x7.g k else _).W);split
   .exact l k (by assumption)
   exact hz
  show (if k<x8.n then x8.g k else _).Forms.n=lv.n/\(∀j,j<(if k<x8.n then x8.g k else _).Forms.n->okF ((if k<x8.n then x8.g k else _).Forms.g j))/\Nw (if k<x8.n then x8.g k else _).Gloss=true;split
  .exact a k (by assumption)
  exact⟨a1,a2,a0⟩
 split
 .exact Wo w c d (by omega) (K (false,Sl.nil) ⟨⟨Ym,λ_=>rfl⟩,λe=>by cases e⟩) _ (λe=>by cases e)
 exact Wo w c d (by omega) (K (f.Has,f.W) ⟨f2,f3⟩) _ (λe=>by cases e)
end Go.AM
namespace Go.AM
set_option maxRecDepth 100000
def RO:Fv 4194304=some true:=by decide +kernel
end Go.AM
namespace Go.AM
open IntKind (wrap)
open Go.Proofs
def cn (P:Nat->Bool):Nat->Nat
 |0=>0
 |k+1=>cn P k+if P k then 1 else 0
def Bd5 (P:Nat->Bool):∀k,cn P k<=k
 |0=>Bg5 0
 |k+1=>by
  have:=Bd5 P k
  simp only[cn];split<;>omega
def cst (N:Nat)(X:Sl (Sl Law))(w:Sl Jb)(f:F3)(k:Nat):Bool:=(kdX N X ⟨true,w⟩ f k).isSome
def Bd6 {N:Nat}(d:3000000<=N){X:Sl (Sl Law)}{k:Nat}(i:Ca (X.g k)){w:Sl Jb}(hw:wOk w){f:F3}(c:f.Has=true):G2 N (X.g k) ⟨true,w⟩ f=some (!cst N X w f k):=by
 obtain⟨r,r1,r2,r3⟩:=Aq7 d i hw;unfold G2;rw[Er (by simp[c])];show (K0 N (X.g k) w).bind _=_;rw[r1,Ki];unfold cst kdX;rw[Ej c];dsimp only;rw[r2,By8,lt];by_cases a:(r.2==0)=true
 .have j:=(r3 (eq_of_beq a)).1;obtain⟨b,hb⟩:=Aq1 (N:=N) (x:=r.1) (y:=f.W) (by omega) (by omega);rw[Ej a,Ej a,hb,Ki];cases b<;>rfl
 rw[Er a,Er a];rfl
def Wp {N:Nat}(hN:3000000<=N){p:B9}(hp:Ae4 N p){X:Sl (Sl Law)}(hl:K7 N p.History=some X)(hXn:X.n=(O2 p.History.Tree p.History.Tree.n).n)(hX:∀k,k<X.n->Ca (X.g k)){cands:Sl (Sl Jb)}(hc:∀i,i<cands.n->wOk (cands.g i))(h1:0<cands.n)(h2:cands.n<=256){n:Nat}(hn:n<p.Entries.n){c:Int}(hc0:0<=c/\c<=1) :∃a:Nat,U4 N p cands (n:Int) c=some ((a:Int),0)/\a<cands.n/\∀i,i<cands.n ->
  c*(cn (λk=>cst N X (cands.g a) ((p.Entries.g n).Forms.g k) k) X.n:Int)<=c*(cn (λk=>cst N X (cands.g i) ((p.Entries.g n).Forms.g k) k) X.n:Int) /\
  (i<a->c*(cn (λk=>cst N X (cands.g a) ((p.Entries.g n).Forms.g k) k) X.n:Int)<c*(cn (λk=>cst N X (cands.g i) ((p.Entries.g n).Forms.g k) k) X.n:Int)):=by
 have he:=hp.ents;have h63:=Hk hp.hist.tree;have hF:=he.fn n hn;have hE:=he.n
 suffices ∃r,U4 N p cands (n:Int) c=some r/\∃a:Nat,r=((a:Int),0)/\a<cands.n/\∀i,i<cands.n ->
  c*(cn (λk=>cst N X (cands.g a) ((p.Entries.g n).Forms.g k) k) X.n:Int)<=c*(cn (λk=>cst N X (cands.g i) ((p.Entries.g n).Forms.g k) k) X.n:Int) /\
  (i<a->c*(cn (λk=>cst N X (cands.g a) ((p.Entries.g n).Forms.g k) k) X.n:Int)<c*(cn (λk=>cst N X (cands.g i) ((p.Entries.g n).Forms.g k) k) X.n:Int)) by
  obtain⟨r,r1,a,rfl,r2⟩:=this;exact⟨a,r1,r2⟩
 generalize hG:(λi=>(cn (λk=>cst N X (cands.g i) ((p.Entries.g n).Forms.g k) k) X.n:Int))=G;have m : ∀i,(cn (λk=>cst N X (cands.g i) ((p.Entries.g n).Forms.g k) k) X.n:Int)=G i:=λi=>by rw[<- hG]
 simp only[m];unfold U4 Bf;rw[hp.chk,Ki,Er (by decide),Dl,Ki,Er (by decide)];refine Bk ?_;refine FC (λi x=>x=(i:Int)) cands.n _ (by omega) rfl ?_;rintro self i x hi rfl hs;by_cases b:i<cands.n
 .obtain⟨e,e1,e2⟩:=IK (N:=N) (by omega) λk hk=>((hc i b).2 k hk).ok;obtain rfl:=(IJ e2).2 (hc i b);exact Ai (Ad (B8 (by rw[Kg];exact e1) (Bp (hs b _ (Bq)))))
 refine Bk (Bk (Bk (B8 hl ?_)));clear hs;refine XZ (λj (x8 x9 o:Int)=>o=(j:Int)/\∃a:Nat,x8=(a:Int)/\(0<j->x9=c*G a/\a<j/\∀i,i<j->c*G a<=c*G i/\(i<a->c*G a<c*G i))) cands.n _ (by omega) ⟨rfl,0,rfl,λh=>Es h (Nat.lt_irrefl 0)⟩ ?_;rintro y j x8 x9 o hj ⟨rfl,a,rfl,z⟩ q;by_cases d:j<cands.n
 case neg=>
  obtain rfl:j=cands.n:=by omega
  obtain⟨_,g2,g3⟩:=z h1;exact Bl ⟨_,rfl,a,rfl,g2,g3⟩
 refine Ai (Ad ?_);rw[Kg,Kg];have hw:=hc j d;refine V5 (λk (s t:Int)=>t=(k:Int)/\s=c*(cn (λk=>cst N X (cands.g j) ((p.Entries.g n).Forms.g k) k) k:Int)) X.n _ (by omega) ⟨rfl,by simp[cn]⟩ ?_;rintro f k s t hk ⟨rfl,rfl⟩ u;have hck:=Bd5 (λk=>cst N X (cands.g j) ((p.Entries.g n).Forms.g k) k) k;have v:(cn (λk=>cst N X (cands.g j) ((p.Entries.g n).Forms.g k) k) (k+1))=cn (λk=>cst N X (cands.g j) ((p.Entries.g n).Forms.g k) k) k+if cst N X (cands.g j) ((p.Entries.g n).Forms.g k) k then 1 else 0:=rfl
 by_cases l:k<X.n
 .refine Ai (Ad ?_);rw[Kg];have same:cst N X (cands.g j) ((p.Entries.g n).Forms.g k) k=false->∃r,f (c*(cn (λk=>cst N X (cands.g j) ((p.Entries.g n).Forms.g k) k) k:Int)) (wrap .i64 ((k:Int)+1))=some r/\_:=λh=>u l _ _ ⟨Bq,by rw[v,h];rfl⟩;by_cases w:((p.Entries.g n).Forms.g k).Has=true
  .refine ifT w (Ad (B8 (Bd6 hN (hX k l) hw w) ?_));cases hb:cst N X (cands.g j) ((p.Entries.g n).Forms.g k) k
   .exact Bp (same hb)
   refine ifT rfl (u l _ _ ⟨Bq,?_⟩);rw[v,hb,Ej rfl];rcases (show c=0 \/ c=1 by omega)with rfl|rfl
   .rw[Bx3,Bx3];rfl
   rw[By5,By5,Lk];rfl
  exact ifF w (same (by unfold cst kdX;rw[Er w];rfl))
 obtain rfl:k=X.n:=by omega
 refine Bk ?_;have a0:=m j;rw[a0];by_cases hb:j=0 \/ c*G j<x9
 .refine ifT (by rcases hb with rfl|hb<;>simp[*]) (q d _ _ _ ⟨Bq,j,rfl,λ_=>⟨rfl,by omega,λi hi=>?_⟩⟩);by_cases e:i=j
  .subst e;exact⟨Int.le_refl _,λh=>Es h (Nat.lt_irrefl i)⟩
  obtain⟨g1,g2,g3⟩:=z (by omega);have h9:c*G j<x9:=hb.resolve_left (by omega)
  have:=(g3 i (by omega)).1
  exact⟨by omega,λ_=>by omega⟩
 have hb1:¬j=0:=λh=>hb (.inl h);have hb2:¬c*G j<x9:=λh=>hb (.inr h);obtain⟨g1,g2,g3⟩:=z (by omega);refine Bk (q d _ _ _ ⟨Bq,a,rfl,λ_=>⟨g1,by omega,λi hi=>?_⟩⟩);by_cases e:i=j
 .subst e;exact⟨by omega,λh=>by omega⟩
 exact g3 i (by omega)
def AK0 {N:Nat}{X:Sl (Sl Law)}{p:Sl F3}{l:Sl Entry}{c:Int}{n:Nat}(i:Nat):∀m k,(if i=n then cn (λk=>(kdX N X (p.g i) ((l.g i).Forms.g k) k).isSome) k else 0)+((AE2 i m k).filterMap (exQ N X p l c)).countP (λe=>e.Entry==(n:Int))=if i=n then cn (λk=>(kdX N X (p.g i) ((l.g i).Forms.g k) k).isSome) (k+m)else 0
 |0,k=>by simp[AE2]
 |m+1,k=>by
  have ih:=AK0 (N:=N) (X:=X) (p:=p) (l:=l) (c:=c) (n:=n) i m (k+1);have ex:exQ N X p l c ⟨(i:Int),(k:Int)⟩=(kdX N X (p.g i) ((l.g i).Forms.g k) k).map λt=>⟨(i:Int),(k:Int),t,c⟩:=rfl;have hs:cn (λk=>(kdX N X (p.g i) ((l.g i).Forms.g k) k).isSome) (k+1)=cn (λk=>(kdX N X (p.g i) ((l.g i).Forms.g k) k).isSome) k+if (kdX N X (p.g i) ((l.g i).Forms.g k) k).isSome then 1 else 0:=rfl
  rw[hs]at ih;rw[AE2,Bu5,ex,show k+(m+1)=k+1+m by omega,<- ih];cases kdX N X (p.g i) ((l.g i).Forms.g k) k with
  |none=>simp
  |some t=>
   simp only[Bg8,Option.isSome_some,Eu,List.countP_cons];by_cases e:i=n
   .subst e;simp;omega
   simp[e];omega
def Ar7 {N:Nat}{X:Sl (Sl Law)}{p:Sl F3}{l:Sl Entry}{c:Int}{n:Nat}{w:Nat->Nat}:∀m i,((Jc w m i).filterMap (exQ N X p l c)).countP (λe=>e.Entry==(n:Int))=if i<=n/\n<i+m then cn (λk=>(kdX N X (p.g n) ((l.g n).Forms.g k) k).isSome) (w n)else 0
 |0,i=>by rw[Cm];rfl
 |m+1,i=>by
  have ih:=Ar7 (N:=N) (X:=X) (p:=p) (l:=l) (c:=c) (n:=n) (w:=w) m (i+1);have h1:=AK0 (N:=N) (X:=X) (p:=p) (l:=l) (c:=c) (n:=n) i (w i) 0;rw[Jc,List.filterMap_append,Bz8,ih];by_cases e:i=n
  .subst e;rw[Ej rfl,Ej rfl,Bj2,show cn (λk=>(kdX N X (p.g i) ((l.g i).Forms.g k) k).isSome) 0=0 from rfl,Bj2]at h1;rw[h1,Cm,Ch];rfl
  rw[Er e,Er e,Bj2]at h1;rw[h1,Bj2];by_cases g:i+1<=n/\n<i+1+m
  .rw[Ej g,Ch]
  rw[Er g,Cm]
end Go.AM
namespace Go.AM
open IntKind (wrap)
open Go.Proofs
def ZE {P Q:Nat->Bool}:∀{m:Nat},(∀k,k<m->P k=Q k)->cn P m=cn Q m
 |0,_=>rfl
 |m+1,h=>by simp only[cn];rw[ZE λk hk=>h k (by omega),h m (by omega)]
def Ar8 {N:Nat}{X Y:Sl (Sl Law)}{k:Nat}(h:X.g k=Y.g k)(p f:F3):kdX N X p f k=kdX N Y p f k:=by unfold kdX drv;rw[h]
def Bd7 {a:Nat}{y:Int}:0<=(shI .shr .u8 (a:Int) y).tmod 4/\(shI .shr .u8 (a:Int) y).tmod 4<4:=by
 have h:∃m:Nat,shI .shr .u8 (a:Int) y=(m:Int):=⟨a / 2 ^ (min y.toNat IntKind.u8.bits),by show (a:Int).fdiv (2 ^ (min y.toNat IntKind.u8.bits))=_;rw[show ((2:Int) ^ (min y.toNat IntKind.u8.bits))=((2 ^ (min y.toNat IntKind.u8.bits):Nat):Int) by norm_cast];exact (Int.ofNat_fdiv a _).symm⟩
 obtain⟨m,e⟩:=h;have e2:(m:Int).tmod 4=((m % 4:Nat):Int):=rfl
 have:=Bp0 m (show 0<4 by omega)
 rw[e,e2];omega
def AF6 {α : Type}{s:Sl α}{i:Nat}(h:i<s.n)(P : α -> Bool):(s.toList.take (i+1)).countP P=(s.toList.take i).countP P+if P (s.g i) then 1 else 0:=by rw[Mg h,Bz8];simp[List.countP_cons]
def JO {x:Am6}(hx:Ar6 x){cands:Sl Int}(hc:∀i,i<cands.n->∃k:Nat,cands.g i=(k:Int)/\k<256){w:Int}(hw:∃k:Nat,w=(k:Int)/\k<256):U5 4194304 x cands w=some true:=by
 have hN:3000000<=4194304:=by omega
 refine Zs ?_;obtain⟨⟨p,ok⟩,r1,r2⟩:=AF5 hx;unfold U5;refine B8 r1 ?_;by_cases hk:((((!ok)||((p.Entries.n:Int)==0))||((cands.n:Int)==0))||(decide (4<(cands.n:Int))))=true
 .exact ifT hk ⟨true,by rw[RO];rfl,rfl⟩
 refine ifF hk ?_;have hk2:ok=true/\p.Entries.n≠0/\cands.n≠0/\cands.n<=4:=by simp only[Bk8,not_or,Bh6,Bool.not_eq_false,beq_iff_eq,Fa]at hk;obtain⟨⟨⟨h1,h2⟩,h3⟩,h4⟩:=hk;exact⟨by simpa using h1,by omega,by omega,by omega⟩
 obtain⟨hok,hE,hc0,hc4⟩:=hk2;have hp:=r2 hok;clear r1 r2 hk;dsimp only at hp⊢;have hh:=hp.ok.hist;have r:=hp.ok.ents;have hn:=r.n;have hpn:=r.pn;have h63:=Hk hh.tree;obtain⟨q,rfl,hq⟩:=hw;have en:(wrap .i64 (q:Int)).tmod (p.Entries.n:Int)=((q % p.Entries.n:Nat):Int):=by rw[Lk];rfl
 have t:=Bp0 q (show 0<p.Entries.n by omega);refine Ad ?_;simp only[en];generalize q % p.Entries.n=n at t;clear en hq;have hF:=r.fn n t;obtain⟨L,l1,l2,l3⟩:=AE6 hN hh;have hL:∀k,k<L.n->Ca (L.g k):=λk hk=>by obtain⟨v,hv,e⟩:=Kr p.History.Tree p.History.Tree.n k (by omega);exact (l3 k hk).laws hh (by rw[e];exact hv)
 refine XZ (λi (x5:Sl (Sl Jb)) (x6:Sl Int) x7=>x7=(i:Int)/\x5.n=i/\x6.n=i/\(∀j,j<i->wOk (x5.g j))/\∀j,j<i->x6.g j=(cn (λk=>cst 4194304 L (x5.g j) ((p.Entries.g n).Forms.g k) k) L.n:Int)) cands.n _ (by omega) ⟨rfl,rfl,rfl,λj d=>Es d (Bh2 j),λj d=>Es d (Bh2 j)⟩ ?_;rintro self5 i x5 x6 x7 hi ⟨rfl,h5,h6,a0,a4⟩ hs5;by_cases a6:i<cands.n
 case neg=>
  obtain rfl:i=cands.n:=by omega
  obtain⟨a,a1,a2,a3⟩:=Wp hN hp.ok l1 l2 hL (cands:=x5) (by rw[h5];exact a0) (by omega) (by omega) t (c:=1) (by omega);obtain⟨z,z1,z2,z3⟩:=Wp hN hp.ok l1 l2 hL (cands:=x5) (by rw[h5];exact a0) (by omega) (by omega) t (c:=0) (by omega);have hz:z=0:=by
   by_cases e:z=0
   .exact e
   have:=(z3 0 (by omega)).2 (by omega)
   rw[Bx3,Bx3]at this;omega
  subst hz;refine Bl (B8 a1 (B8 z1 (Bk ?_)));refine FC (λj y=>y=(j:Int)) x6.n _ (by omega) rfl ?_;rintro self8 j y d rfl a7;by_cases f:j<x6.n
  case neg=>exact Bk ⟨true,by rw[RO];rfl,rfl⟩
  obtain⟨g1,g2⟩:=a3 j (by omega);rw[By5,By5,<- a4 a (by omega),<- a4 j (by omega)]at g1 g2;have hr:(((((0:Int)<=(j:Int)/\(j:Int)<(x6.n:Int))/\(j:Int).toNat<x6.n)/\((0:Int)<=(a:Int)/\(a:Int)<(x6.n:Int)))/\(a:Int).toNat<x6.n):=by omega
  refine Ai (ifT hr ?_);rw[Kg,Kg];refine Bk ?_;by_cases hja:j<a
  .exact Ai (Ad (ifF (by have:=g2 hja;simp;omega) (a7 f _ (Bq))))
  exact Bk (a7 f _ (Bq))
 obtain⟨b,hb,hb8⟩:=hc i a6;refine Ai ?_;rw[Kg,hb];refine V5 (λk (l:Str) a8=>a8=(k:Int)/\l.length=k/\∀c∈l,c≠63) 3 _ (by omega) ⟨rfl,rfl,by simp⟩ ?_;rintro self6 k l a8 hk ⟨rfl,h12,u⟩ hs6;refine Ad ?_;have hm:(b:Int).tmod 3=((b % 3:Nat):Int):=rfl;have hm3:=Bp0 b (show 0<3 by omega);rw[hm,Lk (n:=((b % 3:Nat):Int))];by_cases hkl:k<=b % 3
 .have e1:wrap .i64 (2+(wrap .i64 (2*(k:Int))))=((2+2*k:Nat):Int):=by rw[Lk (n:=2*_),Lk];omega
  obtain⟨q1,q2⟩:=Bd7 (a:=b) (y:=((2+2*k:Nat):Int));rw[e1];generalize (shI .shr .u8 (b:Int) ((2+2*k:Nat):Int)).tmod 4=q at q1 q2;obtain⟨q,rfl⟩:∃m:Nat,q=(m:Int):=⟨q.toNat,by omega⟩;have e3:wrap .u8 ((q:Int)+1)=((q+1:Nat):Int):=TR (n:=q+1) (by omega);have h4:(([112,98,97,97]:Str).length:Int)=4:=rfl;rw[e3,h4,Kg,Kg];have hd:((([112,98,97,97]:Str).take (q+1)).drop q).length=1:=by rw[Bh4,Bm4];show min (q+1) 4-q=1;omega
  exact Ai (ifT ⟨⟨⟨⟨⟨⟨by omega,by omega⟩,by omega⟩,by omega⟩,by omega⟩,by omega⟩,by rw[hd];omega⟩ (hs6 (by omega) _ _ ⟨Bq,by rw[Bi1,hd];omega,λc o=>by
   rcases Bu2.1 o with o|o
   .exact u c o
   have:c∈([112,98,97,97]:Str):=List.mem_of_mem_take (List.mem_of_mem_drop o)
   revert this;simp;rintro (rfl|rfl|rfl)<;>decide⟩))
 refine Bk ?_;obtain⟨v,v1,v2,v3⟩:=Yl (N:=4194304) (by omega) (s:=l) (by omega);have hfm:T6 4194304 l=some ⟨true,v⟩:=by
  unfold T6
  have:(l==([63]:Str))=false:=by rw[beq_eq_false_iff_ne];rintro rfl;exact u 63 (by simp) rfl
  rw[this,Er (by decide),v1];rfl
 refine B8 v1 (ifT ⟨by show (x5.n+1)*24<=_/\x5.n+1<=_;omega,by show (0+p.Protos.n)*32<=_/\0+p.Protos.n<=_;omega⟩ (B8 hfm ?_));refine ifT (by show ((0:Int)<=(n:Int)/\(n:Int)<((0+p.Protos.n:Nat):Int))/\(n:Int).toNat<0+p.Protos.n;omega) ?_;rw[Kg];have a9:∀j,j<p.Protos.n->j≠n->(((Sl.of []:Sl F3).app p.Protos).upd n ⟨true,v⟩).g j=p.Protos.g j:=λj d e=>by show (if j=n then (⟨true,v⟩:F3)else (if j<0 then (Sl.of []:Sl F3).g j else p.Protos.g (j-0)))=_;rw[Er e,Er (Bh2 j)];rfl
 have a5:(((Sl.of []:Sl F3).app p.Protos).upd n ⟨true,v⟩).g n=⟨true,v⟩:=Ej rfl;have hPl:(((Sl.of []:Sl F3).app p.Protos).upd n ⟨true,v⟩).n=p.Protos.n:=Bj2 _;generalize ((Sl.of []:Sl F3).app p.Protos).upd n ⟨true,v⟩=P at a9 a5 hPl;have b0:∀j,j<P.n->okF (P.g j)/\((P.g j).Has=true->wrd (P.g j).W):=λj d=>by
  by_cases e:j=n
  .rw[e,a5];exact⟨⟨v2,λh=>by cases h⟩,λ_=>v3⟩
  rw[a9 j (by omega) e];exact⟨r.pf j (by omega),hp.wd j (by omega)⟩
 have hq:Ae4 4194304 ⟨p.Feats,p.Sounds,p.Marks,p.History,P,p.Entries⟩:=by rw[hp.fe,hp.so,hp.ma];exact ZD hh ⟨r.n,by omega,λj d=>(b0 j d).1,r.fn,r.ff,r.nm⟩
 obtain⟨X,x1,x2,x3⟩:=AT1 hN hq λj d=>(b0 j d).2;obtain⟨c,s,c1,c2⟩:=x3 1 (by omega);have hXL:∀k,k<L.n->X.g k=L.g k:=λk hk=>(x2 k (by rw[x1];show k<(O2 p.History.Tree p.History.Tree.n).n;omega)).det (l3 k hk);have b1:c.toList.countP (λe=>e.Entry==(n:Int))=cn (λk=>cst 4194304 L v ((p.Entries.g n).Forms.g k) k) L.n:=by rw[c2];show ((Jc (fwL p.Entries) p.Entries.n 0).filterMap (exQ 4194304 X P p.Entries 1)).countP _=_;rw[Ar7,Ej ⟨Bn0 _,by omega⟩,a5,show fwL p.Entries n=L.n from hF.trans l2.symm];exact ZE λk hk=>by rw[Ar8 (hXL k hk)];rfl
 have hcn:c.n<=16128:=by
  rw[<- Ec,c2];refine Bk3 (List.length_filterMap_le _ _) ?_
  have:=PN (w:=fwL p.Entries) (m:=p.Entries.n) (i:=0) λa hx=>by show (p.Entries.g a).Forms.n<=_;rw[r.fn a (by omega)];exact h63
  show (Jc (fwL p.Entries) p.Entries.n 0).length<=_;omega
 refine B8 c1 (ifF (show ¬((0:Int) != 0)=true by decide) ?_);dsimp only;refine V5 (λj (b2:Int) b3=>b3=(j:Int)/\b2=((c.toList.take j).countP (λe=>e.Entry==(n:Int)):Int)) c.n _ (by omega) ⟨rfl,rfl⟩ ?_;rintro self7 j b2 b3 d ⟨rfl,rfl⟩ b4;by_cases f:j<c.n
 .have ht:=AF6 f (λe=>e.Entry==(n:Int));have hle:(c.toList.take j).countP (λe=>e.Entry==(n:Int))<=j:=Bk3 List.countP_le_length (Bu4 _ _);refine Ai (Ad ?_);rw[Kg];by_cases e:((c.g j).Entry==(n:Int))=true
  .exact ifT e (b4 f _ _ ⟨Bq,by rw[ht,Ej e,Bq]⟩)
  exact ifF e (b4 f _ _ ⟨Bq,by rw[ht,Er e];rfl⟩)
 obtain rfl:j=c.n:=by omega
 rw[Bm3 (by rw[Ec];exact Bg5 _),b1];refine Bl (ifT (by show (x6.n+1)*8<=_/\x6.n+1<=_;omega) (hs5 a6 _ _ _ ⟨Bq,by show x5.n+1=_;omega,by show x6.n+1=_;omega,λj d=>?_,λj d=>?_⟩))
 .show wOk (if j<x5.n then x5.g j else v);split
  .exact a0 j (by omega)
  exact v2
 show (if j<x6.n then x6.g j else _)=(cn (λk=>cst 4194304 L (if j<x5.n then x5.g j else v) ((p.Entries.g n).Forms.g k) k) L.n:Int);by_cases e:j<i
 .rw[Ch,Ch];exact a4 j e
 rw[Cm,Cm]
end Go.AM
