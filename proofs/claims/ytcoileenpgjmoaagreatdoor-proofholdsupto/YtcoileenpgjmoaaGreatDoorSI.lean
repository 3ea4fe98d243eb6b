/- Part 9. -/
import Derived.Test.YtcoileenpgjmoaaGreatDoorSF
import Derived.Test.YtcoileenpgjmoaaGreatDoorSG
import Derived.Test.YtcoileenpgjmoaaGreatDoorSH
set_option linter.defProp false
set_option linter.unusedSimpArgs false
set_option linter.unusedVariables false
set_option linter.unusedSectionVars false
namespace Go.AM
def Ev:=@decide_eq_true_eq
def Cj{c:Prop}{i:Decidable c}{α:Sort _}{a b:α}(h:¬c:=by simp;omega):(if c then a else b)=b:=Ej h
def Ch{c:Prop}{i:Decidable c}{α:Sort _}{a b:α}(h:c:=by simp;omega):(if c then a else b)=a:=Dq h
def Ce{c:Prop}{i:Decidable c}{α:Sort _}{a b:α}(h:c:=by omega):(if c then a else b)=a:=Dq h
open IntKind (wrap)
def Bo4:=@Classical.axiomOfChoice
def Bq7:=@BitVec.getLsbD_or
def Bq9:=@List.length_filter_le
def Bs0:=@List.reverse_append
def Bs2:=@BitVec.getLsbD_and
def Bs3:=@UInt8.toNat_ofNat'
def Bt3:=@List.flatMap_cons
def Bt7:=@BitVec.eq_of_getLsbD_eq
def Bt8:=@Nat.testBit_two_pow_mul
def Bt9:=@List.cons.inj
def Bu4:=@Nat.testBit_lt_two_pow
def Bu5:=@List.reverse_singleton
def Bv0:=@List.singleton_append
def Bv5:=@BitVec.getLsbD_of_ge
def Bw9:=@BitVec.getLsbD_not
def Bx0:=@Nat.lt_of_le_of_lt
open Go.Proofs
def AA6 {A R:Type}{body:(A->Option R)->A->Option R}(I:Nat->A->Prop)(n:Nat)(L7:R->Prop)
 (b:∀self i a,i<=n->I i a->(i<n->∀a',I (i+1) a' -> ∃r,self a' = some r/\L7 r)->∃r,body self a=some r/\L7 r) :
 ∀(N i:Nat) (a:A),i<=n->I i a->n-i<N->∃r,Y3 N body a=some r/\L7 r
 |0,_,_,_,_,h=>by omega
 |N+1,i,a,hi,hI,h=>by rw[I4];exact b _ i a hi hI λc a' d=>AA6 I n L7 b N (i+1) a' c d (by omega)
def Gb {A R:Type}{body:(A->Option R)->A->Option R}(I:Nat->A->Prop)(n:Nat)(L7:R->Prop){N:Nat}(c:n<N){a:A}(d:I 0 a)
 (b:∀self i a,i<=n->I i a->(i<n->∀a',I (i+1) a' -> ∃r,self a' = some r/\L7 r)->∃r,body self a=some r/\L7 r):∃r,Y3 N body a=some r/\L7 r:=
 AA6 I n L7 b N 0 a (Bl6 _) d c
def U8 {A B R:Type}{body:(A->B->Option R)->A->B->Option R}(I:Nat->A->B->Prop)(n:Nat)(L7:R->Prop){N:Nat}(g:n<N){a:A}{b:B}(j:I 0 a b)
 (d:∀c i a b,i<=n->I i a b->(i<n->∀a' b',I (i+1) a' b' -> ∃r,c a' b' = some r/\L7 r)->∃r,body c a b=some r/\L7 r):∃r,Bj N body a b=some r/\L7 r:=
 AA6 (λi x=>I i x.1 x.2) n L7 (λc i x l m h=>d (λa b=>c (a,b)) i x.1 x.2 l m λhl a' b' f=>h hl (a',b') f) N 0 (a,b) (Bl6 _) j g
def XP {A B C R:Type}{body:(A->B->C->Option R)->A->B->C->Option R}(I:Nat->A->B->C->Prop)(n:Nat)(L7:R->Prop){N:Nat}(j:n<N){a:A}{b:B}{c:C}(l:I 0 a b c)
 (f:∀d i a b c,i<=n->I i a b c->(i<n->∀a' b' c',I (i+1) a' b' c' -> ∃r,d a' b' c' = some r/\L7 r)->∃r,body d a b c=some r/\L7 r):∃r,Aj0 N body a b c=some r/\L7 r:=
 AA6 (λi x=>I i x.1 x.2.1 x.2.2) n L7 (λd i x m o h=>f (λa b c=>d (a,b,c)) i x.1 x.2.1 x.2.2 m o λhl a' b' c' g=>h hl (a',b',c') g) N 0 (a,b,c) (Bl6 _) l j
def C0 {X R:Type}{Q:R->Prop}{o:Option X}{f:X->Option R}{x:X}(h:o=some x)(a:∃r,f x=some r/\Q r):∃r,o.bind f=some r/\Q r:=by subst h;exact a
def ltX {R A:Type}{Q:R->Prop}{k:A->Option R}{f:(A->Option R)->Option R}(h:∃r,f k=some r/\Q r):∃r,lt k f=some r/\Q r:=h
def ifT {R:Type}{Q:R->Prop}{p:Prop}[Decidable p]{a b:Option R}(h:p)(c:∃r,a=some r/\Q r):∃r,(if p then a else b)=some r/\Q r:=by rw[Dq h];exact c
def Aq{R:Type}{Q:R->Prop}{p:Prop}[Decidable p]{a b:Option R}(h2:∃ r,a=some r/\Q r)(h:p:=by decide):∃ r,(if p then a else b)=some r/\Q r:=ifT h h2
def Ai{R:Type}{Q:R->Prop}{p:Prop}[Decidable p]{a b:Option R}(h2:∃ r,a=some r/\Q r)(h:p:=by simp):∃ r,(if p then a else b)=some r/\Q r:=ifT h h2
def Ah{R:Type}{Q:R->Prop}{p:Prop}[Decidable p]{a b:Option R}(h2:∃ r,a=some r/\Q r)(h:p:=by simp;omega):∃ r,(if p then a else b)=some r/\Q r:=ifT h h2
def Ac{R:Type}{Q:R->Prop}{p:Prop}[Decidable p]{a b:Option R}(h2:∃ r,a=some r/\Q r)(h:p:=by omega):∃ r,(if p then a else b)=some r/\Q r:=ifT h h2
def ifF {R:Type}{Q:R->Prop}{p:Prop}[Decidable p]{a b:Option R}(h:¬p)(c:∃r,b=some r/\Q r):∃r,(if p then a else b)=some r/\Q r:=by rw[Ej h];exact c
def Bp{R:Type}{Q:R->Prop}{p:Prop}[Decidable p]{a b:Option R}(h2:∃ r,b=some r/\Q r)(h:¬p:=by decide):∃ r,(if p then a else b)=some r/\Q r:=ifF h h2
def Bl{R:Type}{Q:R->Prop}{p:Prop}[Decidable p]{a b:Option R}(h2:∃ r,b=some r/\Q r)(h:¬p:=by simp):∃ r,(if p then a else b)=some r/\Q r:=ifF h h2
def Bk{R:Type}{Q:R->Prop}{p:Prop}[Decidable p]{a b:Option R}(h2:∃ r,b=some r/\Q r)(h:¬p:=by simp;omega):∃ r,(if p then a else b)=some r/\Q r:=ifF h h2
def Ar{R:Type}{Q:R->Prop}{p:Prop}[Decidable p]{a b:Option R}(h2:∃ r,b=some r/\Q r)(h:¬p:=by omega):∃ r,(if p then a else b)=some r/\Q r:=ifF h h2
def E3 {n:Int}(h : -9223372036854775808<=n)(h' : n<=9223372036854775807):IntKind.i64.wrap n=n:=by
 by_cases a:0<=n
 .have h1:n % (2 ^ 64:Int)=n:=Bl7 a (by omega);unfold wrap;simp only[IntKind.bits,IntKind.signed,h1];rw[Ej];simp;omega
 have h1:n % (2 ^ 64:Int)=n+2 ^ 64:=by rw[<- Int.add_emod_right];exact Bl7 (by omega) (by omega)
 unfold wrap;simp only[IntKind.bits,IntKind.signed,h1];rw[Dq]
 .omega
 simp;omega
def F7 {i:Nat}(h:i<1000000000000000000):IntKind.i64.wrap ((i:Int)+1)=((i+1:Nat):Int):=by rw[E3 (by omega) (by omega)];rfl
def Bq{i:Nat}(h:i<1000000000000000000:=by omega):IntKind.i64.wrap ((i:Int)+1)=((i+1:Nat):Int):=F7 h
def AA7 {i:Nat}(a:1<=i)(h:i<1000000000000000000):IntKind.i64.wrap ((i:Int)-1)=((i-1:Nat):Int):=by rw[E3 (by omega) (by omega)];omega
def QJ {i j:Nat}(h:i+j<1000000000000000000):IntKind.i64.wrap ((i:Int)+(j:Int))=((i+j:Nat):Int):=by rw[E3 (by omega) (by omega)];rfl
end Go.AM
namespace Go.AM
variable {N:Nat}
open Go.Proofs
abbrev sOf (x y:BitVec 32):Iu:=⟨(x.toNat:Int),(y.toNat:Int)⟩
def okS (s:Iu):Prop:=∃p m:BitVec 32,s=sOf p m
def eq0 (x:BitVec 32):((x.toNat:Int)==0)=decide (x=0#32):=by
 rw[Bp4];simp only[beq_iff_eq,Ev];constructor
 .intro h;apply Bk9;show x.toNat=0;omega
 rintro rfl;rfl
def z32 (x:BitVec 32):x=0#32 ↔ ∀i,i<32->x.getLsbD i=false:=by
 constructor
 .rintro rfl i a;simp
 intro h;apply Bt7;intro i a;rw[h i a];simp
def Am6 (x:BitVec 32):x.toNat<16777216 ↔ ∀i,24<=i->i<32->x.getLsbD i=false:=by
 constructor
 .intro h i a b;exact Bu4 (Bg6 h (Bp7 (n:=2) (i:=24) (by omega) a))
 intro h;refine Nat.lt_pow_two_of_testBit (n:=24) _ λi a=>?_;by_cases c:i<32
 .exact h i a c
 exact Bu4 (Bg6 x.isLt (Bp7 (by omega) (by omega)))
def vB (p m:BitVec 32):Bool:=decide (∀i:Fin 32,¬(p.getLsbD i=true/\m.getLsbD i=true)/\(24<=i.1->p.getLsbD i=false/\m.getLsbD i=false))
def AH2 (p m:BitVec 32):vB p m=true ↔ ∀i,i<32->¬(p.getLsbD i=true/\m.getLsbD i=true)/\(24<=i->p.getLsbD i=false/\m.getLsbD i=false):=by rw[vB,Ev];exact⟨λh i a=>h ⟨i,a⟩,λh i=>h i.1 i.2⟩
def AA8 (p m:BitVec 32):p &&& m=0#32 ↔ ∀i,i<32->¬(p.getLsbD i=true/\m.getLsbD i=true):=by rw[z32];refine forall_congr' λi=>forall_congr' λa=>?_;rw[Bs2,Bool.and_eq_false_iff];cases p.getLsbD i<;>cases m.getLsbD i<;>simp
def Ba4 (p m:BitVec 32):vB p m=true↔p &&& m=0#32/\(p ||| m).toNat<16777216:=by
 rw[AH2,AA8,Am6];constructor
 .intro h;refine⟨λi a=>(h i a).1,λi h1 b=>?_⟩
  have:=(h i b).2 h1
  rw[Bq7,this.1,this.2];rfl
 rintro⟨h1,b⟩ i a;refine⟨h1 i a,λc=>?_⟩
 have:=b i c a
 rw[Bq7,Bool.or_eq_false_iff]at this;exact this
def Dc (p m:BitVec 32):H8 N (sOf p m)=some (vB p m):=by unfold H8;rw[Su,YE,eq0];congr 1;rw[Bp4,Ba4];simp only[Be4,Ev];exact⟨λh=>⟨h.1,by have:=h.2;omega⟩,λh=>⟨h.1,by have:=h.2;omega⟩⟩
def shr24 (x:BitVec 32):(shI .shr .u32 (x.toNat:Int) 24==0)=decide (x.toNat<16777216):=by
 rw[show (24:Int)=((24:Nat):Int) from rfl,AG0,Bp4];simp only[beq_iff_eq,Ev,Bt1,Bs5]
 have:=Nat.div_eq_zero_iff (a:=x.toNat) (b:=2 ^ 24)
 omega
def VP (p m:BitVec 32):Cx N (sOf p m)=some (vB p m):=by unfold Cx;rw[Su,YE,eq0,shr24];congr 1;rw[Bp4,Ba4];simp only[Be4,Ev]
def VQ (p m:BitVec 32):Q6 N (sOf p m)=some (vB p m):=VP (N:=N) p m
def Ar5 (x y s:BitVec 32):BitVec 32:=(x &&& ~~~ s) ||| (y &&& s)
def AH3 (p m a b s:BitVec 32):Dr N (sOf p m) (sOf a b) (s.toNat:Int)=some (sOf (Ar5 p a s) (Ar5 m b s)):=by unfold Dr;simp only[ZU,Su,YE,Ar5]
def chgE (p m c a b:BitVec 32):Iu×Int:=if vB p m=true/\vB a b then (if c.toNat<16777216/\c &&& (a ||| b)=0#32 then (sOf (Ar5 p a (c ||| (a ||| b))) (Ar5 m b (c ||| (a ||| b))),0)else (⟨0,0⟩,2))else (⟨0,0⟩,14)
def Ac1 (p m c a b:BitVec 32):Z6 N (sOf p m) (c.toNat:Int) (sOf a b)=some (chgE p m c a b):=by
 unfold Z6 chgE;rw[Dc];simp only[Option.bind_some,lt,Dc,Fg,YE,Su,AH3];cases h1:vB p m
 .simp
 cases g:vB a b
 .simp
 by_cases d:c.toNat<16777216
 .have e:((c &&& (a ||| b)).toNat:Int) != 0 ↔ ¬(c &&& (a ||| b)=0#32):=by
   have:=eq0 (c &&& (a ||| b))
   simp only[bne_iff_ne,ne_eq];rw[<- Ev (p:=c &&& (a ||| b)=0#32),<- this];simp
  by_cases f:c &&& (a ||| b)=0#32
  .simp[d,f];omega
  have e':=e.2 f;rw[Ej (by simp<;>omega),e'];simp[d,f]
 simp[d];omega
def takE (p m a b s:BitVec 32):Iu×Int:=if vB p m=true/\vB a b then (if s.toNat<16777216 then (sOf (Ar5 p a s) (Ar5 m b s),0)else (⟨0,0⟩,2))else (⟨0,0⟩,14)
def AA9 (p m a b s:BitVec 32):Cw N (sOf p m) (sOf a b) (s.toNat:Int)=some (takE p m a b s):=by
 unfold Cw takE;rw[Dc];simp only[Option.bind_some,lt,Dc,AH3];cases h1:vB p m
 .simp
 cases d:vB a b
 .simp
 by_cases c:s.toNat<16777216
 .simp[c];omega
 simp[c];omega
end Go.AM
namespace Go.AM
open Go.Proofs
def vS (s:Iu):Prop:=∃p m:BitVec 32,s=sOf p m/\vB p m=true
def Tz (p:Pat):Prop:= (0<=p.Kind/\p.Kind<=6)/\(p.Kind≠1->(p.Is.Plus=0/\p.Is.Minus=0)/\p.Not=false)/\(p.Kind≠3->p.Kind≠4->p.Kind≠5->p.L.n=0)/\(p.Kind≠5->p.Min=0/\p.Max=0) /\ (p.Kind=5->p.L.n=1/\0<=p.Min/\p.Min<=32/\(p.Max = -1 \/ (p.Min<=p.Max/\p.Max<=32)))/\vS p.Is
def Am7 {s:Iu}{p m:BitVec 32}(h:s=sOf p m):vS s↔vB p m=true:=by
 constructor
 .rintro⟨q,r,e,a⟩;rw[h]at e;have e1:(p.toNat:Int)=q.toNat:=congrArg Iu.Plus e;have e2:(m.toNat:Int)=r.toNat:=congrArg Iu.Minus e;rw[Bk9 (show p.toNat=q.toNat by omega),Bk9 (show m.toNat=r.toNat by omega)];exact a
 exact λa=>⟨p,m,h,a⟩
def okPS:Pat->Prop
 |.nil=>True
 |.mk _ is _ _ _ n g=>okS is/\∀i,i<n->okPS (g i)
def okPS.is {p:Pat}(h:okPS p):okS p.Is:=by
 cases p with
 |nil=>exact⟨0#32,0#32,rfl⟩
 |mk _ is _ _ _ n g=>exact h.1
def okPS.L {p:Pat}(h:okPS p){i:Nat}(a:i<p.L.n):okPS (p.L.g i):=by
 cases p with
 |nil=>exact Er a (by show ¬i<0;omega)
 |mk _ is _ _ _ n g=>exact h.2 i a
def chk:Nat->List Pat->Prop
 |0,l=>l=[]
 |_+1,[]=>True
 |k+1,p::l=>Tz p/\chk k (p.L.toList++l)
def AP5:∀k,chk k []
 |0=>rfl
 |_+1=>trivial
def TA:∀(k:Nat) (l:List Pat),chk k l->l.length<=k
 |0,l,h=>by rw[show l=[] from h];exact Be8 _
 |k+1,[],_=>Bl6 _
 |k+1,p::l,⟨_,h⟩=>by
  have:=TA k _ h
  rw[Bh1]at this;simp only[Bh0];omega
def Ac2 {α : Type}{s:Sl α}{i:Nat}(h:i<s.n):s.g i∈s.toList:=Bk8.2 ⟨i,Bk2.2 h,rfl⟩
def GA {α : Type}(s:Sl α):s.toList.length=s.n:=by simp[Sl.toList]
def XQ {α : Type}(s:Sl α){i:Nat}(h:i<s.n):s.toList.drop i=s.g i::s.toList.drop (i+1):=by
 have hl:i<s.toList.length:=by rw[GA];exact h
 rw[Bn3 hl];simp[Sl.toList]
def PB {α : Type}(s:Sl α):s.toList.drop s.n=[]:=Bl5 (by rw[GA];exact Be8 _)
end Go.AM
namespace Go.AM
open Go.Proofs
def Am8 (x:BitVec 64)(h:x≠0#64):Lib.ctz 64 x.toNat<64/\x.getLsbD (Lib.ctz 64 x.toNat)=true/\∀j,j<Lib.ctz 64 x.toNat->x.getLsbD j=false:=by
 have b:x.toNat≠0:=λe=>h (Bk9 (by simpa using e));obtain⟨m,hm,a⟩:=Lib.ctzFrom_spec 64 x.toNat (by omega) x.isLt;have e:Lib.ctz 64 x.toNat=Lib.ctzFrom 64 x.toNat:=by unfold Lib.ctz;rw[Ej b]
 rw[e];refine⟨a,?_,λj c=>?_⟩
 .show x.toNat.testBit _=true;rw[hm,Bt8];simp[<- hm,Nat.testBit_zero]
 show x.toNat.testBit _=false;rw[hm,Bt8];simp[<- hm];omega
def Hj (x:BitVec 64)(i:Nat):List Int:=((List.range' i (64-i)).filter λj=>x.getLsbD j).map λ(j:Nat)=>(j:Int)
def RF {x:BitVec 64}{i:Nat}(h:∀j,j<64->x.getLsbD j=false):Hj x i=[]:=by
 unfold Hj;rw[List.filter_eq_nil_iff.2 λj a=>by
  have:=List.mem_range'.1 a
  simp;exact h j (by omega)]
 rfl
def RG {x:BitVec 64}{t:Nat}:∀(k i:Nat),t=i+k->t<64->x.getLsbD t=true->(∀j,j<t->x.getLsbD j=false)->Hj x i=(t:Int)::Hj x (t+1)
 |0,i,h,ht,hb,hl=>by
  obtain rfl:t=i:=by omega
  unfold Hj;rw[show 64-t=(64-(t+1))+1 by omega,Br0,List.filter_cons_of_pos hb];rfl
 |k+1,i,h,ht,hb,hl=>by rw[<- RG k (i+1) (by omega) ht hb hl];unfold Hj;rw[show 64-i=(64-(i+1))+1 by omega,Br0,List.filter_cons_of_neg (by simp;exact hl i (by omega))]
def XR {x y:BitVec 64}{i:Nat}(h:∀j,i<=j->x.getLsbD j=y.getLsbD j):Hj x i=Hj y i:=by unfold Hj;rw[List.filter_congr λj a=>h j (by have:=List.mem_range'.1 a;omega)]
def Bd7 (M:Nat)(a:Int->Option (List Int))(x1:Int):Option (List Int):= if (x1 != 0) then (I5 M x1).bind λy3=>if (0:Int)<=y3 then Ag y3 (a (O9 .andNot .u64 x1 (shI .shl .u64 1 y3))) else none else some []
def Am9 {x:BitVec 64}{M:Nat}{a:Int->Option (List Int)}(hx:x≠0#64):Bd7 M a (U x)=Ag ((Lib.ctz 64 x.toNat:Nat):Int) (a (U (x &&& ~~~(1#64 <<< Lib.ctz 64 x.toNat)))):=by
 have c:x.toNat≠0:=λe=>hx (Bk9 (by simpa using e));have b:=x.isLt;unfold Bd7;rw[Ch]
 have:I5 M (U x)=some ((Lib.ctz 64 x.toNat:Nat):Int):=by unfold I5;rw[Dq ⟨show (0:Int)<=(x.toNat:Int) by omega,show (x.toNat:Int)<18446744073709551616 by omega⟩];rfl
 rw[this,Option.bind_some,Ce,Az9 _ (Am8 x hx).1,Az8]
def VR {M:Nat}{a:Int->Option (List Int)}:Bd7 M a (U 0#64)=some []:=rfl
def AP6 (M:Nat):∀(k i:Nat) (x:BitVec 64),64-i<=k->(∀j,j<i->x.getLsbD j=false)->∀N,k<N->Y3 N (Bd7 M) (U x)=some (Hj x i):=by
 intro k
 induction k with
 |zero=>
  intro i x hk hl N b;have g:x=0#64:=Bt7 λj a=>by simp;exact hl j (by omega)
  subst g
  match N,b with
  |N+1,_=>rw[RF λj a=>by simp,I4,VR]
 |succ k ih=>
  intro i x hk hl N b
  match N,b with
  |N+1,b=>
   by_cases hx:x=0#64
   .subst hx;rw[RF λj a=>by simp,I4,VR]
   obtain⟨h1,c,d⟩:=Am8 x hx;have l:i<=Lib.ctz 64 x.toNat:=by
    by_cases m:Lib.ctz 64 x.toNat<i
    .rw[hl _ m]at c;cases c
    omega
   rw[RG (Lib.ctz 64 x.toNat-i) i (by omega) h1 c d,I4,Am9 hx];generalize Lib.ctz 64 x.toNat=t at h1 c d l;have hb:∀j,j<64->(x &&& ~~~(1#64 <<< t)).getLsbD j=(x.getLsbD j && !decide (j=t)):=λj a=>by rw[Bs2,Bw9,Am0 h1 a];simp[a]
   have hc:Hj x (t+1)=Hj (x &&& ~~~(1#64 <<< t)) (t+1):=XR λj a=>by
    by_cases f:j<64
    .rw[hb j f];have:¬j=t:=by omega
     simp[this]
    rw[Bv5 _ _ (by omega),Bv5 _ _ (by omega)]
   rw[ih (t+1) (x &&& ~~~(1#64 <<< t)) (by omega) (λj a=>by
    rw[hb j (by omega)];by_cases e:j=t
    .simp[e]
    rw[d j (by omega)];rfl) N (by omega),<- hc]
   rfl
def PC (x:BitVec 64){N:Nat}(b:100<=N):T0 N (U x)=some (Hj x 0):=
 AP6 N 64 0 x (by omega) (λj a=>Er a (by omega)) N (by omega)
def mem_bitsF {x:BitVec 64}{i:Nat}{y:Int}:y∈Hj x i ↔ ∃j:Nat,y=(j:Int)/\i<=j/\j<64/\x.getLsbD j=true:=by
 unfold Hj;simp only[Bk8,Bp1,List.mem_range'_1];constructor
 .rintro⟨j,⟨h1,a⟩,rfl⟩;exact⟨j,rfl,h1.1,by omega,a⟩
 rintro⟨j,rfl,h1,a,b⟩;exact⟨j,⟨⟨h1,by omega⟩,b⟩,rfl⟩
def VT {T A R:Type}{body:(A->Option R)->T->A->Option R}{k:A->Option R}{L7:R->Prop}(J:List T->A->Prop)(c:∀a,J [] a->∃r,k a=some r/\L7 r)
 (b:∀t L a self,J (t::L) a->(∀a',J L a' -> ∃r,self a' = some r/\L7 r)->∃r,body self t a=some r/\L7 r):∀(L:List T) (a:A),J L a->∃r,S9 L body k a=some r/\L7 r
 |[],a,h=>c a h
 |t::L,a,h=>b t L a _ h λa' h'=>VT J c b L a' h'
def AB0 (f:Nat->Int)(i:Nat)(v:Int)(a:Nat):Oy f i v a=if a=i then v else f a:=rfl
def UB (n:Nat)(z:BitVec 64):Prop:=∀b,b<64->z.getLsbD b=true->b<=n
def TU (n:Nat)(f:Nat->Int):Prop:=∀a,∃z:BitVec 64,f a=U z/\UB n z
def TU.zero (n:Nat):TU n (λ_=>0):=λa=>⟨0#64,rfl,λb _ h=>by simp at h⟩
def TU.upd {n:Nat}{f:Nat->Int}(h:TU n f)(i:Nat){z:BitVec 64}(b:UB n z):TU n (Oy f i (U z)):=λa=>by
 rw[AB0];split
 .exact⟨z,rfl,b⟩
 exact h a
def UB.or {n:Nat}{u v:BitVec 64}(h:UB n u)(g:UB n v):UB n (u ||| v):=λb hb e=>by rw[Bq7,Bj3]at e;exact e.elim (h b hb) (g b hb)
def UB.one {n k:Nat}(h:k<=n)(hn:n<64):UB n (1#64 <<< k):=λb hb e=>by rw[Am0 (by omega) hb,Ev]at e;omega
def Ba5 {N n:Nat}{x y:Nat->Int}(c:1000<=N)(hx:TU n x)(hy:TU n y):∃s,P1 N x y=some s/\TU n s:=by
 unfold P1;refine U8 (λi x1 x2=>x2=(i:Int)/\TU n x1) 33 _ (by omega) ⟨rfl,hx⟩ ?_;rintro b i x1 x2 d ⟨rfl,a⟩ hs;by_cases hl:i<33
 .refine Ah (Ac (Ac (hs (by omega) _ _ ⟨Bq,?_⟩)));obtain⟨u,e1,g1⟩:=a (0+(i:Int).toNat*1);obtain⟨v,e2,g2⟩:=hy (0+(i:Int).toNat*1);rw[e1,e2,or64];exact a.upd _ (g1.or g2)
 exact Bk ⟨x1,rfl,a⟩
def Ki {N n:Nat}(hn:n<=32)(c:1000<=N):∃s,S4 N (n:Int)=some s/\TU n s:=by
 unfold S4;rw[Bq];refine U8 (λi x1 x2=>x2=(i:Int)/\TU n x1) (n+1) _ (by omega) ⟨rfl,TU.zero n⟩ ?_;rintro a i x1 x2 d ⟨rfl,b⟩ hs;by_cases hl:i<=n
 .refine Ah (Ac (hs (by omega) _ _ ⟨Bq,?_⟩));rw[Az9 _ (by omega)];exact b.upd _ (UB.one hl (by omega))
 exact Bk ⟨x1,rfl,b⟩
def TB {N n:Nat}{x y:Nat->Int}(hn:n<=32)(q:1000<=N)(hx:TU n x)(hy:TU n y):∃s,F4 N x y=some s/\TU n s:=by
 unfold F4;refine U8 (λi x3 x4=>x4=(i:Int)/\TU n x3) 33 _ (by omega) ⟨rfl,TU.zero n⟩ ?_;rintro g i x3 x4 r ⟨rfl,l⟩ hs;by_cases hl:i<33
 .refine Ah (Ac ?_);obtain⟨u,e1,g1⟩:=hx (0+(i:Int).toNat*1);refine C0 rfl (C0 (x:=Hj u 0) (by rw[e1];exact PC u (by omega)) ?_);refine VT (λL z=>TU n z/\∀t∈L,∃c:Nat,t=(c:Int)/\c<=n) ?_ ?_ _ _ ⟨l,λt ht=>?_⟩
  .exact λz m=>hs (by omega) _ _ ⟨Bq,m.1⟩
  .rintro t L z d ⟨k1,k2⟩ f;obtain⟨c,rfl,hc⟩:=k2 t (by simp);refine Ac (f _ ⟨?_,λt ht=>k2 t (by simp[ht])⟩);obtain⟨a,e2,g2⟩:=k1 (0+(i:Int).toNat*1);obtain⟨b,e3,g3⟩:=hy (0+(c:Int).toNat*1);rw[e2,e3,or64];exact k1.upd _ (g2.or g3)
  obtain⟨j,rfl,_,o,hb⟩:=mem_bitsF.1 ht;exact⟨j,rfl,g1 j o hb⟩
 exact Bk ⟨x3,rfl,l⟩
def AB1 (N:Nat)(x:Nat->Int):O7 N x=F4 N x x:=rfl
end Go.AM
namespace Go.AM
variable {N:Nat}
open Go.Proofs
def Ba6:∀m:Fin 33,shI .shr .i64 ((m.val:Nat):Int) 1=((m.val / 2:Nat):Int):=by decide +kernel
def Zd {N n:Nat}{x:Nat->Int}(hn:n<=32)(d:1000<=N)(hx:TU n x){k:Nat}(hk:k<=32):∃s,G6 N x (k:Int) (n:Int)=some s/\TU n s:=by
 unfold G6;obtain⟨y1,e1,h1⟩:=Ki (N:=N) hn d;refine C0 e1 ?_;refine XP (λi x1 x2 x3=>x1=((k / 2 ^ i:Nat):Int)/\TU n x2/\TU n x3) 6 _ (by omega) ⟨by simp,hx,h1⟩ ?_;rintro l i x1 x2 x3 m ⟨rfl,f,g⟩ hs;have hm:k / 2 ^ i<=32:=Bi9 (Nat.div_le_self _ _) hk;have b2:=Ba6 ⟨k / 2 ^ i,by omega⟩;simp only at b2;have a:k / 2 ^ i / 2=k / 2 ^ (i+1):=by rw[Nat.div_div_eq_div_mul,Nat.pow_succ]
 obtain⟨sq,esq,b⟩:=TB hn d f f;rw[<- AB1]at esq;by_cases j:k / 2 ^ i=0
 .exact ifF (by simp[j]) ⟨x3,rfl,g⟩
 have c:i<6:=by
  by_cases h:i<6
  .exact h
  exact Er (Bo5 (Bx0 hk (Bg6 (by decide:32<2 ^ 6) (Bp7 (by omega) (by omega))))) j
 refine ifT (decide_eq_true (Int.natCast_pos.2 (Bw0 j))) ?_;obtain⟨t,et,ht⟩:=TB hn d g f;split
 .exact C0 et (C0 esq (hs c _ _ _ ⟨by rw[b2,a],b,ht⟩))
 exact C0 esq (hs c _ _ _ ⟨by rw[b2,a],b,g⟩)
def AB2 (d:1000<=N){w:Sl Iu}(hw:w.n<=32)(c:Iu)(no:Bool):∃f,Aw N ⟨c,no⟩ w=some f/\TU w.n f:=by
 unfold Aw;refine U8 (λi x1 x2=>x2=(i:Int)/\TU w.n x1) w.n _ (by omega) ⟨rfl,TU.zero _⟩ ?_;rintro b i x1 x2 g ⟨rfl,a⟩ hs;by_cases hl:i<w.n
 .refine Ah (Ac ?_);rw[Bq];split
  .refine Ac (hs hl _ _ ⟨rfl,?_⟩);rw[Az9 _ (by omega)];exact a.upd _ (UB.one (by omega) (by omega))
  exact hs hl _ _ ⟨rfl,a⟩
 exact Bk ⟨x1,rfl,a⟩
def An0 {w:Sl Iu}(hw:w.n<=32)(e:Bool):∃f,BQ N ⟨e⟩ w=some f/\TU w.n f:=by
 unfold BQ;cases e
 .exact Bl (Aq ⟨_,rfl,(TU.zero w.n).upd 0 (z:=1#64 <<< 0) (UB.one (by omega) (by omega))⟩)
 refine ifT rfl (Ac ⟨_,rfl,?_⟩);rw[Az9 _ (by omega)];exact (TU.zero w.n).upd _ (UB.one (by omega) (by omega))
def Ba7 (a:1000<=N){w:Sl Iu}(hw:w.n<=32){rec:Part->Sl Iu->Option (Nat->Int)}{m:Nat}(hm:m<=40){g:Nat->Part}
 (hc:∀i,i<m->∃f,rec (g i) w=some f/\TU w.n f):∃f,CR rec N ⟨⟨m,g⟩⟩ w=some f/\TU w.n f:=by
 unfold CR;obtain⟨y1,e1,h1⟩:=Ki (N:=N) hw a;refine C0 e1 ?_;refine U8 (λi x1 x2=>x2=(i:Int)/\TU w.n x1) m _ (by omega) ⟨rfl,h1⟩ ?_;rintro b i x1 x2 l ⟨rfl,c⟩ hs;by_cases hl:i<m
 .refine Ah (ifT (by show (0:Int)<=i/\(i:Int)<m;omega) ?_);obtain⟨f,e2,d⟩:=hc i hl;obtain⟨s,e3,j⟩:=TB hw a c d;exact C0 (by rw[Int.toNat_natCast];exact e2) (C0 e3 (hs hl _ _ ⟨Bq,j⟩))
 exact Bk ⟨x1,rfl,c⟩
def Ba8 (c:1000<=N){w:Sl Iu}{rec:Part->Sl Iu->Option (Nat->Int)}{m:Nat}(hm:m<=40){g:Nat->Part}
 (hc:∀i,i<m->∃f,rec (g i) w=some f/\TU w.n f):∃f,CS rec N ⟨⟨m,g⟩⟩ w=some f/\TU w.n f:=by
 unfold CS;refine U8 (λi x1 x2=>x2=(i:Int)/\TU w.n x1) m _ (by omega) ⟨rfl,TU.zero _⟩ ?_;rintro a i x1 x2 l ⟨rfl,b⟩ hs;by_cases hl:i<m
 .refine Ah (ifT (by show (0:Int)<=i/\(i:Int)<m;omega) ?_);obtain⟨f,e2,d⟩:=hc i hl;obtain⟨s,e3,j⟩:=Ba5 c b d;exact C0 (by rw[Int.toNat_natCast];exact e2) (C0 e3 (hs hl _ _ ⟨Bq,j⟩))
 exact Bk ⟨x1,rfl,b⟩
def Ba9 (a:1000<=N){w:Sl Iu}(hw:w.n<=32){rec:Part->Sl Iu->Option (Nat->Int)}{pt:Part}{f:Nat->Int}(d:rec pt w=some f)(c:TU w.n f)
 {mn mx:Int}(i:0<=mn) (h1:mn<=32) (j:mx = -1 \/ (mn<=mx/\mx<=32)):∃s,CT rec N ⟨pt,mn,mx⟩ w=some s/\TU w.n s:=by
 obtain⟨m,rfl⟩:∃m:Nat,mn=(m:Int):=⟨mn.toNat,by omega⟩;unfold CT;refine C0 d ?_;obtain⟨y2,e2,t2⟩:=Zd hw a c (k:=m) (by omega);refine C0 e2 ?_;obtain⟨y3,e3,t3⟩:=Ki (N:=N) hw a;refine C0 e3 ?_;obtain⟨y4,e4,t4⟩:=Ba5 a c t3;refine C0 e4 ?_;have key:∀(K:Nat),K<=32->∃s,((G6 N y4 (K:Int) (w.n:Int)).bind λy5=>(F4 N y2 y5).bind λy6=>some y6)=some s/\TU w.n s:=by intro K g;obtain⟨y5,e5,t5⟩:=Zd hw a t4 (k:=K) g;obtain⟨y6,e6,t6⟩:=TB hw a t2 t5;exact C0 e5 (C0 e6 ⟨y6,rfl,t6⟩)
 by_cases hx:mx<0
 .exact ifT (decide_eq_true hx) (key w.n hw)
 refine ifF (by simpa using hx) ?_;obtain⟨M,rfl⟩:∃M:Nat,mx=(M:Int):=⟨mx.toNat,by omega⟩;have b:IntKind.i64.wrap ((M:Int)-(m:Int))=((M-m:Nat):Int):=by rw[E3 (by omega) (by omega)];omega
 rw[show IntKind.i64.wrap ((⟨pt,(m:Int),(M:Int)⟩:AZ4).max-(⟨pt,(m:Int),(M:Int)⟩:AZ4).min)=((M-m:Nat):Int) from b];exact key (M-m) (by omega)
def okQ:Nat->Pat->Prop
 |0,_=>False
 |d+1,p=>Tz p/\p.L.n<=40/\∀i,i<p.L.n->okQ d (p.L.g i)
def Ze:∀(d:Nat) (p:Pat),okQ d p->okQ (d+1) p
 |0,_,h=>h.elim
 |d+1,p,⟨h1,h2,h3⟩=>⟨h1,h2,λi a=>Ze d _ (h3 i a)⟩
def TC:∀(k:Nat) (l:List Pat),k<=40->chk k l->∀p∈l,okQ k p
 |0,l,_,h,p,hp=>by rw[show l=[] from h]at hp;cases hp
 |k+1,[],_,_,p,hp=>by cases hp
 |k+1,q::l,hk,⟨hn,h⟩,p,hp=>by
  have ih:=TC k _ (by omega) h;rcases Bf8.1 hp with rfl|hp
  .have hl:=TA k _ h;rw[Bh1,GA]at hl;exact⟨hn,by omega,λi a=>ih _ (Bh2 _ (Ac2 a))⟩
  exact Ze k p (ih p (Bg4 _ hp))
def vS.ok {s:Iu}(h:vS s):okS s:=by obtain⟨p,m,e,_⟩:=h;exact⟨p,m,e⟩
def AB3 (K:Nat)(pt:Part):Prop:=∀(w:Sl Iu),w.n<=32->∀M,K<=M->∃f,BS M pt w=some f/\TU w.n f
def RH {N:Nat}(q:1000<=N):∀(d:Nat),d<=40->∀(p:Pat),okQ d p->∀M,N+d<=M->∃pt,BR M p=some pt/\AB3 (N+d) pt
 |0,_,p,h,_,_=>h.elim
 |d+1,hd,p,⟨hn,hc,hch⟩,0,hM=>by omega
 |d+1,hd,p,⟨hn,hc,hch⟩,M+1,hM=>by
  show ∃pt,Y9 (BR M) M p=some pt/\_;unfold Y9;refine U8 (λi x1 x2=>x2=(i:Int)/\x1.n=i/\∀j,j<i->AB3 (N+d) (x1.g j)) p.L.n _ (by omega) ⟨rfl,rfl,λj c=>Er c (by omega)⟩ ?_;rintro l i x1 x2 o ⟨rfl,t,b⟩ hs;by_cases hl:i<p.L.n
  .refine Ah (Ac ?_);obtain⟨pt,e,s⟩:=RH q d (by omega) (p.L.g i) (hch i hl) M (by omega);refine C0 (by rw[Int.toNat_natCast];exact e) ?_;refine ifT (by show (x1.n+1)*16<=_/\x1.n+1<=_;omega) (hs hl _ _ ⟨Bq,by show x1.n+1=i+1;omega,λj c=>?_⟩);show AB3 _ (if j<x1.n then x1.g j else pt);split
   .exact b j (by omega)
   exact s
  obtain rfl:i=p.L.n:=by omega
  have fin:∀(pt:Part),(∀(w:Sl Iu),w.n<=32->∀M,N+d<=M->∃f,BS (M+1) pt w=some f/\TU w.n f)->∃r,some pt=some r/\AB3 (N+(d+1)) r:=by intro pt h;refine⟨pt,rfl,λw hw M' a=>?_⟩;obtain⟨M'',rfl⟩:∃M'',M' = M'' + 1:=⟨M' - 1,by omega⟩;exact h w hw M'' (by omega)
  refine Bl ?_;by_cases k1:p.Kind=1
  .exact ifT (by simp[k1]) (fin _ λw hw M' a=>AB2 (N:=M') (by omega) hw _ _)
  refine ifF (by simp[k1]) ?_;by_cases k2:p.Kind=2
  .exact ifT (by simp[k2]) (fin _ λw hw M' a=>An0 (N:=M') hw false)
  refine ifF (by simp[k2]) ?_;by_cases k6:p.Kind=6
  .exact ifT (by simp[k6]) (fin _ λw hw M' a=>An0 (N:=M') hw true)
  refine ifF (by simp[k6]) ?_;by_cases k4:p.Kind=4
  .exact ifT (by simp[k4]) (fin _ λw hw M' a=>Ba8 (N:=M') (by omega) (rec:=BS M') (m:=x1.n) (g:=x1.g) (by omega) λi o=>b i (by omega) w hw M' (by omega))
  refine ifF (by simp[k4]) ?_;by_cases k5:p.Kind=5
  .obtain⟨g1,g2,g3,g4⟩:=hn.2.2.2.2.1 k5;refine ifT (by simp[k5]) (Ac (fin _ λw hw M' a=>?_));obtain⟨f,e,h⟩:=b 0 (by omega) w hw M' (by omega);exact Ba9 (N:=M') (by omega) hw (rec:=BS M') e h g2 g3 g4
  exact ifF (by simp[k5]) (fin _ λw hw M' a=>Ba7 (N:=M') (by omega) hw (rec:=BS M') (m:=x1.n) (g:=x1.g) (by omega) λi o=>b i (by omega) w hw M' (by omega))
end Go.AM
namespace Go.AM
variable {N:Nat}
open IntKind (wrap)
open Go.Proofs
def Ac3 {p:Pat}(hp:okS p.Is):∃e,BO N p=some e/\(e=0↔Tz p):=by
 obtain⟨a,b,i⟩:=hp;have m:=Am7 i;have V:Q6 N p.Is=some (vB a b):=by rw[i];exact VQ a b
 have e0:((p.Is.Plus==0)&&(p.Is.Minus==0))=decide (p.Is.Plus=0/\p.Is.Minus=0):=by rw[Bp4];simp
 have fin:(Tz p↔vS p.Is)->∃e,((Q6 N p.Is).bind λy1=>if (!y1) then some (14:Int)else some 0)=some e/\(e=0↔Tz p):=by
  intro c;rw[V];refine C0 rfl ?_;rw[c,m];cases vB a b
  .exact ifT rfl ⟨14,rfl,by simp⟩
  exact Bl ⟨0,rfl,by simp⟩
 have bad:∀{x:Int},x≠0->¬Tz p->∃e,some x=some e/\(e=0↔Tz p):=λhx h=>⟨_,rfl,λd=>Er d hx,λd=>Er d h⟩;unfold BO;by_cases hk:p.Kind=0 \/ p.Kind=2 \/ p.Kind=6
 .refine ifT (by rcases hk with h|h|h<;>simp[h]) (ltX ?_);rw[e0];by_cases g1:p.Is.Plus=0/\p.Is.Minus=0
  case neg=>exact ifT (by simp[g1]) (ifT rfl (bad (by decide) λh=>g1 (h.2.1 (by omega)).1))
  refine ifF (by simp[g1]) ?_;by_cases g2:p.Not=true
  .exact ifT g2 (ifT rfl (bad (by decide) λh=>by have:=(h.2.1 (by omega)).2;rw[g2]at this;cases this))
  refine ifF g2 ?_;by_cases g3:p.Min=0
  case neg=>exact ifT (by simp[g3]) (ifT rfl (bad (by decide) λh=>g3 (h.2.2.2.1 (by omega)).1))
  refine ifF (by simp[g3]) ?_;by_cases g4:p.Max=0
  case neg=>exact ifT (by simp[g4]) (ifT rfl (bad (by decide) λh=>g4 (h.2.2.2.1 (by omega)).2))
  refine ifF (by simp[g4]) ?_;by_cases g5:p.L.n=0
  case neg=>exact Ah (bad (by decide) λh=>g5 (h.2.2.1 (by omega) (by omega) (by omega)))
  refine Bk (fin ?_);exact⟨λh=>h.2.2.2.2.2,λh=>⟨by omega,λ_=>⟨g1,by simpa using g2⟩,λ_ _ _=>g5,λ_=>⟨g3,g4⟩,λf=>by omega,h⟩⟩
 refine ifF (by simp only[not_or]at hk;simp[hk]) ?_;by_cases k1:p.Kind=1
 .refine ifT (by simp[k1]) (ltX ?_);refine Bl ?_;by_cases g3:p.Min=0
  case neg=>exact ifT (by simp[g3]) (ifT rfl (bad (by decide) λh=>g3 (h.2.2.2.1 (by omega)).1))
  refine ifF (by simp[g3]) ?_;by_cases g4:p.Max=0
  case neg=>exact ifT (by simp[g4]) (ifT rfl (bad (by decide) λh=>g4 (h.2.2.2.1 (by omega)).2))
  refine ifF (by simp[g4]) ?_;by_cases g5:p.L.n=0
  case neg=>exact Ah (bad (by decide) λh=>g5 (h.2.2.1 (by omega) (by omega) (by omega)))
  refine Bk (fin ?_);exact⟨λh=>h.2.2.2.2.2,λh=>⟨by omega,λh1=>Er k1 h1,λ_ _ _=>g5,λ_=>⟨g3,g4⟩,λf=>by omega,h⟩⟩
 refine ifF (by simp[k1]) (ltX ?_);rw[e0];have tail:∀(x y:Int),(Tz p↔(p.Is.Plus=0/\p.Is.Minus=0)/\p.Not=false/\x=0/\y=0/\vS p.Is)->∃e,(if (((((decide (p.Is.Plus=0/\p.Is.Minus=0) != true)||p.Not)||(x != 0))||(y != 0))||(decide (0<0))) then some (2:Int)else
  (Q6 N p.Is).bind λy3=>if (!y3) then some 14 else some 0)=some e/\(e=0↔Tz p):=by
  intro x y c;by_cases g:(p.Is.Plus=0/\p.Is.Minus=0)/\p.Not=false/\x=0/\y=0
  .obtain⟨g1,g2,g3,g4⟩:=g;exact ifF (by simp[g1,g2,g3,g4]) (fin (c.trans ⟨λh=>h.2.2.2.2,λh=>⟨g1,g2,g3,g4,h⟩⟩))
  refine ifT ?_ (bad (by decide) λh=>g ⟨(c.1 h).1,(c.1 h).2.1,(c.1 h).2.2.1,(c.1 h).2.2.2.1⟩);simp only[Bj3,bne_iff_ne,ne_eq,Ev];by_cases g1:p.Is.Plus=0/\p.Is.Minus=0
  .by_cases g2:p.Not=true
   .simp[g2]
   by_cases g3:x=0
   .have:¬y=0:=λg4=>g ⟨g1,by simpa using g2,g3,g4⟩
    simp[this]
   simp[g3]
  simp[g1]
 by_cases k34:p.Kind=3 \/ p.Kind=4
 .refine ifT (by rcases k34 with h|h<;>simp[h]) (tail _ _ ?_);constructor
  .exact λh=>⟨(h.2.1 k1).1,(h.2.1 k1).2,(h.2.2.2.1 (by omega)).1,(h.2.2.2.1 (by omega)).2,h.2.2.2.2.2⟩
  rintro⟨h1,d,j,l,f⟩;exact⟨by omega,λ_=>⟨h1,d⟩,λh h'=>by omega,λ_=>⟨j,l⟩,λh=>by omega,f⟩
 refine ifF (by simp only[not_or]at k34;simp[k34]) ?_;by_cases k5:p.Kind=5
 .refine ifT (by simp[k5]) ?_;by_cases g:p.L.n=1/\0<=p.Min/\p.Min<=32/\(p.Max = -1 \/ (p.Min<=p.Max/\p.Max<=32))
  .refine ifF (by simp only[Bj3,Be4,bne_iff_ne,ne_eq,Ev];omega) (tail 0 0 ?_);constructor
   .exact λh=>⟨(h.2.1 k1).1,(h.2.1 k1).2,rfl,rfl,h.2.2.2.2.2⟩
   rintro⟨h1,d,j,l,f⟩;exact⟨by omega,λ_=>⟨h1,d⟩,λ_ _ h=>Er k5 h,λh=>Er k5 h,λ_=>g,f⟩
  exact ifT (by simp only[Bj3,Be4,bne_iff_ne,ne_eq,Ev];omega) (bad (by decide) λh=>g (h.2.2.2.2.1 k5))
 exact ifF (by simp[k5]) (bad (by decide) λh=>by have:=h.1;omega)
def An1 {x:Sl Pat}{m:Nat}(h:x.n=m+1):x.toList.reverse=x.g m::(x.take m).toList.reverse:=by unfold Sl.toList;rw[h,Bp3,Br9,Bs0];rfl
def AB4 (z:Sl Pat)(q:Pat):((z.push Pat.nil).upd z.n q).toList.reverse=q::z.toList.reverse:=by
 rw[An1 (m:=z.n) rfl];have e1:((z.push Pat.nil).upd z.n q).g z.n=q:=by simp
 have e2:(((z.push Pat.nil).upd z.n q).take z.n).toList=z.toList:=by
  unfold Sl.toList;refine Bh3 λi a=>?_
  have:i<z.n:=Bk2.1 a
  show (if i=z.n then q else if i<z.n then z.g i else Pat.nil)=z.g i;rw[Ej (by omega),Dq this]
 rw[e1,e2]
def XS (q:Sl Pat)(c:q.n<N)(hs:q.n<1000000):E2 N q=some ((List.range q.n).reverse.map λ(i:Nat)=>((i:Int),q.g i)):=by
 unfold E2;have h:∀(m:Nat),m<=q.n->∀F,m<F->Y3 F (λ(a:Int->Option (List (Int×Pat))) (x1:Int)=>
  if (decide (0<=x1)) then
   if ((0:Int)<=x1/\x1<(q.n:Int))then
    Ag (x1,q.g x1.toNat) (
     a (wrap .i64 (x1-1))
     )
   else none
  else
   some []) ((m:Int)-1)=some ((List.range m).reverse.map λ(i:Nat)=>((i:Int),q.g i)):=by
  intro m
  induction m with
  |zero=>
   intro _ F b
   match F,b with
   |F+1,_=>rfl
  |succ m ih=>
   intro hm F b
   match F,b with
   |F+1,b=>rw[I4];rw[show ((m+1:Nat):Int)-1=(m:Int) by omega,Dq (by simp),Ce,E3 (by omega) (by omega),ih (by omega) F (by omega),Int.toNat_natCast,Bp3,Bs0,Bu5,Bv0,Bg1];rfl
 rw[E3 (by omega) (by omega)];exact h q.n (Be8 _) N c
def AP7 {k:Nat}(hk:k<=40){c:Sl Pat}{l:List Pat}:chk k ((c.take (min 41 c.n)).toList++l)↔chk k (c.toList++l):=by
 by_cases h:c.n<=41
 .rw[Nat.min_eq_right h]
 constructor
 .intro a
  have:=TA _ _ a
  rw[Bh1,GA]at this
  have:(c.take (min 41 c.n)).n=41:=Bn6 (by omega)
  omega
 intro a
 have:=TA _ _ a
 rw[Bh1,GA]at this;omega
def TD (hN:2000<=N){p:Pat}(hp:okPS p):∃e,Ax N p=some e/\(e=0↔chk 40 [p]):=by
 unfold Ax;refine U8 (λi x3 x4=>x4=(i:Int)/\x3.n<=1+41*i/\(∀q∈x3.toList.reverse,okPS q)/\(chk 40 [p]↔chk (40-i) x3.toList.reverse)) 40 _ (by omega)
  ⟨rfl,by show 1<=_;omega,λq l=>by rw[show (Sl.of [p]:Sl Pat).toList.reverse=[p] from rfl]at l;rw[Bk5.1 l];exact hp,Bp8⟩ ?_
 rintro x i x3 x4 hi ⟨rfl,h1,c,f⟩ hs;rcases hn:x3.n with _|m
 .refine Bl ⟨0,rfl,λ_=>f.2 ?_,λ_=>rfl⟩
  have:x3.toList.reverse=[]:=by unfold Sl.toList;rw[hn];rfl
  rw[this];exact AP5 _
 rw[An1 hn]at f c;refine ifT (decide_eq_true (by omega)) ?_;by_cases r:i=40
 .subst r;refine Ai ⟨12,rfl,λh=>Er h (by decide),λh=>?_⟩
  have:(x3.g m::(x3.take m).toList.reverse)=[]:=f.1 h
  cases this
 refine Bk ?_;have hw:IntKind.i64.wrap (((m+1:Nat):Int)-1)=(m:Int):=by rw[E3 (by omega) (by omega)];omega
 simp only[hw,Int.toNat_natCast];refine Ac (Ac ?_);obtain⟨e,y,a⟩:=Ac3 (N:=N) (c (x3.g m) (by simp)).is;refine C0 y ?_;rw[show 40-i=(39-i)+1 by omega]at f;by_cases o:e=0
 case neg=>exact ifT (by simp[o]) ⟨e,rfl,λh=>Er h o,λh=>Er (a.2 (f.1 h).1) o⟩
 refine ifF (by simp[o]) ?_;have hc:(if (41:Int)<((x3.g m).L.n:Int)then (41:Int)else ((x3.g m).L.n:Int))=((min 41 (x3.g m).L.n:Nat):Int):=by split<;>omega
 simp only[hc,Int.toNat_natCast];refine Ac (C0 rfl (C0 (XS _ (by show min 41 _<N;omega) (by show min 41 _<1000000;omega)) ?_));generalize s:(x3.g m).L.take (min 41 (x3.g m).L.n)=C;have a0:C.n<=41:=by rw[<- s];exact Nat.min_le_left _ _
 refine VT (λL z=>∃j,j<=C.n/\L=((List.range j).reverse.map λ(i:Nat)=>((i:Int),C.g i))/\z.n=m+(C.n-j)/\z.toList.reverse=C.toList.drop j++(x3.take m).toList.reverse) ?_ ?_ _ _ ⟨C.n,Be8 _,rfl,by show m=_;omega,by rw[PB];rfl⟩
 .rintro z ⟨j,hj,hL,hz,b⟩;have u:j=0:=by
   cases j with
   |zero=>rfl
   |succ j=>simp[Bp3]at hL
  subst u;rw[Bs6]at b;refine hs (by omega) _ _ ⟨Bq,by omega,λq l=>?_,?_⟩
  .rw[b]at l;rcases List.mem_append.1 l with h|h
   .obtain⟨i',d,rfl⟩:=Bk8.1 h;have d:=Bk2.1 d;rw[<- s]at d⊢;exact (c (x3.g m) (by simp)).L (Bg6 d (Nat.min_le_right _ _))
   exact c q (by simp[h])
  rw[b,f,show 40-(i+1)=39-i by omega,<- s,AP7 (by omega)];exact⟨λh=>h.2,λh=>⟨a.1 o,h⟩⟩
 rintro t L z v ⟨j,hj,hL,hz,b⟩ w;cases j with
 |zero=>simp at hL
 |succ j=>rw[Bp3,Bs0,Bu5,Bv0,Bg1]at hL;obtain⟨rfl,rfl⟩:=Bt9 hL;have e1:(z.n:Int).toNat=z.n:=Int.toNat_natCast _;refine ifT ⟨⟨⟨by show (z.n+1)*64<=_;omega,by show z.n+1<=_;omega⟩,by show (0:Int)<=_/\(z.n:Int)<((z.n+1:Nat):Int);omega⟩,by show z.n<z.n+1;omega⟩ ?_;refine w _ ⟨j,by omega,rfl,by show z.n+1=_;omega,?_⟩;rw[AB4,b,XQ C (i:=j) (by omega),Bg9]
end Go.AM
namespace Go.AM
open IntKind (wrap)
open Go.Proofs
def wOk (w:Sl Iu):Prop:=w.n<=32/\∀i,i<w.n->vS (w.g i)
def MR {N:Nat}{w:Sl Iu}(m:w.n<N)(hs:w.n<1000000){f:Iu->Option Bool}{b:Nat->Bool}(o:∀i,i<w.n->f (w.g i)=some (b i)) :∃r,B7 N w f=some r/\(r=true ↔ ∃i,i<w.n/\b i=true):=by
 unfold B7 F3
 have:∃y,Y3 N (λ(a:Int->Option Int) (x1:Int)=>
  if (decide (x1<(w.n:Int))) then
   if ((0:Int)<=x1/\x1<(w.n:Int))then
    (f (w.g x1.toNat)).bind λy3=>
    if y3 then
     some x1
    else
     a (wrap .i64 (x1+1))
   else none
  else
   some (-1)) 0=some y/\(0<=y ↔ ∃i,i<w.n/\b i=true):=by
  refine Gb (λi x1=>x1=(i:Int)/\∀j,j<i->b j=false) w.n _ m ⟨rfl,λj c=>Er c (by omega)⟩ ?_;rintro l i x1 q ⟨rfl,h⟩ d;by_cases hl:i<w.n
  .refine Ah (Ac (C0 (by rw[Int.toNat_natCast];exact o i hl) ?_));cases hb:b i
   .refine Bl (d hl _ ⟨Bq,λj c=>?_⟩);by_cases e:j=i
    .subst e;exact hb
    exact h j (by omega)
   exact ifT rfl ⟨i,rfl,λ_=>⟨i,hl,hb⟩,λ_=>by omega⟩
  refine Bk ⟨-1,rfl,λh=>Er h (by decide),?_⟩;rintro⟨j,c,hb⟩;rw[h j (by omega)]at hb;cases hb
 obtain⟨y,e,hy⟩:=this;exact C0 e ⟨_,rfl,by rw[Ev];exact hy⟩
def VU {N:Nat}(v:3000<=N){p:Pat}(hp:okPS p){w:Sl Iu}(hs:w.n<1000000/\w.n+1000<N)(hw:∀i,i<w.n->okS (w.g i)) :∃r,AW N p w=some r/\(r.2=0->wOk w/\TU w.n r.1):=by
 unfold AW;obtain⟨e,d,hc⟩:=TD (N:=N) (by omega) hp;refine C0 d ?_;by_cases j:e=0
 case neg=>exact ifT (by simp[j]) ⟨_,rfl,λh=>Er h j⟩
 refine ifF (by simp[j]) ?_;by_cases hn:32<w.n
 .exact Ah ⟨_,rfl,λh=>Er h (by decide)⟩
 refine Bk ?_;have q:∀i,∃b:Bool,i<w.n->W2 N (w.g i)=some b/\(b=true ↔ ¬vS (w.g i)):=by
  intro i;by_cases a:i<w.n
  .obtain⟨x,y,d⟩:=hw i a;refine⟨!vB x y,λ_=>⟨?_,?_⟩⟩
   .unfold W2;rw[d,VQ];rfl
   rw[Am7 d];cases vB x y<;>simp
  exact⟨false,λh=>Er h a⟩
 obtain⟨b,hb⟩:=Bo4 q;obtain⟨r,s,l⟩:=MR (N:=N) (by omega) hs.1 (f:=λu1=>W2 N u1) λi a=>(hb i a).1;refine C0 s ?_;by_cases c:r=true
 .exact ifT c ⟨_,rfl,λh=>Er h (by decide)⟩
 refine ifF c ?_;have m:wOk w:=⟨by omega,λi a=>Bi2 λo=>c (l.2 ⟨i,a,(hb i a).2.2 o⟩)⟩;obtain⟨pt,ep,t⟩:=RH (N:=1000) (by omega) 40 (Be8 _) p (TC 40 [p] (Be8 _) (hc.1 j) p (by simp)) N (by omega);obtain⟨f,ef,u⟩:=t w (by omega) N (by omega);exact C0 ep (C0 ef ⟨_,rfl,λ_=>⟨m,u⟩⟩)
end Go.AM
namespace Go.AM
variable {N:Nat}
open Go.Proofs
def An2 (f:3000<=N){p:Pat}(hp:okPS p){w:Sl Iu}(hs:w.n<1000000/\w.n+1000<N)(hw:∀i,i<w.n->okS (w.g i))(k:Nat) :∃r,CU N p w (k:Int)=some r/\(r.1.n≠0->wOk w):=by
 unfold CU;obtain⟨y,e,h1⟩:=VU f hp hs hw;refine C0 e (ltX ?_);by_cases c:y.2=0
 case neg=>exact ifF (by simp[c]) (ifT (by simp[c]) ⟨_,rfl,λh=>Er rfl h⟩)
 refine ifT (by simp[c]) ?_;obtain⟨a,j⟩:=h1 c;have hn:=a.1;unfold AS;split
 .exact C0 rfl (Aq ⟨_,rfl,λh=>Er rfl h⟩)
 refine C0 rfl (Bl ?_);rw[Bq];refine U8 (λi x2 x3=>x3=(i:Int)/\x2.n<=i) (w.n+1) _ (by omega) ⟨rfl,Be8 _⟩ ?_;rintro d i x2 x3 l ⟨rfl,g1⟩ b;by_cases hl:i<=w.n
 .refine Ah (Ac ?_);split
  .exact ifT (by show (x2.n+1)*8<=_/\x2.n+1<=_;omega) (b (by omega) _ _ ⟨Bq,by show x2.n+1<=_;omega⟩)
  exact b (by omega) _ _ ⟨Bq,by omega⟩
 exact Bk ⟨_,rfl,λ_=>a⟩
def XT (L:List Int)(hL:L.length<1000):∃s,O8 N L=some s/\s.n=L.length:=by
 unfold O8 J4
 have:∃s:Sl Int,S9 L (λ(a:Sl Int->Option (Sl Int)) (x1:Int) (z1:Sl Int)=>
  if (Kb 8 (z1.n+(Sl.of [x1]:Sl Int).n))then
   a (z1.push x1)
  else none
  ) (λ(z1:Sl Int)=>some z1) Io=some s/\s.n=L.length:=by
  refine VT (λl z=>z.n+l.length=L.length) (λz h=>⟨z,rfl,by simpa using h⟩) (λt l z b h hs=>?_) L _ (by simp);simp only[Bh0]at h;exact ifT (by show (z.n+1)*8<=_/\z.n+1<=_;omega) (hs _ (by show z.n+1+l.length=_;omega))
 obtain⟨s,e,hn⟩:=this;exact C0 e ⟨s,rfl,hn⟩
def AP8 (c:3000<=N){p:Pat}(hp:okPS p){w:Sl Iu}(hs:w.n<1000000/\w.n+1000<N)(hw:∀i,i<w.n->okS (w.g i))(k:Nat) :∃r,Fi N p w (k:Int)=some r/\(r.1.n≠0->k<=w.n):=by
 unfold Fi;obtain⟨y,e,h1⟩:=VU c hp hs hw;refine C0 e (ltX ?_);by_cases a:y.2=0
 case neg=>exact ifF (by simp[a]) (ifT (by simp[a]) ⟨_,rfl,λh=>Er rfl h⟩)
 refine ifT (by simp[a]) ?_;obtain⟨b,d⟩:=h1 a;have hn:=b.1;unfold AS;by_cases f:w.n<k
 .rw[Ch];exact C0 rfl (Aq ⟨_,rfl,λh=>Er rfl h⟩)
 rw[Cj];refine C0 rfl (Bl (Ac ?_));obtain⟨u,e1,g1⟩:=d (0+(k:Int).toNat*1);refine C0 rfl (C0 (x:=Hj u 0) (by rw[e1];exact PC u (by omega)) ?_);obtain⟨s,es,_⟩:=XT (N:=N) (Hj u 0) (by unfold Hj;rw[Bh9];exact Bx0 (Bq9 _ _) (by simp))
 exact C0 es ⟨_,rfl,λ_=>by omega⟩
end Go.AM
namespace Go.AM
open IntKind (wrap)
open Go.Proofs
def Bb0 (w:Sl Iu)(e:Int):Prop:=(32<w.n/\e=11) \/ (w.n<=32/\(∃i,i<w.n/\¬vS (w.g i))/\e=14) \/ (wOk w/\e=0)
def Bb1 {w:Sl Iu}{e e' : Int}(h:Bb0 w e)(h' : Bb0 w e'):e=e':=by
 rcases h with⟨h1,a⟩ | ⟨h1,⟨i,b,c⟩,a⟩ | ⟨h1,a⟩<;>rcases h' with⟨g1,g2⟩ | ⟨g1,⟨j,d,gv⟩,g2⟩ | ⟨g1,g2⟩
 .omega
 .omega
 .have:=g1.1;omega
 .omega
 .omega
 .exact Er (g1.2 i b) c
 .have:=h1.1;omega
 .exact Er (h1.2 j d) gv
 omega
def Lu {w:Sl Iu}{e:Int}(h:Bb0 w e):e=0↔wOk w:=by
 rcases h with⟨h1,a⟩ | ⟨h1,⟨i,b,c⟩,a⟩ | ⟨h1,a⟩
 .exact⟨λh=>by omega,λh=>by have:=h.1;omega⟩
 .exact⟨λh=>by omega,λh=>Er (h.2 i b) c⟩
 exact⟨λ_=>h1,λ_=>a⟩
def An3 {N:Nat}(o:1000<=N){w:Sl Iu}(hw:∀i,i<w.n->okS (w.g i))(V:Iu->Option Bool)(f:∀p m:BitVec 32,V (sOf p m)=some (vB p m)) :∃e,(if (decide (32<(w.n:Int))) then
 some (11:Int)
 else
  Y3 N (λa (x1:Int)=>
   if (decide (x1<(w.n:Int))) then
    if ((0:Int)<=x1/\x1<(w.n:Int))then
     (V (w.g x1.toNat)).bind λy3=>
     if (!y3) then
      some 14
     else
      a (wrap .i64 (x1+1))
    else none
   else
    some 0
   ) 0)=some e/\Bb0 w e:=by
 by_cases hn:32<w.n
 .exact Ah ⟨11,rfl,.inl ⟨hn,rfl⟩⟩
 refine Bk ?_;refine Gb (λi x1=>x1=(i:Int)/\∀j,j<i->vS (w.g j)) w.n _ (by omega) ⟨rfl,λj b=>Er b (by omega)⟩ ?_;rintro d i x1 q ⟨rfl,h⟩ hs;by_cases hl:i<w.n
 .obtain⟨p,m,c⟩:=hw i hl;refine Ah (Ac (C0 (by rw[Int.toNat_natCast,c];exact f p m) ?_));cases hb:vB p m
  .refine ifT rfl ⟨14,rfl,.inr (.inl ⟨by omega,⟨i,hl,λl=>?_⟩,rfl⟩)⟩
   have:=(Am7 c).1 l;rw[hb]at this;cases this
  refine Bl (hs hl _ ⟨Bq,λj b=>?_⟩);by_cases e:j=i
  .subst e;exact (Am7 c).2 hb
  exact h j (by omega)
 exact Bk ⟨0,rfl,.inr (.inr ⟨⟨by omega,λj b=>h j (by omega)⟩,rfl⟩)⟩
def Lw {N:Nat}(a:1000<=N){w:Sl Iu}(hw:∀i,i<w.n->okS (w.g i)):∃e,W8 N w=some e/\Bb0 w e:=
 An3 a hw (Cx N) λp m=>VP p m
end Go.AM
namespace Go.AM
open Go.Proofs
def AP9 {N:Nat}{s c:Iu}(hs:okS s)(hc:okS c):∃b,R5 N s c=some b:=by
 obtain⟨p,m,rfl⟩:=hs;obtain⟨a,b,rfl⟩:=hc;unfold R5;rw[Dc];simp only[Option.bind_some,lt,Dc]
 repeat' split
 all_goals exact⟨_,rfl⟩
def okL (l:Law):Prop:=okPS l.Left/\okPS l.Right/\∀i,i<l.If.n->okS (l.If.g i)
def okW (w:Sl Iu):Prop:=w.n<1000/\∀i,i<w.n->okS (w.g i)
def An4 {N:Nat}(a:3000<=N){l:Law}(hl:okL l)(hk:l.If.n<=4){w:Sl Iu}(hw:okW w)(i:Nat)(f:i<2000) :∃b,Z7 N (i:Int) l w=some b/\(b=true->wOk w/\i+l.If.n<=w.n):=by
 unfold Z7;have hs:w.n<1000000/\w.n+1000<N:=⟨by have:=hw.1;omega,by have:=hw.1;omega⟩;obtain⟨y1,e1,h1⟩:=An2 (N:=N) a hl.1 hs hw.2 i;refine C0 e1 ?_;by_cases c:y1.1.n=0
 .exact ifT (by simp[c]) ⟨false,rfl,by simp⟩
 refine Bk ?_;rw[QJ (by omega)];obtain⟨y2,e2,d⟩:=AP8 (N:=N) a hl.2.1 hs hw.2 (i+l.If.n);refine C0 e2 ⟨_,rfl,λh=>⟨h1 c,d ?_⟩⟩;rw[Ev]at h;omega
end Go.AM
namespace Go.AM
open IntKind (wrap)
open Go.Proofs
def hitL (l:Law)(w:Sl Iu):Nat->List Int->Prop
 |_,[]=>True
 |i,t::L=>∃j:Nat,t=(j:Int)/\i<=j/\j+l.If.n<=w.n/\wOk w/\hitL l w (j+1) L
def hitL.le {l:Law}{w:Sl Iu}{i j:Nat}(h:i<=j):∀{L:List Int},hitL l w j L->hitL l w i L
 |[],_=>trivial
 |t::L,⟨k,h1,h2,h3⟩=>⟨k,h1,by omega,h3⟩
def An5 {N:Nat}(x:3000<=N){l:Law}(hl:okL l)(hk:l.If.n<=4){w:Sl Iu}(hw:okW w)(i:Nat)(u:i<1500):∃L,Az N l w (i:Int)=some L/\hitL l w i L:=by
 unfold Az;show ∃L,(some (l,w)).bind _=some L/\_;rw[Option.bind_some];simp only[]
 suffices h:∀(k i:Nat),i<1501->w.n+1-i<=k->∀F,k<F->∃r,Y3 F (λ(a:Int->Option (List Int)) (x2:Int)=>
  if (decide ((wrap .i64 (x2+(l.If.n:Int)))<=(w.n:Int))) then
   Y3 N (λ(c:Int->Option (List Int)) (x4:Int)=>
    if (decide (x4<(l.If.n:Int))) then
     if ((0:Int)<=x4/\x4<(l.If.n:Int))then
      if ((0:Int)<=(wrap .i64 (x2+x4))/\(wrap .i64 (x2+x4))<(w.n:Int))then
       (R5 N (w.g (wrap .i64 (x2+x4)).toNat) (l.If.g x4.toNat)).bind λq=>
       if (!q) then
        a (wrap .i64 (x2+1))
       else
        c (wrap .i64 (x4+1))
      else none
     else none
    else
     (Z7 N x2 l w).bind λs=>
     if s then
      Ag x2 (
       a (wrap .i64 (x2+1))
       )
     else
      a (wrap .i64 (x2+1))
    ) 0
  else
   some []
  ) (i:Int)=some r/\hitL l w i r from h (w.n+1-i) i (by omega) (Be8 _) N (by have:=hw.1;omega)
 have y:=hw.1;intro k
 induction k with
 |zero=>
  intro i u t F m
  match F,m with
  |F+1,_=>rw[I4,QJ (by omega)];exact Bk ⟨_,rfl,trivial⟩
 |succ k ih=>
  intro i u t F m
  match F,m with
  |F+1,m=>
   rw[I4,QJ (by omega)];by_cases hn:i+l.If.n<=w.n
   case neg=>exact Bk ⟨_,rfl,trivial⟩
   refine Ah ?_;obtain⟨r,o,d⟩:=ih (i+1) (by omega) (by omega) F (by omega);rw[<- Bq]at o;refine Gb (λj x1=>x1=(j:Int)) l.If.n _ (by omega) rfl ?_;rintro v j x1 z rfl hs;by_cases f:j<l.If.n
   .rw[QJ (by omega)];refine Ah (Ac (Ac ?_));obtain⟨b,eb⟩:=AP9 (N:=N) (hw.2 (i+j) (by omega)) (hl.2.2 j f);refine C0 (by rw[Int.toNat_natCast,Int.toNat_natCast];exact eb) ?_;cases b
    .exact ifT rfl ⟨r,o,d.le (by omega)⟩
    exact Bl (hs f _ (Bq))
   refine Bk ?_;obtain⟨b,eb,hb⟩:=An4 x hl hk hw i (by omega);refine C0 eb ?_;cases b
   .exact Bl ⟨r,o,d.le (by omega)⟩
   exact ifT rfl ⟨(i:Int)::r,by rw[o];rfl,i,rfl,Be8 _,hn,(hb rfl).1,d⟩
def AH4 {N:Nat}(a:3000<=N){l:Law}(hl:okL l)(hk:l.If.n<=4){w:Sl Iu}(hw:okW w)(i:Nat)(c:i<1500) :∃b,DV N l w (i:Int)=some b/\(b=true->i+l.If.n<=w.n/\wOk w):=by
 unfold DV;obtain⟨L,h1,d⟩:=An5 a hl hk hw i c;refine C0 (x:=(l,w,(i:Int))) rfl (C0 h1 ?_)
 match L,d with
 |[],_=>exact⟨false,rfl,by simp⟩
 |t::L,⟨j,h3,h4,h5,h6,_⟩=>exact⟨t==(i:Int),rfl,λe=>⟨by have:=eq_of_beq e;omega,h6⟩⟩
end Go.AM
namespace Go.AM
variable {N:Nat}
open Go.Proofs
def okO (x:Ei):Prop:=okS x.Set/\(∃c:BitVec 32,x.Clear=(c.toNat:Int))/\∃t:BitVec 32,x.Take=(t.toNat:Int)
def AH5 {p m a b s:BitVec 32}(h1:vB p m=true)(d:vB a b=true):vB (Ar5 p a s) (Ar5 m b s)=true:=by rw[AH2]at *;intro i c;have g1:=h1 i c;have g2:=d i c;simp only[Ar5,Bq7,Bs2,Bw9];revert g1 g2;cases s.getLsbD i<;>cases p.getLsbD i<;>cases m.getLsbD i<;>cases a.getLsbD i<;>cases b.getLsbD i<;>simp[c]
def vS0:vS (⟨0,0⟩:Iu):=⟨0#32,0#32,rfl,by decide +kernel⟩
def An6 {s t:Iu}{c:Int}(hs:okS s)(hc:∃b:BitVec 32,c=(b.toNat:Int))(ht:okS t):∃y,Z6 N s c t=some y/\vS y.1:=by
 obtain⟨p,m,rfl⟩:=hs;obtain⟨a,b,rfl⟩:=ht;obtain⟨d,rfl⟩:=hc;refine⟨_,Ac1 p m d a b,?_⟩;unfold chgE;split
 .rename_i h;split
  .exact⟨_,_,rfl,AH5 h.1 h.2⟩
  exact vS0
 exact vS0
def AQ0 {s t:Iu}{c:Int}(hs:okS s)(hc:∃b:BitVec 32,c=(b.toNat:Int))(ht:okS t):∃y,Cw N s t c=some y/\vS y.1:=by
 obtain⟨p,m,rfl⟩:=hs;obtain⟨a,b,rfl⟩:=ht;obtain⟨d,rfl⟩:=hc;refine⟨_,AA9 p m a b d,?_⟩;unfold takE;split
 .rename_i h;split
  .exact⟨_,_,rfl,AH5 h.1 h.2⟩
  exact vS0
 exact vS0
def Bb2 (l:Law):Prop:=l.Out.n<=6/\∀i,i<l.Out.n->okO (l.Out.g i)/\(l.Out.g i).From<l.If.n/\((l.Out.g i).Take≠0->0<=(l.Out.g i).Of/\(l.Out.g i).Of<l.If.n)
def AQ1 (hN:1000<=N){l:Law}(o:Bb2 l){cut:Sl Iu}(hn:cut.n=l.If.n)(hc:∀i,i<cut.n->okS (cut.g i)) :∃s,DU N l cut=some s/\s.n=l.Out.n/\∀i,i<s.n->vS (s.g i):=by
 have v:=o.1;unfold DU;refine U8 (λi x1 x2=>x2=(i:Int)/\x1.n=i/\∀j,j<x1.n->vS (x1.g j)) l.Out.n _ (by omega) ⟨rfl,rfl,λj q=>Er q (Bf5 j)⟩ ?_;rintro r i x1 x2 hi ⟨rfl,h1,t⟩ hs;by_cases a:i<l.Out.n
 .obtain⟨⟨b,c,d⟩,w,f⟩:=o.2 i a;have x:okS (⟨(if (decide (0<=(l.Out.g i).From)) then (cut.g (l.Out.g i).From.toNat).Plus else 0),(if (decide (0<=(l.Out.g i).From)) then (cut.g (l.Out.g i).From.toNat).Minus else 0)⟩:Iu):=by
   by_cases u:0<=(l.Out.g i).From
   .simp only[u,decide_true,Es];exact hc _ (by omega)
   simp only[u,decide_false,Be7,Eu];exact⟨0#32,0#32,rfl⟩
  obtain⟨y,e1,hy⟩:=An6 (N:=N) x c b;have nx:∀z,vS z->_:=λz m=>hs a (x1.push z) _ ⟨Bq,by show x1.n+1=_;omega,λj q=>by
   show vS (if j<x1.n then x1.g j else z);split
   .exact t j (by assumption)
   exact m⟩
  have sz:∀z:Iu,(x1.n+(Sl.of [z]:Sl Iu).n)*8<=140737488355328/\x1.n+(Sl.of [z]:Sl Iu).n<=140737488355328:=λz=>by show (x1.n+1)*8<=_/\x1.n+1<=_;omega
  refine Ah (Ac ?_);rw[Int.toNat_natCast];refine ifT (λh=>by have:=of_decide_eq_true h;omega) (C0 e1 ?_);by_cases ht:(l.Out.g i).Take=0
  .exact ifF (by simp[ht]) (ifT (sz _) (nx _ hy))
  obtain⟨g1,g2⟩:=f ht;obtain⟨z,e3,m⟩:=AQ0 (N:=N) hy.ok d (hc (l.Out.g i).Of.toNat (by omega));exact ifT (by simp[ht]) (Ac (C0 e3 (ifT (sz _) (nx _ m))))
 exact Bk ⟨_,rfl,by omega,t⟩
end Go.AM
namespace Go.AM
open Go.Proofs
def AB5 {N:Nat}{x:Ei}(hx:okO x)(k:Int):∃b,AX N x k=some b:=by
 obtain⟨⟨a,b,c⟩,_⟩:=hx;unfold AX;simp only[lt,c,Dc,Option.bind_some]
 repeat' split
 all_goals exact⟨_,rfl⟩
end Go.AM
namespace Go.AM
open Go.Proofs
def An7 {N:Nat}{s:Str}:∃b,Dt N s=some b:=by
 unfold Dt lt;dsimp only;split
 .split
  .unfold DH;rename_i h;have h:=of_decide_eq_true h;rw[Dq ⟨by omega,by decide,by decide⟩];exact⟨_,rfl⟩
  exact⟨_,rfl⟩
 exact⟨_,rfl⟩
end Go.AM
namespace Go.AM
variable {N:Nat}
open IntKind (wrap)
open Go.Proofs
def VV {s:Sl Ei}(m:s.n<N)(hs:s.n<1000000){f:Ei->Option Bool}{b:Nat->Bool}(o:∀i,i<s.n->f (s.g i)=some (b i)) :∃r,D3 N s f=some r/\(r=true ↔ ∃i,i<s.n/\b i=true):=by
 unfold D3 G0
 have:∃y,Y3 N (λ(a:Int->Option Int) (x1:Int)=>
  if (decide (x1<(s.n:Int))) then
   if ((0:Int)<=x1/\x1<(s.n:Int))then
    (f (s.g x1.toNat)).bind λy3=>
    if y3 then
     some x1
    else
     a (wrap .i64 (x1+1))
   else none
  else
   some (-1)) 0=some y/\(0<=y ↔ ∃i,i<s.n/\b i=true):=by
  refine Gb (λi x1=>x1=(i:Int)/\∀j,j<i->b j=false) s.n _ m ⟨rfl,λj c=>Er c (by omega)⟩ ?_;rintro l i x1 q ⟨rfl,h⟩ d;by_cases hl:i<s.n
  .refine Ah (Ac (C0 (by rw[Int.toNat_natCast];exact o i hl) ?_));cases hb:b i
   .refine Bl (d hl _ ⟨Bq,λj c=>?_⟩);by_cases e:j=i
    .subst e;exact hb
    exact h j (by omega)
   exact ifT rfl ⟨i,rfl,λ_=>⟨i,hl,hb⟩,λ_=>by omega⟩
  refine Bk ⟨-1,rfl,λh=>Er h (by decide),?_⟩;rintro⟨j,c,hb⟩;rw[h j (by omega)]at hb;cases hb
 obtain⟨y,e,hy⟩:=this;exact C0 e ⟨_,rfl,by rw[Ev];exact hy⟩
def Ns (l:Law):Prop:=okL l/\l.Name.length<1100000/\l.If.n<1100000/\l.Out.n<1100000/\∀i,i<l.Out.n->okO (l.Out.g i)
def Ac4 {s:Iu}(hs:okS s):∃b,H8 N s=some b/\(b=true↔vS s):=by obtain⟨p,m,e⟩:=hs;exact⟨vB p m,by rw[e];exact Dc p m,(Am7 e).symm⟩
def AB6 {x:Ei}(hx:okO x){k:Int}(h:AX N x k=some true):x.From<k/\(x.Take≠0->0<=x.Of/\x.Of<k):=by
 obtain⟨⟨a,b,c⟩,_,_⟩:=hx;unfold AX at h;simp only[lt,c,Dc,Option.bind_some]at h;by_cases h1:x.From < -1
 .simp[h1]at h
 by_cases d:k<=x.From
 .simp[h1,d]at h
 refine⟨by omega,λht=>?_⟩;simp only[h1,d,decide_false,Be7,Eu]at h;by_cases f:(!vB a b)=true
 .rw[Dq f]at h;cases h
 rw[Ej f]at h;split at h
 .cases h
 rw[Ej (by simp[ht])]at h;simpa using h
def chkAll (N:Nat)(l:Law):Prop:=Dt N l.Name=some true/\chk 40 [l.Left]/\chk 40 [l.Right]/\l.If.n<=4/\l.Out.n<=6/\l.If.n+l.Out.n≠0/\1<=l.Mode/\l.Mode<=3/\(∀i,i<l.If.n->vS (l.If.g i))/\∀i,i<l.Out.n->AX N (l.Out.g i) l.If.n=some true
def lawE (N:Nat)(l:Law)(e:Int):Prop:=(e=0/\chkAll N l) \/ (e=17/\¬chkAll N l)
def lawF (l:Law):Prop:=okL l/\chk 40 [l.Left]/\chk 40 [l.Right]/\l.If.n<=4/\Bb2 l/\l.If.n+l.Out.n≠0/\1<=l.Mode/\l.Mode<=3
def chkAll.f {N:Nat}{l:Law}(hl:Ns l)(h:chkAll N l):lawF l:=by obtain⟨_,h1,b,c,d,g,j,m,o,n⟩:=h;exact⟨hl.1,h1,b,c,⟨d,λi a=>⟨hl.2.2.2.2 i a,AB6 (hl.2.2.2.2 i a) (n i a)⟩⟩,g,j,m⟩
def IQ (hN:3000000<=N){l:Law}(hl:Ns l):∃e,Ay N l=some e/\lawE N l e:=by
 have u:=hl.2.1;have v:=hl.2.2.1;have x:=hl.2.2.2.1;unfold Ay;obtain⟨b0,e0⟩:=An7 (N:=N) (s:=l.Name);refine C0 e0 ?_;cases b0
 .exact ifT rfl ⟨17,rfl,.inr ⟨rfl,λh=>by have:=h.1;rw[e0]at this;cases this⟩⟩
 refine Bl ?_;obtain⟨y2,e2,o⟩:=TD (N:=N) (by omega) hl.1.1;refine C0 e2 ?_;by_cases c2:y2=0
 case neg=>exact ifT (by simpa using c2) ⟨17,rfl,.inr ⟨rfl,λh=>c2 (o.2 h.2.1)⟩⟩
 refine ifF (by simp[c2]) ?_;obtain⟨y3,e3,q⟩:=TD (N:=N) (by omega) hl.1.2.1;refine C0 e3 ?_;by_cases c3:y3=0
 case neg=>exact ifT (by simpa using c3) ⟨17,rfl,.inr ⟨rfl,λh=>c3 (q.2 h.2.2.1)⟩⟩
 refine ifF (by simp[c3]) ?_;by_cases c4:4<l.If.n
 .exact Ah ⟨17,rfl,.inr ⟨rfl,λh=>by have:=h.2.2.2.1;omega⟩⟩
 refine Bk ?_;by_cases c5:6<l.Out.n
 .exact Ah ⟨17,rfl,.inr ⟨rfl,λh=>by have:=h.2.2.2.2.1;omega⟩⟩
 refine Bk ?_;rw[QJ (by omega)];by_cases c6:l.If.n+l.Out.n=0
 .exact ifT (by rw[c6];rfl) ⟨17,rfl,.inr ⟨rfl,λh=>h.2.2.2.2.2.1 c6⟩⟩
 refine Bk ?_;by_cases c7:l.Mode<1 \/ 3<l.Mode
 .exact Ah ⟨17,rfl,.inr ⟨rfl,λh=>by have g1:=h.2.2.2.2.2.2.1;have g2:=h.2.2.2.2.2.2.2.1;omega⟩⟩
 refine Bk ?_;have y:∀i,∃b,i<l.If.n->AZ N (l.If.g i)=some b/\(b=true ↔ ¬vS (l.If.g i)):=by
  intro i;by_cases a:i<l.If.n
  .obtain⟨b,eb,hb⟩:=Ac4 (N:=N) (hl.1.2.2 i a);refine⟨!b,λ_=>⟨by unfold AZ;rw[eb];rfl,?_⟩⟩;rw[<- hb];simp
  exact⟨false,λh=>Er h a⟩
 obtain⟨f,j⟩:=Bo4 y;obtain⟨y4,e4,r⟩:=MR (N:=N) (w:=l.If) (by omega) (by omega) (f:=λu1=>AZ N u1) (λi a=>(j i a).1);refine C0 e4 ?_;cases c:y4
 case true=>obtain⟨i,a,hb⟩:=r.1 c;exact ifT rfl ⟨17,rfl,.inr ⟨rfl,λh=>(j i a).2.1 hb (h.2.2.2.2.2.2.2.2.1 i a)⟩⟩
 refine Bl ?_;have z:∀i,∃b,i<l.Out.n->AY N (l.Out.g i) (l.If.n:Int)=some b/\(b=true ↔ ¬AX N (l.Out.g i) l.If.n=some true):=by
  intro i;by_cases a:i<l.Out.n
  .obtain⟨b,eb⟩:=AB5 (N:=N) (hl.2.2.2.2 i a) (l.If.n:Int);refine⟨!b,λ_=>⟨by unfold AY;rw[eb];rfl,?_⟩⟩;rw[eb];simp
  exact⟨false,λh=>Er h a⟩
 obtain⟨g,m⟩:=Bo4 z;obtain⟨y5,e5,t⟩:=VV (N:=N) (s:=l.Out) (by omega) (by omega) (f:=λu2=>AY N u2 (l.If.n:Int)) (λi a=>(m i a).1);refine C0 e5 ?_;cases d:y5
 case true=>obtain⟨i,a,hb⟩:=t.1 d;exact ifT rfl ⟨17,rfl,.inr ⟨rfl,λh=>(m i a).2.1 hb (h.2.2.2.2.2.2.2.2.2 i a)⟩⟩
 refine Bl ⟨0,rfl,.inl ⟨rfl,e0,o.1 c2,q.1 c3,by omega,by omega,c6,by omega,by omega,λi a=>?_,λi a=>?_⟩⟩
 .refine Bi2 λhn=>?_
  have:=r.2 ⟨i,a,(j i a).2.2 hn⟩
  rw[c]at this;cases this
 refine Bi2 λhn=>?_
 have:=t.2 ⟨i,a,(m i a).2.2 hn⟩
 rw[d]at this;cases this
end Go.AM
namespace Go.AM
variable {N:Nat}
open IntKind (wrap)
open Go.Proofs
def nf:(!false)=true:=rfl
def app0 {α : Type}{s t:Sl α}(h:s.n=0):s.app t=t:=by cases t;simp[Sl.app,h]
def AH6 {α : Type}[Inhabited α](s:Sl (Sl α)):Nat->Sl α
 |0=>Sl.nil
 |k+1=>(AH6 s k).app (s.g k)
def AH7 {α : Type}[Inhabited α](s:Sl (Sl α)){B:Nat}:∀k,(∀i,i<k->(s.g i).n<=B)->(AH6 s k).n<=k*B
 |0,_=>by simp[AH6]
 |k+1,h=>by
  have:=AH7 s k λi a=>h i (by omega)
  have:=h k (by omega)
  show (AH6 s k).n+(s.g k).n<=_;rw[Bq8];omega
def XU {s:Sl (Sl Iu)}(hn:s.n<1000)(d:1000<=N)(hs:∀i,i<s.n->(s.g i).n<=3000000) :B0 N s=some (AH6 s s.n):=by
 suffices h:∃r,B0 N s=some r/\r=AH6 s s.n by obtain⟨r,h,rfl⟩:=h;exact h
 unfold B0;refine U8 (λ(i:Nat) (x1 x2:Int)=>x2=(i:Int)/\0<=x1/\x1<=(i:Int)*3000000) s.n _ (by omega) ⟨rfl,Int.le_refl 0,by simp⟩ ?_;rintro b i x1 x2 c ⟨rfl,f,h1⟩ a;by_cases hl:i<s.n
 .have:=hs i hl
  refine Ah (Ac ?_);rw[Int.toNat_natCast,E3 (by omega) (by omega)];exact Bk (a hl _ _ ⟨Bq,by omega,by omega⟩)
 refine Bk (C0 (x:=Sl.nil) ?_ ?_)
 .unfold J7;rw[Ce]
 refine U8 (λi x1 x2=>x2=(i:Int)/\x1=AH6 s i) s.n _ (by omega) ⟨rfl,rfl⟩ ?_;rintro b i x1 x2 c ⟨rfl,rfl⟩ a;by_cases hl:i<s.n
 .have g1:=hs i hl;have g2:=AH7 s i (B:=3000000) λj l=>hs j (by omega);refine Ah (ifT ⟨by omega,?_⟩ (a hl _ _ ⟨Bq,?_⟩))
  .rw[Int.toNat_natCast];omega
  rw[Int.toNat_natCast];rfl
 exact Bk ⟨_,rfl,by congr 1;omega⟩
def repl (w:Sl Iu)(i k:Nat)(y:Sl Iu):Sl Iu:=((w.take i).app y).app (w.drop (i+k))
abbrev vW (s:Sl Iu):Prop:=∀j,j<s.n->vS (s.g j)
def Zf {s t:Sl Iu}(h:vW s)(h' : vW t):vW (s.app t):=λj a=>by
 have a:j<s.n+t.n:=a;show vS (if j<s.n then s.g j else t.g (j-s.n));split
 .exact h j (by assumption)
 exact h' _ (by omega)
def An8 {s:Sl Iu}(h:vW s)(k:Nat):vW (s.drop k):=λj a=>h _ (by have a:j<s.n-k:=a;omega)
def An9 {s:Sl Iu}(h:vW s){k:Nat}(hk:k<=s.n):vW (s.take k):=λj a=>h _ (by have a:j<k:=a;omega)
def AH8 (a:1000<=N){l:Law}(b:Bb2 l){w:Sl Iu}(hw:vW w){i:Nat}(d:i+l.If.n<=w.n) :∃s,DU N l (w.sub i (i+l.If.n))=some s/\s.n=l.Out.n/\vW s:=
 AQ1 a b (cut:=w.sub i (i+l.If.n)) (by show i+l.If.n-i=_;omega) λj c=>(hw (i+j) (by have:j<i+l.If.n-i:=c;omega)).ok
def cat3 (a b c:Sl Iu):AH6 (Sl.of [a,b,c]:Sl (Sl Iu)) 3=(a.app b).app c:=by show ((Ip.app a).app b).app c=_;rw[app0 (s:=Ip) rfl]
def Ao0 (d:1000<=N){a b c:Sl Iu}(ha:a.n<=3000000)(hb:b.n<=3000000)(hc:c.n<=3000000):B0 N (Sl.of [a,b,c]:Sl (Sl Iu))=some ((a.app b).app c):=by
 have h:=XU (N:=N) (s:=(Sl.of [a,b,c]:Sl (Sl Iu))) (by show 3<1000;omega) d λi f=>by
  match i,f with
  |0,_=>exact ha
  |1,_=>exact hb
  |2,_=>exact hc
 rw[h];exact congrArg some (cat3 a b c)
def RI (a:1000<=N){l:Law}(b:Bb2 l){w:Sl Iu}(c:w.n<1000)(hw:vW w){i:Nat}(d:i+l.If.n<=w.n) :∃s,T7 N l w (i:Int)=some s/\s.n=w.n-l.If.n+l.Out.n/\vW s:=by
 obtain⟨y,h1,g,f⟩:=AH8 a b hw d;have j:=b.1;refine⟨repl w i l.If.n y,?_,by show i+y.n+(w.n-(i+l.If.n))=_;omega,Zf (Zf (An9 hw (by omega)) f) (An8 hw _)⟩;unfold T7;rw[QJ (by omega),Ce,Int.toNat_natCast,Int.toNat_natCast,h1,Option.bind_some,Ce,
  Ao0 a (by show i<=_;omega) (by omega) (by show w.n-(i+l.If.n)<=_;omega)]
 rfl
abbrev Zg:=List (Int×Sl Iu)
def vL (L:Zg):Prop:=∀x∈L,vW x.2
def VW:vL []:=λx hx=>Er hx (by simp)
def XV {x:Int×Sl Iu}{L:Zg}(h:vW x.2)(hL:vL L):vL (x::L):=λy hy=>by
 rcases Bf8.1 hy with rfl|hy
 .exact h
 exact hL y hy
def Ao1 (N:Nat)(l:Law)(a:Sl Iu->Int->Option Zg)(x5:Sl Iu)(x6:Int):Option Zg:= if (decide ((wrap .i64 (x6+(l.If.n:Int)))<=(x5.n:Int))) then (DV N l x5 x6).bind λc=>if (!c) then a x5 (wrap .i64 (x6+1)) else (T7 N l x5 x6).bind λb=>Ag (x6,b) (if ((l.If.n:Int)==0) then a b (wrap .i64 ((wrap .i64 (x6+(l.Out.n:Int)))+1)) else a b (wrap .i64 (x6+(l.Out.n:Int)))) else some []
def AB7 (g:3000<=N){l:Law}(o:lawF l):∀(m:Nat) (w:Sl Iu) (i:Nat),w.n<=100->vW w->i<=200->w.n+1<=i+m->∀M,m<M->∃L,Bj M (Ao1 N l) w i=some L/\vL L/\L.length<=m:=by
 obtain⟨hl,_,_,hk,d,q,_,_⟩:=o;have v:=d.1;intro m
 induction m with
 |zero=>intro w i hn a r hm M t;obtain⟨M,rfl⟩:∃K,M=K+1:=⟨M-1,by omega⟩;rw[CK,Ao1,QJ (by omega),Cj];exact⟨[],rfl,VW,Be8 _⟩
 |succ m ih=>
  intro w i hn a r hm M t;obtain⟨M,rfl⟩:∃K,M=K+1:=⟨M-1,by omega⟩;rw[CK,Ao1,QJ (by omega)];by_cases hle:i+l.If.n<=w.n
  case neg=>rw[Cj];exact⟨[],rfl,VW,by simp⟩
  obtain⟨b,e1,h1⟩:=AH4 g hl hk (w:=w) ⟨by omega,λj u=>(a j u).ok⟩ i (by omega);rw[Ch,e1,Option.bind_some];cases b
  .rw[Dq nf,Bq];obtain⟨L,g1,g2,g3⟩:=ih w (i+1) hn a (by omega) (by omega) M (by omega);exact⟨L,g1,g2,by omega⟩
  have f:=(h1 rfl).2.1;obtain⟨s,r1,r2,r3⟩:=RI (N:=N) (by omega) d (by omega) a hle;rw[Ej (by simp),r1,Option.bind_some,QJ (by omega),Bq];obtain⟨L,g1,g2,g3⟩:=ih s (if l.If.n=0 then i+l.Out.n+1 else i+l.Out.n) (by omega) r3 (by split<;>omega) (by split<;>omega) M (by omega);refine⟨((i:Int),s)::L,?_,XV r3 g2,by simp;omega⟩;by_cases c:l.If.n=0
  .rw[Dq c]at g1;rw[Dq (by simp[c]),g1];rfl
  rw[Ej c]at g1;rw[Ej (by simp[c]),g1];rfl
def AQ2 (N:Nat)(l:Law)(a:Sl Iu->Int->Option Zg)(x7:Sl Iu)(x8:Int):Option Zg:= if (decide (0<=x8)) then (DV N l x7 x8).bind λc=>if (!c) then a x7 (wrap .i64 (x8-1)) else (T7 N l x7 x8).bind λb=>Ag (x8,b) (a b (wrap .i64 (x8-(if (l.If.n:Int)<1 then 1 else (l.If.n:Int))))) else some []
def AQ3 (q:3000<=N){l:Law}(r:lawF l):∀(m:Nat) (w:Sl Iu) (i:Int),w.n<=100->vW w -> -100<=i->i+1<=m->m<=200->∀M,m<M->∃L,Bj M (AQ2 N l) w i=some L/\vL L/\L.length<=m:=by
 obtain⟨hl,_,_,hk,f,t,_,_⟩:=r;have y:=f.1;intro m
 induction m with
 |zero=>intro w i hn a u hm c M v;obtain⟨M,rfl⟩:∃K,M=K+1:=⟨M-1,by omega⟩;rw[CK,AQ2,Cj];exact⟨[],rfl,VW,Be8 _⟩
 |succ m ih=>
  intro w i hn a u hm c M v;obtain⟨M,rfl⟩:∃K,M=K+1:=⟨M-1,by omega⟩;rw[CK,AQ2];by_cases hle:0<=i
  case neg=>rw[Cj];exact⟨[],rfl,VW,by simp⟩
  obtain⟨k,rfl⟩:∃k:Nat,i=(k:Int):=⟨i.toNat,by omega⟩;obtain⟨b,e1,h1⟩:=AH4 q hl hk (w:=w) ⟨by omega,λj x=>(a j x).ok⟩ k (by omega);rw[Dq (by simp),e1,Option.bind_some];cases b
  .rw[Dq nf,E3 (by omega) (by omega)];obtain⟨L,g1,g2,g3⟩:=ih w ((k:Int)-1) hn a (by omega) (by omega) (by omega) M (by omega);exact⟨L,g1,g2,by omega⟩
  obtain⟨hle,d⟩:=h1 rfl;have g:=d.1;obtain⟨s,r1,r2,r3⟩:=RI (N:=N) (by omega) f (by omega) a hle;rw[Ej (by simp),r1,Option.bind_some];obtain⟨L,g1,g2,g3⟩:=ih s (if l.If.n=0 then (k:Int)-1 else (k:Int)-l.If.n) (by omega) r3 (by split<;>omega) (by split<;>omega) (by omega) M (by omega);refine⟨((k:Int),s)::L,?_,XV r3 g2,by simp;omega⟩;by_cases o:l.If.n=0
  .rw[Dq o]at g1;rw[Ce,E3 (by omega) (by omega),g1];rfl
  rw[Ej o]at g1;rw[Ej (by omega),E3 (by omega) (by omega),g1];rfl
end Go.AM
namespace Go.AM
open IntKind (wrap)
open Go.Proofs
abbrev AllS:=Sl Iu×Int×Int
def Ac5 (N:Nat)(l:Law)(q0:Sl Iu)(a:AllS->Option Zg)(x1:Int)(z1:AllS):Option Zg:= if (decide (x1<z1.2.1)) then a (z1.1,z1.2.1,z1.2.2) else if (((0:Int)<=(wrap .i64 (x1+z1.2.2))/\(wrap .i64 (x1+z1.2.2))<=(z1.1.n:Int))/\((0:Int)<=x1/\x1<=(wrap .i64 (x1+(l.If.n:Int)))/\(wrap .i64 (x1+(l.If.n:Int)))<=(q0.n:Int)))then (DU N l (q0.sub x1.toNat (wrap .i64 (x1+(l.If.n:Int))).toNat)).bind λy6=>if ((0:Int)<=(wrap .i64 (x1+(l.If.n:Int)))/\(wrap .i64 (x1+(l.If.n:Int)))<=(q0.n:Int))then (B0 N (Sl.of [z1.1.take (wrap .i64 (x1+z1.2.2)).toNat,y6,q0.drop (wrap .i64 (x1+(l.If.n:Int))).toNat]:Sl (Sl Iu))).bind λy7=>Ag (x1,y7) (a (y7,wrap .i64 (x1+(if (l.If.n:Int)<1 then 1 else (l.If.n:Int))),wrap .i64 ((wrap .i64 (z1.2.2+(l.Out.n:Int)))-(l.If.n:Int)))) else none else none
def Ao2 {N:Nat}(f:3000<=N){l:Law}(a:Bb2 l)(hk:l.If.n<=4){w:Sl Iu}(b:vW w):∀(L:List Int) (i:Nat) (acc:Sl Iu) (next sh:Int),hitL l w i L->i<=33->vW acc->(acc.n:Int)=w.n+sh->0<=next->0<=next+sh->sh<=6*i ->
 ∃R,S9 L (Ac5 N l w) (λ_=>some []) (acc,next,sh)=some R/\vL R/\R.length<=L.length
 |[],i,acc,next,sh,_,_,_,_,_,_,_=>⟨[],rfl,VW,Be8 _⟩
 |t::L,i,acc,next,sh,⟨j,et,h2,h3,h4,h5⟩,hi,ha,hn,h0,hs,h6=>by
  subst et;have m:=h4.1;have o:=a.1;show ∃R,Ac5 N l w (S9 L (Ac5 N l w) λ_=>some []) (j:Int) (acc,next,sh)=some R/\_;unfold Ac5;by_cases g:(j:Int)<next
  .obtain⟨R,r1,r2,r3⟩:=Ao2 f a hk b L (j+1) acc next sh h5 (by omega) ha hn h0 hs (by omega)
   exact ifT (by simpa using g) ⟨R,r1,r2,by simp;omega⟩
  obtain⟨y,p1,p3,p4⟩:=AH8 (N:=N) (by omega) a b h3;obtain⟨k,ek⟩:∃k:Nat,(j:Int)+sh=(k:Int):=⟨((j:Int)+sh).toNat,by omega⟩;have es:wrap .i64 ((j:Int)+sh)=(k:Int):=by rw[E3 (by omega) (by omega),ek]
  simp only[es];rw[QJ (by omega)];simp only[Int.toNat_natCast];refine ifF (by simpa using g) (Ac (C0 p1 (Ac ?_)));refine C0 (Ao0 (by omega) (by show k<=_;omega) (by omega) (by show w.n-(j+l.If.n)<=_;omega)) ?_;have c:vW (((acc.take k).app y).app (w.drop (j+l.If.n))):=Zf (Zf (An9 ha (by omega)) p4) (An8 b _);have d:(((acc.take k).app y).app (w.drop (j+l.If.n))).n=k+y.n+(w.n-(j+l.If.n)):=rfl;generalize ((acc.take k).app y).app (w.drop (j+l.If.n))=z at c d;have en:wrap .i64 ((j:Int)+(if (l.If.n:Int)<1 then 1 else (l.If.n:Int)))=(j:Int)+(if (l.If.n:Int)<1 then 1 else (l.If.n:Int)):=E3 (by split<;>omega) (by split<;>omega);have eh:wrap .i64 ((wrap .i64 (sh+(l.Out.n:Int)))-(l.If.n:Int))=sh+l.Out.n-l.If.n:=by rw[E3 (n:=sh+(l.Out.n:Int)) (by omega) (by omega),E3 (by omega) (by omega)]
  rw[en,eh];obtain⟨R,r1,r2,r3⟩:=Ao2 f a hk b L (j+1) z ((j:Int)+(if (l.If.n:Int)<1 then 1 else (l.If.n:Int))) (sh+l.Out.n-l.If.n) h5 (by omega) c (by omega) (by split<;>omega) (by split<;>omega) (by omega);exact⟨((j:Int),z)::R,by show Ag _ (S9 L (Ac5 N l w) (λ_=>some []) _)=_;rw[r1];rfl,XV c r2,by simp;omega⟩
abbrev DocS:=(Sl Int)×(Sl (Sl Iu))×Int
def VX:∀(L:Zg) (x:Sl Int) (y:Sl (Sl Iu)),x.n+L.length<=100000->y.n+L.length<=100000->vL L->(∀i,i<y.n->wOk (y.g i)) ->
 ∃r,S9 L (λ(a:Sl Int×Sl (Sl Iu)->Option DocS) (x1:Int×(Sl Iu)) (z1:(Sl Int)×(Sl (Sl Iu)))=>
  if (decide (32<(x1.2.n:Int))) then
   some (Io,(Sl.nil:Sl (Sl Iu)),11)
  else
   if (Kb 8 (z1.1.n+(Sl.of [x1.1]:Sl Int).n))then
    if (Kb 24 (z1.2.n+(Sl.of [x1.2]:Sl (Sl Iu)).n))then
     a (z1.1.push x1.1,z1.2.push x1.2)
    else none
   else none
  ) (λ(z1:(Sl Int)×(Sl (Sl Iu)))=>
   some (z1.1,z1.2,0)
  ) (x,y)=some r/\(r.2.2=11 \/ (r.2.2=0/\r.2.1.n<=100000/\∀i,i<r.2.1.n->wOk (r.2.1.g i)))
 |[],x,y,_,hy,_,h=>⟨_,rfl,.inr ⟨rfl,hy,h⟩⟩
 |(p,v)::L,x,y,hx,hy,hL,h=>by
  simp only[Bh0]at hx hy;by_cases b:32<v.n
  .exact⟨_,Dq (decide_eq_true (show (32:Int)<(v.n:Int) by omega)),.inl rfl⟩
  obtain⟨r,r1,r2⟩:=VX L (x.push p) (y.push v) (by show x.n+1+_<=_;omega) (by show y.n+1+_<=_;omega) (λz c=>hL z (Bf7 _ c)) λi d=>by
   show wOk (if i<y.n then y.g i else v);split
   .exact h i (by assumption)
   exact⟨by omega,hL (p,v) (by simp)⟩
  refine⟨r,?_,r2⟩;rw[S9,Cj,Dq (by show (x.n+1)*8<=_/\x.n+1<=_;omega),Dq (by show (y.n+1)*24<=_/\y.n+1<=_;omega)];exact r1
def hitL.len {l:Law}{w:Sl Iu}:∀{L:List Int}{i:Nat},hitL l w i L->L.length<=w.n+1-i
 |[],i,_=>Bl6 _
 |t::L,i,⟨j,_,h2,h3,_,h5⟩=>by have:=hitL.len h5;simp;omega
def vOk {w:Sl Iu}(h:wOk w):okW w:=⟨by have:=h.1;omega,λi a=>(h.2 i a).ok⟩
def AB8 (N:Nat)(l:Law):Prop:=Ns l/\chkAll N l
def AB9 {N:Nat}(o:3000000<=N){l:Law}(hl:AB8 N l){w:Sl Iu}(a:wOk w) :∃r,Fk N l w=some r/\(r.2.2=11 \/ (r.2.2=0/\r.2.1.n<=100000/\∀i,i<r.2.1.n->wOk (r.2.1.g i))):=by
 obtain⟨e,e1,q⟩:=IQ o hl.1;obtain⟨e',e3,b⟩:=Lw (N:=N) (by omega) λi c=>(a.2 i c).ok;obtain rfl:e=0:=q.elim (·.1) λh=>Er hl.2 h.2;obtain rfl:=(Lu b).2 a;obtain⟨d,_,_,hk,s,t,u,v⟩:=id (hl.2.f hl.1);have j:=hl.2.f hl.1;have hn:=a.1;have key:∃L,Du N w l (l.If.n:Int) (l.Out.n:Int)=some L/\vL L/\L.length<=100:=by
  unfold Du;by_cases c1:l.Mode=1
  .refine ifT (by simp[c1]) ?_;obtain⟨H,h1,m⟩:=An5 (N:=N) (by omega) d hk (vOk a) 0 (by omega);obtain⟨R,r1,r2,r3⟩:=Ao2 (N:=N) (by omega) s hk a.2 H 0 w 0 0 m (by omega) a.2 (by omega) (by omega) (by omega) (by omega)
   have:=m.len
   show ∃R,(Az N l w ((0:Nat):Int)).bind (λL1=>S9 L1 (Ac5 N l w) (λ_=>some []) (w,0,0))=some R/\_;exact C0 h1 ⟨R,r1,r2,by omega⟩
  refine ifF (by simp[c1]) ?_;by_cases c2:l.Mode=2
  .obtain⟨L,g1,g2,g3⟩:=AB7 (N:=N) (by omega) j (w.n+1) w 0 (by omega) a.2 (by omega) (by omega) N (by omega);exact ifT (by simp[c2]) ⟨L,g1,g2,by omega⟩
  obtain⟨L,g1,g2,g3⟩:=AQ3 (N:=N) (by omega) j (w.n+1) w ((w.n:Int)-(l.If.n:Int)) (by omega) a.2 (by omega) (by omega) (by omega) N (by omega);refine ifF (by simp[c2]) (Ah ⟨L,?_,g2,by omega⟩);rw[E3 (by omega) (by omega)];exact g1
 obtain⟨L,g1,g2,g3⟩:=key;have hc:Fj N l w=some 0:=by unfold Fj;rw[e1,Option.bind_some,Ej (by decide),e3];try rfl
 unfold Fk;rw[hc,Option.bind_some,Ej (by decide),Lm,Option.bind_some];show ∃r,(Du N w l (l.If.n:Int) (l.Out.n:Int)).bind _=some r/\_;rw[g1,Option.bind_some];exact VX L _ _ (by show 0+_<=_;omega) (by show 0+_<=_;omega) g2 λi c=>Er c (Bf5 i)
def AQ4 {N:Nat}(b:3000000<=N){l:Law}(hl:AB8 N l){w:Sl Iu}(hw:wOk w):∃v e,Cm N l w=some (v,e)/\(e=11 \/ (e=0/\wOk v)):=by
 obtain⟨⟨x,y,e⟩,h1,h⟩:=AB9 b hl hw;have c:=hw.1;unfold Cm;rw[h1,Option.bind_some];rcases h with h|⟨h,a,d⟩
 .obtain rfl:e=11:=h;exact⟨_,_,Dq (show ((11:Int) != 0)=true by decide),.inl rfl⟩
 obtain rfl:e=0:=h;replace a:y.n<=100000:=a;rw[Ej (show ¬((0:Int) != 0)=true by decide)];by_cases hy:y.n=0
 .rw[Ej (by simp[hy])];unfold A6;rw[Ce];exact⟨w,0,rfl,.inr ⟨rfl,hw⟩⟩
 have e1:wrap .i64 ((y.n:Int)-1)=((y.n-1:Nat):Int):=AA7 (by omega) (by omega);dsimp only;rw[e1,Int.toNat_natCast,Ch,Ce];exact⟨_,_,rfl,.inr ⟨rfl,d (y.n-1) (show y.n-1<y.n by omega)⟩⟩
end Go.AM
namespace Go.AM
variable {N:Nat}
open IntKind (wrap)
open Go.Proofs
def VY {s:Sl Law}(m:s.n<N)(hs:s.n<1000000){f:Law->Option Bool}{b:Nat->Bool}(o:∀i,i<s.n->f (s.g i)=some (b i)) :∃r,D4 N s f=some r/\(r=true ↔ ∃i,i<s.n/\b i=true):=by
 unfold D4 G1
 have:∃y,Y3 N (λ(a:Int->Option Int) (x1:Int)=>
  if (decide (x1<(s.n:Int))) then
   if ((0:Int)<=x1/\x1<(s.n:Int))then
    (f (s.g x1.toNat)).bind λy3=>
    if y3 then
     some x1
    else
     a (wrap .i64 (x1+1))
   else none
  else
   some (-1)) 0=some y/\(0<=y ↔ ∃i,i<s.n/\b i=true):=by
  refine Gb (λi x1=>x1=(i:Int)/\∀j,j<i->b j=false) s.n _ m ⟨rfl,λj c=>Er c (by omega)⟩ ?_;rintro l i x1 q ⟨rfl,h⟩ d;by_cases hl:i<s.n
  .refine Ah (Ac (C0 (by rw[Int.toNat_natCast];exact o i hl) ?_));cases hb:b i
   .refine Bl (d hl _ ⟨Bq,λj c=>?_⟩);by_cases e:j=i
    .subst e;exact hb
    exact h j (by omega)
   exact ifT rfl ⟨i,rfl,λ_=>⟨i,hl,hb⟩,λ_=>by omega⟩
  refine Bk ⟨-1,rfl,λh=>Er h (by decide),?_⟩;rintro⟨j,c,hb⟩;rw[h j (by omega)]at hb;cases hb
 obtain⟨y,e,hy⟩:=this;exact C0 e ⟨_,rfl,by rw[Ev];exact hy⟩
def Ao3 (N:Nat)(laws:Sl Law):Prop:=laws.n<=64/\∀i,i<laws.n->chkAll N (laws.g i)
def Bh (laws:Sl Law):Prop:=∀i,i<laws.n->Ns (laws.g i)
def Ao4 (d:3000000<=N){laws:Sl Law}(hl:Bh laws):∃e,BV N laws=some e/\(e=0->Ao3 N laws):=by
 unfold BV;by_cases hn:64<laws.n
 .exact Ah ⟨12,rfl,λh=>by cases h⟩
 refine Bk ?_;have j:∀i,∃b,i<laws.n->T1 N (laws.g i)=some b/\(b=true ↔ ¬chkAll N (laws.g i)):=by
  intro i;by_cases a:i<laws.n
  .obtain⟨e,e1,l⟩:=IQ d (hl i a);refine⟨e != 0,λ_=>⟨by unfold T1;rw[e1];rfl,?_⟩⟩;rcases l with⟨rfl,h⟩ | ⟨rfl,h⟩
   .exact⟨λh=>Er h (by decide),λg=>Er h g⟩
   exact⟨λ_=>h,λ_=>by decide⟩
  exact⟨false,λh=>Er h a⟩
 obtain⟨f,c⟩:=Bo4 j;obtain⟨r,e1,h1⟩:=VY (N:=N) (s:=laws) (by omega) (by omega) (f:=λu1=>T1 N u1) (λi a=>(c i a).1);refine C0 e1 ?_;cases m:r
 .refine Bl ⟨0,rfl,λ_=>⟨by omega,λi a=>Bi2 λhn=>?_⟩⟩
  have:=h1.2 ⟨i,a,(c i a).2.2 hn⟩
  rw[m]at this;cases this
 exact ifT rfl ⟨17,rfl,λh=>by cases h⟩
def Ac6 (c:3000000<=N){laws:Sl Law}(hl:Bh laws){w:Sl Iu}(hw:∀i,i<w.n->okS (w.g i)) :∃e,BW N laws (Sl.of [w]:Sl (Sl Iu))=some e/\(e=0->Ao3 N laws/\wOk w):=by
 unfold BW;obtain⟨e,e1,h1⟩:=Ao4 c hl;refine C0 e1 ?_;by_cases a:e=0
 case neg=>exact ifT (by simpa using a) ⟨e,rfl,λh=>Er h a⟩
 refine ifF (by simp[a]) (ifF (by show ¬decide ((256:Int)<((1:Nat):Int))=true;decide) ?_);refine Gb (λi x1=>x1=(i:Int)/\(0<i->wOk w)) 1 _ (by omega) ⟨rfl,λh=>Er h (by omega)⟩ ?_;rintro b i x1 j ⟨rfl,h⟩ hs;by_cases d:i<1
 .obtain rfl:i=0:=by omega
  obtain⟨e,e1,f⟩:=Lw (N:=N) (by omega) hw;refine ifT (by show decide (((0:Nat):Int)<((1:Nat):Int))=true;decide) (ifT (by show (0:Int)<=((0:Nat):Int)/\((0:Nat):Int)<((1:Nat):Int);omega) (C0 e1 ?_));by_cases a:e=0
  .exact ifF (by simp[a]) (hs (by omega) _ ⟨rfl,λ_=>(Lu f).1 a⟩)
  exact ifT (by simpa using a) ⟨e,rfl,λh=>Er h a⟩
 exact ifF (by show ¬decide ((i:Int)<((1:Nat):Int))=true;simp;omega) ⟨0,rfl,λ_=>⟨h1 a,h (by omega)⟩⟩
def MS (N:Nat)(c:Int)(q1:Sl Law)(a:Sl Iu->Int->Option Zg)(x1:Sl Iu)(x2:Int):Option Zg:= if (decide (x2<(q1.n:Int))) then if ((0:Int)<=x2/\x2<(q1.n:Int))then (Cm N (q1.g x2.toNat) x1).bind λy4=>if (y4.2 != 0) then if y4.2=c then some []else none else Ag (wrap .i64 (x2+1),y4.1) (a y4.1 (wrap .i64 (x2+1))) else none else if c=0 then some []else none
def PD {c:Int}{laws:Sl Law}{a:Sl Iu->Int->Option Zg}{w:Sl Iu}{i:Nat}(d:i<laws.n)(b:laws.n<=64){y:Sl Iu×Int}(h:Cm N (laws.g i) w=some y) :MS N c laws a w (i:Int)=if (y.2 != 0) then (if y.2=c then some []else none)else Ag (((i+1:Nat):Int),y.1) (a y.1 ((i+1:Nat):Int)):=by unfold MS;rw[Dq (show decide ((i:Int)<(laws.n:Int))=true by simp;omega),Ce,Int.toNat_natCast,h,Option.bind_some,Bq]
def Ao5:Sl Iu->Zg->Sl Iu
 |w,[]=>w
 |_,(_,v)::L=>Ao5 v L
def TE:∀(L:Zg) (w:Sl Iu),S9 L (λ(a:Sl Iu->Option (Sl Iu)) (x1:Int×(Sl Iu)) (z1:Sl Iu)=>a x1.2) (λ(z1:Sl Iu)=>some z1) w=some (Ao5 w L)
 |[],w=>rfl
 |(p,v)::L,w=>TE L v
def Ao6 (d:3000000<=N){laws:Sl Law}(hl:Bh laws)(b:Ao3 N laws):∀(m i:Nat) (w:Sl Iu),wOk w->i<=laws.n->laws.n<=i+m->∀M,m<M ->
 (∃L,Bj M (MS N 0 laws) w i=some L/\wOk (Ao5 w L)) \/ (∃L,Bj M (MS N 0 laws) w i=none/\Bj M (MS N 11 laws) w i=some L):=by
 have c:=b.1;intro m
 induction m with
 |zero=>intro i w hw f hm M g;obtain⟨M,rfl⟩:∃K,M=K+1:=⟨M-1,by omega⟩;exact .inl ⟨[],by rw[CK,MS,Cj,Dq rfl],hw⟩
 |succ m ih=>
  intro i w hw f hm M g;obtain⟨M,rfl⟩:∃K,M=K+1:=⟨M-1,by omega⟩;by_cases a:i<laws.n
  case neg=>exact .inl ⟨[],by rw[CK,MS,Cj,Dq rfl],hw⟩
  obtain⟨v,e,g1,g2⟩:=AQ4 d ⟨hl i a,b.2 i a⟩ hw;rw[CK,CK,PD a c g1,PD a c g1];rcases g2 with rfl|⟨rfl,g2⟩
  .exact .inr ⟨[],rfl,rfl⟩
  rw[Ej (by simp),Ej (by simp)];rcases ih (i+1) v g2 (by omega) (by omega) M (by omega)with⟨L,a1,a2⟩ | ⟨L,a1,a2⟩
  .exact .inl ⟨((i+1:Nat),v)::L,by dsimp only;rw[a1];rfl,a2⟩
  exact .inr ⟨((i+1:Nat),v)::L,by dsimp only;rw[a1];rfl,by dsimp only;rw[a2];rfl⟩
def PE (l:3000000<=N){laws:Sl Law}(hl:Bh laws){w:Sl Iu}(hw:∀i,i<w.n->okS (w.g i)):∃r,S5 N laws w=some r/\(r.2=0->wOk r.1):=by
 obtain⟨e,e1,m⟩:=Ac6 l hl hw;unfold S5;rw[e1,Option.bind_some];by_cases j:e=0
 case neg=>exact⟨_,Dq (by simpa using j),λh=>Er h j⟩
 rw[Ej (by simp[j])];obtain⟨d,f⟩:=m j;have o:=d.1;have q:=f.1;have b:∀c,K5 N c laws w=(Ag (0,w) (Bj N (MS N c laws) w ((0:Nat):Int))).bind λL1=>S9 L1 (λ(a:Sl Iu->Option (Sl Iu)) (x1:Int×(Sl Iu)) (z1:Sl Iu)=>a x1.2) (λ(z1:Sl Iu)=>some z1) Ip:=by intro c;unfold K5 DI BZ A6;rw[Option.bind_some,Dq (by dsimp only;omega),Option.bind_some];rfl
 unfold Ca;rw[b,b];rcases Ao6 l hl d laws.n 0 w f (by omega) (by omega) N (by omega)with⟨L,g1,g2⟩ | ⟨L,g1,g2⟩
 .rw[g1]
  have:(Ag (0,w) (some L)).bind (λL1=>S9 L1 (λ(a:Sl Iu->Option (Sl Iu)) (x1:Int×(Sl Iu)) (z1:Sl Iu)=>a x1.2) (λ(z1:Sl Iu)=>some z1) Ip)=some (Ao5 w L):=TE _ _
  rw[this];exact⟨_,rfl,λ_=>g2⟩
 rw[g1,g2]
 have:(Ag (0,w) (some L)).bind (λL1=>S9 L1 (λ(a:Sl Iu->Option (Sl Iu)) (x1:Int×(Sl Iu)) (z1:Sl Iu)=>a x1.2) (λ(z1:Sl Iu)=>some z1) Ip)=some (Ao5 w L):=TE _ _
 rw[this];exact⟨_,rfl,λh=>by cases h⟩
end Go.AM
namespace Go.AM
open Go.Proofs
def XW {α : Type}(s:Sl α)(a : α):(s.push a).toList=s.toList++[a]:=by
 show (List.range (s.n+1)).map (λi=>if i<s.n then s.g i else a)=_;rw[Bp3,Br9];congr 1
 .exact Bh3 λi b=>Dq (Bk2.1 b)
 simp
def PF {α : Type}(s:Sl α):s.toList.length=s.n:=by simp[Sl.toList]
def AH9 {N:Nat}{x y:Sl Iu}(d:x.n<N)(hs:x.n<10000000):∃b,W9 N x y=some b:=by
 have h:∃b,E6 N x y=some b/\True:=by
  unfold E6;by_cases hn:x.n=y.n
  case neg=>exact Ah ⟨false,rfl,trivial⟩
  refine ifF (by simp[hn]) ?_;refine Gb (λi x1=>x1=(i:Int)) x.n _ d rfl ?_;rintro c i x1 f rfl a;by_cases hl:i<x.n
  .refine Ah (Ac ?_);split
   .exact⟨false,rfl,trivial⟩
   exact a hl _ (Bq)
  exact Bk ⟨true,rfl,trivial⟩
 obtain⟨b,h,_⟩:=h;exact⟨b,by unfold W9;rw[h];rfl⟩
abbrev okA (w:Sl Iu):Prop:=∀i,i<w.n->okS (w.g i)
end Go.AM
namespace Go.AM
variable {N:Nat}
open IntKind (wrap)
open Go.Proofs
abbrev Bb3 (y:Int):Bool:=((((decide (97<=y))&&(decide (y<=122)))||((decide (65<=y))&&(decide (y<=90))))||((decide (48<=y))&&(decide (y<=57))))||(y==45)
def Nt (s:Str):Bool:=(decide (1<=s.length)&&decide (s.length<=24))&&s.all λc=>Bb3 ((c.toNat:Nat):Int)
def Zh {α : Type}{o:Option α}{a : α}(h:∃r,o=some r/\r=a):o=some a:=by obtain⟨r,h,rfl⟩:=h;exact h
def Ao7 (l:1000<=N){s:Str}(hb:Nt s=true){let_:Int->Option Bool}(hl:∀y,let_ y=some (Bb3 y)){fin:Bool}(f:1<=s.length->s.length<=24->fin=true) :Y3 N (λ(a:Int->Option Bool) (x1:Int)=>
  if (decide (x1<(s.length:Int))) then
   if ((0:Int)<=x1/\x1<(s.length:Int))then
    (let_ (HU s x1)).bind λy3=>
    if (!y3) then
     some false
    else
     a (wrap .i64 (x1+1))
   else none
  else
   some fin
 ) 0=some true:=by
 unfold Nt at hb;rw[Be4,Be4,Ev,Ev,Bf1]at hb;obtain⟨⟨h1,g⟩,j⟩:=hb;refine Zh (Gb (λi x1=>x1=(i:Int)) s.length _ (by omega) rfl ?_);rintro d i x1 m rfl c;by_cases b:i<s.length
 .have eb:HU s (i:Int)=((s[i].toNat:Nat):Int):=by simp[HU,b]
  refine Ah (Ac (C0 (hl _) ?_));rw[eb,j s[i] (Br1 b)];exact Bl (c b _ (Bq))
 exact Bk ⟨_,rfl,f h1 g⟩
def Ao8 (a:1000<=N){s:Str}(hb:Nt s=true):DW N s=some true:=by unfold DW;exact Ao7 a hb (λy=>rfl) λ_ _=>by simp;omega
def AC0 (a:1000<=N){s:Str}(hb:Nt s=true):EI N s=some true:=by unfold EI;exact Ao7 a hb (λy=>rfl) λ_ _=>by simp;omega
def Bb4 (t:Sl Node)(v:Nat):Prop:=(v=0->(t.g 0).Parent = -1)/\(0<v->0<=(t.g v).Parent/\(t.g v).Parent<v)/\Nt (t.g v).Name=true/\∀u,u<v->(t.g u).Name≠(t.g v).Name
def Fy (t:Sl Node):Prop:=1<=t.n/\t.n<=63/\∀v,v<t.n->Bb4 t v
def Mc {ν : Type}{k s:Str}{v : ν}:∀es:List (Str × ν),P5 eqS s (Df eqS k v es)=if s=k then some v else P5 eqS s es
 |[]=>by simp only[Df,P5];by_cases h:s=k<;>simp[eqS,h]
 |(a,x)::es=>by
  simp only[Df];by_cases h:k=a
  .subst h;rw[Dq (by simp[eqS])];simp only[P5];by_cases b:s=k<;>simp[eqS,b]
  rw[Ej (by simp[eqS,h])];simp only[P5];rw[Mc es];by_cases b:s=k
  .subst b;simp[eqS,h]
  simp[b]
def AC1 (q:3000000<=N){t:Sl Node}(ht:Fy t):Dv N t=some 0:=by
 obtain⟨s,o,hk⟩:=ht;unfold Dv;refine Zh (ifT (λ_ _=>by omega) (ifF (by simp[(hk 0 (by omega)).1 rfl];omega) ?_));refine Gb (λi x1=>x1=(i:Int)) t.n _ (by omega) rfl ?_;rintro c i x1 u rfl hs;by_cases d:i<t.n
 case neg=>exact Bk ⟨0,rfl,rfl⟩
 obtain⟨k1,k2,k3,k4⟩:=hk i d;have a:=AC0 (N:=N) (by omega) k3;refine Ah (ltX ?_);dsimp only;rw[Int.toNat_natCast,a];have rest:∃r,(if (false:Bool) then some 16 else
  Y3 N (λ(b:Int->Option Int) (x7:Int)=>
   if (decide (x7<(i:Int))) then
    if (((0:Int)<=x7/\x7<(t.n:Int))/\((0:Int)<=(i:Int)/\(i:Int)<(t.n:Int)))then
     if (((t.g x7.toNat).Name==(t.g i).Name) != false) then
      some 16
     else
      b (wrap .i64 (x7+1))
    else none
   else
    c (wrap .i64 ((i:Int)+1))
   ) 0)=some r/\r=0:=by
  refine Bl ?_;refine Gb (λk x7=>x7=(k:Int)) i _ (by omega) rfl ?_;rintro l k x7 hk rfl m;by_cases f:k<i
  .refine Ah (Ac ?_);rw[Int.toNat_natCast];exact ifF (by simp[k4 k f]) (m f _ (Bq))
  exact Bk (hs d _ (Bq))
 by_cases j:0<i
 .have:=k2 j
  exact Ah (Ac (Bk (Ac (Bk (Ac (C0 rfl rest))))))
 exact Bk (Ac (C0 rfl rest))
def NF (d:3000000<=N){t:Sl Node}(ht:Fy t):X0 N t=some 0:=by
 obtain⟨f,c,hk⟩:=ht;unfold X0;refine Zh (Bk ?_);refine U8 (λi (x2:List (Str×Bool)) x3=>x3=(i:Int)/\∀s,(∀u,u<i->(t.g u).Name≠s)->P5 eqS s x2=none) t.n _ (by omega) ⟨rfl,λs _=>rfl⟩ ?_;rintro b i x2 x3 j ⟨rfl,hm⟩ hs;by_cases a:i<t.n
 case neg=>exact Bk ⟨0,rfl,rfl⟩
 obtain⟨k1,k2,k3,k4⟩:=hk i a;have e1:(if 0<wrap .i64 ((i:Int)-1)then (0:Int)else wrap .i64 ((i:Int)-1))=if i=0 then -1 else 0:=by rw[E3 (by omega) (by omega)];split<;>split<;>omega
 refine Ah (Ac (ltX ?_));dsimp only;rw[Int.toNat_natCast,e1,Ao8 (N:=N) (by omega) k3,hm _ k4];have hp:(t.g i).Parent<i/\(if i=0 then -1 else 0)<=(t.g i).Parent:=by
  by_cases e:i=0
  .subst e;have:=k1 rfl;rw[Dq rfl];omega
  have:=k2 (by omega);rw[Ej e];omega
 refine Bk (Bk (C0 rfl (Bl ?_)));rw[CL];refine Bl (hs a _ _ ⟨Bq,λs h=>?_⟩);rw[Mc,Ej λe=>h i (by omega) e.symm];exact hm s λu l=>h u (by omega)
end Go.AM
namespace Go.AM
variable {N:Nat}
open IntKind (wrap)
open Go.Proofs
structure wkH (h:History):Prop where
 tree:Fy h.Tree
 ten:h.Tree.n<=10
 ln:h.Laws.n<=64
 laws:∀i,i<h.Laws.n->Ns (h.Laws.g i)
 on:h.On.n=h.Tree.n
 row:∀v,v<h.On.n->(h.On.g v).n<=5
 rng:∀v,v<h.On.n->∀k,k<(h.On.g v).n->0<=(h.On.g v).g k/\(h.On.g v).g k<h.Laws.n
structure okH (N:Nat) (h:History):Prop where
 tree:Fy h.Tree
 ten:h.Tree.n<=10
 ln:h.Laws.n<=64
 laws:∀i,i<h.Laws.n->AB8 N (h.Laws.g i)
 on:h.On.n=h.Tree.n
 row:∀v,v<h.On.n->(h.On.g v).n<=5
 rng:∀v,v<h.On.n->∀k,k<(h.On.g v).n->0<=(h.On.g v).g k/\(h.On.g v).g k<h.Laws.n
 chk:J9 N h=some 0
def IG {t:Sl Node}(ht:Fy t){v:Nat}(a:v<t.n):(v=0/\(t.g v).Parent = -1) \/ ∃p:Nat,p<v/\(t.g v).Parent=(p:Int):=by
 have hk:=ht.2.2 v a;by_cases b:v=0
 .subst b;exact .inl ⟨rfl,hk.1 rfl⟩
 obtain⟨g1,g2⟩:=hk.2.1 (by omega);exact .inr ⟨(t.g v).Parent.toNat,by omega,by omega⟩
def AC2 (hN:3000000<=N){h:History}(f:wkH h):AA N h=some 0:=by
 have x:=f.ten;have hn:=f.on;unfold AA;refine Zh (Ac ?_);refine XP (λi (x4:Sl Int) (x5:Bool) x6=>x6=(i:Int)/\x4.n=h.On.n/\(∀v,v<i->0<=x4.g v/\x4.g v<=5*(v+1))/\x5=false) h.On.n _ (by omega) ⟨rfl,by show ((h.On.n:Nat):Int).toNat=_;omega,λv m=>Er m (by omega),rfl⟩ ?_;rintro j i x4 x5 x6 hle ⟨rfl,hx,hp,rfl⟩ hs;by_cases c:i<h.On.n
 case neg=>exact Bk (Bl ⟨0,rfl,rfl⟩)
 have w:=f.row i c;refine Ah (ifT (by rw[Int.toNat_natCast];omega) (Ac (ltX ?_)));rw[Int.toNat_natCast];have rest:∀z:Sl Int,z.n=h.On.n->(∀v,v<i->z.g v=x4.g v)->0<=z.g i/\z.g i<=5*(i+1)->∃r,(if (((0:Int)<=(i:Int)/\(i:Int)<(z.n:Int))/\i<z.n)then
  if (decide (64<(z.g i))) then
   some 2
  else
   Bj N (λ(d:Bool->Int->Option Int) (b:Bool) (a:Int)=>
    if (decide (a<((h.On.g i).n:Int))) then
     if ((0:Int)<=a/\a<((h.On.g i).n:Int))then
      d ((b||(decide (((h.On.g i).g a.toNat)<0)))||(decide ((h.Laws.n:Int)<=((h.On.g i).g a.toNat)))) (wrap .i64 (a+1))
     else none
    else
     j z b (wrap .i64 ((i:Int)+1))
    ) false 0
  else none)=some r/\r=0:=by
  intro z y o q;refine Ac (Bk ?_);refine U8 (λk (b:Bool) a=>a=(k:Int)/\b=false) (h.On.g i).n _ (by omega) ⟨rfl,rfl⟩ ?_;rintro s k b a hk ⟨rfl,rfl⟩ t;by_cases l:k<(h.On.g i).n
  .have:=f.rng i c k l
   refine Ah (Ac (t l _ _ ⟨Bq,?_⟩));rw[Int.toNat_natCast,decide_eq_false (by omega),decide_eq_false (by omega)];rfl
  refine Bk (hs c _ _ _ ⟨Bq,y,λv m=>?_,rfl⟩);by_cases e:v=i
  .subst e;exact q
  rw[o v (by omega)];exact hp v (by omega)
 rcases IG f.tree (v:=i) (by omega)with⟨_,e⟩ | ⟨p,u,e⟩
 .rw[e];refine Bp (rest _ hx (λv m=>?_) ?_)
  .show (if v=i then _ else x4.g v)=_;rw[Ej (by omega)]
  show 0<=(if i=i then ((h.On.g i).n:Int)else _)/\(if i=i then ((h.On.g i).n:Int)else _)<=_;rw[Dq rfl];omega
 have a0:=hp p u;rw[e];refine Ai (ifT ?_ ?_)
 .show ((((((0:Int)<=(i:Int)/\(i:Int)<(x4.n:Int))/\i<x4.n)/\(0:Int)<=(p:Int)/\(p:Int)<(x4.n:Int))/\(p:Int).toNat<x4.n)/\(0:Int)<=(i:Int)/\(i:Int)<(x4.n:Int))/\i<x4.n;omega
 rw[Int.toNat_natCast];refine rest _ hx (λv m=>?_) ?_
 .show (if v=i then _ else if v=i then _ else x4.g v)=_;rw[Ej (by omega),Ej (by omega)]
 have e:((x4.upd i ((h.On.g i).n:Int)).upd i (wrap .i64 (((x4.upd i ((h.On.g i).n:Int)).g i)+((x4.upd i ((h.On.g i).n:Int)).g p)))).g i=((h.On.g i).n:Int)+x4.g p:=by show (if i=i then wrap .i64 ((if i=i then ((h.On.g i).n:Int)else _)+(if p=i then _ else x4.g p))else _)=_;rw[Dq rfl,Dq rfl,Ej (by omega),E3 (by omega) (by omega)]
 rw[e];omega
def Zi {ν : Type}{k:Str}{v : ν}:∀{es:List (Str × ν)},P5 eqS k es=none->(Df eqS k v es).length=es.length+1
 |[],_=>rfl
 |(a,x)::es,h=>by
  simp only[P5]at h;simp only[Df];by_cases e:eqS k a=true
  .rw[Dq e]at h;cases h
  rw[Ej e]at h;rw[Ej e,Bh0,Zi h];rfl
def RJ (d:3000000<=N){h:History}(c:wkH h):∃e,J9 N h=some e/\((e=0->∀i,i<h.Laws.n->chkAll N (h.Laws.g i))/\((∀i,i<h.Laws.n->chkAll N (h.Laws.g i))->(∀u v,u<v->v<h.Laws.n->(h.Laws.g u).Name≠(h.Laws.g v).Name)->e=0)):=by
 have o:=c.ln;unfold J9;refine C0 (NF d c.tree) (Bp (Bk ?_));refine U8 (λi (x1:List (Str×Int)) x2=>x2=(i:Int)/\(∀j,j<i->chkAll N (h.Laws.g j))/\((∀u v,u<v->v<h.Laws.n->(h.Laws.g u).Name≠(h.Laws.g v).Name)->(∀s,(∀u,u<i->(h.Laws.g u).Name≠s)->P5 eqS s x1=none)/\x1.length=i)) h.Laws.n _ (by omega) ⟨rfl,λj f=>Er f (by omega),λ_=>⟨λs _=>rfl,rfl⟩⟩ ?_;rintro l i x1 x2 hle ⟨rfl,hc,hm⟩ hs;by_cases a:i<h.Laws.n
 .obtain⟨y,y1,hy⟩:=IQ d (c.laws i a);refine Ah (Ac (C0 (by rw[Int.toNat_natCast];exact y1) ?_));rcases hy with⟨rfl,hy⟩ | ⟨rfl,hy⟩
  case inr=>exact Aq ⟨17,rfl,λe=>(by cases e),λg=>Er (g i a) hy⟩
  refine Bp ?_;have b : ∀j,j<i+1->chkAll N (h.Laws.g j):=λj f=>by
   by_cases e:j=i
   .subst e;exact hy
   exact hc j (by omega)
  rw[Int.toNat_natCast];rcases g:P5 eqS (h.Laws.g i).Name x1 with _|v
  .rw[CL];refine hs a _ _ ⟨Bq,b,λD=>⟨λs hs=>?_,by rw[Zi g,(hm D).2]⟩⟩;rw[Mc,Ej λe=>hs i (by omega) e.symm];exact (hm D).1 s λu m=>hs u (by omega)
  rw[ET];exact hs a _ _ ⟨Bq,b,λD=>by have:=(hm D).1 _ λu m=>D u i m a;rw[g]at this;cases this⟩
 refine Bk ?_;rw[WV];have b : ∀i,i<h.Laws.n->chkAll N (h.Laws.g i):=λj f=>hc j (by omega);by_cases hl:x1.length<h.Laws.n
 .exact Ah ⟨6,rfl,λe=>(by cases e),λ_ D=>(by have:=(hm D).2;omega)⟩
 exact Bk (ifF (by simp[c.on]) (C0 (AC2 d c) ⟨0,rfl,λ_=>b,λ_ _=>rfl⟩))
def AI0 {h:History}(a:wkH h)(c:∀i,i<h.Laws.n->chkAll N (h.Laws.g i))(hc:J9 N h=some 0):okH N h:=⟨a.tree,a.ten,a.ln,λi b=>⟨a.laws i b,c i b⟩,a.on,a.row,a.rng,hc⟩
end Go.AM
namespace Go.AM
variable {N:Nat}
open IntKind (wrap)
open Go.Proofs
def Bb5 {t:Sl Node}(ht:Fy t){u:Nat}(a:u<t.n) : -1<=(t.g u).Parent/\(t.g u).Parent<u:=by
 rcases IG ht a with⟨b,e⟩ | ⟨p,hp,e⟩
 .rw[e];omega
 rw[e];omega
def AI1 (o:3000000<=N){t:Sl Node}(ht:Fy t){v:Nat}(q:v<t.n):∃L,S6 N (v:Int) t=some L/\L.length<=64/\∀x∈L,∃u:Nat,x=(u:Int)/\u<t.n:=by
 have f:=ht.2.1;unfold S6;refine U8 (λi (x1:Int) (x2:Sl Int)=>-1<=x1/\x1<t.n/\x1+i<=v/\x2.n=i/\∀j,j<x2.n->∃u:Nat,x2.g j=(u:Int)/\u<t.n) (v+1) _ (by omega) ⟨by omega,by omega,by omega,rfl,λj b=>Er b (Bf5 j)⟩ ?_;rintro c i x1 x2 r ⟨h1,s,y,z,d⟩ hs;by_cases hx:0<=x1
 .obtain⟨u,rfl⟩:∃u:Nat,x1=u:=⟨x1.toNat,by omega⟩;refine Ai (ifT ⟨by show (x2.n+1)*8<=_/\x2.n+1<=_;omega,by omega⟩ ?_);rw[Int.toNat_natCast];have hp:=Bb5 ht (u:=u) (by omega);refine hs (by omega) _ _ ⟨hp.1,by omega,by omega,by show x2.n+1=_;omega,λj b=>?_⟩;show ∃w:Nat,(if j<x2.n then x2.g j else (u:Int))=w/\w<t.n;split
  .exact d j (by assumption)
  exact⟨u,rfl,by omega⟩
 refine Bk ?_;have hb:∀(m M:Nat),m<=x2.n->m<M->∃L,Y3 M (λ(a:Int->Option (List Int)) (x3:Int)=>
  if (decide (0<=x3)) then
   if (((0:Int)<=x3/\x3<(x2.n:Int))/\x3.toNat<x2.n)then
    Ag (x2.g x3.toNat) (
     a (wrap .i64 (x3-1))
     )
   else none
  else
   some []
  ) ((m:Int)-1)=some L/\L.length<=m/\∀x∈L,∃u:Nat,x=(u:Int)/\u<t.n:=by
  intro m
  induction m with
  |zero=>intro M _ l;obtain⟨M,rfl⟩:∃K,M=K+1:=⟨M-1,by omega⟩;exact⟨[],by rw[I4,Ej (by decide)],Be8 _,by simp⟩
  |succ m ih=>intro M hm l;obtain⟨M,rfl⟩:∃K,M=K+1:=⟨M-1,by omega⟩;obtain⟨L,l1,l2,l3⟩:=ih M (by omega) (by omega);refine⟨x2.g m::L,?_,by simp;omega,λx hx=>(Bf8.1 hx).elim (λe=>e ▸ d m (by omega)) (l3 x)⟩;rw[I4,show ((m+1:Nat):Int)-1=(m:Int) by omega,Dq (by simp),Ce,E3 (by omega) (by omega),l1,Int.toNat_natCast];rfl
 rw[E3 (by omega) (by omega)];obtain⟨L,l1,l2,l3⟩:=hb x2.n N (Be8 _) (by omega);exact⟨L,l1,by omega,l3⟩
abbrev Bd8 (h:History)(s:Sl Int):Prop:=∀k,k<s.n->0<=s.g k/\s.g k<h.Laws.n
def AQ5 (j:3000000<=N){h:History}(b:okH N h){v:Nat}(l:v<h.Tree.n):∃s,Z8 N h (v:Int)=some (s,0)/\s.n<=1000/\Bd8 h s:=by
 have m:=b.on;obtain⟨L,l1,l2,l3⟩:=AI1 j b.tree l;unfold Z8;rw[b.chk,Option.bind_some,Ej (by decide),U3,Option.bind_some,Cj,Ba,Option.bind_some];show ∃s,(S6 N (v:Int) h.Tree).bind _=_/\_;rw[l1,Option.bind_some];have key:∃r:Sl Int×Int,S9 L (λ(a:Sl Int->Option ((Sl Int)×Int)) (x1:Int) (z1:Sl Int)=>
  if (((0:Int)<=x1/\x1<(h.On.n:Int))/\(Kb 8 (z1.n+(h.On.g x1.toNat).n)))then
   a (z1.app (h.On.g x1.toNat))
  else none
  ) (λ(z1:Sl Int)=>
   some (z1,0)
  ) Io=some r/\(r.2=0/\r.1.n<=1000/\Bd8 h r.1):=by
  refine VT (λ(R:List Int) (z:Sl Int)=>z.n+5*R.length<=1000/\Bd8 h z/\∀x∈R,∃u:Nat,x=(u:Int)/\u<h.Tree.n) (λz c=>⟨_,rfl,rfl,by have:=c.1;simp at this;omega,c.2.1⟩) ?_ L _ ⟨by show 0+_<=_;omega,λk hk=>Er hk (Bf5 k),l3⟩;rintro x R z d ⟨h1,o,f⟩ hs;obtain⟨u,rfl,q⟩:=f x (by simp);have i:=b.row u (by omega);simp only[Bh0]at h1;rw[Int.toNat_natCast];refine Ac (hs _ ⟨by show z.n+(h.On.g u).n+_<=_;omega,λk hk=>?_,λy hy=>f y (by simp[hy])⟩);have hk:k<z.n+(h.On.g u).n:=hk;show 0<=(if k<z.n then z.g k else (h.On.g u).g (k-z.n))/\(if k<z.n then z.g k else (h.On.g u).g (k-z.n))<_;split
  .exact o k (by assumption)
  exact b.rng u (by omega) _ (by omega)
 obtain⟨⟨s,e⟩,k1,k2,k3,k4⟩:=key;obtain rfl:e=0:=k2;exact⟨s,k1,k3,k4⟩
def Md:∀(d:Nat) (p:Pat),okQ d p->okPS p->∀M,100+d<=M->∃q,R6 M p=some q/\okPS q
 |0,p,h,_,M,_=>h.elim
 |d+1,p,h,_,0,hM=>by omega
 |d+1,p,h,hp,M+1,hM=>by
  show ∃q,S7 (R6 M) M p=some q/\_;unfold S7;have hn:=h.2.1;refine U8 (λi (x1:Sl Pat) x2=>x2=(i:Int)/\x1.n=i/\∀j,j<x1.n->okPS (x1.g j)) p.L.n _ (by omega) ⟨rfl,rfl,λj a=>Er a (Bf5 j)⟩ ?_;rintro b i x1 x2 f ⟨rfl,hx,a⟩ hs;by_cases hl:i<p.L.n
  .obtain⟨q,q1,q2⟩:=Md d (p.L.g i) (h.2.2 i hl) (hp.L hl) M (by omega);refine Ah (Ac (C0 (by rw[Int.toNat_natCast];exact q1) (ifT (by show (x1.n+1)*64<=_/\x1.n+1<=_;omega) (hs hl _ _ ⟨Bq,by show x1.n+1=_;omega,λj c=>?_⟩))));show okPS (if j<x1.n then x1.g j else q);split
   .exact a j (by assumption)
   exact q2
  exact Bk ⟨_,rfl,hp.is,a⟩
def VZ (d:3000000<=N){l:Law}(hl:AB8 N l):∃l',T2 N l=some l' /\ Ns l':=by obtain⟨h1,a,b,c⟩:=hl.1;obtain⟨_,c1,c2,c3,c4,_⟩:=hl.2;obtain⟨q1,e1,g1⟩:=Md 40 l.Left (TC 40 _ (by omega) c1 _ (by simp)) h1.1 N (by omega);obtain⟨q2,e2,g2⟩:=Md 40 l.Right (TC 40 _ (by omega) c2 _ (by simp)) h1.2.1 N (by omega);unfold T2 A6 H7;rw[e1,e2,Option.bind_some,Option.bind_some,Ce,Option.bind_some,Ce];exact⟨_,rfl,⟨g1,g2,h1.2.2⟩,a,b,c⟩
def Ao9 (d:3000000<=N){h:History}(f:okH N h){l:Sl Int}(hn:l.n<=1000)(hl:Bd8 h l):∃s,Q7 N h l=some s/\s.n=l.n/\Bh s:=by
 unfold Q7;refine U8 (λi (x1:Sl Law) x2=>x2=(i:Int)/\x1.n=i/\Bh x1) l.n _ (by omega) ⟨rfl,rfl,λj b=>Er b (Bf5 j)⟩ ?_;rintro c i x1 x2 hle ⟨rfl,hx,b⟩ hs;by_cases a:i<l.n
 .have m:=hl i a;obtain⟨q,q1,q2⟩:=VZ d (f.laws (l.g i).toNat (by omega));refine Ah ?_;rw[Int.toNat_natCast];refine ifT ⟨by omega,m⟩ (C0 q1 (ifT (by show (x1.n+1)*200<=_/\x1.n+1<=_;omega) (hs a _ _ ⟨Bq,by show x1.n+1=_;omega,λj o=>?_⟩)));show Ns (if j<x1.n then x1.g j else q);split
  .exact b j (by assumption)
  exact q2
 exact Bk ⟨_,rfl,by omega,b⟩
def AQ6 (a:3000000<=N){h:History}(b:okH N h){v:Nat}(c:v<h.Tree.n):∃s,Q8 N h (v:Int)=some (s,0)/\Bh s:=by obtain⟨l,l1,l2,l3⟩:=AQ5 a b c;obtain⟨s,s1,s2,s3⟩:=Ao9 a b l2 l3;refine⟨s,?_,s3⟩;unfold Q8;rw[l1,Option.bind_some];show (Q7 N h l).bind _=_;rw[s1];rfl
def At_ok (d:3000000<=N){h:History}(a:okH N h){w:Sl Iu}(hw:okA w)(v:Int):∃r,Cy N h w v=some r/\(r.2=0->wOk r.1):=by
 have o:=a.on;unfold Cy CW;rw[a.chk,Option.bind_some,Ej (by decide)];obtain⟨e,e1,q⟩:=Lw (N:=N) (by omega) hw;rw[e1];simp only[Option.bind_some];by_cases b:e=0
 case neg=>exact ifT (by simpa using b) ⟨_,rfl,λe=>Er e b⟩
 have f:wOk w:=(Lu q).1 b;refine ifF (by simp[b]) ?_;rw[U3,Option.bind_some];by_cases hv:0<=v/\v<(h.Tree.n:Int)
 case neg=>exact Ah ⟨_,rfl,λe=>Er e (by decide)⟩
 refine Bk ?_;rw[Ba,Option.bind_some];obtain⟨u,rfl⟩:∃u:Nat,v=(u:Int):=⟨v.toNat,by omega⟩;obtain⟨L,l1,l2,l3⟩:=AI1 d a.tree (v:=u) (by omega);refine C0 l1 ?_;refine VT (λ(R:List Int) (z:Sl Iu)=>wOk z/\∀x∈R,∃u:Nat,x=(u:Int)/\u<h.Tree.n) (λz b=>⟨_,rfl,λ_=>b.1⟩) ?_ L _ ⟨f,l3⟩;rintro x R z j ⟨h1,m⟩ hs;obtain⟨u,rfl,hu⟩:=m x (by simp);obtain⟨s,s1,s2,s3⟩:=Ao9 d a (l:=h.On.g u) (by have:=a.row u (by omega);omega) (a.rng u (by omega));obtain⟨r,r1,r2⟩:=PE d s3 (w:=z) λi t=>(h1.2 i t).ok;rw[Int.toNat_natCast];refine Ac (C0 s1 (C0 r1 ?_));by_cases c:r.2=0
 .exact ifF (by simp[c]) (hs _ ⟨r2 c,λy hy=>m y (by simp[hy])⟩)
 exact ifT (by simpa using c) ⟨_,rfl,λe=>Er e c⟩
end Go.AM
namespace Go.AM
variable {N:Nat}
open IntKind (wrap)
open Go.Proofs
def TF (t:Sl Node)(v:Nat):Prop:=∀u,0<u->u<t.n->(t.g u).Parent≠(v:Int)
open Classical in
noncomputable def U9 (t:Sl Node):Nat->Sl Int
 |0=>Io
 |i+1=>if TF t i then (U9 t i).push (i:Int)else U9 t i
def PG {t:Sl Node}{i:Nat}(h:TF t i):U9 t (i+1)=(U9 t i).push (i:Int):=Dq h
def TG {t:Sl Node}{i:Nat}(h:¬TF t i):U9 t (i+1)=U9 t i:=Ej h
def XX (t:Sl Node):∀i,(U9 t i).n<=i
 |0=>Be8 0
 |i+1=>by
  have:=XX t i
  by_cases h:TF t i
  .rw[PG h];show (U9 t i).n+1<=i+1;omega
  rw[TG h];omega
def TH (t:Sl Node):∀i k,k<(U9 t i).n->∃v:Nat,v<i/\(U9 t i).g k=(v:Int)
 |0,k,hk=>Er hk (Bf5 k)
 |i+1,k,hk=>by
  by_cases h:TF t i
  .rw[PG h]at hk⊢;have hk:k<(U9 t i).n+1:=hk;show ∃v:Nat,v<i+1/\(if k<(U9 t i).n then (U9 t i).g k else (i:Int))=(v:Int);by_cases a:k<(U9 t i).n
   .rw[Dq a];obtain⟨v,h1,b⟩:=TH t i k a;exact⟨v,by omega,b⟩
   rw[Ej a];exact⟨i,by omega,rfl⟩
  rw[TG h]at hk⊢;obtain⟨v,h1,b⟩:=TH t i k hk;exact⟨v,by omega,b⟩
def AC3 (s:3000000<=N){t:Sl Node}(ht:Fy t):∃X,AB N t=some X/\(X.n=t.n/\∀v,v<t.n->((X.g v).n=0↔TF t v)):=by
 have o:=ht.2.1;unfold AB;refine Ac (U8 (λi x (X:Sl (Sl Int))=>x=(i:Int)/\X.n=t.n/\∀v,v<t.n->(((X.g v).n=0 ↔ ∀u,0<u->u<i->(t.g u).Parent≠(v:Int))/\(X.g v).n<=i)) t.n _ (by omega)
  ⟨rfl,rfl,λv b=>⟨⟨λ_ u h1 a=>Er a (Bf5 u),λ_=>rfl⟩,Be8 0⟩⟩ ?_)
 rintro l i x X hle ⟨rfl,c,f⟩ hs;by_cases hl:i<t.n
 case neg=>
  obtain rfl:i=t.n:=by omega
  exact Bl ⟨X,rfl,c,λv b=>(f v b).1⟩
 refine ifT (by simpa using hl) (Ac ?_);rw[Int.toNat_natCast,Bq];rcases IG ht hl with⟨q,h1⟩ | ⟨p,hp,e⟩
 .subst q;rw[h1];refine ifT (by show Int.toNat (-1)<X.n;rw[c];exact hl) (ltX (Bl (hs hl _ _ ⟨rfl,c,λv b=>?_⟩)));have e:(X.upd (Int.toNat (-1)) (X.g (Int.toNat (-1)))).g v=X.g v:=by
   show (if v=_ then X.g (Int.toNat (-1))else X.g v)=X.g v;split
   .rename_i e;rw[e]
   rfl
  rw[e];obtain⟨g1,g2⟩:=f v b;exact⟨g1.trans ⟨λ_ u h1 a=>Er a (by omega),λ_ u h1 a=>Er a (by omega)⟩,by omega⟩
 rw[e,Int.toNat_natCast];have j:p<t.n:=by omega
 have m:=(f p j).2;refine Ac (ltX (Ah (ifT ⟨⟨by omega,by rw[c];omega⟩,by omega,by omega⟩ (hs hl _ _ ⟨rfl,c,λv b=>?_⟩))));show ((if v=p then (X.g p).push (i:Int)else X.g v).n=0↔_)/\(if v=p then (X.g p).push (i:Int)else X.g v).n<=i+1;by_cases d:v=p
 .subst d;rw[Dq rfl];refine⟨⟨λh=>Er h (Nat.succ_ne_zero _),λh=>Er e (h i (by omega) (by omega))⟩,?_⟩;show (X.g v).n+1<=i+1;omega
 rw[Ej d];obtain⟨g1,g2⟩:=f v b;refine⟨g1.trans ⟨λh u h1 a=>?_,λh u h1 a=>h u h1 (by omega)⟩,by omega⟩;by_cases r:u=i
 .subst r;rw[e];omega
 exact h u h1 (by omega)
def Bb6 {R:Type}{Q:R->Prop}{a:Sl Int->Int->Option R}{t:Sl Node}{i:Nat}(c:i<1000){b:Bool}(hb:b=true↔TF t i)(h:∃r,a (U9 t (i+1)) ((i+1:Nat):Int)=some r/\Q r) :∃r,(if b then
  if (Kb 8 ((U9 t i).n+(Sl.of [(i:Int)]:Sl Int).n))then
   a ((U9 t i).push (i:Int)) (wrap .i64 ((i:Int)+1))
  else none
  else a (U9 t i) (wrap .i64 ((i:Int)+1)))=some r/\Q r:=by
 have hn:=XX t i;rw[Bq];by_cases hk:TF t i
 .rw[PG hk]at h;exact ifT (hb.2 hk) (ifT ⟨by show ((U9 t i).n+1)*8<=_;omega,by show (U9 t i).n+1<=_;omega⟩ h)
 rw[TG hk]at h;exact ifF (λg=>hk (hb.1 g)) h
def XY (c:3000000<=N){t:Sl Node}(ht:Fy t):∃r,CX N t=some r/\r=U9 t t.n:=by
 have d:=ht.2.1;unfold CX;obtain⟨X,e,a,hk⟩:=AC3 c ht;refine C0 e (U8 (λi x1 x2=>x2=(i:Int)/\x1=U9 t i) t.n _ (by omega) ⟨rfl,rfl⟩ ?_);rintro b i x1 x2 hle ⟨rfl,rfl⟩ hs;by_cases hl:i<t.n
 .refine ifT (by rw[a];simpa using hl) (Ac ?_);rw[Int.toNat_natCast];exact Bb6 (by omega) (by rw[<- hk i hl];simp) (hs hl _ _ ⟨rfl,rfl⟩)
 obtain rfl:i=t.n:=by omega
 exact ifF (by rw[a];simp) ⟨_,rfl,rfl⟩
def AC4 (l:3000000<=N){t:Sl Node}(ht:Fy t){v:Nat}(m:v<t.n):∃r,BX N t (v:Int)=some r/\(r.n=0↔TF t v):=by
 have f:=ht.2.1;unfold BX;refine U8 (λi (x1:Sl Int) x2=>x2=(i:Int)/\x1.n<=i/\(x1.n=0 ↔ ∀u,0<u->u<i->(t.g u).Parent≠(v:Int))) t.n _ (by omega) ⟨rfl,Be8 0,λ_ u h1 a=>Er a (Bf5 u),λ_=>rfl⟩ ?_;rintro b i x1 x2 hle ⟨rfl,hn,c⟩ hs;by_cases hl:i<t.n
 .refine ifT (by simpa using hl) (Ac ?_);rw[Int.toNat_natCast,Bq];by_cases hp:(t.g i).Parent=(v:Int)
  .have d:0<i:=by
    rcases IG ht hl with⟨d,h1⟩ | ⟨p,hp,e⟩
    .rw[h1]at hp;omega
    omega
   refine ifT (by simpa using hp) (ifT ⟨by show (x1.n+1)*8<=_;omega,by show x1.n+1<=_;omega⟩ (hs hl _ _ ⟨rfl,by show x1.n+1<=i+1;omega,λh=>Er h (Nat.succ_ne_zero _),λh=>Er hp (h i d (by omega))⟩))
  refine ifF (by simpa using hp) (hs hl _ _ ⟨rfl,by omega,c.trans ⟨λh u h1 a=>?_,λh u h1 a=>h u h1 (by omega)⟩⟩);by_cases j:u=i
  .subst j;exact hp
  exact h u h1 (by omega)
 obtain rfl:i=t.n:=by omega
 exact Bl ⟨_,rfl,c⟩
def Lx (a:3000000<=N){t:Sl Node}(ht:Fy t):T8 N t=some (U9 t t.n,0)/\AC N t=some (U9 t t.n,0):=by
 have c:=ht.2.1;unfold T8 AC;rw[NF a ht,AC1 a ht,Option.bind_some,Option.bind_some,Ej (by decide),Ej (by decide)];obtain⟨r,g1,rfl⟩:=XY a ht;refine⟨by rw[g1];rfl,Zh (U8 (λi x1 x2=>x2=(i:Int)/\x1=U9 t i) t.n _ (by omega) ⟨rfl,rfl⟩ ?_)⟩;rintro b i x1 x2 hle ⟨rfl,rfl⟩ hs;by_cases hl:i<t.n
 .refine ifT (by simpa using hl) ?_;obtain⟨r,k1,k2⟩:=AC4 a ht hl;exact C0 k1 (Bb6 (by omega) (by rw[<- k2];simp) (hs hl _ _ ⟨rfl,rfl⟩))
 obtain rfl:i=t.n:=by omega
 exact Bl ⟨_,rfl,rfl⟩
def Kj {t:Sl Node}(ht:Fy t):(U9 t t.n).n<=63:=by have:=XX t t.n;have:=ht.2.1;omega
end Go.AM
namespace Go.AM
variable {N:Nat}
open Go.Proofs
abbrev inT (t:Sl Node)(x:Int):Prop:=∃u:Nat,u<t.n/\x=(u:Int)
def Bb7 {t:Sl Node}(ht:Fy t):∀(M v:Nat),v+2<=M->v<t.n->∃L,Y3 M (λ(a:Int->Option (List Int)) (x1:Int)=>
 if (decide (0<=x1)) then
  Ag x1 (
   if ((0:Int)<=x1/\x1<(t.n:Int))then
    a (t.g x1.toNat).Parent
   else none
   )
 else
  some []) (v:Int)=some L/\L.length<=v+1/\∀x∈L,inT t x
 |0,v,hM,_=>by omega
 |M+1,v,hM,hv=>by
  rw[I4,Dq (by simp),Ce,Int.toNat_natCast];rcases IG ht hv with⟨_,e⟩ | ⟨p,hp,e⟩
  .obtain⟨M,rfl⟩:∃K,M=K+1:=⟨M-1,by omega⟩;rw[e,I4,Ej (by decide)];exact⟨[(v:Int)],rfl,by simp,λx hx=>⟨v,hv,Bk5.1 hx⟩⟩
  obtain⟨L,l1,l2,l3⟩:=Bb7 ht M p (by omega) (by omega);rw[e,l1];exact⟨(v:Int)::L,rfl,by simp;omega,λx hx=>(Bf8.1 hx).elim (λe=>⟨v,hv,e⟩) (l3 x)⟩
def Bb8 {P:Int->Prop}{x:Sl Int}(hn:x.n<100000)(d:x.n<N)(f:∀j,j<x.n->P (x.g j)):∃s,I6 N x=some s/\(s.n=x.n/\∀j,j<s.n->P (s.g j)):=by
 unfold I6;refine XP (λi (x1:Sl Int) x2 x3=>x2=(i:Int)/\x3=(x.n:Int)-1-(i:Int)/\x1.n=x.n/\∀j,j<x1.n->P (x1.g j)) x.n _ d ⟨rfl,(E3 (by omega) (by omega)).trans (by omega),rfl,f⟩ ?_;rintro c i x1 x2 x3 l ⟨rfl,rfl,hx,b⟩ hs;by_cases hl:(i:Int)<(x.n:Int)-1-(i:Int)
 .have e3:((x.n:Int)-1-(i:Int)).toNat=x.n-1-i:=by omega
  refine ifT (by simpa using hl) (ifT (by rw[Sl.upd];dsimp only;omega) ?_);rw[Int.toNat_natCast,e3];refine hs (by omega) _ _ _ ⟨Bq,by rw[E3 (by omega) (by omega)];omega,hx,λj a=>?_⟩;have a:j<x1.n:=a;show P (if j=x.n-1-i then x1.g i else if j=i then x1.g (x.n-1-i)else x1.g j);split
  .exact b i (by omega)
  split
  .exact b _ (by omega)
  exact b j a
 exact ifF (by simpa using hl) ⟨_,rfl,hx,b⟩
def AQ7 (f:3000000<=N){t:Sl Node}(ht:Fy t){v:Nat}(l:v<t.n):∃s,Fp N t (v:Int)=some (s,0)/\s.n<=64/\∀m,m<s.n->inT t (s.g m):=by
 have o:=ht.2.1;have hc:DX N t (Sl.of [(v:Int)]:Sl Int)=some 0:=by
  unfold DX;rw[NF f ht,Option.bind_some,Ej (by decide)];refine Zh (Gb (λi x=>x=(i:Int)) 1 _ (by omega) rfl ?_);rintro a i x r rfl hs;by_cases hl:i<1
  .obtain rfl:i=0:=by omega
   exact Ai (Ai (Bk (hs hl _ (Bq))))
  exact Bk ⟨_,rfl,rfl⟩
 obtain⟨L,l1,l2,l3⟩:=Bb7 ht N v (by omega) l;have b:∃z,G7 N L=some z/\(z.n=L.length/\∀j,j<z.n->inT t (z.g j)):=by
  unfold G7;refine VT (λR (z:Sl Int)=>z.n+R.length=L.length/\(∀j,j<z.n->inT t (z.g j))/\∀x∈R,inT t x) (λz b=>⟨z,rfl,by simpa using b.1,b.2.1⟩) ?_ L _ ⟨by simp,λj c=>Er c (Bf5 j),l3⟩;rintro x R z a ⟨h1,q,d⟩ hs;simp only[Bh0]at h1;refine ifT (by show (z.n+1)*8<=_/\z.n+1<=_;omega) (hs _ ⟨by show z.n+1+_=_;omega,λj c=>?_,λy hy=>d y (by simp[hy])⟩);show inT t (if j<z.n then z.g j else x);split
  .exact q j (by assumption)
  exact d x (by simp)
 obtain⟨z,z1,z2,z3⟩:=b;obtain⟨s,s1,s2,s3⟩:=Bb8 (N:=N) (x:=z) (by omega) (by omega) z3;refine⟨s,?_,by omega,s3⟩;unfold Fp;rw[hc,Option.bind_some,Ej (by decide),Lp,Option.bind_some];show (Fn N (v:Int) t).bind _=_;unfold Fn;rw[l1,Option.bind_some];unfold T9;rw[z1,Option.bind_some,Option.bind_some,s1];rfl
def Ac7 (hN:3000000<=N){h:History}(d:okH N h)(x:Int):∃X,Z2 N h x=some X/\(X.n=(U9 h.Tree h.Tree.n).n/\∀k,Bh (X.g k)):=by
 have a1:=Kj d.tree;have hon:=d.on;have l:∀k,k<(U9 h.Tree h.Tree.n).n->∃u:Nat,u<h.Tree.n/\(U9 h.Tree h.Tree.n).g k=(u:Int):=λk hk=>TH h.Tree h.Tree.n k hk;unfold Z2;refine C0 (Lx hN d.tree).1 ?_;generalize U9 h.Tree h.Tree.n=s at a1 l;refine ifT (by dsimp only;omega) (ifT (by dsimp only;omega) ?_);dsimp only;refine XP (λi (K:Nat) (X:Sl (Sl Law)) y=>i=K/\y=(i:Int)/\X.n=s.n/\∀k,Bh (X.g k)/\(X.g k).n<=320*i) s.n _ (by omega) ⟨rfl,rfl,rfl,λk=>⟨λj hj=>Er hj (Bf5 j),Be8 0⟩⟩ ?_;rintro self i K X y hle ⟨rfl,rfl,hX,o⟩ hs;by_cases hl:i<s.n
 case neg=>exact Bk (ifT ⟨by omega,hX⟩ ⟨_,rfl,hX,λk=>(o k).1⟩)
 obtain⟨u,hu,hsu⟩:=l i hl;obtain⟨w,w1,w2,w3⟩:=AQ7 hN d.tree hu;refine Ah (Ac ?_);rw[Int.toNat_natCast,hsu];refine C0 w1 ?_;dsimp only;refine U8 (λm (X' : Sl (Sl Law)) z=>z=(m:Int)/\X'.n=s.n/\∀k,Bh (X'.g k)/\(X'.g k).n<=320*i+5*m) w.n _ (by omega) ⟨rfl,hX,o⟩ ?_;rintro self2 m X' z hm ⟨rfl,r,b⟩ hs2;by_cases t:m<w.n
 case neg=>exact Bk (ifT ⟨rfl,hl⟩ (hs hl _ _ _ ⟨rfl,Bq,r,λk=>⟨(b k).1,by have:=(b k).2;omega⟩⟩))
 obtain⟨v,hv,hwv⟩:=w3 m t;have hrow:=d.row v (by omega);refine Ah ?_;rw[Int.toNat_natCast,hwv,Int.toNat_natCast];refine Ac ?_;refine U8 (λq (X'' : Sl (Sl Law)) z=>z=(q:Int)/\X''.n=s.n/\∀k,Bh (X''.g k)/\(X''.g k).n<=320*i+5*m+q) (h.On.g v).n _ (by omega) ⟨rfl,r,b⟩ ?_;rintro self3 q X'' z hq ⟨rfl,c,a⟩ a0;by_cases f:q<(h.On.g v).n
 case neg=>exact Bk (hs2 t _ _ ⟨Bq,c,λk=>⟨(a k).1,by have:=(a k).2;omega⟩⟩)
 have hvq:=d.rng v (by omega) q f;have hb:=(a i).2;refine Ah (Ac ?_);rw[Int.toNat_natCast];split
 .refine Ac (Ac (Ac (a0 f _ _ ⟨Bq,c,λk=>?_⟩)));show Bh (if k=i then (X''.g i).push _ else X''.g k)/\(if k=i then (X''.g i).push _ else X''.g k).n<=_;split
  .refine⟨λj hj=>?_,by show (X''.g i).n+1<=_;omega⟩;show Ns (if j<(X''.g i).n then (X''.g i).g j else _);split
   .exact (a i).1 j (by assumption)
   exact (d.laws _ (by omega)).1
  exact⟨(a k).1,by have:=(a k).2;omega⟩
 exact a0 f _ _ ⟨Bq,c,λk=>⟨(a k).1,by have:=(a k).2;omega⟩⟩
def Bb9 (c:3000000<=N){w:Sl Iu}(b:w.n<=32):∃k,Cz N w=some k:=by
 have h:∃k,Cz N w=some k/\True:=by
  unfold Cz;refine U8 (λm (x1:Sl Int) x2=>x2=(m:Int)/\x1.n=6*m) w.n _ (by omega) ⟨rfl,rfl⟩ ?_;rintro a m x1 x2 hm ⟨rfl,d⟩ hs;by_cases hl:m<w.n
  .exact Ah (Ac (ifT (by show (x1.n+3)*1<=_/\x1.n+3<=_;omega) (ifT (by show (x1.n+3+3)*1<=_/\x1.n+3+3<=_;omega) (hs hl _ _ ⟨Bq,by show x1.n+3+3=_;omega⟩))))
  exact Bk ⟨_,rfl,trivial⟩
 obtain⟨k,hk,_⟩:=h;exact⟨k,hk⟩
def Ap0 (n:Nat)(M:Sl (List (Str×H4))):Prop:=M.n=n/\∀k,∀a f,(a,f)∈M.g k->f.Has=true->wOk f.W
def Wa {k:Str}{v:H4}:∀{es:List (Str×H4)},P5 eqS k es=some v->∃a,(a,v)∈es
 |[],h=>by cases h
 |(a,x)::es,h=>by
  unfold P5 at h;by_cases e:eqS k a=true
  .rw[Dq e]at h;obtain rfl:=Bj1 h;exact⟨a,by simp⟩
  rw[Ej e]at h;obtain⟨b,hb⟩:=Wa h;exact⟨b,Bf7 _ hb⟩
def Zj {k a:Str}{v f:H4}:∀{es:List (Str×H4)},(a,f)∈Df eqS k v es->(a,f)∈es \/ f=v
 |[],h=>by simp only[Df,Bk5,Be9]at h;exact .inr h.2
 |(b,x)::es,h=>by
  unfold Df at h;by_cases e:eqS k b=true
  .rw[Dq e]at h;rcases Bf8.1 h with h|h
   .simp only[Be9]at h;exact .inr h.2
   exact .inl (Bf7 _ h)
  rw[Ej e]at h;rcases Bf8.1 h with h|h
  .exact .inl (by rw[h];simp)
  exact (Zj h).imp (Bf7 _) id
def AQ8 (l:3000000<=N){n:Nat}{X:Sl (Sl Law)}(o:X.n=n)(s:∀k,Bh (X.g k)){p:H4}(hp:p.Has=true->wOk p.W){k:Nat}(hk:k<n){M:Sl (List (Str×H4))}(b:Ap0 n M) :∃r,N2 N p (k:Int) M X=some r/\Ap0 n r.2.2/\(r.2.1=true->wOk r.1):=by
 have d:=b.1;unfold N2;by_cases j:p.Has=true
 case neg=>exact ifT (by simpa using j) ⟨_,rfl,b,λe=>by cases e⟩
 have hw:=hp j;obtain⟨key,c⟩:=Bb9 l hw.1;refine ifF (by simp[j]) ?_;rw[Int.toNat_natCast];refine Ac (Ac (C0 c ?_));cases ha:P5 eqS key (M.g k)with
 |some v=>obtain⟨a,hm⟩:=Wa ha;exact⟨_,rfl,b,b.2 k a v hm⟩
 |none=>
  obtain⟨r,r1,r2⟩:=PE l (s k) (w:=p.W) λi t=>(hw.2 i t).ok;rw[CL];have m:(r.2==0)=true->wOk r.1:=λe=>r2 (eq_of_beq e);refine Ac (C0 r1 ⟨_,rfl,⟨d,λq a f hm=>?_⟩,m⟩);replace hm:(a,f)∈(if q=k then Df eqS key (⟨r.2==0,r.1⟩:H4) (M.g k)else M.g q):=hm;by_cases e:q=k
  .rw[Dq e]at hm;rcases Zj hm with hm|rfl
   .exact b.2 k a f hm
   exact m
  rw[Ej e]at hm;exact b.2 q a f hm
end Go.AM
namespace Go.AM
variable {N:Nat}
open IntKind (wrap)
open Go.Proofs
abbrev okF (f:H4):Prop:=wOk f.W/\(f.Has=false->f.W.n=0)
structure okE (p:Sl H4) (l:Sl Entry) (F:Nat):Prop where
 n:l.n<=256
 pn:p.n=l.n
 pf:∀i,i<p.n->okF (p.g i)
 fn:∀i,i<l.n->(l.g i).Forms.n=F
 ff:∀i,i<l.n->∀k,k<(l.g i).Forms.n->okF ((l.g i).Forms.g k)
 nm:∀i,i<l.n->Nt (l.g i).Gloss=true
def Zk {l:Sl H4}(c:l.n<N)(hn:l.n<1000000)(hl:∀i,i<l.n->okF (l.g i)):Z9 N l=some true:=by
 have h:D9 N l (λ(u1:H4)=>Cb N u1)=some (-1):=by
  unfold D9;refine Zh (Gb (λi x1=>x1=(i:Int)) l.n _ c rfl ?_);rintro b i x1 j rfl hs;by_cases a:i<l.n
  .refine Ah (Ac (C0 rfl ?_));rw[Int.toNat_natCast];have d:=(hl i a).2;refine ifF ?_ (hs a _ (Bq));cases f:(l.g i).Has
   .rw[d f];simp
   simp
  exact Bk ⟨_,rfl,rfl⟩
 unfold Z9 F0;rw[h];rfl
def Zl (d:1000<=N){l:Sl H4}(hn:l.n<1000)(hl:∀i,i<l.n->okF (l.g i)):Aa N l=some 0:=by
 unfold Aa;refine Zh (Gb (λi x1=>x1=(i:Int)) l.n _ (by omega) rfl ?_);rintro b i x1 f rfl hs;by_cases a:i<l.n
 .obtain⟨hw,_⟩:=hl i a;obtain⟨e,e1,c⟩:=Lw (N:=N) (by omega) λk hk=>(hw.2 k hk).ok;obtain rfl:=(Lu c).2 hw;exact Ah (Ac (C0 (by rw[Int.toNat_natCast];exact e1) (Bp (hs a _ (Bq)))))
 exact Bk ⟨_,rfl,rfl⟩
def Ap1 (b:3000000<=N){s:Str}(hs:Nt s=true):BY N s=some true:=by
 unfold BY;rw[NF b (t:=Sl.of [⟨-1,s⟩]) ⟨Be8 1,by show 1<=63;omega,λv a=>?_⟩];rfl;obtain rfl:v=0:=by have a:v<1:=a;omega
 exact⟨λ_=>rfl,λh=>Er h (by omega),hs,λu c=>Er c (by omega)⟩
def Wb (g:3000000<=N){h:History}(c:okH N h){p:Sl H4}{l:Sl Entry}(hl:okE p l (U9 h.Tree h.Tree.n).n):U4 N h p l=some 0:=by
 have o:=Kj c.tree;have hn:=hl.n;have q:=hl.pn;have r:Z1 N l (((U9 h.Tree h.Tree.n).n:Nat):Int)=some 0:=by
  unfold Z1;refine Zh (Gb (λi x1=>x1=(i:Int)) l.n _ (by omega) rfl ?_);rintro b i x1 j rfl hs;by_cases a:i<l.n
  .have m:=hl.fn i a;refine Ah (Ac (ltX ?_));rw[Int.toNat_natCast];exact ifF (by simp[m]) (C0 (Zk (by omega) (by omega) (hl.ff i a)) (Bp (hs a _ (Bq))))
  refine Bk (Gb (λi x1=>x1=(i:Int)) l.n _ (by omega) rfl ?_);rintro d i x1 j rfl f;by_cases a:i<l.n
  .exact Ah (Ac (C0 (by rw[Int.toNat_natCast];exact Ap1 g (hl.nm i a)) (Bp (f a _ (Bq)))))
  exact Bk ⟨_,rfl,rfl⟩
 unfold U4;refine Zh (C0 (c.chk) (Bp (C0 (Lx g c.tree).1 (Bk (ltX ?_)))));refine Bk (C0 (Zk (by omega) (by omega) hl.pf) (Bp ?_));refine C0 r (Bp (C0 (Zl (by omega) (by omega) hl.pf) (Bp ?_)));refine Gb (λi x1=>x1=(i:Int)) l.n _ (by omega) rfl ?_;rintro b i x1 j rfl hs;by_cases a:i<l.n
 .have m:=hl.fn i a;exact Ah (Ac (C0 (by rw[Int.toNat_natCast];exact Zl (by omega) (by omega) (hl.ff i a)) (Bp (hs a _ (Bq)))))
 exact Bk ⟨_,rfl,rfl⟩
abbrev Bc0 (l:Sl Entry)(q:CD×Sl Iu):Prop:=∃i k:Nat,q.1=⟨(i:Int),(k:Int)⟩/\i<l.n/\k<(l.g i).Forms.n
def AI2 {l:Sl Entry}{i:Nat}(b:i<l.n){R:List (CD×Sl Iu)}{rest:Option (List (CD×Sl Iu))}(c:rest=some R)(hR:∀q∈R,Bc0 l q)(hn:(l.g i).Forms.n<100000):∀(m M k:Nat),k+m=(l.g i).Forms.n->m<M->∃R',Y3 M (λ(a:Int->Option (List (CD×Sl Iu))) (x4:Int)=>
 if (decide (x4<((l.g i).Forms.n:Int))) then
  if ((0:Int)<=x4/\x4<((l.g i).Forms.n:Int))then
   if ((l.g i).Forms.g x4.toNat).Has then
    Ag ((⟨(i:Int),x4⟩:CD),((l.g i).Forms.g x4.toNat).W) (
     a (wrap .i64 (x4+1))
     )
   else
    a (wrap .i64 (x4+1))
  else none
 else
  rest) (k:Int)=some R' /\ (∀q∈R',Bc0 l q)/\R'.length<=m+R.length
 |0,M,k,hk,hM=>by obtain⟨M,rfl⟩:∃K,M=K+1:=⟨M-1,by omega⟩;rw[I4,Cj];exact⟨R,c,hR,by omega⟩
 |m+1,M,k,hk,hM=>by
  obtain⟨M,rfl⟩:∃K,M=K+1:=⟨M-1,by omega⟩;obtain⟨R',r1,r2,r3⟩:=AI2 b c hR hn m M (k+1) (by omega) (by omega);rw[I4,Ch,Ce,Int.toNat_natCast,Bq,r1];split
  .refine⟨_,rfl,λq d=>(Bf8.1 d).elim (λe=>⟨i,k,by rw[e],b,by omega⟩) (r2 q),by simp;omega⟩
  exact⟨R',rfl,r2,by omega⟩
def AQ9 {l:Sl Entry}{F:Nat}(o:1000000<=N)(hn:l.n<=256)(r:F<=63)(c:∀i,i<l.n->(l.g i).Forms.n=F):∃R,X6 N l=some R/\(∀q∈R,Bc0 l q)/\R.length<=16128:=by
 have key:∀(m M i:Nat),i+m=l.n->m<M->∃R,Y3 M (λ(b:Int->Option (List (CD×Sl Iu))) (x2:Int)=>
  if (decide (x2<(l.n:Int))) then
   if ((0:Int)<=x2/\x2<(l.n:Int))then
    Y3 N (λa (x4:Int)=>
     if (decide (x4<((l.g x2.toNat).Forms.n:Int))) then
      if ((0:Int)<=x4/\x4<((l.g x2.toNat).Forms.n:Int))then
       if ((l.g x2.toNat).Forms.g x4.toNat).Has then
        Ag ((⟨x2,x4⟩:CD),((l.g x2.toNat).Forms.g x4.toNat).W) (
         a (wrap .i64 (x4+1))
         )
       else
        a (wrap .i64 (x4+1))
      else none
     else
      b (wrap .i64 (x2+1))
     ) 0
   else none
  else
   some []) (i:Int)=some R/\(∀q∈R,Bc0 l q)/\R.length<=m*63:=by
  intro m
  induction m with
  |zero=>intro M i d f;obtain⟨M,rfl⟩:∃K,M=K+1:=⟨M-1,by omega⟩;exact⟨[],by rw[I4,Cj],by simp,by simp⟩
  |succ m ih=>intro M i d f;obtain⟨M,rfl⟩:∃K,M=K+1:=⟨M-1,by omega⟩;have j:=c i (by omega);obtain⟨R,r1,r2,r3⟩:=ih M (i+1) (by omega) (by omega);rw[I4,Ch,Ce,Int.toNat_natCast,Bq];obtain⟨R',q1,q2,q3⟩:=AI2 (l:=l) (i:=i) (by omega) r1 r2 (by omega) (l.g i).Forms.n N 0 (by omega) (by omega);exact⟨R',q1,q2,by omega⟩
 obtain⟨R,r1,r2,r3⟩:=key l.n N 0 (by omega) (by omega);exact⟨R,r1,r2,by omega⟩
def badB (N:Nat)(p:Sl H4)(X:Sl (Sl Law))(c:Int)(a:(Sl (List (Str×H4)))×(Sl A5)->Option (Sl A5×Int))(x1:CD×(Sl Iu))(z1:(Sl (List (Str×H4)))×(Sl A5)):Option (Sl A5×Int):= if ((0:Int)<=x1.1.entry/\x1.1.entry<(p.n:Int))then (N2 N (p.g x1.1.entry.toNat) x1.1.leaf z1.1 X).bind λy8=>if (!y8.2.1) then if (Kb 32 (z1.2.n+(Sl.of [(⟨x1.1.entry,x1.1.leaf,2,c⟩:A5)]:Sl A5).n))then a (y8.2.2,z1.2.push (⟨x1.1.entry,x1.1.leaf,2,c⟩:A5)) else none else (W9 N y8.1 x1.2).bind λy9=>if (!y9) then if (Kb 32 (z1.2.n+(Sl.of [(⟨x1.1.entry,x1.1.leaf,1,c⟩:A5)]:Sl A5).n))then a (y8.2.2,z1.2.push (⟨x1.1.entry,x1.1.leaf,1,c⟩:A5)) else none else a (y8.2.2,z1.2) else none
def exR (l:Sl Entry)(e:A5):Prop:=∃i k:Nat,e.Entry=(i:Int)/\e.Leaf=(k:Int)/\i<l.n/\k<(l.g i).Forms.n/\(e.Kind=1 \/ e.Kind=2)
abbrev atC (c:Int)(e:A5):A5:=⟨e.Entry,e.Leaf,e.Kind,c⟩
def AI3 {N:Nat}(f:3000000<=N){p:Sl H4}{l:Sl Entry}{F:Nat}(hl:okE p l F){X:Sl (Sl Law)}(x2:X.n=F)(x3:∀k,Bh (X.g k)):∀(R:List (CD×Sl Iu)) (M:Sl (List (Str×H4))),Ap0 X.n M->(∀q∈R,Bc0 l q) ->
 ∃Q:List A5,(∀e∈Q,exR l e)/\Q.length<=R.length/\∀(c:Int) (z:Sl A5),z.n+R.length<=16128->∃y,S9 R (badB N p X c) (λz1=>some (z1.2,0)) (M,z)=some y/\(y.2=0/\y.1.toList=z.toList++Q.map (atC c))
 |[],M,_,_=>⟨[],by simp,Be8 _,λc z _=>⟨_,rfl,rfl,by simp⟩⟩
 |(pl,w)::R,M,h3,h5=>by
  obtain⟨i,k,eq,j,hk⟩:=h5 (pl,w) (by simp);obtain rfl:pl=⟨(i:Int),(k:Int)⟩:=eq;have m:=hl.pn;have d : k<X.n:=by rw[x2,<- hl.fn i j];exact hk
  obtain⟨r,r1,r2,r3⟩:=AQ8 f rfl x3 (p:=p.g i) (λ_=>(hl.pf i (by omega)).1) d h3;obtain⟨Q,q1,q2,q3⟩:=AI3 f hl x2 x3 R r.2.2 r2 λq o=>h5 q (by simp[o]);have add:∀t:Int,(t=1 \/ t=2)->(∀e∈(⟨(i:Int),(k:Int),t,0⟩:A5)::Q,exR l e):=λt ht e s=>(Bf8.1 s).elim (λe=>e ▸ ⟨i,k,rfl,rfl,j,hk,ht⟩) (q1 e);have go:∀(t c:Int) (z:Sl A5),z.n+(R.length+1)<=16128->∃y,S9 R (badB N p X c) (λz1=>some (z1.2,0)) (r.2.2,z.push ⟨(i:Int),(k:Int),t,c⟩)=some y/\(y.2=0/\y.1.toList=z.toList++((⟨(i:Int),(k:Int),t,0⟩:A5)::Q).map (atC c)):=λt c z a=>by obtain⟨y,y1,y2,y3⟩:=q3 c (z.push ⟨(i:Int),(k:Int),t,c⟩) (by show z.n+1+_<=_;omega);exact⟨y,y1,y2,by rw[y3,XW];simp⟩
  have b:(0:Int)<=(i:Int)/\(i:Int)<(p.n:Int):=by omega
  have rr:N2 N (p.g (i:Int).toNat) (k:Int) M X=some r:=by rw[Int.toNat_natCast];exact r1
  by_cases hb:r.2.1=true
  case neg=>exact⟨_,add 2 (.inr rfl),by simp;omega,λc z a=>ifT b (C0 rr (ifT (by simpa using hb) (ifT (by have a:z.n+(R.length+1)<=_:=a;show (z.n+1)*32<=_/\z.n+1<=_;omega) (go 2 c z a))))⟩
  have u:=(r3 hb).1;obtain⟨e,e1⟩:=AH9 (N:=N) (x:=r.1) (y:=w) (by omega) (by omega);cases e
  .exact⟨_,add 1 (.inl rfl),by simp;omega,λc z a=>ifT b (C0 rr (ifF (by simp[hb]) (C0 e1 (ifT rfl (ifT (by have a:z.n+(R.length+1)<=_:=a;show (z.n+1)*32<=_/\z.n+1<=_;omega) (go 1 c z a))))))⟩
  exact⟨Q,q1,by simp;omega,λc z a=>ifT b (C0 rr (ifF (by simp[hb]) (C0 e1 (Bp (q3 c z (by have a:z.n+(R.length+1)<=_:=a;omega))))))⟩
def AR0 (d:3000000<=N){h:History}(g:okH N h){p:Sl H4}{l:Sl Entry}(hl:okE p l (U9 h.Tree h.Tree.n).n) :∃Q:List A5,(∀e∈Q,exR l e)/\Q.length<=16128/\∀c:Int,0<=c/\c<=1073741824->∃b,DZ N h p l c=some (b,0)/\b.toList=Q.map (atC c):=by obtain⟨X,x1,x2,x3⟩:=Ac7 d g (-1);obtain⟨R,a1,a2,a3⟩:=AQ9 (N:=N) (by omega) hl.n (Kj g.tree) hl.fn;obtain⟨Q,q1,q2,q3⟩:=AI3 d hl x2 x3 R ⟨X.n,λ_=>[]⟩ ⟨rfl,λk a f hm=>by cases hm⟩ a2;refine⟨Q,q1,by omega,λc hc=>?_⟩;obtain⟨⟨b,e⟩,y1,y2,y3⟩:=q3 c Sl.nil (by show 0+_<=_;omega);obtain rfl:e=0:=y2;refine⟨b,?_,y3⟩;unfold DZ;rw[Wb d g hl,Option.bind_some,Ej (by decide),Cj,x1,Option.bind_some,Bb,Option.bind_some,a1,Option.bind_some];exact y1
end Go.AM
namespace Go.AM
open IntKind (wrap)
open Go.Proofs
def AC5 {N:Nat}(hN:3000000<=N){h:History}(a:okH N h){u k:Nat}(hu:u<h.Tree.n)(hk:k+1<(h.On.g u).n) :∃r,K0 N h (u:Int) (k:Int)=some r/\(r.2=0/\r.1.Tree=h.Tree/\wkH r.1):=by
 have h63:=a.tree.2.1;have y:=a.ln;have hon:=a.on;have ho:=a.row u (by omega);unfold K0;have eP:wrap .i64 (((h.On.g u).n:Int)-1)=(((h.On.g u).n-1:Nat):Int):=AA7 (by omega) (by omega);refine C0 a.chk (Bp (C0 rfl ?_));rw[Int.toNat_natCast,Int.toNat_natCast,eP];have d:((decide (0<=(u:Int)))&&(decide ((u:Int)<(h.Tree.n:Int))))=true:=by simp;omega
 rw[d];refine ifT (λ_ _=>by omega) (Bk ?_);refine C0 (x:=h.Tree) (Ce) ?_;refine U8 (λi (x1:Sl Law) x2=>x2=(i:Int)/\x1.n=i/\Bh x1) h.Laws.n _ (by omega) ⟨rfl,rfl,λj b=>Er b (Bf5 j)⟩ ?_;rintro z i x1 x2 hle ⟨rfl,hx,b⟩ hs;by_cases f:i<h.Laws.n
 .obtain⟨q,q1,q2⟩:=VZ hN (a.laws i f);refine Ah (Ac ?_);rw[Int.toNat_natCast];refine C0 q1 (ifT (by show (x1.n+1)*200<=_/\x1.n+1<=_;omega) (hs f _ _ ⟨Bq,by show x1.n+1=_;omega,λj m=>?_⟩));show Ns (if j<x1.n then x1.g j else q);split
  .exact b j (by assumption)
  exact q2
 refine Bk ?_;clear hs;refine U8 (λv (x3:Sl (Sl Int)) x4=>x4=(v:Int)/\x3.n=v/\∀j,j<v->x3.g j=h.On.g j) h.On.n _ (by omega) ⟨rfl,rfl,λj b=>Er b (by omega)⟩ ?_;rintro o v x3 x4 hv ⟨rfl,hx3,c⟩ s;by_cases l:v<h.On.n
 .have a0:=a.row v l;refine Ah (Ac ?_);rw[Int.toNat_natCast];refine C0 (x:=h.On.g v) (Ce) (ifT (by show (x3.n+1)*24<=_/\x3.n+1<=_;omega) (s l _ _ ⟨Bq,by show x3.n+1=_;omega,λj m=>?_⟩));show (if j<x3.n then x3.g j else h.On.g v)=_;by_cases e:j=v
  .subst e;rw[Ej (by omega)]
  rw[Ce];exact c j (by omega)
 have eK:wrap .i64 ((k:Int)+1)=((k+1:Nat):Int):=Bq;rw[eK,Int.toNat_natCast,c u (by omega)];refine Bk (Ac (Ac ⟨_,rfl,rfl,rfl,a.tree,a.ten,by show x1.n<=64;omega,b,by show x3.n=h.Tree.n;omega,λw hw=>?_,λw hw=>?_⟩))
 .have hw:w<x3.n:=hw;show (if w=u then _ else x3.g w).n<=5;split
  .exact ho
  rw[c w (by omega)];exact a.row w (by omega)
 have hw:w<x3.n:=hw;show ∀j,j<(if w=u then _ else x3.g w).n->0<=(if w=u then _ else x3.g w).g j/\(if w=u then _ else x3.g w).g j<(x1.n:Int);have t:x1.n=h.Laws.n:=by omega
 rw[t];split
 .intro j b;have b:j<(h.On.g u).n:=b;have r:=a.rng u (by omega);show 0<=(if j=k+1 then (h.On.g u).g k else if j=k then (h.On.g u).g (k+1)else (h.On.g u).g j)/\(if j=k+1 then (h.On.g u).g k else if j=k then (h.On.g u).g (k+1)else (h.On.g u).g j)<_;split
  .exact r k (by omega)
  split
  .exact r _ hk
  exact r j b
 rw[c w (by omega)];exact a.rng w (by omega)
def AC6 {N:Nat}(a:3000000<=N){h:History}(b:wkH h){v:Nat}(d:v<h.Tree.n):∃r,Q8 N h (v:Int)=some r/\Bh r.1:=by
 obtain⟨e,e1,e2,_⟩:=RJ a b;by_cases c:e=0
 .subst c;obtain⟨s,s1,s2⟩:=AQ6 a (AI0 b (e2 rfl) e1) d;exact⟨_,s1,s2⟩
 unfold Q8 Z8 Q7;rw[e1,Option.bind_some,Dq (by simpa using c),Option.bind_some];obtain⟨M,rfl⟩:∃K,N=K+1:=⟨N-1,by omega⟩;rw[CK,Ej (by show ¬decide ((0:Int)<((0:Nat):Int))=true;decide)];exact⟨_,rfl,λj f=>Er f (Bf5 j)⟩
end Go.AM
namespace Go.AM
variable {N:Nat}
open IntKind (wrap)
open Go.Proofs
def Bc1 (c:3000000<=N){laws:Sl Law}(hl:Bh laws){p f:H4}(hp:wOk p.W):∃b,G3 N laws p f=some b:=by
 unfold G3;by_cases h:((!p.Has)||(!f.Has))=true
 .exact⟨false,Dq h⟩
 rw[Ej h];obtain⟨⟨v,e⟩,r1,r2⟩:=PE c hl (w:=p.W) λi d=>(hp.2 i d).ok;rw[r1,Option.bind_some];by_cases a:e=0
 .subst a;have g:v.n<=32:=(r2 rfl).1;obtain⟨b,hb⟩:=AH9 (N:=N) (x:=v) (y:=f.W) (by omega) (by omega);exact⟨b,by show ((W9 N v f.W).bind λy3=>some y3)=some b;rw[hb];rfl⟩
 exact⟨false,by dsimp only;rw[lt,Ej (by simpa using a)]⟩
def Ap2 (L:Sl (Sl Law))(m:Nat):Prop:=L.n=m/\∀k,Bh (L.g k)
def AC7 (b:3000000<=N){h:History}(a:wkH h):∃L,N3 N h=some L/\Ap2 L (U9 h.Tree h.Tree.n).n:=by
 have f:=Kj a.tree;unfold N3;rw[(Lx b a.tree).1,Option.bind_some];refine U8 (λi x1 x2=>x2=(i:Int)/\Ap2 x1 i) (U9 h.Tree h.Tree.n).n _ (by omega) ⟨rfl,rfl,λk j l=>Er l (Bf5 j)⟩ ?_;rintro c i x1 x2 hle ⟨rfl,hn,d⟩ hs;by_cases hl:i<(U9 h.Tree h.Tree.n).n
 .obtain⟨v,m,e⟩:=TH h.Tree h.Tree.n i hl;obtain⟨s,s1,s2⟩:=AC6 b a m;refine ifT (by simpa using hl) (ifT (by dsimp only;omega) ?_);rw[Int.toNat_natCast];refine C0 (by show Q8 N h ((U9 h.Tree h.Tree.n).g i)=_;rw[e];exact s1) (ifT (by show (x1.n+1)*24<=_/\x1.n+1<=_;omega) (hs hl _ _ ⟨Bq,by show x1.n+1=_;omega,λk=>?_⟩));show Bh (if k<x1.n then x1.g k else s.1);split
  .exact d k
  exact s2
 obtain rfl:i=(U9 h.Tree h.Tree.n).n:=by omega
 exact Bl ⟨x1,rfl,hn,d⟩
def Ae0 (i:Nat):Nat->Nat->List B5
 |0,_=>[]
 |m+1,k=>⟨(i:Int),(k:Int)⟩::Ae0 i m (k+1)
def De (w:Nat->Nat):Nat->Nat->List B5
 |0,_=>[]
 |m+1,i=>Ae0 i (w i) 0++De w m (i+1)
def Zm {i:Nat}{q:B5}:∀{m k:Nat},q∈Ae0 i m k->∃j:Nat,q=⟨(i:Int),(j:Int)⟩/\j<k+m
 |0,_,h=>by cases h
 |m+1,k,h=>by
  rcases Bf8.1 h with rfl|h
  .exact⟨k,rfl,by omega⟩
  obtain⟨j,e,a⟩:=Zm h;exact⟨j,e,by omega⟩
def PH {w:Nat->Nat}{q:B5}:∀{m i:Nat},q∈De w m i->∃a b:Nat,q=⟨(a:Int),(b:Int)⟩/\a<i+m/\b<w a
 |0,_,h=>by cases h
 |m+1,i,h=>by
  rcases List.mem_append.1 h with h|h
  .obtain⟨j,e,c⟩:=Zm h;exact⟨i,j,e,by omega,by omega⟩
  obtain⟨a,b,e,ha,hb⟩:=PH h;exact⟨a,b,e,by omega,hb⟩
def Zn {i:Nat}:∀m k,(Ae0 i m k).length=m
 |0,_=>rfl
 |m+1,k=>congrArg (· + 1) (Zn m (k+1))
def IH {w:Nat->Nat}:∀{m i:Nat},(∀a,a<i+m->w a<=63)->(De w m i).length<=m*63
 |0,_,_=>Bl6 _
 |m+1,i,h=>by have h1:=IH (w:=w) (m:=m) (i:=i+1) λa ha=>h a (by omega);have b:=h i (by omega);rw[De,Bh1,Zn];omega
def rgB (N:Nat)(p:B8)(L:Sl (Sl Law))(q:B5):Bool:=G3 N (L.g q.a1.toNat) (p.Protos.g q.a0.toNat) ((p.Entries.g q.a0.toNat).Forms.g q.a1.toNat)==some true
abbrev fwE (p:B8)(i:Nat):Nat:=(p.Entries.g i).Forms.n
def AC8 (a:3000000<=N){p:B8}{L:Sl (Sl Law)}{i k:Nat}(hp:wOk (p.Protos.g i).W)(hl:Bh (L.g k)):G3 N (L.g k) (p.Protos.g i) ((p.Entries.g i).Forms.g k)=some (rgB N p L ⟨(i:Int),(k:Int)⟩):=by obtain⟨b,hb⟩:=Bc1 (p:=p.Protos.g i) (f:=(p.Entries.g i).Forms.g k) a hl hp;unfold rgB;simp only[Int.toNat_natCast,hb];cases b<;>rfl
def Zo {N:Nat}(f:3000000<=N){p:B8}{laws:Sl (Sl Law)}{i:Nat}(l:i<p.Entries.n)(d:p.Protos.n=p.Entries.n)(c:wOk (p.Protos.g i).W)(a:Ap2 laws (p.Entries.g i).Forms.n)(o:(p.Entries.g i).Forms.n<100000)
 {rest:Option (List B5)}{R:List B5}(j:rest=some R):∀(m M k:Nat),k+m=(p.Entries.g i).Forms.n->m<M->Y3 M (λ(b:Int->Option (List B5)) (x4:Int)=>
  if (decide (x4<((p.Entries.g i).Forms.n:Int))) then
   if ((0:Int)<=x4/\x4<((p.Entries.g i).Forms.n:Int))then
    if (((0:Int)<=x4/\x4<(laws.n:Int))/\((0:Int)<=(i:Int)/\(i:Int)<(p.Protos.n:Int)))then
     (G3 N (laws.g x4.toNat) (p.Protos.g i) ((p.Entries.g i).Forms.g x4.toNat)).bind λy9=>
     if y9 then
      Ag (⟨(i:Int),x4⟩:B5) (
       b (wrap .i64 (x4+1))
       )
     else
      b (wrap .i64 (x4+1))
    else none
   else none
  else
   rest
  ) (k:Int)=some ((Ae0 i m k).filter (rgB N p laws)++R)
 |_,0,_,_,hM=>Er hM (Bf5 _)
 |0,M+1,k,hk,_=>by rw[I4,Cj];exact j
 |m+1,M+1,k,hk,hM=>by have h1:=Zo f l d c a o j m M (k+1) (by omega) (by omega);have q:=a.1;rw[I4,Ch,Ce,Ce,Int.toNat_natCast,AC8 f c (a.2 k),Option.bind_some,Bq,h1,Ae0,List.filter_cons];split<;>rfl
def AC9 (l:3000000<=N){p:B8}{laws:Sl (Sl Law)}{F:Nat}(hn:p.Entries.n<=256)(r:F<=63)(d:p.Protos.n=p.Entries.n)(f:∀i,i<p.Protos.n->wOk (p.Protos.g i).W)(o:∀i,i<p.Entries.n->(p.Entries.g i).Forms.n=F)(c:Ap2 laws F) :Db N p laws=some ((De (fwE p) p.Entries.n 0).filter (rgB N p laws)):=by
 have key:∀(m M i:Nat),i+m=p.Entries.n->m<M->Y3 M (λ(b:Int->Option (List B5)) (x2:Int)=>
  if (decide (x2<(p.Entries.n:Int))) then
   if ((0:Int)<=x2/\x2<(p.Entries.n:Int))then
    Y3 N (λa (x4:Int)=>
     if (decide (x4<((p.Entries.g x2.toNat).Forms.n:Int))) then
      if ((0:Int)<=x4/\x4<((p.Entries.g x2.toNat).Forms.n:Int))then
       if (((0:Int)<=x4/\x4<(laws.n:Int))/\((0:Int)<=x2/\x2<(p.Protos.n:Int)))then
        (G3 N (laws.g x4.toNat) (p.Protos.g x2.toNat) ((p.Entries.g x2.toNat).Forms.g x4.toNat)).bind λy9=>
        if y9 then
         Ag (⟨x2,x4⟩:B5) (
          a (wrap .i64 (x4+1))
          )
        else
         a (wrap .i64 (x4+1))
       else none
      else none
     else
      b (wrap .i64 (x2+1))
     ) 0
   else none
  else
   some []) (i:Int)=some ((De (fwE p) m i).filter (rgB N p laws)):=by
  intro m
  induction m with
  |zero=>intro M i hk q;obtain⟨M,rfl⟩:∃M',M=M' + 1:=⟨M-1,by omega⟩;rw[I4,Cj];rfl
  |succ m ih=>intro M i hk q;obtain⟨M,rfl⟩:∃M',M=M' + 1:=⟨M-1,by omega⟩;have j:=o i (by omega);rw[I4,Ch,Ce,Int.toNat_natCast,Bq,De,List.filter_append];exact Zo l (p:=p) (laws:=laws) (i:=i) (by omega) d (f i (by omega)) (by rw[j];exact c) (by omega) (ih M (i+1) (by omega) (by omega)) (fwE p i) N 0 (Bi7 _) (by show (p.Entries.g i).Forms.n<N;omega)
 exact key p.Entries.n N 0 (by omega) (by omega)
def Ac8 {R:List B5}(h:R.length<=16128):∃s,N4 N R=some s/\s.toList=R:=by
 have key:∀(R:List B5) (z:Sl B5),z.n+R.length<=20000->∃s,S9 R (λ(a:Sl B5->Option (Sl B5)) (x1:B5) (z1:Sl B5)=>
  if (Kb 16 (z1.n+(Sl.of [x1]:Sl B5).n))then
   a (z1.push x1)
  else none
  ) (λ(z1:Sl B5)=>some z1) z=some s/\s.toList=z.toList++R:=by
  intro R
  induction R with
  |nil=>exact λz _=>⟨z,rfl,by simp⟩
  |cons x R ih=>intro z c;have c:z.n+(R.length+1)<=20000:=c;obtain⟨s,h1,b⟩:=ih (z.push x) (by show z.n+1+R.length<=_;omega);refine⟨s,?_,by rw[b,XW];simp⟩;show (if _ then _ else none)=_;rw[Dq (by show (z.n+1)*16<=_/\z.n+1<=_;omega)];exact h1
 obtain⟨s,h1,b⟩:=key R (Sl.nil:Sl B5) (by show 0+_<=_;omega);refine⟨s,?_,b⟩;unfold N4 H2;rw[h1];rfl
end Go.AM
namespace Go.AM
variable {N:Nat}
open IntKind (wrap)
open Go.Proofs
def swV (N:Nat)(h:History)(q:B5):History:=match K0 N h q.a0 q.a1 with|some r=>r.1|none=>h
def lnV (N:Nat)(h:History):Sl (Sl Law):=match N3 N h with|some L=>L|none=>Sl.nil
def AR1 (a:3000000<=N){h:History}(b:okH N h){v k:Nat}(c:v<h.Tree.n)(hk:k+1<(h.On.g v).n):K0 N h (v:Int) (k:Int)=some (swV N h ⟨(v:Int),(k:Int)⟩,0)/\(swV N h ⟨(v:Int),(k:Int)⟩).Tree=h.Tree/\wkH (swV N h ⟨(v:Int),(k:Int)⟩):=by obtain⟨⟨g,e⟩,g1,g2,g3⟩:=AC5 a b c hk;obtain rfl:e=0:=g2;unfold swV;rw[g1];exact⟨rfl,g3⟩
def AD0 (a:3000000<=N){h:History}(b:wkH h):N3 N h=some (lnV N h)/\Ap2 (lnV N h) (U9 h.Tree h.Tree.n).n:=by obtain⟨L,l1,l2⟩:=AC7 a b;unfold lnV;rw[l1];exact⟨rfl,l2⟩
abbrev rwH (h:History)(v:Nat):Nat:=(h.On.g v).n-1
def Ap3 {N:Nat}(c:3000000<=N){h:History}(b:okH N h){v:Nat}(d:v<h.Tree.n){rest:Option (List (B5×History))}{R:List (B5×History)}(f:rest=some R) :∀(m M k:Nat),k+m=rwH h v->m<M->Y3 M (λ(a:Int->Option (List (B5×History))) (x4:Int)=>
  if (decide (x4<(wrap .i64 (((h.On.g v).n:Int)-1)))) then
   (K0 N h (v:Int) x4).bind λy9=>
   Ag ((⟨(v:Int),x4⟩:B5),y9.1) (
    a (wrap .i64 (x4+1))
    )
  else
   rest
  ) (k:Int)=some ((Ae0 v m k).map (λq=>(q,swV N h q))++R)
 |_,0,_,_,hM=>Er hM (Bf5 _)
 |0,M+1,k,hk,_=>by have hk:k+0=(h.On.g v).n-1:=hk;have i:=b.row v (by have:=b.on;omega);rw[I4,E3 (n:=((h.On.g v).n:Int)-1) (by omega) (by omega),Cj];exact f
 |m+1,M+1,k,hk,hM=>by have hk:k+(m+1)=(h.On.g v).n-1:=hk;have i:=b.row v (by have:=b.on;omega);have h1:=Ap3 c b d f m M (k+1) (by show _=(h.On.g v).n-1;omega) (by omega);rw[I4,Dq (by rw[E3 (n:=((h.On.g v).n:Int)-1) (by omega) (by omega)];simp;omega),(AR1 c b d (k:=k) (by omega)).1,Option.bind_some,Bq,h1];rfl
def AR2 (d:3000000<=N){p:B8}(c:okH N p.History):Y0 N p=some ((De (rwH p.History) p.History.On.n 0).map (λq=>(q,swV N p.History q))):=by
 have f:=c.tree.2.1;have j:=c.on;have key:∀(m M i:Nat),i+m=p.History.On.n->m<M->Y3 M (λ(a:Int->Option (List (B5×History))) (x2:Int)=>
  if (decide (x2<(p.History.On.n:Int))) then
   if ((0:Int)<=x2/\x2<(p.History.On.n:Int))then
    Y3 N (λb (x4:Int)=>
     if (decide (x4<(wrap .i64 (((p.History.On.g x2.toNat).n:Int)-1)))) then
      (K0 N p.History x2 x4).bind λy9=>
      Ag ((⟨x2,x4⟩:B5),y9.1) (
       b (wrap .i64 (x4+1))
       )
     else
      a (wrap .i64 (x2+1))
     ) 0
   else none
  else
   some []) (i:Int)=some ((De (rwH p.History) m i).map (λq=>(q,swV N p.History q))):=by
  intro m
  induction m with
  |zero=>intro M i hk l;obtain⟨M,rfl⟩:∃M',M=M' + 1:=⟨M-1,by omega⟩;rw[I4,Cj];rfl
  |succ m ih=>intro M i hk l;obtain⟨M,rfl⟩:∃M',M=M' + 1:=⟨M-1,by omega⟩;have o:=c.row i (by omega);rw[I4,Ch,Ce,Int.toNat_natCast,Bq,De,Br9];exact Ap3 d c (v:=i) (by omega) (ih M (i+1) (by omega) (by omega)) (rwH p.History i) N 0 (Bi7 _) (by show (p.History.On.g i).n-1<N;omega)
 exact key p.History.On.n N 0 (by omega) (by omega)
def pkF (N:Nat)(p:B8)(q:B5):Option B5:=(De (fwE p) p.Entries.n 0).find? λr=>rgB N p (lnV N p.History) r && !rgB N p (lnV N (swV N p.History q)) r
def pkS (N:Nat)(p:B8)(q:B5):List GD:=match pkF N p q with
 |some r=>[⟨q.a0,q.a1,r.a0,r.a1⟩]
 |none=>[]
def Ap4 {N:Nat}{p:B8}:∀L:List B5,(L.flatMap (pkS N p)).length<=L.length
 |[]=>Be8 _
 |q::L=>by
  have:=Ap4 (N:=N) (p:=p) L
  have h:(pkS N p q).length<=1:=by unfold pkS;split<;>simp
  rw[Bt3,Bh1,Bh0];omega
def inX (h:History)(q:B5):Prop:=∃v k:Nat,q=⟨(v:Int),(k:Int)⟩/\v<h.Tree.n/\k+1<(h.On.g v).n
def AR3 {α : Type}{s:Sl α}{g : α -> Bool}{i:Nat}(a:i<s.n)(h:∀j,j<i->g (s.g j)=false)(b:g (s.g i)=true):s.toList.find? g=some (s.g i):=by rw[List.find?_eq_some_iff_getElem];exact⟨b,i,by simpa[Sl.toList]using a,by simp[Sl.toList],λj c=>by simp[Sl.toList,h j c]⟩
structure Ac9 (N:Nat) (p:B8):Prop where
 chk:X1 N p=some 0
 hist:okH N p.History
 ents:okE p.Protos p.Entries (U9 p.History.Tree p.History.Tree.n).n
def AI4 {h:History}(a:okH N h):wkH h:=⟨a.tree,a.ten,a.ln,λi b=>(a.laws i b).1,a.on,a.row,a.rng⟩
def Bc2 {α : Type}{s:Sl α}{k:Nat}(h:k<s.n):s.g k∈s.toList:=Bk8.2 ⟨k,Bk2.2 h,rfl⟩
def AD1 (f:3000000<=N){p:B8}(hp:Ac9 N p):∃s,Bd N p=some (s,0)/\s.toList=(De (rwH p.History) p.History.On.n 0).flatMap (pkS N p):=by
 have ha:=hp.ents;have c:=hp.hist;have hn:=ha.n;have hpn:=ha.pn;have d:=Kj c.tree;have ht63:=c.tree.2.1;have hon:=c.on
 suffices ∃r,Bd N p=some r/\(r.2=0/\r.1.toList=(De (rwH p.History) p.History.On.n 0).flatMap (pkS N p)) by obtain⟨⟨s,e⟩,r1,r2,r3⟩:=this;obtain rfl:e=0:=r2;exact⟨s,r1,r3⟩
 unfold Bd;refine C0 hp.chk (Bp ?_);obtain⟨l1,l2⟩:=AD0 f (AI4 c);refine C0 l1 (C0 rfl ?_);have f1:=AC9 f (p:=p) (laws:=lnV N p.History) hn d hpn (λi hi=>(ha.pf i hi).1) ha.fn l2;obtain⟨G,c1,c2⟩:=Ac8 (N:=N) (R:=(De (fwE p) p.Entries.n 0).filter (rgB N p (lnV N p.History))) (by
  have:=IH (w:=fwE p) (m:=p.Entries.n) (i:=0) λa hx=>by show (p.Entries.g a).Forms.n<=_;rw[ha.fn a (by omega)];exact d
  have:=Bq9 (rgB N p (lnV N p.History)) (De (fwE p) p.Entries.n 0)
  omega)
 refine C0 f1 (C0 c1 (C0 rfl (C0 (AR2 f c) ?_)));have hG:∀i,i<G.n->∃a b:Nat,G.g i=⟨(a:Int),(b:Int)⟩/\a<p.Entries.n/\b<(p.Entries.g a).Forms.n:=λi hi=>by obtain⟨a,b,e,h1,l⟩:=PH (Bp1.1 (c2 ▸ Bc2 hi)).1;exact⟨a,b,e,by omega,l⟩
 have hGn:G.n<=16128:=by
  have:=congrArg List.length c2
  rw[PF]at this
  have:=IH (w:=fwE p) (m:=p.Entries.n) (i:=0) λa hx=>by show (p.Entries.g a).Forms.n<=_;rw[ha.fn a (by omega)];exact d
  have:=Bq9 (rgB N p (lnV N p.History)) (De (fwE p) p.Entries.n 0)
  omega
 have o:∀q∈De (rwH p.History) p.History.On.n 0,inX p.History q:=λq o=>by obtain⟨a,b,e,h1,l⟩:=PH o;have l:b<(p.History.On.g a).n-1:=l;exact⟨a,b,e,by omega,by omega⟩
 have hql:=IH (w:=rwH p.History) (m:=p.History.On.n) (i:=0) λa hx=>by have:=c.row a (by omega);show (p.History.On.g a).n-1<=63;omega
 have h10:=c.ten;refine VT (λ(L:List (B5×History)) (z:Sl GD)=>∃Qs:List B5,L=Qs.map (λq=>(q,swV N p.History q))/\(∀q∈Qs,inX p.History q)/\z.toList++Qs.flatMap (pkS N p)=(De (rwH p.History) p.History.On.n 0).flatMap (pkS N p)/\z.n+Qs.length<=4032) (λz hz=>?_) ?_ _ (Sl.nil:Sl GD) ⟨_,rfl,o,rfl,by show 0+_<=_;omega⟩
 .obtain⟨Qs,e,_,h1,_⟩:=hz;obtain rfl:=List.map_eq_nil_iff.1 e.symm;exact⟨(z,0),rfl,rfl,by simpa using h1⟩
 rintro x Y z t ⟨Qs,e,hx,hT,hz⟩ hs;rcases Qs with _|⟨q,Qs⟩
 .cases e
 obtain⟨rfl,rfl⟩:=Bt9 e;have hz:z.n+(Qs.length+1)<=4032:=hz;obtain⟨v,k,rfl,hv,hk⟩:=hx q (by simp);obtain⟨_,g1,g2⟩:=AR1 f c hv hk;obtain⟨m1,m2⟩:=AD0 f g2;rw[g1]at m2;have hL':=m2.1;refine C0 m1 ?_;have nx:∀z' : Sl GD,z'.toList=z.toList++pkS N p ⟨(v:Int),(k:Int)⟩->z'.n<=z.n+1->∃r,t z' = some r/\(r.2=0/\r.1.toList=(De (rwH p.History) p.History.On.n 0).flatMap (pkS N p)):=λz' h1 l=>hs z' ⟨Qs,rfl,λq o=>hx q (Bf7 _ o),by rw[h1,<- hT,Bt3,Bq6],by omega⟩;have u:pkF N p ⟨(v:Int),(k:Int)⟩=G.toList.find? λr=>!rgB N p (lnV N (swV N p.History ⟨(v:Int),(k:Int)⟩)) r:=by rw[c2,List.find?_filter];simp only[Bool.decide_and,Bool.decide_eq_true];rfl
 refine Gb (λi x5=>x5=(i:Int)/\∀j,j<i->(!rgB N p (lnV N (swV N p.History ⟨(v:Int),(k:Int)⟩)) (G.g j))=false) G.n _ (by omega) ⟨rfl,λj y=>Er y (Bf5 j)⟩ ?_;rintro self4 i x5 hle ⟨rfl,y⟩ hs4;by_cases hl:i<G.n
 .obtain⟨a,b,ge,ga,gb⟩:=hG i hl;refine ifT (by simpa using hl) (Ac ?_);rw[Int.toNat_natCast,ge];have hF:=ha.fn a ga;have hy:=AC8 f (p:=p) (L:=lnV N (swV N p.History ⟨(v:Int),(k:Int)⟩)) (i:=a) (k:=b) (ha.pf a (by omega)).1 (m2.2 b);refine ifT (by dsimp only;rw[Int.toNat_natCast];omega) ?_;refine C0 (x:=rgB N p (lnV N (swV N p.History ⟨(v:Int),(k:Int)⟩)) ⟨(a:Int),(b:Int)⟩) (by simpa using hy) ?_;by_cases hb:rgB N p (lnV N (swV N p.History ⟨(v:Int),(k:Int)⟩)) ⟨(a:Int),(b:Int)⟩=true
  .refine ifF (by simp[hb]) (hs4 hl _ ⟨Bq,λj a0=>?_⟩);by_cases e:j=i
   .rw[e,ge,hb];rfl
   exact y j (by omega)
  have hf:=u.trans (AR3 hl y (by rw[ge];simpa using hb));refine ifT (by simpa using hb) (ifT (by show (z.n+1)*32<=_/\z.n+1<=_;omega) (nx _ ?_ (Be8 _)));rw[XW,pkS,hf,ge]
 have hf:pkF N p ⟨(v:Int),(k:Int)⟩=none:=by
  rw[u,List.find?_eq_none];intro r hr;obtain⟨j,a0,rfl⟩:=Bk8.1 hr
  have:=y j (by have:=Bk2.1 a0;omega)
  simpa using this
 exact ifF (by simpa using hl) (nx z (by rw[pkS,hf];simp) (by omega))
def AR4 (a:3000000<=N){p:B8}(hp:Ac9 N p):∃(Q:List A5) (s:Sl GD),(∀e∈Q,exR p.Entries e)/\Q.length<=16128/\s.toList=(De (rwH p.History) p.History.On.n 0).flatMap (pkS N p) /\
 ∀c:Int,0<=c/\c<=1073741824->∃b,Q9 N p c=some (⟨b,s⟩,0)/\b.toList=Q.map (atC c):=by
 obtain⟨Q,q1,q2,q3⟩:=AR0 a hp.hist hp.ents;obtain⟨s,s1,s2⟩:=AD1 a hp;refine⟨Q,s,q1,q2,s2,λc hc=>?_⟩;obtain⟨b,b1,b2⟩:=q3 c hc;refine⟨b,?_,b2⟩;unfold Q9 CZ;rw[hp.chk,Option.bind_some,Ej (by decide),Cj,Option.bind_some,Ej (by decide),b1,Option.bind_some,s1,Option.bind_some]
end Go.AM
namespace Go.AM
open Go.Proofs
def dep:Nat->Pat->Prop
 |0,_=>False
 |d+1,p=>p.L.n<=40/\∀i,i<p.L.n->dep d (p.L.g i)
def AI5:∀(d:Nat) (p:Pat),dep d p->∀e,d<=e->dep e p
 |0,_,h,_,_=>h.elim
 |d+1,p,h,0,he=>by omega
 |d+1,p,h,e+1,he=>⟨h.1,λi a=>AI5 d _ (h.2 i a) e (by omega)⟩
def Wc {N:Nat}(o:1000<=N):∀(d:Nat),d<=40->∀(p:Pat) (M:Nat),N+d+2<=M->∃r:Nat,Cl M p ((40-d:Nat):Int)=some (r:Int)/\40-d<r/\r<=41/\(r<=40->dep (d+1) p)
 |d,hd,p,0,hM=>by omega
 |d,hd,p,M+1,hM=>by
  have:∃x,Cl (M+1) p ((40-d:Nat):Int)=some x/\∃r:Nat,x=(r:Int)/\40-d<r/\r<=41/\(r<=40->dep (d+1) p):=by
   show ∃x,CQ (Cl M) M p _=some x/\_;unfold CQ;rw[Bq];refine U8 (λi x1 x2=>x2=(i:Int)/\∃k:Nat,x1=(k:Int)/\40-d+1+i<=k/\k<=41/\i<=p.L.n/\(k<=40->∀j,j<i->dep d (p.L.g j))) 41 _ (by omega) ⟨rfl,40-d+1,rfl,by omega,by omega,by omega,λ_ j b=>Er b (by omega)⟩ ?_;rintro f i x1 x2 q ⟨rfl,k,rfl,h1,c,s,l⟩ hs;by_cases hc:i<p.L.n/\k<=40
   .refine ifT (by simp only[Be4,Ev];omega) (Ac ?_);obtain⟨r,m,r1,r2,r3⟩:=Wc o (40-k) (by omega) (p.L.g i) M (by omega);rw[show ((40-(40-k):Nat):Int)=(k:Int) by omega]at m;refine C0 (by rw[Int.toNat_natCast];exact m) (hs (by omega) _ _ ⟨Bq,r,rfl,by omega,r2,by omega,λa j b=>?_⟩);by_cases e:j=i
    .subst e;exact AI5 _ _ (r3 a) d (by omega)
    exact l hc.2 j (by omega)
   refine ifF (by simp only[Be4,Ev];omega) ⟨_,rfl,k,rfl,by omega,c,λhk=>⟨by omega,λj b=>l hk j (by omega)⟩⟩
  obtain⟨x,h1,r,rfl,c⟩:=this;exact⟨r,h1,c⟩
def PI:∀(d:Nat) (p:Pat),dep d p->∀M,100+d<=M->∃r,AT M p=some r
 |0,p,h,M,_=>h.elim
 |d+1,p,h,0,hM=>by omega
 |d+1,p,h,M+1,hM=>by
  suffices ∃r,AT (M+1) p=some r/\True by obtain⟨r,h,_⟩:=this;exact⟨r,h⟩
  show ∃x,Au (AT M) M p=some x/\_;unfold Au;have hn:=h.1;refine U8 (λi x1 x2=>x2=(i:Int)) p.L.n _ (by omega) rfl ?_;rintro a i x1 x2 c rfl hs;by_cases hl:i<p.L.n
  .obtain⟨r,b⟩:=PI d (p.L.g i) (h.2 i hl) M (by omega);exact Ah (Ac (C0 (by rw[Int.toNat_natCast];exact b) (hs hl _ _ (Bq))))
  exact Bk ⟨_,rfl,trivial⟩
def TI {N:Nat}(b:2000<=N)(p:Pat):∃r:Nat,Ds N p=some (r:Int)/\(r<=40->dep 41 p):=by obtain⟨r,h1,_,_,a⟩:=Wc (N:=1000) (by omega) 40 (by omega) p N (by omega);exact⟨r,by unfold Ds;rw[show Cl N p 0=some (r:Int) from h1];rfl,a⟩
def AD2 {N:Nat}(f:2000<=N)(laws:Sl Law):∃r,EH N laws=some r:=by
 suffices ∃r,EH N laws=some r/\True by obtain⟨r,h,_⟩:=this;exact⟨r,h⟩
 unfold EH;refine U8 (λi x1 x2=>x2=(i:Int)) 301 _ (by omega) rfl ?_;rintro d i x1 x2 s rfl hs;by_cases hc:i<laws.n/\i<=300
 .refine ifT (by simp only[Be4,Ev];omega) (Ac ?_);refine U8 (λj x7 x8=>x8=(j:Int)) 2 _ (by omega) rfl ?_;rintro b j x7 x8 t rfl a;by_cases hl:j<2
  .refine ifT (by show decide ((j:Int)<((2:Nat):Int))=true;simp;omega) (ifT (by show (0:Int)<=(j:Int)/\(j:Int)<((2:Nat):Int);omega) ?_);obtain⟨r,l,m⟩:=TI f ((Sl.of [(laws.g (i:Int).toNat).Left,(laws.g (i:Int).toNat).Right]:Sl Pat).g (j:Int).toNat);refine C0 l ?_;by_cases c:r<=40
   .obtain⟨q,o⟩:=PI 41 _ (m c) N (by omega);exact Ah (C0 o (a hl _ _ (Bq)))
   exact Bk (a hl _ _ (Bq))
  exact ifF (by show ¬decide ((j:Int)<((2:Nat):Int))=true;simp;omega) (hs (by omega) _ _ (Bq))
 exact ifF (by simp only[Be4,Ev];omega) ⟨_,rfl,trivial⟩
end Go.AM
namespace Go.AM
open IntKind (wrap)
open Go.Proofs
def Ap5 {N:Nat}(t:3000000<=N)(h:History):∃b,Fw N h=some b/\True:=by
 unfold Fw;by_cases hb:(((decide (70<(h.Tree.n:Int)))||(decide (70<(h.Laws.n:Int))))||(decide (70<(h.On.n:Int))))=true
 .exact ifT hb ⟨_,rfl,trivial⟩
 refine ifF hb ?_;have o : h.Laws.n<=70/\h.On.n<=70:=by simp at hb;omega
 refine Gb (λi x=>x=(i:Int)) h.On.n _ (by omega) rfl ?_;rintro l i x q rfl hs;by_cases d:i<h.On.n
 .refine Ah (Ac ?_);by_cases m:(decide (70<((h.On.g (i:Int).toNat).n:Int)))=true
  .exact ifT m ⟨_,rfl,trivial⟩
  exact ifF m (hs d _ (Bq))
 refine Bk ?_;refine Gb (λi x=>x=(i:Int)) h.Laws.n _ (by omega) rfl ?_;rintro f i x q rfl j;by_cases d:i<h.Laws.n
 .rw[Bq];refine Ah (Ac ?_);obtain⟨r,s⟩:=AD2 (N:=N) (by omega) (h.Laws.sub (i:Int).toNat ((i+1:Nat):Int).toNat);refine C0 s ?_;have last:∀z3:Bool,∃r,(if z3 then some false else f ((i+1:Nat):Int))=some r/\True:=λz=>by
   cases z
   .exact Bl (j d _ rfl)
   exact ifT rfl ⟨_,rfl,trivial⟩
  refine ltX ?_;by_cases g1:(decide (4<r))=true
  .exact ifT g1 (last _)
  refine ifF g1 ?_;by_cases g2:(decide (20<((h.Laws.g (i:Int).toNat).If.n:Int)))=true
  .exact ifT g2 (last _)
  refine ifF g2 ?_;by_cases g3:(decide (20<((h.Laws.g (i:Int).toNat).Out.n:Int)))=true
  .exact ifT g3 (last _)
  refine ifF g3 ?_;obtain⟨a,ha,_⟩:=TI (N:=N) (by omega) (h.Laws.g (i:Int).toNat).Left;refine C0 ha ?_;by_cases g4:(decide (41<(a:Int)))=true
  .exact ifT g4 (last _)
  refine ifF g4 ?_;obtain⟨c,hc,_⟩:=TI (N:=N) (by omega) (h.Laws.g (i:Int).toNat).Right;exact C0 hc (last _)
 exact Bk ⟨_,rfl,trivial⟩
structure TJ (x:Small):Prop where
 par:∀i,i<x.Parents.n->∃k:Nat,x.Parents.g i=(k:Int)/\k<256
 laws:Bh x.Laws
 on:∀i,i<x.On.n->∃k:Nat,x.On.g i=(k:Int)/\k<65536
def Zp {n:Nat}(h:n<256):IntKind.u8.wrap (n:Int)=n:=by have h1:((n:Int) % (2 ^ 8:Int))=n:=Bl7 (by omega) (by omega);unfold wrap;simp only[IntKind.bits,IntKind.signed,h1,Bn4,Be7,Eu]
def Ap6 (a j:Nat):Str:=[UInt8.ofNat (a+j)]
def Ap7 {a j:Nat}(h:a+j<256):[UInt8.ofNat (wrap .u8 ((a:Int)+(wrap .u8 (j:Int)))).toNat]=Ap6 a j:=by rw[Zp (by omega),<- Int.natCast_add,Zp h,Int.toNat_natCast];rfl
def Zq {a i j:Nat}(b:a+i<256)(c:a+j<256)(h:Ap6 a i=Ap6 a j):i=j:=by
 have:=congrArg UInt8.toNat (Bt9 h).1
 rw[Bs3,Bs3]at this;omega
def Ap8:∀j:Fin 10,Nt (Ap6 97 j.val)=true:=by decide +kernel
def AR5 (x:Small):Nat->Node
 |0=>⟨-1,[114]⟩
 |j+1=>⟨(((x.Parents.g j).toNat % (j+1):Nat):Int),Ap6 97 (j+1)⟩
def AS9 (x:Small)(j:Nat):Law:=⟨Ap6 65 j,(x.Laws.g j).Left,(x.Laws.g j).Right,(x.Laws.g j).If,(x.Laws.g j).Out,(x.Laws.g j).Mode⟩
def Ap9 {x:Small}(hx:TJ x){j:Nat}(d:j<x.Laws.n):Ns (AS9 x j):=by obtain⟨⟨a,b,c⟩,l,f,g,i⟩:=hx.laws j d;exact⟨⟨a,b,c⟩,by show 1<_;omega,f,g,i⟩
def AD3 {x:Small}{t:Sl Node}(hn:t.n<=10)(ht:∀j,j<t.n->t.g j=AR5 x j){v:Nat}(c:v<t.n):Bb4 t v:=by
 have a:∀j,j<t.n->0<j->(AR5 x j).Name=Ap6 97 j:=λj _ d=>by obtain⟨k,rfl⟩:∃k,j=k+1:=⟨j-1,by omega⟩;rfl
 have b:∀j,j<10->([114]:Str)≠Ap6 97 j:=λj f h=>by
  have:=congrArg UInt8.toNat (Bt9 h).1
  rw[Bs3]at this;have e:(114:UInt8).toNat=114:=rfl;omega
 refine⟨λh=>by rw[ht 0 (by omega)];rfl,λd=>?_,?_,λu i=>?_⟩
 .obtain⟨k,rfl⟩:∃k,v=k+1:=⟨v-1,by omega⟩;rw[ht _ c];show 0<=(((x.Parents.g k).toNat % (k+1):Nat):Int)/\(((x.Parents.g k).toNat % (k+1):Nat):Int)<((k+1:Nat):Int)
  have:=Bp5 (x.Parents.g k).toNat (show 0<k+1 by omega)
  omega
 .rw[ht _ c];by_cases d:v=0
  .subst d;show Nt [114]=true;decide +kernel
  rw[a v c (by omega)];exact Ap8 ⟨v,by omega⟩
 rw[ht _ c,ht u (by omega),a v c (by omega)];by_cases d:u=0
 .subst d;exact b v (by omega)
 rw[a u (by omega) (by omega)];exact λh=>by have:=Zq (by omega) (by omega) h;omega
def AD4 {N:Nat}(hN:3000000<=N){x:Small}(hx:TJ x) :∃r:History×Bool,Z4 N x=some r/\((r.2=false/\r.1.Tree.n=0) \/ okH N r.1):=by
 unfold Z4;refine U8 (λi (x1:Sl Node) x2=>x2=((i+1:Nat):Int)/\x1.n=i+1/\∀j,j<i+1->x1.g j=AR5 x j) 9 _ (by omega) ⟨rfl,rfl,λj s=>by obtain rfl:j=0:=(by omega);rfl⟩ ?_;rintro self i x1 x2 hi ⟨rfl,hn1,h1⟩ hs;by_cases hlt:i+1<=x.Parents.n/\i+1<10
 .obtain⟨k,hk,a0⟩:=hx.par i (by omega);have e1:wrap .i64 (((i+1:Nat):Int)-1)=(i:Int):=by rw[AA7 (by omega) (by omega)];rfl
  refine Ah ?_;rw[e1,Int.toNat_natCast,hk,E3 (n:=(k:Int)) (by omega) (by omega)];refine ifT ⟨⟨by omega,by omega⟩,by omega⟩ (ifT (by show (x1.n+1)*24<=_/\x1.n+1<=_;omega) (hs (by omega) _ _ ⟨Bq,by show x1.n+1=_;omega,λj s=>?_⟩));show (if j<x1.n then x1.g j else _)=_;by_cases e:j<x1.n
  .rw[Dq e];exact h1 j (by omega)
  obtain rfl:j=i+1:=by omega
  rw[Ej e];have e2:[UInt8.ofNat (wrap .u8 (97+(wrap .u8 ((i+1:Nat):Int)))).toNat]=Ap6 97 (i+1):=Ap7 (a:=97) (by omega);rw[e2];show (⟨_,_⟩:Node)=⟨(((x.Parents.g i).toNat % (i+1):Nat):Int),Ap6 97 (i+1)⟩;rw[hk,Int.toNat_natCast];rfl
 refine Bk ?_;clear hs;refine U8 (λi (x4:Sl Law) x5=>x5=(i:Int)/\x4.n=i/\∀j,j<i->x4.g j=AS9 x j/\j<x.Laws.n/\chkAll N (AS9 x j)) 6 _ (by omega) ⟨rfl,rfl,λj s=>Er s (by omega)⟩ ?_;rintro self2 m x4 x5 hm ⟨rfl,hn4,z⟩ a1;by_cases a2:m<x.Laws.n/\m<6
 .obtain⟨a3,hm6⟩:=a2;have e2:[UInt8.ofNat (wrap .u8 (65+(wrap .u8 (m:Int)))).toNat]=Ap6 65 m:=Ap7 (a:=65) (by omega);have hin:=Ap9 hx a3;refine Ah (Ac ?_);rw[Int.toNat_natCast,e2];obtain⟨b,hb,_⟩:=Ap5 hN (⟨(Sl.nil:Sl Node),(Sl.of [AS9 x m]:Sl Law),(Sl.nil:Sl (Sl Int))⟩:History);have hl:Fx N (AS9 x m)=some b:=by unfold Fx;rw[hb];rfl
  refine C0 hl (ltX ?_);cases b
  .exact ifT rfl (ifT rfl ⟨_,rfl,.inl ⟨rfl,rfl⟩⟩)
  refine Bp ?_;obtain⟨e,he,hE⟩:=IQ hN hin;refine C0 he ?_;rcases hE with⟨rfl,hc⟩ | ⟨rfl,_⟩
  .refine Bp (ifT (by show (x4.n+1)*200<=_/\x4.n+1<=_;omega) (a1 hm6 _ _ ⟨Bq,by show x4.n+1=_;omega,λj s=>?_⟩));show (if j<x4.n then x4.g j else AS9 x m)=_/\_;by_cases e:j<x4.n
   .rw[Dq e];exact z j (by omega)
   obtain rfl:j=m:=by omega
   rw[Ej e];exact⟨rfl,a3,hc⟩
  exact Aq ⟨_,rfl,.inl ⟨rfl,rfl⟩⟩
 refine Bk ?_;clear a1;have hL1:wrap .i64 ((x4.n:Int)+1)=((x4.n+1:Nat):Int):=Bq;rw[hL1];refine U8 (λv (f:Sl (Sl Int)) a4=>a4=(v:Int)/\f.n=v/\∀u,u<v->(f.g u).n<=5/\∀j,j<(f.g u).n->0<=(f.g u).g j/\(f.g u).g j<x4.n) x1.n _ (by omega) ⟨rfl,rfl,λj s=>Er s (by omega)⟩ ?_;rintro self5 v f a4 o ⟨rfl,hn10,t⟩ hs5;by_cases hvl:v<x1.n
 .obtain⟨c,hc,hc2⟩:∃c:Nat,Ec N x.On (v:Int)=some (c:Int)/\c<65536:=by
   unfold Ec;by_cases h:v<x.On.n
   .obtain⟨k,hk,a0⟩:=hx.on v h;exact⟨k,by rw[Ch,Ce,Int.toNat_natCast,hk,E3 (by omega) (by omega)],a0⟩
   exact⟨0,by rw[Cj];rfl,by omega⟩
  refine Ah (C0 hc ?_);refine U8 (λq (l:Sl Int) a5=>l.n=q/\(∃d:Nat,a5=(d:Int)/\d<65536)/\∀j,j<l.n->0<=l.g j/\l.g j<x4.n) 5 _ (by omega) ⟨rfl,⟨c,rfl,hc2⟩,λj s=>Er s (Bf5 j)⟩ ?_;rintro self6 q l a5 hq ⟨hn14,⟨d,rfl,hd⟩,a6⟩ hs6;refine Ac ?_;have em:(d:Int).tmod ((x4.n+1:Nat):Int)=((d % (x4.n+1):Nat):Int):=rfl;have ed:(d:Int).tdiv ((x4.n+1:Nat):Int)=((d / (x4.n+1):Nat):Int):=rfl;rw[em,ed];have a7:=Bp5 d (show 0<x4.n+1 by omega);have a8:=Nat.div_le_self d (x4.n+1);generalize d / (x4.n+1)=d1 at a8;generalize d % (x4.n+1)=m1 at a7;by_cases g:m1≠0/\q<5
  .rw[AA7 (by omega) (by omega),E3 (n:=(d1:Int)) (by omega) (by omega)];refine Ah (ifT ⟨⟨by omega,by show (l.n+1)*8<=_;omega,by show l.n+1<=_;omega⟩,by omega⟩ (hs6 (by omega) _ _ ⟨by show l.n+1=_;omega,⟨_,rfl,by omega⟩,λj s=>?_⟩));show 0<=(if j<l.n then l.g j else _)/\(if j<l.n then l.g j else _)<_;by_cases e:j<l.n
   .rw[Dq e];exact a6 j e
   rw[Ej e];omega
  refine Bk (ifT (by show (f.n+1)*24<=_/\f.n+1<=_;omega) (hs5 hvl _ _ ⟨Bq,by show f.n+1=_;omega,λu hu=>?_⟩));show (if u<f.n then f.g u else l).n<=5/\∀j,j<(if u<f.n then f.g u else l).n->0<=(if u<f.n then f.g u else l).g j/\(if u<f.n then f.g u else l).g j<_;by_cases e:u<f.n
  .rw[Dq e];exact t u (by omega)
  rw[Ej e];exact⟨by omega,a6⟩
 obtain rfl:v=x1.n:=by omega
 have w:Fy x1:=⟨by omega,by omega,λv o=>AD3 (by omega) (λj s=>h1 j (by omega)) o⟩;have hw:wkH (⟨x1,x4,f⟩:History):=⟨w,by show x1.n<=10;omega,by show x4.n<=64;omega,λi y=>?_,by show f.n=x1.n;omega,λv o=>(t v (by have o:v<f.n:=o;omega)).1,λv o=>(t v (by have o:v<f.n:=o;omega)).2⟩
 .have hc:∀i,i<x4.n->chkAll N (x4.g i):=λi y=>by rw[(z i (by omega)).1];exact (z i (by omega)).2.2
  obtain⟨e,e1,_,e2⟩:=RJ hN hw;obtain rfl:=e2 hc λu v huv o hn=>by
   have o:v<x4.n:=o;have hn:(x4.g u).Name=(x4.g v).Name:=hn;rw[(z u (by omega)).1,(z v (by omega)).1]at hn
   have:=Zq (a:=65) (by omega) (by omega) hn
   omega
  exact Bl ⟨_,rfl,.inr (AI0 hw hc e1)⟩
 have y:i<x4.n:=y;show Ns (x4.g i);obtain⟨e,hil,_⟩:=z i (by omega);rw[e];exact Ap9 hx hil
end Go.AM
namespace Go.AM
variable {N:Nat}
open IntKind (wrap)
open Go.Proofs
def Aq0 {n:Nat}(h:n<4294967296):IntKind.u32.wrap (n:Int)=n:=by have h1:((n:Int) % (2 ^ 32:Int))=n:=Bl7 (by omega) (by omega);unfold wrap;simp only[IntKind.bits,IntKind.signed,h1,Bn4,Be7,Eu]
def Aq1 (l:1000<=N){s:Str}(hs:s.length<=32):∃w,R7 N s=some w/\wOk w:=by
 unfold R7;refine U8 (λi (x1:Sl Iu) x2=>x2=(i:Int)/\x1.n=i/\vW x1) s.length _ (by omega) ⟨rfl,rfl,λj c=>Er c (Bf5 j)⟩ ?_;rintro a i x1 x2 m ⟨rfl,h1,d⟩ b;by_cases hl:i<s.length
 .have nx:∀z:Iu,vS z->∃r,(if (Kb 8 (x1.n+(Sl.of [z]:Sl Iu).n))then a (x1.push z) (wrap .i64 ((i:Int)+1))else none)=some r/\wOk r:=λz f=>
   ifT (by show (x1.n+1)*8<=_/\x1.n+1<=_;omega) (b hl _ _ ⟨Bq,by show x1.n+1=_;omega,λj c=>by
    show vS (if j<x1.n then x1.g j else z);split
    .exact d j (by assumption)
    exact f⟩)
  refine Ah (Ac ?_);split
  .exact nx _ ⟨2#32,5#32,rfl,by decide +kernel⟩
  split
  .exact nx _ ⟨3#32,4#32,rfl,by decide +kernel⟩
  exact nx _ ⟨5#32,2#32,rfl,by decide +kernel⟩
 exact Bk ⟨x1,rfl,by omega,d⟩
def ifC {R:Type}{Q:R->Prop}{p:Prop}[Decidable p]{a b:Option R}(h1:∃r,a=some r/\Q r)(c:∃r,b=some r/\Q r):∃r,(if p then a else b)=some r/\Q r:=by
 split
 .exact h1
 exact c
def XZ:wOk Ip:=⟨Bl6 _,λi a=>Er a (Bf5 i)⟩
def AR6 (a:1000<=N){s:Str}(hs:s.length<=32):∃f,Bf N s=some f/\okF f:=by
 unfold Bf;obtain⟨w,w1,w2⟩:=Aq1 a hs;split
 .exact⟨_,rfl,XZ,λ_=>rfl⟩
 exact C0 w1 ⟨_,rfl,w2,λh=>by cases h⟩
def Wd (v:3000000<=N){h:History}(x:okH N h){lv:Sl Int}(hl:lv.n<=63){n:Int}{s:Str}(hs:s.length<=32){K:Sl H4->Option (B8×Bool)}{Q:B8×Bool->Prop}
 (y:∀fs:Sl H4,fs.n=lv.n->(∀k,k<fs.n->okF (fs.g k))->∃r,K fs=some r/\Q r) (p0:B8) (z:Q (p0,false)):∃r,Bj N (λ(c:Sl H4->Int->Option (B8×Bool)) (a:Sl H4) (b:Int)=>
  if (decide (b<(lv.n:Int))) then
   (R7 N s).bind λd=>
   if (0:Int)<=(wrap .i64 (10+(wrap .i64 (2*(b.tmod 8)))))then
    if (((shI .shr .u32 n (wrap .i64 (10+(wrap .i64 (2*(b.tmod 8)))))).tmod 4)==0) then
     if (Kb 32 (a.n+(Sl.of [(⟨false,Ip⟩:H4)]:Sl H4).n))then
      c (a.push (⟨false,Ip⟩:H4)) (wrap .i64 (b+1))
     else none
    else
     if (if (((shI .shr .u32 n (wrap .i64 (10+(wrap .i64 (2*(b.tmod 8)))))).tmod 4)==1) then ((shI .shr .u32 n (wrap .i64 (10+(wrap .i64 (2*(b.tmod 8)))))).tmod 4)==1 else ((shI .shr .u32 n (wrap .i64 (10+(wrap .i64 (2*(b.tmod 8)))))).tmod 4)==2) then
      if (((0:Int)<=b/\b<(lv.n:Int))/\b.toNat<lv.n)then
       (Cy N h d (lv.g b.toNat)).bind λl=>
       if (l.2 != 0) then
        some (p0,false)
       else
        if (Kb 32 (a.n+(Sl.of [(⟨true,l.1⟩:H4)]:Sl H4).n))then
         c (a.push (⟨true,l.1⟩:H4)) (wrap .i64 (b+1))
        else none
      else none
     else
      if (Kb 32 (a.n+(Sl.of [(⟨true,d⟩:H4)]:Sl H4).n))then
       c (a.push (⟨true,d⟩:H4)) (wrap .i64 (b+1))
      else none
   else none
  else K a
  ) (Sl.nil:Sl H4) 0=some r/\Q r:=by
 obtain⟨w,w1,w2⟩:=Aq1 (N:=N) (by omega) hs;refine U8 (λi (a:Sl H4) b=>b=(i:Int)/\a.n=i/\∀k,k<a.n->okF (a.g k)) lv.n _ (by omega) ⟨rfl,rfl,λk hk=>Er hk (Bf5 k)⟩ ?_;rintro m i a b hi ⟨rfl,h1,u⟩ o;by_cases q:i<lv.n
 case neg=>exact Bk (y _ (by omega) u)
 have nx:∀f:H4,okF f->∃r,(if (Kb 32 (a.n+(Sl.of [f]:Sl H4).n))then m (a.push f) (wrap .i64 ((i:Int)+1))else none)=some r/\Q r:=λf hf=>
  ifT (by show (a.n+1)*32<=_/\a.n+1<=_;omega) (o q _ _ ⟨Bq,by show a.n+1=_;omega,λk hk=>by
   show okF (if k<a.n then a.g k else f);split
   .exact u k (by assumption)
   exact hf⟩)
 have hm:(i:Int).tmod 8=((i % 8:Nat):Int):=rfl;have hm8:=Bp5 i (show 0<8 by omega);refine Ah (C0 w1 (ifT (by rw[hm,E3 (n:=2*_) (by omega) (by omega),E3 (by omega) (by omega)];omega) ?_));refine ifC (nx _ ⟨XZ,λ_=>rfl⟩) (ifC ?_ (nx ⟨true,w⟩ ⟨w2,λe=>by cases e⟩))
 obtain⟨r,r1,r2⟩:=At_ok v x (w:=w) (λj hj=>(w2.2 j hj).ok) (lv.g (i:Int).toNat);refine Ac (C0 r1 ?_);by_cases t:r.2=0
 .exact ifF (by simp[t]) (nx ⟨true,r.1⟩ ⟨r2 t,λe=>by cases e⟩)
 exact ifT (by simpa using t) ⟨_,rfl,z⟩
structure Aq2 (x:Al2):Prop where
 H:TJ x.H
 L:∀i,i<x.L.n->∃b:BitVec 32,x.L.g i=(b.toNat:Int)
def Ad0:(Dy 4194304).isSome=true:=by decide +kernel
def We:Sl Str:=(Dy 4194304).getD Sl.nil
def AD5:Dy 4194304=some We:=by obtain⟨v,a⟩:=Bf6.1 Ad0;unfold We;rw[a];rfl
def AD6 (h:History)(p:Sl H4)(e:Sl Entry):Eb 4194304 ⟨We,Sl.nil,Sl.nil,h,p,e⟩=some 0:=by
 have:Eb 4194304 ⟨We,Sl.nil,Sl.nil,⟨Sl.nil,Sl.nil,Sl.nil⟩,Sl.nil,Sl.nil⟩=some 0:=by decide +kernel
 exact this
def AD7:∀i:Fin 4,Nt [103,UInt8.ofNat (wrap .u8 (48+(wrap .u8 ((i.val:Nat):Int)))).toNat]=true:=by decide +kernel
def AD8 {h:History}{p:Sl H4}{l:Sl Entry}(a:okH 4194304 h)(hl:okE p l (U9 h.Tree h.Tree.n).n):Ac9 4194304 ⟨We,Sl.nil,Sl.nil,h,p,l⟩:=⟨by unfold X1;rw[AD6,Option.bind_some,Ej (by decide)];show (U4 4194304 h p l).bind _=_;rw[Wb (by omega) a hl];rfl,a,hl⟩
def AD9 {x:Al2}(hx:Aq2 x):∃r,AH 4194304 x=some r/\(r.2=true->Ac9 4194304 r.1):=by
 have w:3000000<=4194304:=by omega
 unfold AH;obtain⟨⟨h,ok⟩,m1,m2⟩:=AD4 w hx.H;refine C0 m1 ?_;have bad:∀{e:Sl Int×Int},(ok=false \/ e.2≠0)->((!ok)||(e.2 != 0))=true:=λ{e} g=>by
  rcases g with g|g
  .simp[g]
  simp[g]
 rcases m2 with⟨g1,g2⟩ | c
 .obtain rfl:ok=false:=g1
  have:∃r,AC 4194304 h.Tree=some r:=by unfold AC Dv;have g2:h.Tree.n=0:=g2;rw[g2];exact⟨_,rfl⟩
  obtain⟨r,hr⟩:=this;exact C0 hr (ifT (bad (.inl rfl)) ⟨_,rfl,λe=>by cases e⟩)
 have c:okH 4194304 h:=c;refine C0 (Lx w c.tree).2 ?_;have d:=Kj c.tree;have o:=@AD8 h;generalize U9 h.Tree h.Tree.n=lv at d o;by_cases hb:ok=true
 case neg=>exact ifT (bad (.inl (by simpa using hb))) ⟨_,rfl,λe=>by cases e⟩
 subst hb;refine Bl (C0 AD5 ?_);refine XP (λi (x7:Sl H4) (x8:Sl Entry) x9=>x9=(i:Int)/\x7.n=i/\x8.n=i/\(∀k,k<x7.n->okF (x7.g k))/\∀k,k<x8.n->(x8.g k).Forms.n=lv.n/\(∀j,j<(x8.g k).Forms.n->okF ((x8.g k).Forms.g j))/\Nt (x8.g k).Gloss=true) 4 _ (by omega) ⟨rfl,rfl,rfl,λk hk=>Er hk (Bf5 k),λk hk=>Er hk (Bf5 k)⟩ ?_;rintro t i x7 x8 x9 hi ⟨rfl,h7,h8,u,a⟩ hs;by_cases l:i<x.L.n/\i<4
 case neg=>exact Bk ⟨_,rfl,λ_=>o c ⟨by omega,by omega,u,λk hk=>(a k hk).1,λk hk=>(a k hk).2.1,λk hk=>(a k hk).2.2⟩⟩
 obtain⟨b,hb⟩:=hx.L i l.1;refine Ah (Ac ?_);rw[Int.toNat_natCast,hb];refine U8 (λk (m:Str) v=>v=(k:Int)/\m.length=k) 4 _ (by omega) ⟨rfl,rfl⟩ ?_;rintro y k m v hk ⟨rfl,h16⟩ z;have hm:((b.toNat:Nat):Int).tmod 4=((b.toNat % 4:Nat):Int):=rfl;have hm4:=Bp5 b.toNat (show 0<4 by omega);rw[hm,E3 (n:=((b.toNat % 4:Nat):Int)) (by omega) (by omega)];by_cases hkl:k<=b.toNat % 4
 .have e1:wrap .i64 (2+(wrap .i64 (2*(k:Int))))=((2+2*k:Nat):Int):=by rw[E3 (n:=2*_) (by omega) (by omega),E3 (by omega) (by omega)];omega
  have e2:(shI .shr .u32 (b.toNat:Int) ((2+2*k:Nat):Int)).tmod 4=(((b >>> (2+2*k)).toNat % 4:Nat):Int):=by rw[AG0];rfl
  have hq:=Bp5 (b >>> (2+2*k)).toNat (show 0<4 by omega);rw[e1,e2];generalize (b >>> (2+2*k)).toNat % 4=q at hq;have e3:wrap .u32 ((q:Int)+1)=((q+1:Nat):Int):=Aq0 (n:=q+1) (by omega);have h4:(([112,98,97,97]:Str).length:Int)=4:=rfl;rw[e3,h4,Int.toNat_natCast,Int.toNat_natCast];have hd:((([112,98,97,97]:Str).take (q+1)).drop q).length=1:=by rw[Bf9,Bl1];show min (q+1) 4-q=1;omega
  exact Ah (ifT ⟨⟨⟨by omega,by omega⟩,by omega,by omega,by omega⟩,by rw[hd];omega⟩ (z (by omega) _ _ ⟨Bq,by rw[Bh1,hd];omega⟩))
 refine Bk ?_;obtain⟨f,f1,f2⟩:=AR6 (N:=4194304) (by omega) (s:=m) (by omega);refine C0 f1 (ltX ?_);have a0:=AD7 ⟨i,l.2⟩;have K:∀z3:Bool×Sl Iu,okF ⟨z3.1,z3.2⟩->∀fs:Sl H4,fs.n=lv.n->(∀k,k<fs.n->okF (fs.g k))->∃r,(if (Kb 32 (x7.n+(Sl.of [(⟨z3.1,z3.2⟩:H4)]:Sl H4).n))then
  if (Kb 40 (x8.n+(Sl.of [(⟨[103,UInt8.ofNat (wrap .u8 (48+(wrap .u8 (i:Int)))).toNat],fs⟩:Entry)]:Sl Entry).n))then
   t (x7.push (⟨z3.1,z3.2⟩:H4)) (x8.push (⟨[103,UInt8.ofNat (wrap .u8 (48+(wrap .u8 (i:Int)))).toNat],fs⟩:Entry)) (wrap .i64 ((i:Int)+1))
  else none
  else none)=some r/\(r.2=true->Ac9 4194304 r.1):=by
  intro z3 hz fs a1 a2;refine ifT (by show (x7.n+1)*32<=_/\x7.n+1<=_;omega) (ifT (by show (x8.n+1)*40<=_/\x8.n+1<=_;omega) (hs l.2 _ _ _ ⟨Bq,by show x7.n+1=_;omega,by show x8.n+1=_;omega,λk hk=>?_,λk hk=>?_⟩))
  .show okF (if k<x7.n then x7.g k else _);split
   .exact u k (by assumption)
   exact hz
  show (if k<x8.n then x8.g k else _).Forms.n=lv.n/\(∀j,j<(if k<x8.n then x8.g k else _).Forms.n->okF ((if k<x8.n then x8.g k else _).Forms.g j))/\Nt (if k<x8.n then x8.g k else _).Gloss=true;split
  .exact a k (by assumption)
  exact⟨a1,a2,a0⟩
 split
 .exact Wd w c d (by omega) (K (false,Sl.nil) ⟨XZ,λ_=>rfl⟩) _ (λe=>by cases e)
 exact Wd w c d (by omega) (K (f.Has,f.W) f2) _ (λe=>by cases e)
end Go.AM
namespace Go.AM
set_option maxRecDepth 100000
def RK:Fv 4194304=some true:=by decide +kernel
end Go.AM
namespace Go.AM
open IntKind (wrap)
open Go.Proofs
abbrev mpE:=List (B5×Int)
def ndK:mpE->Prop
 |[]=>True
 |(a,_)::es=>(∀e∈es,e.1≠a)/\ndK es
def eqK2 {a b:B5}:E8 a b=true↔a=b:=⟨Zc a b,λh=>by subst h;simp[E8]⟩
def Wf {k:B5}{v:Int}:∀{m:mpE},ndK m->ndK (Df E8 k v m)/\∀e,e∈Df E8 k v m↔e=(k,v) \/ (e∈m/\e.1≠k)
 |[],_=>⟨⟨by simp,trivial⟩,λe=>by simp[Df]⟩
 |(a,x)::es,⟨h1,h2⟩=>by
  simp only[Df];by_cases h:k=a
  .subst h;rw[Dq (eqK2.2 rfl)];refine⟨⟨h1,h2⟩,λe=>?_⟩;constructor
   .intro b;rcases Bf8.1 b with rfl|b
    .exact .inl rfl
    exact .inr ⟨Bf7 _ b,h1 e b⟩
   rintro (rfl|⟨b,hk⟩)
   .simp
   rcases Bf8.1 b with rfl|b
   .exact Er rfl hk
   exact Bf7 _ b
  rw[Ej λg=>h (eqK2.1 g)];obtain⟨g1,g2⟩:=Wf (k:=k) (v:=v) h2;refine⟨⟨λe b=>?_,g1⟩,λe=>?_⟩
  .rcases (g2 e).1 b with rfl|⟨b,_⟩
   .exact h
   exact h1 e b
  rw[Bf8,g2,Bf8];constructor
  .rintro (rfl|rfl|⟨b,hk⟩)
   .exact .inr ⟨.inl rfl,λg=>h g.symm⟩
   .exact .inl rfl
   exact .inr ⟨.inr b,hk⟩
  rintro (rfl|⟨rfl|b,hk⟩)
  .exact .inr (.inl rfl)
  .exact .inl rfl
  exact .inr (.inr ⟨b,hk⟩)
def Aq3 {k:B5}{v:Int}:∀{m:mpE},ndK m->(k,v)∈m->P5 E8 k m=some v
 |(a,x)::es,⟨h1,h2⟩,h=>by
  simp only[P5];rcases Bf8.1 h with e|h
  .cases e;rw[Dq (eqK2.2 rfl)]
  rw[Ej λg=>h1 _ h (eqK2.1 g)];exact Aq3 h2 h
abbrev Ad1 (e:A5):B5:=⟨e.Entry,e.Leaf⟩
def AE0 {N:Nat}(hN:3000000<=N){p:B8}{b:Sl A5}{s:Sl GD}{c:IW}{Q:List A5}(hQ:Q.length<=16128)(o:Q9 N p 0=some (⟨b,s⟩,0))(hb:b.toList=Q.map (atC 0)){x:Int}(hc:c.Bad.toList=Q.map (atC x)) :Be N p c=some (true,0):=by
 have hbn:b.n=Q.length:=by rw[<- PF,hb,Bh9]
 have hcn:c.Bad.n=Q.length:=by rw[<- PF,hc,Bh9]
 have kb:∀i,i<b.n->Ad1 (c.Bad.g i)=Ad1 (b.g i):=λi a=>by
  have e1:b.toList[i]? = some (b.g i):=by simp[Sl.toList,a]
  have t:i<c.Bad.n:=by omega
  have e2:c.Bad.toList[i]? = some (c.Bad.g i):=by simp[Sl.toList,t]
  rw[hb,Be5]at e1;rw[hc,Be5]at e2;obtain⟨y,y1,y2⟩:=Bg5.1 e1;rw[y1]at e2;have e2:atC x y=c.Bad.g i:=Bj1 e2;rw[<- y2,<- e2]
 refine Zh ?_;unfold Be;refine C0 o (ifF (show ¬((0:Int) != 0)=true by decide) ?_);refine U8 (λj (m:mpE) x2=>x2=(j:Int)/\ndK m/\∀e,e∈m↔e.2=0/\∃i,i<j/\e.1=Ad1 (b.g i)) b.n _ (by omega) ⟨rfl,trivial,λe=>⟨λh=>(by cases h),fun⟨_,i,a,_⟩=>Er a (Bf5 i)⟩⟩ ?_;rintro l j m x2 hj ⟨rfl,hm,f⟩ hs;by_cases hl:j<b.n
 .refine ifT (by simpa using hl) (ifT (by dsimp only;omega) (hs hl _ _ ⟨Bq,(Wf hm).1,λe=>?_⟩));dsimp only;rw[Int.toNat_natCast,(Wf hm).2,f];constructor
  .rintro (rfl|⟨⟨o,i,a,e1⟩,_⟩)
   .exact⟨rfl,j,by omega,rfl⟩
   exact⟨o,i,by omega,e1⟩
  rintro⟨o,i,a,e1⟩;by_cases hk:e.1=Ad1 (b.g j)
  .exact .inl (Prod.ext hk o)
  refine .inr ⟨⟨o,i,?_,e1⟩,hk⟩
  have:i≠j:=λg=>hk (g ▸ e1)
  omega
 refine ifF (by simpa using hl) ?_;obtain rfl:j=b.n:=by omega
 refine U8 (λj (m:mpE) x2=>x2=(j:Int)/\ndK m/\(∀e,e∈m->(0<=e.2/\e.2<=j)/\∃i,i<b.n/\e.1=Ad1 (b.g i))/\(∀i,i<b.n->∃v,(Ad1 (b.g i),v)∈m)/\∀i,i<j->∀v,(Ad1 (b.g i),v)∈m->0<v) b.n _ (by omega)
  ⟨rfl,hm,λe d=>⟨by rw[((f e).1 d).1];omega,((f e).1 d).2⟩,λi a=>⟨0,(f _).2 ⟨rfl,i,a,rfl⟩⟩,λi a=>Er a (Bf5 i)⟩ ?_
 clear hs hm f;rintro l j m x4 hj ⟨rfl,hm,f,u,z⟩ hs;by_cases hl:j<b.n
 .refine Ah (Ac ?_);rw[Int.toNat_natCast];have ek:=kb j hl;obtain⟨v,hv⟩:=u j hl;have hk:P5 E8 (Ad1 (c.Bad.g j)) m=some v:=by rw[ek];exact Aq3 hm hv
  have q:=(f _ hv).1;have q:0<=v/\v<=(j:Int):=q;have ew:wrap .i64 (v+1)=v+1:=E3 (by omega) (by omega);show ∃r,MX (P5 E8 (Ad1 (c.Bad.g j)) m) _ _=_/\_;rw[hk];show ∃r,l (Df E8 (Ad1 (c.Bad.g j)) (wrap .i64 (v+1)) m) _=_/\_;rw[ek,ew];have u2:=λe=>(Wf (k:=Ad1 (b.g j)) (v:=v+1) hm).2 e;refine hs hl _ _ ⟨Bq,(Wf hm).1,λe d=>?_,λi a=>?_,λi a w hw=>?_⟩
  .rcases (u2 e).1 d with rfl|⟨d,_⟩
   .exact⟨by dsimp only;omega,j,hl,rfl⟩
   have:=(f e d).1
   exact⟨by omega,(f e d).2⟩
  .by_cases g:Ad1 (b.g i)=Ad1 (b.g j)
   .exact⟨v+1,(u2 _).2 (.inl (by rw[g]))⟩
   obtain⟨w,hw⟩:=u i a;exact⟨w,(u2 _).2 (.inr ⟨hw,g⟩)⟩
  rcases (u2 _).1 hw with e|⟨d,hk⟩
  .have:w=v+1:=congrArg Prod.snd e
   omega
  by_cases g:i=j
  .exact Er (g ▸ rfl) hk
  exact z i (by omega) w d
 refine Bk ⟨_,rfl,?_⟩
 have:(m.any λe=>e.2==0)=false:=by
  rw[List.any_eq_false];intro e d h;obtain⟨_,i,a,e1⟩:=f e d;have h1:=z i (by omega) e.2 (by rw[<- e1];exact d);have h2:e.2=0:=by simpa using h
  omega
 rw[this];rfl
end Go.AM
namespace Go.AM
variable {N:Nat}
open Go.Proofs
def AE1 {x:Sl A5}(c:x.n<N)(hs:x.n<10000000):C4 N x x=some true:=by
 unfold C4;refine Zh (Bl (Gb (λi x1=>x1=(i:Int)) x.n _ c rfl ?_));rintro b i x1 d rfl a;by_cases hl:i<x.n
 .exact Ah (Ac (Bl (a hl _ (Bq))))
 exact Bk ⟨_,rfl,rfl⟩
def AE2 {x:Sl GD}(c:x.n<N)(hs:x.n<10000000):F2 N x x=some true:=by
 unfold F2;refine Zh (Bl (Gb (λi x1=>x1=(i:Int)) x.n _ c rfl ?_));rintro b i x1 d rfl a;by_cases hl:i<x.n
 .exact Ah (Ac (Bl (a hl _ (Bq))))
 exact Bk ⟨_,rfl,rfl⟩
def Ya (a:3000000<=N){p:B8}{c:Int}{x:IW}(hx:Q9 N p c=some (x,0))(h1:x.Bad.n<=16128)(b:x.Swaps.n<=10000):U7 N p c x=some (true,0):=by unfold U7;rw[hx,Option.bind_some,Ej (show ¬((0:Int) != 0)=true by decide)];dsimp only;rw[AE1 (by omega) (by omega),Option.bind_some,AE2 (by omega) (by omega)];rfl
def AR7 (c:3000000<=N){p:B8}(hp:Ac9 N p){v k a b:Nat}(j:v<p.History.Tree.n)(hk:k+1<(p.History.On.g v).n)(ha:a<p.Entries.n)(hb:b<(p.Entries.g a).Forms.n) :CB N p ⟨(v:Int),(k:Int),(a:Int),(b:Int)⟩=some (rgB N p (lnV N p.History) ⟨(a:Int),(b:Int)⟩ && !rgB N p (lnV N (swV N p.History ⟨(v:Int),(k:Int)⟩)) ⟨(a:Int),(b:Int)⟩,0):=by
 have i:=hp.hist;have f:=hp.ents;have l:=f.pn;have m:=f.fn a ha;obtain⟨s1,s2,s3⟩:=AR1 c i j hk;obtain⟨l1,l2⟩:=AD0 c (AI4 i);obtain⟨m1,m2⟩:=AD0 c s3;rw[s2]at m2;have d:=(f.pf a (by omega)).1;have hs:W4 N p ⟨(v:Int),(k:Int),(a:Int),(b:Int)⟩=some (swV N p.History ⟨(v:Int),(k:Int)⟩,0):=by
  unfold W4;show (K0 N p.History (v:Int) (k:Int)).bind _=_;rw[s1,Option.bind_some];dsimp only;rw[lt,Ej (by decide),Fs,Dq (λ_ _ _=>by omega),Option.bind_some,Int.toNat_natCast]
  have:((((decide (0<=(a:Int)))&&(decide ((a:Int)<(p.Entries.n:Int))))&&(decide (0<=(b:Int))))&&(decide ((b:Int)<((p.Entries.g a).Forms.n:Int))))=true:=by simp;omega
  rw[this];rfl
 unfold CB;rw[hp.chk,Option.bind_some,Ej (by decide),hs,Option.bind_some,Ej (show ¬((0:Int) != 0)=true by decide)];dsimp only;have h1:=l2.1;have o:=m2.1;rw[Dq (by rw[Int.toNat_natCast];omega),l1,Option.bind_some,Ce,Int.toNat_natCast,Int.toNat_natCast,AC8 c d (l2.2 b),Option.bind_some];cases rgB N p (lnV N p.History) ⟨(a:Int),(b:Int)⟩
 .rfl
 rw[Dq rfl,m1,Option.bind_some,Ce,AC8 c d (m2.2 b),Option.bind_some];rfl
end Go.AM
namespace Go.AM
open Go.Proofs
def Bc3 {α : Type}{s:Sl α}{a:Nat}{x : α}{L:List α}(h:s.toList.drop a=x::L):a<s.n/\s.g a=x/\s.toList.drop (a+1)=L:=by
 have h1:a<s.n:=by
  have:=congrArg List.length h
  rw[Bf9,PF,Bh0]at this;omega
 refine⟨h1,?_,?_⟩
 .have b:(s.toList.drop a)[0]? = some x:=by rw[h];rfl
  rw[Bj6]at b;simpa[Sl.toList,h1]using b
 have:=congrArg (List.drop 1) h
 rw[Bo8]at this;simpa using this
def PN {x:Al2}(hx:Aq2 x){pr:Int}(hpr:∃k:Nat,pr=(k:Int)/\k<65536):Cc 4194304 x pr=some true:=by
 have hN:3000000<=4194304:=by omega
 refine Zh ?_;obtain⟨⟨p,ok⟩,r1,r2⟩:=AD9 hx;unfold Cc;refine C0 r1 ?_;by_cases hr:ok=true
 case neg=>exact ifT (by simpa using hr) ⟨true,by rw[RK];rfl,rfl⟩
 have hp:=r2 hr;refine ifF (by simp[hr]) ?_;clear r1 r2;dsimp only at hp⊢;have hh:=hp.hist;have he:=hp.ents;have hon:=hh.on;have h63:=Kj hh.tree;have ht63:=hh.tree.2.1;have hn:=he.n;obtain⟨k,rfl,hk⟩:=hpr;rw[E3 (by omega) (by omega)];obtain⟨Q,s,q1,q2,q3,q4⟩:=AR4 hN hp;obtain⟨b0,b1,b2⟩:=q4 0 (by omega);obtain⟨b,c1,c2⟩:=q4 (k:Int) (by omega);have hbn:b.n=Q.length:=by rw[<- PF,c2,Bh9]
 have hsn:s.n<=10000:=by
  rw[<- PF,q3];have h1:=Ap4 (N:=4194304) (p:=p) (De (rwH p.History) p.History.On.n 0);have h2:=IH (w:=rwH p.History) (m:=p.History.On.n) (i:=0) λa hx=>by have:=hh.row a (by omega);show (p.History.On.g a).n-1<=63;omega
  omega
 refine C0 c1 (C0 (Ya hN c1 (by show b.n<=_;omega) hsn) (C0 (AE0 hN q2 b1 b2 (c:=⟨b,s⟩) c2) (Bl ?_)));dsimp only;refine U8 (λv (at_:Int) vv=>vv=(v:Int)/\∃a:Nat,at_=(a:Int)/\a<=s.n/\s.toList.drop a=(De (rwH p.History) (p.History.On.n-v) v).flatMap (pkS 4194304 p)) p.History.On.n _ (by omega) ⟨rfl,0,rfl,Bl6 _,q3⟩ ?_;rintro self27 v at_ vv hv ⟨rfl,a,rfl,hle,ha⟩ hs27;by_cases t:v<p.History.On.n
 case neg=>
  obtain rfl:v=p.History.On.n:=by omega
  rw[Bu9]at ha;have ha:s.toList.drop a=[]:=ha
  have:s.n<=a:=by rw[<- PF];exact List.drop_eq_nil_iff.1 ha
  exact Bl (ltX (Ah ⟨true,by rw[RK];rfl,rfl⟩))
 have ho:=hh.row v t;refine ifT (by simpa using t) ?_;obtain⟨m,hm⟩:∃m,p.History.On.n-v=m+1:=⟨p.History.On.n-v-1,by omega⟩;rw[hm]at ha;refine U8 (λi (at_:Int) ii=>ii=(i:Int)/\∃a:Nat,at_=(a:Int)/\a<=s.n/\s.toList.drop a=(Ae0 v (rwH p.History v-i) i++De (rwH p.History) m (v+1)).flatMap (pkS 4194304 p)) (rwH p.History v) _ (by show (p.History.On.g v).n-1<_;omega) ⟨rfl,a,rfl,hle,ha⟩ ?_;clear ha hle;rintro f i at_ ii hi ⟨rfl,a,rfl,hle,ha⟩ hs36;have hi:i<=(p.History.On.g v).n-1:=hi;refine Ac ?_;rw[Bq,Int.toNat_natCast];by_cases hli:i+1<(p.History.On.g v).n
 case neg=>
  have e:rwH p.History v-i=0:=by show (p.History.On.g v).n-1-i=0;omega
  rw[e]at ha;exact Bk (hs27 t _ _ ⟨Bq,a,rfl,hle,by rw[ha,show p.History.On.n-(v+1)=m by omega];rfl⟩)
 refine Ah ?_;obtain⟨w,hw⟩:∃w,rwH p.History v-i=w+1:=⟨(p.History.On.g v).n-1-i-1,by show (p.History.On.g v).n-1-i=_;omega⟩;have hw' : (p.History.On.g v).n-1-i=w+1:=hw;rw[hw,Ae0,Bg9,Bt3]at ha;have hT:=λ(n j:Nat) (hn:n<p.Entries.n) (y:j<(p.Entries.g n).Forms.n)=>AR7 hN hp (v:=v) (k:=i) (by omega) hli hn y;generalize hP:(λr=>rgB 4194304 p (lnV 4194304 p.History) r && !rgB 4194304 p (lnV 4194304 (swV 4194304 p.History ⟨(v:Int),(i:Int)⟩)) r)=P;have hT':=λ(n j:Nat) (hn:n<p.Entries.n) (y:j<(p.Entries.g n).Forms.n)=>(hT n j hn y).trans (show _=some (P ⟨(n:Int),(j:Int)⟩,0) by rw[<- hP]);have hpk:pkF 4194304 p ⟨(v:Int),(i:Int)⟩=(De (fwE p) p.Entries.n 0).find? P:=by rw[<- hP];rfl
 generalize hZ:(Ae0 v w (i+1)++De (rwH p.History) m (v+1)).flatMap (pkS 4194304 p)=Z at ha;have nx:∀a' : Nat,a' <= s.n/\s.toList.drop a' = Z->∃r,f (a' : Int) ((i+1:Nat):Int)=some r/\r=true:=λa' h=>hs36 (by show i<(p.History.On.g v).n-1;omega) _ _ ⟨rfl,a',rfl,h.1,by rw[h.2,<- hZ,show rwH p.History v-(i+1)=w by show (p.History.On.g v).n-1-(i+1)=w;omega]⟩;refine XP (λn (at_:Int) (fd:Bool) nn=>nn=(n:Int)/\((fd=false/\at_=(a:Int)/\(De (fwE p) (p.Entries.n-n) n).find? P=pkF 4194304 p ⟨(v:Int),(i:Int)⟩) \/ (fd=true/\at_=((a+1:Nat):Int)/\(a+1<=s.n/\s.toList.drop (a+1)=Z)))) p.Entries.n _ (by omega) ⟨rfl,.inl ⟨rfl,rfl,hpk.symm⟩⟩ ?_;rintro l n at_ fd nn hn' ⟨rfl,d⟩ hs39;rcases d with⟨rfl,rfl,d⟩ | ⟨rfl,rfl,d⟩
 case inr=>exact Bl (nx (a+1) d)
 by_cases o:n<p.Entries.n
 case neg=>
  obtain rfl:n=p.Entries.n:=by omega
  rw[Bu9]at d;have d:none=pkF 4194304 p ⟨(v:Int),(i:Int)⟩:=d;refine Bl (nx a ⟨hle,?_⟩);rw[ha,pkS,<- d];rfl
 refine ifT (by simpa using o) ?_;have hF:=he.fn n o;obtain⟨u,hu⟩:∃u,p.Entries.n-n=u+1:=⟨p.Entries.n-n-1,by omega⟩;rw[hu]at d;refine XP (λj (at_:Int) (fd:Bool) jj=>jj=(j:Int)/\((fd=false/\at_=(a:Int)/\(Ae0 n (fwE p n-j) j++De (fwE p) u (n+1)).find? P=pkF 4194304 p ⟨(v:Int),(i:Int)⟩) \/ (fd=true/\at_=((a+1:Nat):Int)/\(a+1<=s.n/\s.toList.drop (a+1)=Z)))) (fwE p n) _ (by show (p.Entries.g n).Forms.n<_;omega) ⟨rfl,.inl ⟨rfl,rfl,d⟩⟩ ?_;clear d;rintro self40 j at_ fd jj y ⟨rfl,d⟩ q;have y:j<=(p.Entries.g n).Forms.n:=y;refine Ac ?_;rw[F7 (i:=n) (by omega),Int.toNat_natCast];have out:∀(at_:Int) (fd:Bool),((fd=false/\at_=(a:Int)/\(De (fwE p) (p.Entries.n-(n+1)) (n+1)).find? P=pkF 4194304 p ⟨(v:Int),(i:Int)⟩) \/ (fd=true/\at_=((a+1:Nat):Int)/\(a+1<=s.n/\s.toList.drop (a+1)=Z)))->∃r,l at_ fd ((n+1:Nat):Int)=some r/\r=true:=λat_ fd h=>hs39 o _ _ _ ⟨rfl,h⟩;rcases d with⟨rfl,rfl,d⟩ | ⟨rfl,rfl,d⟩
 case inr=>exact Bl (out _ _ (.inr ⟨rfl,rfl,d⟩))
 by_cases hlj:j<(p.Entries.g n).Forms.n
 case neg=>
  have e:fwE p n-j=0:=by show (p.Entries.g n).Forms.n-j=0;omega
  rw[e]at d;exact Bk (out _ _ (.inl ⟨rfl,rfl,by rw[show p.Entries.n-(n+1)=u by omega];exact d⟩))
 refine ifT (by simpa using hlj) (C0 (hT' n j o hlj) (ifF (show ¬((0:Int) != 0)=true by decide) ?_));obtain⟨z,hz⟩:∃z,fwE p n-j=z+1:=⟨(p.Entries.g n).Forms.n-j-1,by show (p.Entries.g n).Forms.n-j=_;omega⟩;have hz' : (p.Entries.g n).Forms.n-j=z+1:=hz;rw[hz,Ae0,Bg9,List.find?_cons]at d;dsimp only;by_cases hb:P ⟨(n:Int),(j:Int)⟩=true
 case neg=>
  have hb:P ⟨(n:Int),(j:Int)⟩=false:=by simpa using hb
  rw[hb]at d;exact ifF (by simp[hb]) (q (by show j<(p.Entries.g n).Forms.n;omega) _ _ _ ⟨Bq,.inl ⟨rfl,rfl,by rw[<- d,show fwE p n-(j+1)=z by show (p.Entries.g n).Forms.n-(j+1)=z;omega]⟩⟩)
 rw[hb]at d;have d:some (⟨(n:Int),(j:Int)⟩:B5)=pkF 4194304 p ⟨(v:Int),(i:Int)⟩:=d;rw[pkS,<- d]at ha;obtain⟨g1,g2,g3⟩:=Bc3 (s:=s) (a:=a) ha;refine ifT hb (Bk (Ac (ifF ?_ (q (by show j<(p.Entries.g n).Forms.n;omega) _ _ _ ⟨Bq,.inr ⟨rfl,Bq,g1,g3⟩⟩))));rw[Int.toNat_natCast,g2];simp
end Go.AM
