/- Part 9. -/
import Derived.Test.YtcoileenpgjmoaaGreatDoorLF
import Derived.Test.YtcoileenpgjmoaaGreatDoorLG
import Derived.Test.YtcoileenpgjmoaaGreatDoorLH
import Derived.Test.YtcoileenpgjmoaaGreatDoorLD
import Derived.Lib.SplitLaws
import Derived.Lib.Join
import Derived.Lib.ItoaNum
set_option linter.defProp false
set_option linter.unusedSimpArgs false
set_option linter.unusedVariables false
set_option linter.unusedSectionVars false
namespace Go.AM
def Lf:=@Option.bind_some
def Kk:=@Int.toNat_natCast
def Fb:=@decide_eq_true_eq
def Dn{c:Prop}{i:Decidable c}{α:Sort _}{a b:α}(h:¬c:=by simp;omega):(if c then a else b)=b:=Er h
def Cj{c:Prop}{i:Decidable c}{α:Sort _}{a b:α}(h:¬c:=by omega):(if c then a else b)=b:=Er h
def Ch{c:Prop}{i:Decidable c}{α:Sort _}{a b:α}(h:c:=by simp;omega):(if c then a else b)=a:=Ej h
def Ce{c:Prop}{i:Decidable c}{α:Sort _}{a b:α}(h:c:=by omega):(if c then a else b)=a:=Ej h
open IntKind (wrap)
def Bs0:=@List.mem_append
def Bs7:=@Classical.axiomOfChoice
def Bu9:=@BitVec.getLsbD_or
def Bv1:=@List.length_filter_le
def Bw0:=@List.reverse_append
def Bw2:=@BitVec.getLsbD_and
def Bw3:=@UInt8.toNat_ofNat'
def Bx5:=@BitVec.eq_of_getLsbD_eq
def Bx6:=@Nat.testBit_two_pow_mul
def Bx7:=@List.cons.inj
def Bx8:=@Go.Lib.count_one
def Bx9:=@List.not_mem_nil
def By5:=@Nat.testBit_lt_two_pow
def By6:=@List.reverse_singleton
def Bz0:=@List.singleton_append
def Bz5:=@BitVec.getLsbD_of_ge
def Bz6:=@List.mem_of_mem_take
def BB0:=@BitVec.getLsbD_not
def BB1:=@Nat.lt_of_le_of_lt
def BB2:=@List.count_eq_zero
open Go.Proofs
def AD6 {A R:Type}{body:(A->Option R)->A->Option R}(I:Nat->A->Prop)(n:Nat)(M8:R->Prop)
 (b:∀self i a,i<=n->I i a->(i<n->∀a',I (i+1) a' -> ∃r,self a' = some r/\M8 r)->∃r,body self a=some r/\M8 r) :
 ∀(N i:Nat) (a:A),i<=n->I i a->n-i<N->∃r,W8 N body a=some r/\M8 r
 |0,_,_,_,_,h=>by omega
 |N+1,i,a,hi,hI,h=>by rw[I3];exact b _ i a hi hI λc a' d=>AD6 I n M8 b N (i+1) a' c d (by omega)
def FC {A R:Type}{body:(A->Option R)->A->Option R}(I:Nat->A->Prop)(n:Nat)(M8:R->Prop){N:Nat}(c:n<N){a:A}(d:I 0 a)
 (b:∀self i a,i<=n->I i a->(i<n->∀a',I (i+1) a' -> ∃r,self a' = some r/\M8 r)->∃r,body self a=some r/\M8 r):∃r,W8 N body a=some r/\M8 r:=
 AD6 I n M8 b N 0 a (Bp2 _) d c
def W7 {A B R:Type}{body:(A->B->Option R)->A->B->Option R}(I:Nat->A->B->Prop)(n:Nat)(M8:R->Prop){N:Nat}(g:n<N){a:A}{b:B}(j:I 0 a b)
 (d:∀c i a b,i<=n->I i a b->(i<n->∀a' b',I (i+1) a' b' -> ∃r,c a' b' = some r/\M8 r)->∃r,body c a b=some r/\M8 r):∃r,Bx N body a b=some r/\M8 r:=
 AD6 (λi x=>I i x.1 x.2) n M8 (λc i x l m h=>d (λa b=>c (a,b)) i x.1 x.2 l m λhl a' b' f=>h hl (a',b') f) N 0 (a,b) (Bp2 _) j g
def Ao9 {A B C R:Type}{body:(A->B->C->Option R)->A->B->C->Option R}(I:Nat->A->B->C->Prop)(n:Nat)(M8:R->Prop){N:Nat}(j:n<N){a:A}{b:B}{c:C}(l:I 0 a b c)
 (f:∀d i a b c,i<=n->I i a b c->(i<n->∀a' b' c',I (i+1) a' b' c' -> ∃r,d a' b' c' = some r/\M8 r)->∃r,body d a b c=some r/\M8 r):∃r,Ay9 N body a b c=some r/\M8 r:=
 AD6 (λi x=>I i x.1 x.2.1 x.2.2) n M8 (λd i x m o h=>f (λa b c=>d (a,b,c)) i x.1 x.2.1 x.2.2 m o λhl a' b' c' g=>h hl (a',b',c') g) N 0 (a,b,c) (Bp2 _) l j
def B9 {X R:Type}{Q:R->Prop}{o:Option X}{f:X->Option R}{x:X}(h:o=some x)(a:∃r,f x=some r/\Q r):∃r,o.bind f=some r/\Q r:=by subst h;exact a
def ltX {R A:Type}{Q:R->Prop}{k:A->Option R}{f:(A->Option R)->Option R}(h:∃r,f k=some r/\Q r):∃r,lt k f=some r/\Q r:=h
def ifT {R:Type}{Q:R->Prop}{p:Prop}[Decidable p]{a b:Option R}(h:p)(c:∃r,a=some r/\Q r):∃r,(if p then a else b)=some r/\Q r:=by rw[Ej h];exact c
def Aq{R:Type}{Q:R->Prop}{p:Prop}[Decidable p]{a b:Option R}(h2:∃ r,a=some r/\Q r)(h:p:=by decide):∃ r,(if p then a else b)=some r/\Q r:=ifT h h2
def Ai{R:Type}{Q:R->Prop}{p:Prop}[Decidable p]{a b:Option R}(h2:∃ r,a=some r/\Q r)(h:p:=by simp):∃ r,(if p then a else b)=some r/\Q r:=ifT h h2
def Ah{R:Type}{Q:R->Prop}{p:Prop}[Decidable p]{a b:Option R}(h2:∃ r,a=some r/\Q r)(h:p:=by simp;omega):∃ r,(if p then a else b)=some r/\Q r:=ifT h h2
def Ac{R:Type}{Q:R->Prop}{p:Prop}[Decidable p]{a b:Option R}(h2:∃ r,a=some r/\Q r)(h:p:=by omega):∃ r,(if p then a else b)=some r/\Q r:=ifT h h2
def ifF {R:Type}{Q:R->Prop}{p:Prop}[Decidable p]{a b:Option R}(h:¬p)(c:∃r,b=some r/\Q r):∃r,(if p then a else b)=some r/\Q r:=by rw[Er h];exact c
def Bm{R:Type}{Q:R->Prop}{p:Prop}[Decidable p]{a b:Option R}(h2:∃ r,b=some r/\Q r)(h:¬p:=by decide):∃ r,(if p then a else b)=some r/\Q r:=ifF h h2
def Bi{R:Type}{Q:R->Prop}{p:Prop}[Decidable p]{a b:Option R}(h2:∃ r,b=some r/\Q r)(h:¬p:=by simp):∃ r,(if p then a else b)=some r/\Q r:=ifF h h2
def Bh{R:Type}{Q:R->Prop}{p:Prop}[Decidable p]{a b:Option R}(h2:∃ r,b=some r/\Q r)(h:¬p:=by simp;omega):∃ r,(if p then a else b)=some r/\Q r:=ifF h h2
def Ar{R:Type}{Q:R->Prop}{p:Prop}[Decidable p]{a b:Option R}(h2:∃ r,b=some r/\Q r)(h:¬p:=by omega):∃ r,(if p then a else b)=some r/\Q r:=ifF h h2
def E2 {n:Int}(h : -9223372036854775808<=n)(h' : n<=9223372036854775807):IntKind.i64.wrap n=n:=by
 by_cases a:0<=n
 .have h1:n % (2 ^ 64:Int)=n:=Bo9 a (by omega);unfold wrap;simp only[IntKind.bits,IntKind.signed,h1];rw[Er];simp;omega
 have h1:n % (2 ^ 64:Int)=n+2 ^ 64:=by rw[<- Int.add_emod_right];exact Bo9 (by omega) (by omega)
 unfold wrap;simp only[IntKind.bits,IntKind.signed,h1];rw[Ej]
 .omega
 simp;omega
def Lm {n:Int}(h : -9223372036854775808<=n:=by omega)(k : n<=9223372036854775807:=by omega) :IntKind.i64.wrap n=n:=E2 h k
def F5 {i:Nat}(h:i<1000000000000000000):IntKind.i64.wrap ((i:Int)+1)=((i+1:Nat):Int):=by rw[Lm];rfl
def Bn{i:Nat}(h:i<1000000000000000000:=by omega):IntKind.i64.wrap ((i:Int)+1)=((i+1:Nat):Int):=F5 h
def Ap0 {i:Nat}(a:1<=i)(h:i<1000000000000000000):IntKind.i64.wrap ((i:Int)-1)=((i-1:Nat):Int):=by rw[Lm];omega
def PK {i j:Nat}(h:i+j<1000000000000000000):IntKind.i64.wrap ((i:Int)+(j:Int))=((i+j:Nat):Int):=by rw[Lm];rfl
end Go.AM
namespace Go.AM
variable {N:Nat}
open Go.Proofs
abbrev sOf (x y:BitVec 32):Jf:=⟨(x.toNat:Int),(y.toNat:Int)⟩
def okS (s:Jf):Prop:=∃p m:BitVec 32,s=sOf p m
def eq0 (x:BitVec 32):((x.toNat:Int)==0)=decide (x=0#32):=by
 rw[Bt7];simp only[beq_iff_eq,Fb];constructor
 .intro h;apply Bp0;show x.toNat=0;omega
 rintro rfl;rfl
def z32 (x:BitVec 32):x=0#32 ↔ ∀i,i<32->x.getLsbD i=false:=by
 constructor
 .rintro rfl i a;simp
 intro h;apply Bx5;intro i a;rw[h i a];simp
def Ap1 (x:BitVec 32):x.toNat<16777216 ↔ ∀i,24<=i->i<32->x.getLsbD i=false:=by
 constructor
 .intro h i a b;exact By5 (Bk3 h (Bu0 (n:=2) (i:=24) (by omega) a))
 intro h;refine Nat.lt_pow_two_of_testBit (n:=24) _ λi a=>?_;by_cases c:i<32
 .exact h i a c
 exact By5 (Bk3 x.isLt (Bu0 (by omega) (by omega)))
def vB (p m:BitVec 32):Bool:=decide (∀i:Fin 32,¬(p.getLsbD i=true/\m.getLsbD i=true)/\(24<=i.1->p.getLsbD i=false/\m.getLsbD i=false))
def AK1 (p m:BitVec 32):vB p m=true ↔ ∀i,i<32->¬(p.getLsbD i=true/\m.getLsbD i=true)/\(24<=i->p.getLsbD i=false/\m.getLsbD i=false):=by rw[vB,Fb];exact⟨λh i a=>h ⟨i,a⟩,λh i=>h i.1 i.2⟩
def AD7 (p m:BitVec 32):p &&& m=0#32 ↔ ∀i,i<32->¬(p.getLsbD i=true/\m.getLsbD i=true):=by rw[z32];refine forall_congr' λi=>forall_congr' λa=>?_;rw[Bw2,Bool.and_eq_false_iff];cases p.getLsbD i<;>cases m.getLsbD i<;>simp
def Bd8 (p m:BitVec 32):vB p m=true↔p &&& m=0#32/\(p ||| m).toNat<16777216:=by
 rw[AK1,AD7,Ap1];constructor
 .intro h;refine⟨λi a=>(h i a).1,λi h1 b=>?_⟩
  have:=(h i b).2 h1
  rw[Bu9,this.1,this.2];rfl
 rintro⟨h1,b⟩ i a;refine⟨h1 i a,λc=>?_⟩
 have:=b i c a
 rw[Bu9,Bool.or_eq_false_iff]at this;exact this
def Dc (p m:BitVec 32):H7 N (sOf p m)=some (vB p m):=by unfold H7;rw[SH,YR,eq0];congr 1;rw[Bt7,Bd8];simp only[Bi1,Fb];exact⟨λh=>⟨h.1,by have:=h.2;omega⟩,λh=>⟨h.1,by have:=h.2;omega⟩⟩
def shr24 (x:BitVec 32):(shI .shr .u32 (x.toNat:Int) 24==0)=decide (x.toNat<16777216):=by
 rw[show (24:Int)=((24:Nat):Int) from rfl,AI9,Bt7];simp only[beq_iff_eq,Fb,Bx0,Bw4]
 have:=Nat.div_eq_zero_iff (a:=x.toNat) (b:=2 ^ 24)
 omega
def Wd (p m:BitVec 32):Cy N (sOf p m)=some (vB p m):=by unfold Cy;rw[SH,YR,eq0,shr24];congr 1;rw[Bt7,Bd8];simp only[Bi1,Fb]
def We (p m:BitVec 32):R5 N (sOf p m)=some (vB p m):=Wd (N:=N) p m
def Au3 (x y s:BitVec 32):BitVec 32:=(x &&& ~~~ s) ||| (y &&& s)
def AK2 (p m a b s:BitVec 32):Dp N (sOf p m) (sOf a b) (s.toNat:Int)=some (sOf (Au3 p a s) (Au3 m b s)):=by unfold Dp;simp only[Ab6,SH,YR,Au3]
def chgE (p m c a b:BitVec 32):Jf×Int:=if vB p m=true/\vB a b then (if c.toNat<16777216/\c &&& (a ||| b)=0#32 then (sOf (Au3 p a (c ||| (a ||| b))) (Au3 m b (c ||| (a ||| b))),0)else (⟨0,0⟩,2))else (⟨0,0⟩,14)
def Ae3 (p m c a b:BitVec 32):Z6 N (sOf p m) (c.toNat:Int) (sOf a b)=some (chgE p m c a b):=by
 unfold Z6 chgE;rw[Dc];simp only[Lf,lt,Dc,Fg,YR,SH,AK2];cases h1:vB p m
 .simp
 cases g:vB a b
 .simp
 by_cases d:c.toNat<16777216
 .have e:((c &&& (a ||| b)).toNat:Int) != 0 ↔ ¬(c &&& (a ||| b)=0#32):=by
   have:=eq0 (c &&& (a ||| b))
   simp only[bne_iff_ne,ne_eq];rw[<- Fb (p:=c &&& (a ||| b)=0#32),<- this];simp
  by_cases f:c &&& (a ||| b)=0#32
  .simp[d,f];omega
  have e':=e.2 f;rw[Er (by simp<;>omega),e'];simp[d,f]
 simp[d];omega
def takE (p m a b s:BitVec 32):Jf×Int:=if vB p m=true/\vB a b then (if s.toNat<16777216 then (sOf (Au3 p a s) (Au3 m b s),0)else (⟨0,0⟩,2))else (⟨0,0⟩,14)
def AD8 (p m a b s:BitVec 32):Cx N (sOf p m) (sOf a b) (s.toNat:Int)=some (takE p m a b s):=by
 unfold Cx takE;rw[Dc];simp only[Lf,lt,Dc,AK2];cases h1:vB p m
 .simp
 cases d:vB a b
 .simp
 by_cases c:s.toNat<16777216
 .simp[c];omega
 simp[c];omega
end Go.AM
namespace Go.AM
open Go.Proofs
def vS (s:Jf):Prop:=∃p m:BitVec 32,s=sOf p m/\vB p m=true
def TM (p:Pat):Prop:= (0<=p.Kind/\p.Kind<=6)/\(p.Kind≠1->(p.Is.Plus=0/\p.Is.Minus=0)/\p.Not=false)/\(p.Kind≠3->p.Kind≠4->p.Kind≠5->p.L.n=0)/\(p.Kind≠5->p.Min=0/\p.Max=0) /\ (p.Kind=5->p.L.n=1/\0<=p.Min/\p.Min<=32/\(p.Max = -1 \/ (p.Min<=p.Max/\p.Max<=32)))/\vS p.Is
def Ap2 {s:Jf}{p m:BitVec 32}(h:s=sOf p m):vS s↔vB p m=true:=by
 constructor
 .rintro⟨q,r,e,a⟩;rw[h]at e;have e1:(p.toNat:Int)=q.toNat:=congrArg Jf.Plus e;have e2:(m.toNat:Int)=r.toNat:=congrArg Jf.Minus e;rw[Bp0 (show p.toNat=q.toNat by omega),Bp0 (show m.toNat=r.toNat by omega)];exact a
 exact λa=>⟨p,m,h,a⟩
def okPS:Pat->Prop
 |.nil=>True
 |.mk _ is _ _ _ n g=>okS is/\∀i,i<n->okPS (g i)
def okPS.is {p:Pat}(h:okPS p):okS p.Is:=by
 cases p with
 |nil=>exact⟨0#32,0#32,rfl⟩
 |mk _ is _ _ _ n g=>exact h.1
def okPS.L {p:Pat}(h:okPS p){i:Nat}(a:i<p.L.n):okPS (p.L.g i):=by
 cases p with
 |nil=>exact Es a (by show ¬i<0;omega)
 |mk _ is _ _ _ n g=>exact h.2 i a
def chk:Nat->List Pat->Prop
 |0,l=>l=[]
 |_+1,[]=>True
 |k+1,p::l=>TM p/\chk k (p.L.toList++l)
def AS5:∀k,chk k []
 |0=>rfl
 |_+1=>trivial
def TN:∀(k:Nat) (l:List Pat),chk k l->l.length<=k
 |0,l,h=>by rw[show l=[] from h];exact Bi3 _
 |k+1,[],_=>Bp2 _
 |k+1,p::l,⟨_,h⟩=>by
  have:=TN k _ h
  rw[Bi9]at this;simp only[Bk7];omega
def Ae4 {α : Type}{s:Sl α}{i:Nat}(h:i<s.n):s.g i∈s.toList:=Bl2.2 ⟨i,Bl7.2 h,rfl⟩
def GE {α : Type}(s:Sl α):s.toList.length=s.n:=by simp[Sl.toList]
def Ye {α : Type}(s:Sl α){i:Nat}(h:i<s.n):s.toList.drop i=s.g i::s.toList.drop (i+1):=by
 have hl:i<s.toList.length:=by rw[GE];exact h
 rw[Br4 hl];simp[Sl.toList]
def PL {α : Type}(s:Sl α):s.toList.drop s.n=[]:=Bp5 (by rw[GE];exact Bi3 _)
end Go.AM
namespace Go.AM
open Go.Proofs
def Ap3 (x:BitVec 64)(h:x≠0#64):Lib.ctz 64 x.toNat<64/\x.getLsbD (Lib.ctz 64 x.toNat)=true/\∀j,j<Lib.ctz 64 x.toNat->x.getLsbD j=false:=by
 have b:x.toNat≠0:=λe=>h (Bp0 (by simpa using e));obtain⟨m,hm,a⟩:=Lib.ctzFrom_spec 64 x.toNat (by omega) x.isLt;have e:Lib.ctz 64 x.toNat=Lib.ctzFrom 64 x.toNat:=by unfold Lib.ctz;rw[Er b]
 rw[e];refine⟨a,?_,λj c=>?_⟩
 .show x.toNat.testBit _=true;rw[hm,Bx6];simp[<- hm,Nat.testBit_zero]
 show x.toNat.testBit _=false;rw[hm,Bx6];simp[<- hm];omega
def Hl (x:BitVec 64)(i:Nat):List Int:=((List.range' i (64-i)).filter λj=>x.getLsbD j).map λ(j:Nat)=>(j:Int)
def RR {x:BitVec 64}{i:Nat}(h:∀j,j<64->x.getLsbD j=false):Hl x i=[]:=by
 unfold Hl;rw[List.filter_eq_nil_iff.2 λj a=>by
  have:=List.mem_range'.1 a
  simp;exact h j (by omega)]
 rfl
def RU {x:BitVec 64}{t:Nat}:∀(k i:Nat),t=i+k->t<64->x.getLsbD t=true->(∀j,j<t->x.getLsbD j=false)->Hl x i=(t:Int)::Hl x (t+1)
 |0,i,h,ht,hb,hl=>by
  obtain rfl:t=i:=by omega
  unfold Hl;rw[show 64-t=(64-(t+1))+1 by omega,Bv2,List.filter_cons_of_pos hb];rfl
 |k+1,i,h,ht,hb,hl=>by rw[<- RU k (i+1) (by omega) ht hb hl];unfold Hl;rw[show 64-i=(64-(i+1))+1 by omega,Bv2,List.filter_cons_of_neg (by simp;exact hl i (by omega))]
def Yf {x y:BitVec 64}{i:Nat}(h:∀j,i<=j->x.getLsbD j=y.getLsbD j):Hl x i=Hl y i:=by unfold Hl;rw[List.filter_congr λj a=>h j (by have:=List.mem_range'.1 a;omega)]
def Bh5 (M:Nat)(a:Int->Option (List Int))(x1:Int):Option (List Int):= if (x1 != 0) then (I5 M x1).bind λy3=>if (0:Int)<=y3 then Ag y3 (a (P2 .andNot .u64 x1 (shI .shl .u64 1 y3))) else none else some []
def Ap4 {x:BitVec 64}{M:Nat}{a:Int->Option (List Int)}(hx:x≠0#64):Bh5 M a (U x)=Ag ((Lib.ctz 64 x.toNat:Nat):Int) (a (U (x &&& ~~~(1#64 <<< Lib.ctz 64 x.toNat)))):=by
 have c:x.toNat≠0:=λe=>hx (Bp0 (by simpa using e));have b:=x.isLt;unfold Bh5;rw[Ch]
 have:I5 M (U x)=some ((Lib.ctz 64 x.toNat:Nat):Int):=by unfold I5;rw[Ej ⟨show (0:Int)<=(x.toNat:Int) by omega,show (x.toNat:Int)<18446744073709551616 by omega⟩];rfl
 rw[this,Lf,Ce,AC8 _ (Ap3 x hx).1,AC7]
def Wf {M:Nat}{a:Int->Option (List Int)}:Bh5 M a (U 0#64)=some []:=rfl
def AS6 (M:Nat):∀(k i:Nat) (x:BitVec 64),64-i<=k->(∀j,j<i->x.getLsbD j=false)->∀N,k<N->W8 N (Bh5 M) (U x)=some (Hl x i):=by
 intro k
 induction k with
 |zero=>
  intro i x hk hl N b;have g:x=0#64:=Bx5 λj a=>by simp;exact hl j (by omega)
  subst g
  match N,b with
  |N+1,_=>rw[RR λj a=>by simp,I3,Wf]
 |succ k ih=>
  intro i x hk hl N b
  match N,b with
  |N+1,b=>
   by_cases hx:x=0#64
   .subst hx;rw[RR λj a=>by simp,I3,Wf]
   obtain⟨h1,c,d⟩:=Ap3 x hx;have l:i<=Lib.ctz 64 x.toNat:=by
    by_cases m:Lib.ctz 64 x.toNat<i
    .rw[hl _ m]at c;cases c
    omega
   rw[RU (Lib.ctz 64 x.toNat-i) i (by omega) h1 c d,I3,Ap4 hx];generalize Lib.ctz 64 x.toNat=t at h1 c d l;have hb:∀j,j<64->(x &&& ~~~(1#64 <<< t)).getLsbD j=(x.getLsbD j && !decide (j=t)):=λj a=>by rw[Bw2,BB0,Ao3 h1 a];simp[a]
   have hc:Hl x (t+1)=Hl (x &&& ~~~(1#64 <<< t)) (t+1):=Yf λj a=>by
    by_cases f:j<64
    .rw[hb j f];have:¬j=t:=by omega
     simp[this]
    rw[Bz5 _ _ (by omega),Bz5 _ _ (by omega)]
   rw[ih (t+1) (x &&& ~~~(1#64 <<< t)) (by omega) (λj a=>by
    rw[hb j (by omega)];by_cases e:j=t
    .simp[e]
    rw[d j (by omega)];rfl) N (by omega),<- hc]
   rfl
def PM (x:BitVec 64){N:Nat}(b:100<=N):T5 N (U x)=some (Hl x 0):=
 AS6 N 64 0 x (by omega) (λj a=>Es a (by omega)) N (by omega)
def mem_bitsF {x:BitVec 64}{i:Nat}{y:Int}:y∈Hl x i ↔ ∃j:Nat,y=(j:Int)/\i<=j/\j<64/\x.getLsbD j=true:=by
 unfold Hl;simp only[Bl2,Bt4,List.mem_range'_1];constructor
 .rintro⟨j,⟨h1,a⟩,rfl⟩;exact⟨j,rfl,h1.1,by omega,a⟩
 rintro⟨j,rfl,h1,a,b⟩;exact⟨j,⟨⟨h1,by omega⟩,b⟩,rfl⟩
def Wg {T A R:Type}{body:(A->Option R)->T->A->Option R}{k:A->Option R}{M8:R->Prop}(J:List T->A->Prop)(c:∀a,J [] a->∃r,k a=some r/\M8 r)
 (b:∀t L a self,J (t::L) a->(∀a',J L a' -> ∃r,self a' = some r/\M8 r)->∃r,body self t a=some r/\M8 r):∀(L:List T) (a:A),J L a->∃r,T4 L body k a=some r/\M8 r
 |[],a,h=>c a h
 |t::L,a,h=>b t L a _ h λa' h'=>Wg J c b L a' h'
def AD9 (f:Nat->Int)(i:Nat)(v:Int)(a:Nat):OG f i v a=if a=i then v else f a:=rfl
def UB (n:Nat)(z:BitVec 64):Prop:=∀b,b<64->z.getLsbD b=true->b<=n
def TU (n:Nat)(f:Nat->Int):Prop:=∀a,∃z:BitVec 64,f a=U z/\UB n z
def TU.zero (n:Nat):TU n (λ_=>0):=λa=>⟨0#64,rfl,λb _ h=>by simp at h⟩
def TU.upd {n:Nat}{f:Nat->Int}(h:TU n f)(i:Nat){z:BitVec 64}(b:UB n z):TU n (OG f i (U z)):=λa=>by
 rw[AD9];split
 .exact⟨z,rfl,b⟩
 exact h a
def UB.or {n:Nat}{u v:BitVec 64}(h:UB n u)(g:UB n v):UB n (u ||| v):=λb hb e=>by rw[Bu9,Bn5]at e;exact e.elim (h b hb) (g b hb)
def UB.one {n k:Nat}(h:k<=n)(hn:n<64):UB n (1#64 <<< k):=λb hb e=>by rw[Ao3 (by omega) hb,Fb]at e;omega
def Bd9 {N n:Nat}{x y:Nat->Int}(c:1000<=N)(hx:TU n x)(hy:TU n y):∃s,P5 N x y=some s/\TU n s:=by
 unfold P5;refine W7 (λi x1 x2=>x2=(i:Int)/\TU n x1) 33 _ (by omega) ⟨rfl,hx⟩ ?_;rintro b i x1 x2 d ⟨rfl,a⟩ hs;by_cases hl:i<33
 .refine Ah (Ac (Ac (hs (by omega) _ _ ⟨Bn,?_⟩)));obtain⟨u,e1,g1⟩:=a (0+(i:Int).toNat*1);obtain⟨v,e2,g2⟩:=hy (0+(i:Int).toNat*1);rw[e1,e2,or64];exact a.upd _ (g1.or g2)
 exact Bh ⟨x1,rfl,a⟩
def Ks {N n:Nat}(hn:n<=32)(c:1000<=N):∃s,S8 N (n:Int)=some s/\TU n s:=by
 unfold S8;rw[Bn];refine W7 (λi x1 x2=>x2=(i:Int)/\TU n x1) (n+1) _ (by omega) ⟨rfl,TU.zero n⟩ ?_;rintro a i x1 x2 d ⟨rfl,b⟩ hs;by_cases hl:i<=n
 .refine Ah (Ac (hs (by omega) _ _ ⟨Bn,?_⟩));rw[AC8 _ (by omega)];exact b.upd _ (UB.one hl (by omega))
 exact Bh ⟨x1,rfl,b⟩
def TO {N n:Nat}{x y:Nat->Int}(hn:n<=32)(q:1000<=N)(hx:TU n x)(hy:TU n y):∃s,F1 N x y=some s/\TU n s:=by
 unfold F1;refine W7 (λi x3 x4=>x4=(i:Int)/\TU n x3) 33 _ (by omega) ⟨rfl,TU.zero n⟩ ?_;rintro g i x3 x4 r ⟨rfl,l⟩ hs;by_cases hl:i<33
 .refine Ah (Ac ?_);obtain⟨u,e1,g1⟩:=hx (0+(i:Int).toNat*1);refine B9 rfl (B9 (x:=Hl u 0) (by rw[e1];exact PM u (by omega)) ?_);refine Wg (λL z=>TU n z/\∀t∈L,∃c:Nat,t=(c:Int)/\c<=n) ?_ ?_ _ _ ⟨l,λt ht=>?_⟩
  .exact λz m=>hs (by omega) _ _ ⟨Bn,m.1⟩
  .rintro t L z d ⟨k1,k2⟩ f;obtain⟨c,rfl,hc⟩:=k2 t (by simp);refine Ac (f _ ⟨?_,λt ht=>k2 t (by simp[ht])⟩);obtain⟨a,e2,g2⟩:=k1 (0+(i:Int).toNat*1);obtain⟨b,e3,g3⟩:=hy (0+(c:Int).toNat*1);rw[e2,e3,or64];exact k1.upd _ (g2.or g3)
  obtain⟨j,rfl,_,o,hb⟩:=mem_bitsF.1 ht;exact⟨j,rfl,g1 j o hb⟩
 exact Bh ⟨x3,rfl,l⟩
def AE0 (N:Nat)(x:Nat->Int):P0 N x=F1 N x x:=rfl
end Go.AM
namespace Go.AM
variable {N:Nat}
open Go.Proofs
def Be0:∀m:Fin 33,shI .shr .i64 ((m.val:Nat):Int) 1=((m.val / 2:Nat):Int):=by decide +kernel
def Zp {N n:Nat}{x:Nat->Int}(hn:n<=32)(d:1000<=N)(hx:TU n x){k:Nat}(hk:k<=32):∃s,G4 N x (k:Int) (n:Int)=some s/\TU n s:=by
 unfold G4;obtain⟨y1,e1,h1⟩:=Ks (N:=N) hn d;refine B9 e1 ?_;refine Ao9 (λi x1 x2 x3=>x1=((k / 2 ^ i:Nat):Int)/\TU n x2/\TU n x3) 6 _ (by omega) ⟨by simp,hx,h1⟩ ?_;rintro l i x1 x2 x3 m ⟨rfl,f,g⟩ hs;have hm:k / 2 ^ i<=32:=Bm1 (Nat.div_le_self _ _) hk;have b2:=Be0 ⟨k / 2 ^ i,by omega⟩;simp only at b2;have a:k / 2 ^ i / 2=k / 2 ^ (i+1):=by rw[Nat.div_div_eq_div_mul,Nat.pow_succ]
 obtain⟨sq,esq,b⟩:=TO hn d f f;rw[<- AE0]at esq;by_cases j:k / 2 ^ i=0
 .exact ifF (by simp[j]) ⟨x3,rfl,g⟩
 have c:i<6:=by
  by_cases h:i<6
  .exact h
  exact Es (Bs8 (BB1 hk (Bk3 (by decide:32<2 ^ 6) (Bu0 (by omega) (by omega))))) j
 refine ifT (decide_eq_true (Int.natCast_pos.2 (BA1 j))) ?_;obtain⟨t,et,ht⟩:=TO hn d g f;split
 .exact B9 et (B9 esq (hs c _ _ _ ⟨by rw[b2,a],b,ht⟩))
 exact B9 esq (hs c _ _ _ ⟨by rw[b2,a],b,g⟩)
def AE1 (d:1000<=N){w:Sl Jf}(hw:w.n<=32)(c:Jf)(no:Bool):∃f,Aw N ⟨c,no⟩ w=some f/\TU w.n f:=by
 unfold Aw;refine W7 (λi x1 x2=>x2=(i:Int)/\TU w.n x1) w.n _ (by omega) ⟨rfl,TU.zero _⟩ ?_;rintro b i x1 x2 g ⟨rfl,a⟩ hs;by_cases hl:i<w.n
 .refine Ah (Ac ?_);rw[Bn];split
  .refine Ac (hs hl _ _ ⟨rfl,?_⟩);rw[AC8 _ (by omega)];exact a.upd _ (UB.one (by omega) (by omega))
  exact hs hl _ _ ⟨rfl,a⟩
 exact Bh ⟨x1,rfl,a⟩
def Ap5 {w:Sl Jf}(hw:w.n<=32)(e:Bool):∃f,BO N ⟨e⟩ w=some f/\TU w.n f:=by
 unfold BO;cases e
 .exact Bi (Aq ⟨_,rfl,(TU.zero w.n).upd 0 (z:=1#64 <<< 0) (UB.one (by omega) (by omega))⟩)
 refine ifT rfl (Ac ⟨_,rfl,?_⟩);rw[AC8 _ (by omega)];exact (TU.zero w.n).upd _ (UB.one (by omega) (by omega))
def Be1 (a:1000<=N){w:Sl Jf}(hw:w.n<=32){rec:Part->Sl Jf->Option (Nat->Int)}{m:Nat}(hm:m<=40){g:Nat->Part}
 (hc:∀i,i<m->∃f,rec (g i) w=some f/\TU w.n f):∃f,CR rec N ⟨⟨m,g⟩⟩ w=some f/\TU w.n f:=by
 unfold CR;obtain⟨y1,e1,h1⟩:=Ks (N:=N) hw a;refine B9 e1 ?_;refine W7 (λi x1 x2=>x2=(i:Int)/\TU w.n x1) m _ (by omega) ⟨rfl,h1⟩ ?_;rintro b i x1 x2 l ⟨rfl,c⟩ hs;by_cases hl:i<m
 .refine Ah (ifT (by show (0:Int)<=i/\(i:Int)<m;omega) ?_);obtain⟨f,e2,d⟩:=hc i hl;obtain⟨s,e3,j⟩:=TO hw a c d;exact B9 (by rw[Kk];exact e2) (B9 e3 (hs hl _ _ ⟨Bn,j⟩))
 exact Bh ⟨x1,rfl,c⟩
def Be2 (c:1000<=N){w:Sl Jf}{rec:Part->Sl Jf->Option (Nat->Int)}{m:Nat}(hm:m<=40){g:Nat->Part}
 (hc:∀i,i<m->∃f,rec (g i) w=some f/\TU w.n f):∃f,CS rec N ⟨⟨m,g⟩⟩ w=some f/\TU w.n f:=by
 unfold CS;refine W7 (λi x1 x2=>x2=(i:Int)/\TU w.n x1) m _ (by omega) ⟨rfl,TU.zero _⟩ ?_;rintro a i x1 x2 l ⟨rfl,b⟩ hs;by_cases hl:i<m
 .refine Ah (ifT (by show (0:Int)<=i/\(i:Int)<m;omega) ?_);obtain⟨f,e2,d⟩:=hc i hl;obtain⟨s,e3,j⟩:=Bd9 c b d;exact B9 (by rw[Kk];exact e2) (B9 e3 (hs hl _ _ ⟨Bn,j⟩))
 exact Bh ⟨x1,rfl,b⟩
def Be3 (a:1000<=N){w:Sl Jf}(hw:w.n<=32){rec:Part->Sl Jf->Option (Nat->Int)}{pt:Part}{f:Nat->Int}(d:rec pt w=some f)(c:TU w.n f)
 {mn mx:Int}(i:0<=mn) (h1:mn<=32) (j:mx = -1 \/ (mn<=mx/\mx<=32)):∃s,CT rec N ⟨pt,mn,mx⟩ w=some s/\TU w.n s:=by
 obtain⟨m,rfl⟩:∃m:Nat,mn=(m:Int):=⟨mn.toNat,by omega⟩;unfold CT;refine B9 d ?_;obtain⟨y2,e2,t2⟩:=Zp hw a c (k:=m) (by omega);refine B9 e2 ?_;obtain⟨y3,e3,t3⟩:=Ks (N:=N) hw a;refine B9 e3 ?_;obtain⟨y4,e4,t4⟩:=Bd9 a c t3;refine B9 e4 ?_;have key:∀(K:Nat),K<=32->∃s,((G4 N y4 (K:Int) (w.n:Int)).bind λy5=>(F1 N y2 y5).bind λy6=>some y6)=some s/\TU w.n s:=by intro K g;obtain⟨y5,e5,t5⟩:=Zp hw a t4 (k:=K) g;obtain⟨y6,e6,t6⟩:=TO hw a t2 t5;exact B9 e5 (B9 e6 ⟨y6,rfl,t6⟩)
 by_cases hx:mx<0
 .exact ifT (decide_eq_true hx) (key w.n hw)
 refine ifF (by simpa using hx) ?_;obtain⟨M,rfl⟩:∃M:Nat,mx=(M:Int):=⟨mx.toNat,by omega⟩;have b:IntKind.i64.wrap ((M:Int)-(m:Int))=((M-m:Nat):Int):=by rw[Lm];omega
 rw[show IntKind.i64.wrap ((⟨pt,(m:Int),(M:Int)⟩:Bc8).max-(⟨pt,(m:Int),(M:Int)⟩:Bc8).min)=((M-m:Nat):Int) from b];exact key (M-m) (by omega)
def okQ:Nat->Pat->Prop
 |0,_=>False
 |d+1,p=>TM p/\p.L.n<=40/\∀i,i<p.L.n->okQ d (p.L.g i)
def Zq:∀(d:Nat) (p:Pat),okQ d p->okQ (d+1) p
 |0,_,h=>h.elim
 |d+1,p,⟨h1,h2,h3⟩=>⟨h1,h2,λi a=>Zq d _ (h3 i a)⟩
def TP:∀(k:Nat) (l:List Pat),k<=40->chk k l->∀p∈l,okQ k p
 |0,l,_,h,p,hp=>by rw[show l=[] from h]at hp;cases hp
 |k+1,[],_,_,p,hp=>by cases hp
 |k+1,q::l,hk,⟨hn,h⟩,p,hp=>by
  have ih:=TP k _ (by omega) h;rcases Bj7.1 hp with rfl|hp
  .have hl:=TN k _ h;rw[Bi9,GE]at hl;exact⟨hn,by omega,λi a=>ih _ (Bl0 _ (Ae4 a))⟩
  exact Zq k p (ih p (Bk2 _ hp))
def vS.ok {s:Jf}(h:vS s):okS s:=by obtain⟨p,m,e,_⟩:=h;exact⟨p,m,e⟩
def AE2 (K:Nat)(pt:Part):Prop:=∀(w:Sl Jf),w.n<=32->∀M,K<=M->∃f,BQ M pt w=some f/\TU w.n f
def RV {N:Nat}(q:1000<=N):∀(d:Nat),d<=40->∀(p:Pat),okQ d p->∀M,N+d<=M->∃pt,BP M p=some pt/\AE2 (N+d) pt
 |0,_,p,h,_,_=>h.elim
 |d+1,hd,p,⟨hn,hc,hch⟩,0,hM=>by omega
 |d+1,hd,p,⟨hn,hc,hch⟩,M+1,hM=>by
  show ∃pt,Y9 (BP M) M p=some pt/\_;unfold Y9;refine W7 (λi x1 x2=>x2=(i:Int)/\x1.n=i/\∀j,j<i->AE2 (N+d) (x1.g j)) p.L.n _ (by omega) ⟨rfl,rfl,λj c=>Es c (by omega)⟩ ?_;rintro l i x1 x2 o ⟨rfl,t,b⟩ hs;by_cases hl:i<p.L.n
  .refine Ah (Ac ?_);obtain⟨pt,e,s⟩:=RV q d (by omega) (p.L.g i) (hch i hl) M (by omega);refine B9 (by rw[Kk];exact e) ?_;refine ifT (by show (x1.n+1)*16<=_/\x1.n+1<=_;omega) (hs hl _ _ ⟨Bn,by show x1.n+1=i+1;omega,λj c=>?_⟩);show AE2 _ (if j<x1.n then x1.g j else pt);split
   .exact b j (by omega)
   exact s
  obtain rfl:i=p.L.n:=by omega
  have fin:∀(pt:Part),(∀(w:Sl Jf),w.n<=32->∀M,N+d<=M->∃f,BQ (M+1) pt w=some f/\TU w.n f)->∃r,some pt=some r/\AE2 (N+(d+1)) r:=by intro pt h;refine⟨pt,rfl,λw hw M' a=>?_⟩;obtain⟨M'',rfl⟩:∃M'',M' = M'' + 1:=⟨M' - 1,by omega⟩;exact h w hw M'' (by omega)
  refine Bi ?_;by_cases k1:p.Kind=1
  .exact ifT (by simp[k1]) (fin _ λw hw M' a=>AE1 (N:=M') (by omega) hw _ _)
  refine ifF (by simp[k1]) ?_;by_cases k2:p.Kind=2
  .exact ifT (by simp[k2]) (fin _ λw hw M' a=>Ap5 (N:=M') hw false)
  refine ifF (by simp[k2]) ?_;by_cases k6:p.Kind=6
  .exact ifT (by simp[k6]) (fin _ λw hw M' a=>Ap5 (N:=M') hw true)
  refine ifF (by simp[k6]) ?_;by_cases k4:p.Kind=4
  .exact ifT (by simp[k4]) (fin _ λw hw M' a=>Be2 (N:=M') (by omega) (rec:=BQ M') (m:=x1.n) (g:=x1.g) (by omega) λi o=>b i (by omega) w hw M' (by omega))
  refine ifF (by simp[k4]) ?_;by_cases k5:p.Kind=5
  .obtain⟨g1,g2,g3,g4⟩:=hn.2.2.2.2.1 k5;refine ifT (by simp[k5]) (Ac (fin _ λw hw M' a=>?_));obtain⟨f,e,h⟩:=b 0 (by omega) w hw M' (by omega);exact Be3 (N:=M') (by omega) hw (rec:=BQ M') e h g2 g3 g4
  exact ifF (by simp[k5]) (fin _ λw hw M' a=>Be1 (N:=M') (by omega) hw (rec:=BQ M') (m:=x1.n) (g:=x1.g) (by omega) λi o=>b i (by omega) w hw M' (by omega))
end Go.AM
namespace Go.AM
variable {N:Nat}
open IntKind (wrap)
open Go.Proofs
def Ae5 {p:Pat}(hp:okS p.Is):∃e,BM N p=some e/\(e=0↔TM p):=by
 obtain⟨a,b,i⟩:=hp;have m:=Ap2 i;have V:R5 N p.Is=some (vB a b):=by rw[i];exact We a b
 have e0:((p.Is.Plus==0)&&(p.Is.Minus==0))=decide (p.Is.Plus=0/\p.Is.Minus=0):=by rw[Bt7];simp
 have fin:(TM p↔vS p.Is)->∃e,((R5 N p.Is).bind λy1=>if (!y1) then some (14:Int)else some 0)=some e/\(e=0↔TM p):=by
  intro c;rw[V];refine B9 rfl ?_;rw[c,m];cases vB a b
  .exact ifT rfl ⟨14,rfl,by simp⟩
  exact Bi ⟨0,rfl,by simp⟩
 have bad:∀{x:Int},x≠0->¬TM p->∃e,some x=some e/\(e=0↔TM p):=λhx h=>⟨_,rfl,λd=>Es d hx,λd=>Es d h⟩;unfold BM;by_cases hk:p.Kind=0 \/ p.Kind=2 \/ p.Kind=6
 .refine ifT (by rcases hk with h|h|h<;>simp[h]) (ltX ?_);rw[e0];by_cases g1:p.Is.Plus=0/\p.Is.Minus=0
  case neg=>exact ifT (by simp[g1]) (ifT rfl (bad (by decide) λh=>g1 (h.2.1 (by omega)).1))
  refine ifF (by simp[g1]) ?_;by_cases g2:p.Not=true
  .exact ifT g2 (ifT rfl (bad (by decide) λh=>by have:=(h.2.1 (by omega)).2;rw[g2]at this;cases this))
  refine ifF g2 ?_;by_cases g3:p.Min=0
  case neg=>exact ifT (by simp[g3]) (ifT rfl (bad (by decide) λh=>g3 (h.2.2.2.1 (by omega)).1))
  refine ifF (by simp[g3]) ?_;by_cases g4:p.Max=0
  case neg=>exact ifT (by simp[g4]) (ifT rfl (bad (by decide) λh=>g4 (h.2.2.2.1 (by omega)).2))
  refine ifF (by simp[g4]) ?_;by_cases g5:p.L.n=0
  case neg=>exact Ah (bad (by decide) λh=>g5 (h.2.2.1 (by omega) (by omega) (by omega)))
  refine Bh (fin ?_);exact⟨λh=>h.2.2.2.2.2,λh=>⟨by omega,λ_=>⟨g1,by simpa using g2⟩,λ_ _ _=>g5,λ_=>⟨g3,g4⟩,λf=>by omega,h⟩⟩
 refine ifF (by simp only[not_or]at hk;simp[hk]) ?_;by_cases k1:p.Kind=1
 .refine ifT (by simp[k1]) (ltX ?_);refine Bi ?_;by_cases g3:p.Min=0
  case neg=>exact ifT (by simp[g3]) (ifT rfl (bad (by decide) λh=>g3 (h.2.2.2.1 (by omega)).1))
  refine ifF (by simp[g3]) ?_;by_cases g4:p.Max=0
  case neg=>exact ifT (by simp[g4]) (ifT rfl (bad (by decide) λh=>g4 (h.2.2.2.1 (by omega)).2))
  refine ifF (by simp[g4]) ?_;by_cases g5:p.L.n=0
  case neg=>exact Ah (bad (by decide) λh=>g5 (h.2.2.1 (by omega) (by omega) (by omega)))
  refine Bh (fin ?_);exact⟨λh=>h.2.2.2.2.2,λh=>⟨by omega,λh1=>Es k1 h1,λ_ _ _=>g5,λ_=>⟨g3,g4⟩,λf=>by omega,h⟩⟩
 refine ifF (by simp[k1]) (ltX ?_);rw[e0];have tail:∀(x y:Int),(TM p↔(p.Is.Plus=0/\p.Is.Minus=0)/\p.Not=false/\x=0/\y=0/\vS p.Is)->∃e,(if (((((decide (p.Is.Plus=0/\p.Is.Minus=0) != true)||p.Not)||(x != 0))||(y != 0))||(decide (0<0))) then some (2:Int)else
  (R5 N p.Is).bind λy3=>if (!y3) then some 14 else some 0)=some e/\(e=0↔TM p):=by
  intro x y c;by_cases g:(p.Is.Plus=0/\p.Is.Minus=0)/\p.Not=false/\x=0/\y=0
  .obtain⟨g1,g2,g3,g4⟩:=g;exact ifF (by simp[g1,g2,g3,g4]) (fin (c.trans ⟨λh=>h.2.2.2.2,λh=>⟨g1,g2,g3,g4,h⟩⟩))
  refine ifT ?_ (bad (by decide) λh=>g ⟨(c.1 h).1,(c.1 h).2.1,(c.1 h).2.2.1,(c.1 h).2.2.2.1⟩);simp only[Bn5,bne_iff_ne,ne_eq,Fb];by_cases g1:p.Is.Plus=0/\p.Is.Minus=0
  .by_cases g2:p.Not=true
   .simp[g2]
   by_cases g3:x=0
   .have:¬y=0:=λg4=>g ⟨g1,by simpa using g2,g3,g4⟩
    simp[this]
   simp[g3]
  simp[g1]
 by_cases k34:p.Kind=3 \/ p.Kind=4
 .refine ifT (by rcases k34 with h|h<;>simp[h]) (tail _ _ ?_);constructor
  .exact λh=>⟨(h.2.1 k1).1,(h.2.1 k1).2,(h.2.2.2.1 (by omega)).1,(h.2.2.2.1 (by omega)).2,h.2.2.2.2.2⟩
  rintro⟨h1,d,j,l,f⟩;exact⟨by omega,λ_=>⟨h1,d⟩,λh h'=>by omega,λ_=>⟨j,l⟩,λh=>by omega,f⟩
 refine ifF (by simp only[not_or]at k34;simp[k34]) ?_;by_cases k5:p.Kind=5
 .refine ifT (by simp[k5]) ?_;by_cases g:p.L.n=1/\0<=p.Min/\p.Min<=32/\(p.Max = -1 \/ (p.Min<=p.Max/\p.Max<=32))
  .refine ifF (by simp only[Bn5,Bi1,bne_iff_ne,ne_eq,Fb];omega) (tail 0 0 ?_);constructor
   .exact λh=>⟨(h.2.1 k1).1,(h.2.1 k1).2,rfl,rfl,h.2.2.2.2.2⟩
   rintro⟨h1,d,j,l,f⟩;exact⟨by omega,λ_=>⟨h1,d⟩,λ_ _ h=>Es k5 h,λh=>Es k5 h,λ_=>g,f⟩
  exact ifT (by simp only[Bn5,Bi1,bne_iff_ne,ne_eq,Fb];omega) (bad (by decide) λh=>g (h.2.2.2.2.1 k5))
 exact ifF (by simp[k5]) (bad (by decide) λh=>by have:=h.1;omega)
def Ap6 {x:Sl Pat}{m:Nat}(h:x.n=m+1):x.toList.reverse=x.g m::(x.take m).toList.reverse:=by unfold Sl.toList;rw[h,Bt6,Br9,Bw0];rfl
def AE3 (z:Sl Pat)(q:Pat):((z.push Pat.nil).upd z.n q).toList.reverse=q::z.toList.reverse:=by
 rw[Ap6 (m:=z.n) rfl];have e1:((z.push Pat.nil).upd z.n q).g z.n=q:=by simp
 have e2:(((z.push Pat.nil).upd z.n q).take z.n).toList=z.toList:=by
  unfold Sl.toList;refine Bl3 λi a=>?_
  have:i<z.n:=Bl7.1 a
  show (if i=z.n then q else if i<z.n then z.g i else Pat.nil)=z.g i;rw[Cj,Ej this]
 rw[e1,e2]
def Yg (q:Sl Pat)(c:q.n<N)(hs:q.n<1000000):E1 N q=some ((List.range q.n).reverse.map λ(i:Nat)=>((i:Int),q.g i)):=by
 unfold E1;have h:∀(m:Nat),m<=q.n->∀F,m<F->W8 F (λ(a:Int->Option (List (Int×Pat))) (x1:Int)=>
  if (decide (0<=x1)) then
   if ((0:Int)<=x1/\x1<(q.n:Int))then
    Ag (x1,q.g x1.toNat) (
     a (wrap .i64 (x1-1))
     )
   else none
  else
   some []) ((m:Int)-1)=some ((List.range m).reverse.map λ(i:Nat)=>((i:Int),q.g i)):=by
  intro m
  induction m with
  |zero=>
   intro _ F b
   match F,b with
   |F+1,_=>rfl
  |succ m ih=>
   intro hm F b
   match F,b with
   |F+1,b=>rw[I3];rw[show ((m+1:Nat):Int)-1=(m:Int) by omega,Ej (by simp),Ce,Lm,ih (by omega) F (by omega),Kk,Bt6,Bw0,By6,Bz0,Bj8];rfl
 rw[Lm];exact h q.n (Bi3 _) N c
def AS7 {k:Nat}(hk:k<=40){c:Sl Pat}{l:List Pat}:chk k ((c.take (min 41 c.n)).toList++l)↔chk k (c.toList++l):=by
 by_cases h:c.n<=41
 .rw[Nat.min_eq_right h]
 constructor
 .intro a
  have:=TN _ _ a
  rw[Bi9,GE]at this
  have:(c.take (min 41 c.n)).n=41:=Br7 (by omega)
  omega
 intro a
 have:=TN _ _ a
 rw[Bi9,GE]at this;omega
def TQ (hN:2000<=N){p:Pat}(hp:okPS p):∃e,Ax N p=some e/\(e=0↔chk 40 [p]):=by
 unfold Ax;refine W7 (λi x3 x4=>x4=(i:Int)/\x3.n<=1+41*i/\(∀q∈x3.toList.reverse,okPS q)/\(chk 40 [p]↔chk (40-i) x3.toList.reverse)) 40 _ (by omega)
  ⟨rfl,by show 1<=_;omega,λq l=>by rw[show (Sl.of [p]:Sl Pat).toList.reverse=[p] from rfl]at l;rw[Bm6.1 l];exact hp,Bu2⟩ ?_
 rintro x i x3 x4 hi ⟨rfl,h1,c,f⟩ hs;rcases hn:x3.n with _|m
 .refine Bi ⟨0,rfl,λ_=>f.2 ?_,λ_=>rfl⟩
  have:x3.toList.reverse=[]:=by unfold Sl.toList;rw[hn];rfl
  rw[this];exact AS5 _
 rw[Ap6 hn]at f c;refine ifT (decide_eq_true (by omega)) ?_;by_cases r:i=40
 .subst r;refine Ai ⟨12,rfl,λh=>Es h (by decide),λh=>?_⟩
  have:(x3.g m::(x3.take m).toList.reverse)=[]:=f.1 h
  cases this
 refine Bh ?_;have hw:IntKind.i64.wrap (((m+1:Nat):Int)-1)=(m:Int):=by rw[Lm];omega
 simp only[hw,Kk];refine Ac (Ac ?_);obtain⟨e,y,a⟩:=Ae5 (N:=N) (c (x3.g m) (by simp)).is;refine B9 y ?_;rw[show 40-i=(39-i)+1 by omega]at f;by_cases o:e=0
 case neg=>exact ifT (by simp[o]) ⟨e,rfl,λh=>Es h o,λh=>Es (a.2 (f.1 h).1) o⟩
 refine ifF (by simp[o]) ?_;have hc:(if (41:Int)<((x3.g m).L.n:Int)then (41:Int)else ((x3.g m).L.n:Int))=((min 41 (x3.g m).L.n:Nat):Int):=by split<;>omega
 simp only[hc,Kk];refine Ac (B9 rfl (B9 (Yg _ (by show min 41 _<N;omega) (by show min 41 _<1000000;omega)) ?_));generalize s:(x3.g m).L.take (min 41 (x3.g m).L.n)=C;have a0:C.n<=41:=by rw[<- s];exact Nat.min_le_left _ _
 refine Wg (λL z=>∃j,j<=C.n/\L=((List.range j).reverse.map λ(i:Nat)=>((i:Int),C.g i))/\z.n=m+(C.n-j)/\z.toList.reverse=C.toList.drop j++(x3.take m).toList.reverse) ?_ ?_ _ _ ⟨C.n,Bi3 _,rfl,by show m=_;omega,by rw[PL];rfl⟩
 .rintro z ⟨j,hj,hL,hz,b⟩;have u:j=0:=by
   cases j with
   |zero=>rfl
   |succ j=>simp[Bt6]at hL
  subst u;rw[Bw5]at b;refine hs (by omega) _ _ ⟨Bn,by omega,λq l=>?_,?_⟩
  .rw[b]at l;rcases Bs0.1 l with h|h
   .obtain⟨i',d,rfl⟩:=Bl2.1 h;have d:=Bl7.1 d;rw[<- s]at d⊢;exact (c (x3.g m) (by simp)).L (Bk3 d (Nat.min_le_right _ _))
   exact c q (by simp[h])
  rw[b,f,show 40-(i+1)=39-i by omega,<- s,AS7 (by omega)];exact⟨λh=>h.2,λh=>⟨a.1 o,h⟩⟩
 rintro t L z v ⟨j,hj,hL,hz,b⟩ w;cases j with
 |zero=>simp at hL
 |succ j=>rw[Bt6,Bw0,By6,Bz0,Bj8]at hL;obtain⟨rfl,rfl⟩:=Bx7 hL;have e1:(z.n:Int).toNat=z.n:=Kk _;refine ifT ⟨⟨⟨by show (z.n+1)*64<=_;omega,by show z.n+1<=_;omega⟩,by show (0:Int)<=_/\(z.n:Int)<((z.n+1:Nat):Int);omega⟩,by show z.n<z.n+1;omega⟩ ?_;refine w _ ⟨j,by omega,rfl,by show z.n+1=_;omega,?_⟩;rw[AE3,b,Ye C (i:=j) (by omega),Bk9]
end Go.AM
namespace Go.AM
open IntKind (wrap)
open Go.Proofs
def wOk (w:Sl Jf):Prop:=w.n<=32/\∀i,i<w.n->vS (w.g i)
def Nb {N:Nat}{w:Sl Jf}(m:w.n<N)(hs:w.n<1000000){f:Jf->Option Bool}{b:Nat->Bool}(o:∀i,i<w.n->f (w.g i)=some (b i)) :∃r,B8 N w f=some r/\(r=true ↔ ∃i,i<w.n/\b i=true):=by
 unfold B8 F0
 have:∃y,W8 N (λ(a:Int->Option Int) (x1:Int)=>
  if (decide (x1<(w.n:Int))) then
   if ((0:Int)<=x1/\x1<(w.n:Int))then
    (f (w.g x1.toNat)).bind λy3=>
    if y3 then
     some x1
    else
     a (wrap .i64 (x1+1))
   else none
  else
   some (-1)) 0=some y/\(0<=y ↔ ∃i,i<w.n/\b i=true):=by
  refine FC (λi x1=>x1=(i:Int)/\∀j,j<i->b j=false) w.n _ m ⟨rfl,λj c=>Es c (by omega)⟩ ?_;rintro l i x1 q ⟨rfl,h⟩ d;by_cases hl:i<w.n
  .refine Ah (Ac (B9 (by rw[Kk];exact o i hl) ?_));cases hb:b i
   .refine Bi (d hl _ ⟨Bn,λj c=>?_⟩);by_cases e:j=i
    .subst e;exact hb
    exact h j (by omega)
   exact ifT rfl ⟨i,rfl,λ_=>⟨i,hl,hb⟩,λ_=>by omega⟩
  refine Bh ⟨-1,rfl,λh=>Es h (by decide),?_⟩;rintro⟨j,c,hb⟩;rw[h j (by omega)]at hb;cases hb
 obtain⟨y,e,hy⟩:=this;exact B9 e ⟨_,rfl,by rw[Fb];exact hy⟩
def Wh {N:Nat}(v:3000<=N){p:Pat}(hp:okPS p){w:Sl Jf}(hs:w.n<1000000/\w.n+1000<N)(hw:∀i,i<w.n->okS (w.g i)) :∃r,AW N p w=some r/\(r.2=0->wOk w/\TU w.n r.1):=by
 unfold AW;obtain⟨e,d,hc⟩:=TQ (N:=N) (by omega) hp;refine B9 d ?_;by_cases j:e=0
 case neg=>exact ifT (by simp[j]) ⟨_,rfl,λh=>Es h j⟩
 refine ifF (by simp[j]) ?_;by_cases hn:32<w.n
 .exact Ah ⟨_,rfl,λh=>Es h (by decide)⟩
 refine Bh ?_;have q:∀i,∃b:Bool,i<w.n->W3 N (w.g i)=some b/\(b=true ↔ ¬vS (w.g i)):=by
  intro i;by_cases a:i<w.n
  .obtain⟨x,y,d⟩:=hw i a;refine⟨!vB x y,λ_=>⟨?_,?_⟩⟩
   .unfold W3;rw[d,We];rfl
   rw[Ap2 d];cases vB x y<;>simp
  exact⟨false,λh=>Es h a⟩
 obtain⟨b,hb⟩:=Bs7 q;obtain⟨r,s,l⟩:=Nb (N:=N) (by omega) hs.1 (f:=λu1=>W3 N u1) λi a=>(hb i a).1;refine B9 s ?_;by_cases c:r=true
 .exact ifT c ⟨_,rfl,λh=>Es h (by decide)⟩
 refine ifF c ?_;have m:wOk w:=⟨by omega,λi a=>Bm4 λo=>c (l.2 ⟨i,a,(hb i a).2.2 o⟩)⟩;obtain⟨pt,ep,t⟩:=RV (N:=1000) (by omega) 40 (Bi3 _) p (TP 40 [p] (Bi3 _) (hc.1 j) p (by simp)) N (by omega);obtain⟨f,ef,u⟩:=t w (by omega) N (by omega);exact B9 ep (B9 ef ⟨_,rfl,λ_=>⟨m,u⟩⟩)
end Go.AM
namespace Go.AM
variable {N:Nat}
open Go.Proofs
def Ap7 (f:3000<=N){p:Pat}(hp:okPS p){w:Sl Jf}(hs:w.n<1000000/\w.n+1000<N)(hw:∀i,i<w.n->okS (w.g i))(k:Nat) :∃r,CU N p w (k:Int)=some r/\(r.1.n≠0->wOk w):=by
 unfold CU;obtain⟨y,e,h1⟩:=Wh f hp hs hw;refine B9 e (ltX ?_);by_cases c:y.2=0
 case neg=>exact ifF (by simp[c]) (ifT (by simp[c]) ⟨_,rfl,λh=>Es rfl h⟩)
 refine ifT (by simp[c]) ?_;obtain⟨a,j⟩:=h1 c;have hn:=a.1;unfold AS;split
 .exact B9 rfl (Aq ⟨_,rfl,λh=>Es rfl h⟩)
 refine B9 rfl (Bi ?_);rw[Bn];refine W7 (λi x2 x3=>x3=(i:Int)/\x2.n<=i) (w.n+1) _ (by omega) ⟨rfl,Bi3 _⟩ ?_;rintro d i x2 x3 l ⟨rfl,g1⟩ b;by_cases hl:i<=w.n
 .refine Ah (Ac ?_);split
  .exact ifT (by show (x2.n+1)*8<=_/\x2.n+1<=_;omega) (b (by omega) _ _ ⟨Bn,by show x2.n+1<=_;omega⟩)
  exact b (by omega) _ _ ⟨Bn,by omega⟩
 exact Bh ⟨_,rfl,λ_=>a⟩
def Yh (L:List Int)(hL:L.length<1000):∃s,P1 N L=some s/\s.n=L.length:=by
 unfold P1 J6
 have:∃s:Sl Int,T4 L (λ(a:Sl Int->Option (Sl Int)) (x1:Int) (z1:Sl Int)=>
  if (Kh 8 (z1.n+(Sl.of [x1]:Sl Int).n))then
   a (z1.push x1)
  else none
  ) (λ(z1:Sl Int)=>some z1) Iv=some s/\s.n=L.length:=by
  refine Wg (λl z=>z.n+l.length=L.length) (λz h=>⟨z,rfl,by simpa using h⟩) (λt l z b h hs=>?_) L _ (by simp);simp only[Bk7]at h;exact ifT (by show (z.n+1)*8<=_/\z.n+1<=_;omega) (hs _ (by show z.n+1+l.length=_;omega))
 obtain⟨s,e,hn⟩:=this;exact B9 e ⟨s,rfl,hn⟩
def AS8 (c:3000<=N){p:Pat}(hp:okPS p){w:Sl Jf}(hs:w.n<1000000/\w.n+1000<N)(hw:∀i,i<w.n->okS (w.g i))(k:Nat) :∃r,Fi N p w (k:Int)=some r/\(r.1.n≠0->k<=w.n):=by
 unfold Fi;obtain⟨y,e,h1⟩:=Wh c hp hs hw;refine B9 e (ltX ?_);by_cases a:y.2=0
 case neg=>exact ifF (by simp[a]) (ifT (by simp[a]) ⟨_,rfl,λh=>Es rfl h⟩)
 refine ifT (by simp[a]) ?_;obtain⟨b,d⟩:=h1 a;have hn:=b.1;unfold AS;by_cases f:w.n<k
 .rw[Ch];exact B9 rfl (Aq ⟨_,rfl,λh=>Es rfl h⟩)
 rw[Dn];refine B9 rfl (Bi (Ac ?_));obtain⟨u,e1,g1⟩:=d (0+(k:Int).toNat*1);refine B9 rfl (B9 (x:=Hl u 0) (by rw[e1];exact PM u (by omega)) ?_);obtain⟨s,es,_⟩:=Yh (N:=N) (Hl u 0) (by unfold Hl;rw[Bk6];exact BB1 (Bv1 _ _) (by simp))
 exact B9 es ⟨_,rfl,λ_=>by omega⟩
end Go.AM
namespace Go.AM
open IntKind (wrap)
open Go.Proofs
def Be4 (w:Sl Jf)(e:Int):Prop:=(32<w.n/\e=11) \/ (w.n<=32/\(∃i,i<w.n/\¬vS (w.g i))/\e=14) \/ (wOk w/\e=0)
def Be5 {w:Sl Jf}{e e' : Int}(h:Be4 w e)(h' : Be4 w e'):e=e':=by
 rcases h with⟨h1,a⟩ | ⟨h1,⟨i,b,c⟩,a⟩ | ⟨h1,a⟩<;>rcases h' with⟨g1,g2⟩ | ⟨g1,⟨j,d,gv⟩,g2⟩ | ⟨g1,g2⟩
 .omega
 .omega
 .have:=g1.1;omega
 .omega
 .omega
 .exact Es (g1.2 i b) c
 .have:=h1.1;omega
 .exact Es (h1.2 j d) gv
 omega
def LE {w:Sl Jf}{e:Int}(h:Be4 w e):e=0↔wOk w:=by
 rcases h with⟨h1,a⟩ | ⟨h1,⟨i,b,c⟩,a⟩ | ⟨h1,a⟩
 .exact⟨λh=>by omega,λh=>by have:=h.1;omega⟩
 .exact⟨λh=>by omega,λh=>Es (h.2 i b) c⟩
 exact⟨λ_=>h1,λ_=>a⟩
def Ap8 {N:Nat}(o:1000<=N){w:Sl Jf}(hw:∀i,i<w.n->okS (w.g i))(V:Jf->Option Bool)(f:∀p m:BitVec 32,V (sOf p m)=some (vB p m)) :∃e,(if (decide (32<(w.n:Int))) then
 some (11:Int)
 else
  W8 N (λa (x1:Int)=>
   if (decide (x1<(w.n:Int))) then
    if ((0:Int)<=x1/\x1<(w.n:Int))then
     (V (w.g x1.toNat)).bind λy3=>
     if (!y3) then
      some 14
     else
      a (wrap .i64 (x1+1))
    else none
   else
    some 0
   ) 0)=some e/\Be4 w e:=by
 by_cases hn:32<w.n
 .exact Ah ⟨11,rfl,.inl ⟨hn,rfl⟩⟩
 refine Bh ?_;refine FC (λi x1=>x1=(i:Int)/\∀j,j<i->vS (w.g j)) w.n _ (by omega) ⟨rfl,λj b=>Es b (by omega)⟩ ?_;rintro d i x1 q ⟨rfl,h⟩ hs;by_cases hl:i<w.n
 .obtain⟨p,m,c⟩:=hw i hl;refine Ah (Ac (B9 (by rw[Kk,c];exact f p m) ?_));cases hb:vB p m
  .refine ifT rfl ⟨14,rfl,.inr (.inl ⟨by omega,⟨i,hl,λl=>?_⟩,rfl⟩)⟩
   have:=(Ap2 c).1 l;rw[hb]at this;cases this
  refine Bi (hs hl _ ⟨Bn,λj b=>?_⟩);by_cases e:j=i
  .subst e;exact (Ap2 c).2 hb
  exact h j (by omega)
 exact Bh ⟨0,rfl,.inr (.inr ⟨⟨by omega,λj b=>h j (by omega)⟩,rfl⟩)⟩
def LF {N:Nat}(a:1000<=N){w:Sl Jf}(hw:∀i,i<w.n->okS (w.g i)):∃e,W9 N w=some e/\Be4 w e:=
 Ap8 a hw (Cy N) λp m=>Wd p m
end Go.AM
namespace Go.AM
open Go.Proofs
def AS9 {N:Nat}{s c:Jf}(hs:okS s)(hc:okS c):∃b,S0 N s c=some b:=by
 obtain⟨p,m,rfl⟩:=hs;obtain⟨a,b,rfl⟩:=hc;unfold S0;rw[Dc];simp only[Lf,lt,Dc]
 repeat' split
 all_goals exact⟨_,rfl⟩
def okL (l:Law):Prop:=okPS l.Left/\okPS l.Right/\∀i,i<l.If.n->okS (l.If.g i)
def okW (w:Sl Jf):Prop:=w.n<1000/\∀i,i<w.n->okS (w.g i)
def Ap9 {N:Nat}(a:3000<=N){l:Law}(hl:okL l)(hk:l.If.n<=4){w:Sl Jf}(hw:okW w)(i:Nat)(f:i<2000) :∃b,Z7 N (i:Int) l w=some b/\(b=true->wOk w/\i+l.If.n<=w.n):=by
 unfold Z7;have hs:w.n<1000000/\w.n+1000<N:=⟨by have:=hw.1;omega,by have:=hw.1;omega⟩;obtain⟨y1,e1,h1⟩:=Ap7 (N:=N) a hl.1 hs hw.2 i;refine B9 e1 ?_;by_cases c:y1.1.n=0
 .exact ifT (by simp[c]) ⟨false,rfl,by simp⟩
 refine Bh ?_;rw[PK (by omega)];obtain⟨y2,e2,d⟩:=AS8 (N:=N) a hl.2.1 hs hw.2 (i+l.If.n);refine B9 e2 ⟨_,rfl,λh=>⟨h1 c,d ?_⟩⟩;rw[Fb]at h;omega
end Go.AM
namespace Go.AM
open IntKind (wrap)
open Go.Proofs
def hitL (l:Law)(w:Sl Jf):Nat->List Int->Prop
 |_,[]=>True
 |i,t::L=>∃j:Nat,t=(j:Int)/\i<=j/\j+l.If.n<=w.n/\wOk w/\hitL l w (j+1) L
def hitL.le {l:Law}{w:Sl Jf}{i j:Nat}(h:i<=j):∀{L:List Int},hitL l w j L->hitL l w i L
 |[],_=>trivial
 |t::L,⟨k,h1,h2,h3⟩=>⟨k,h1,by omega,h3⟩
def Aq0 {N:Nat}(x:3000<=N){l:Law}(hl:okL l)(hk:l.If.n<=4){w:Sl Jf}(hw:okW w)(i:Nat)(u:i<1500):∃L,Az N l w (i:Int)=some L/\hitL l w i L:=by
 unfold Az;show ∃L,(some (l,w)).bind _=some L/\_;rw[Lf];simp only[]
 suffices h:∀(k i:Nat),i<1501->w.n+1-i<=k->∀F,k<F->∃r,W8 F (λ(a:Int->Option (List Int)) (x2:Int)=>
  if (decide ((wrap .i64 (x2+(l.If.n:Int)))<=(w.n:Int))) then
   W8 N (λ(c:Int->Option (List Int)) (x4:Int)=>
    if (decide (x4<(l.If.n:Int))) then
     if ((0:Int)<=x4/\x4<(l.If.n:Int))then
      if ((0:Int)<=(wrap .i64 (x2+x4))/\(wrap .i64 (x2+x4))<(w.n:Int))then
       (S0 N (w.g (wrap .i64 (x2+x4)).toNat) (l.If.g x4.toNat)).bind λq=>
       if (!q) then
        a (wrap .i64 (x2+1))
       else
        c (wrap .i64 (x4+1))
      else none
     else none
    else
     (Z7 N x2 l w).bind λs=>
     if s then
      Ag x2 (
       a (wrap .i64 (x2+1))
       )
     else
      a (wrap .i64 (x2+1))
    ) 0
  else
   some []
  ) (i:Int)=some r/\hitL l w i r from h (w.n+1-i) i (by omega) (Bi3 _) N (by have:=hw.1;omega)
 have y:=hw.1;intro k
 induction k with
 |zero=>
  intro i u t F m
  match F,m with
  |F+1,_=>rw[I3,PK (by omega)];exact Bh ⟨_,rfl,trivial⟩
 |succ k ih=>
  intro i u t F m
  match F,m with
  |F+1,m=>
   rw[I3,PK (by omega)];by_cases hn:i+l.If.n<=w.n
   case neg=>exact Bh ⟨_,rfl,trivial⟩
   refine Ah ?_;obtain⟨r,o,d⟩:=ih (i+1) (by omega) (by omega) F (by omega);rw[<- Bn]at o;refine FC (λj x1=>x1=(j:Int)) l.If.n _ (by omega) rfl ?_;rintro v j x1 z rfl hs;by_cases f:j<l.If.n
   .rw[PK (by omega)];refine Ah (Ac (Ac ?_));obtain⟨b,eb⟩:=AS9 (N:=N) (hw.2 (i+j) (by omega)) (hl.2.2 j f);refine B9 (by rw[Kk,Kk];exact eb) ?_;cases b
    .exact ifT rfl ⟨r,o,d.le (by omega)⟩
    exact Bi (hs f _ (Bn))
   refine Bh ?_;obtain⟨b,eb,hb⟩:=Ap9 x hl hk hw i (by omega);refine B9 eb ?_;cases b
   .exact Bi ⟨r,o,d.le (by omega)⟩
   exact ifT rfl ⟨(i:Int)::r,by rw[o];rfl,i,rfl,Bi3 _,hn,(hb rfl).1,d⟩
def AK3 {N:Nat}(a:3000<=N){l:Law}(hl:okL l)(hk:l.If.n<=4){w:Sl Jf}(hw:okW w)(i:Nat)(c:i<1500) :∃b,DU N l w (i:Int)=some b/\(b=true->i+l.If.n<=w.n/\wOk w):=by
 unfold DU;obtain⟨L,h1,d⟩:=Aq0 a hl hk hw i c;refine B9 (x:=(l,w,(i:Int))) rfl (B9 h1 ?_)
 match L,d with
 |[],_=>exact⟨false,rfl,by simp⟩
 |t::L,⟨j,h3,h4,h5,h6,_⟩=>exact⟨t==(i:Int),rfl,λe=>⟨by have:=eq_of_beq e;omega,h6⟩⟩
end Go.AM
namespace Go.AM
variable {N:Nat}
open Go.Proofs
def okO (x:Ei):Prop:=okS x.Set/\(∃c:BitVec 32,x.Clear=(c.toNat:Int))/\∃t:BitVec 32,x.Take=(t.toNat:Int)
def AK4 {p m a b s:BitVec 32}(h1:vB p m=true)(d:vB a b=true):vB (Au3 p a s) (Au3 m b s)=true:=by rw[AK1]at *;intro i c;have g1:=h1 i c;have g2:=d i c;simp only[Au3,Bu9,Bw2,BB0];revert g1 g2;cases s.getLsbD i<;>cases p.getLsbD i<;>cases m.getLsbD i<;>cases a.getLsbD i<;>cases b.getLsbD i<;>simp[c]
def vS0:vS (⟨0,0⟩:Jf):=⟨0#32,0#32,rfl,by decide +kernel⟩
def Aq1 {s t:Jf}{c:Int}(hs:okS s)(hc:∃b:BitVec 32,c=(b.toNat:Int))(ht:okS t):∃y,Z6 N s c t=some y/\vS y.1:=by
 obtain⟨p,m,rfl⟩:=hs;obtain⟨a,b,rfl⟩:=ht;obtain⟨d,rfl⟩:=hc;refine⟨_,Ae3 p m d a b,?_⟩;unfold chgE;split
 .rename_i h;split
  .exact⟨_,_,rfl,AK4 h.1 h.2⟩
  exact vS0
 exact vS0
def AT0 {s t:Jf}{c:Int}(hs:okS s)(hc:∃b:BitVec 32,c=(b.toNat:Int))(ht:okS t):∃y,Cx N s t c=some y/\vS y.1:=by
 obtain⟨p,m,rfl⟩:=hs;obtain⟨a,b,rfl⟩:=ht;obtain⟨d,rfl⟩:=hc;refine⟨_,AD8 p m a b d,?_⟩;unfold takE;split
 .rename_i h;split
  .exact⟨_,_,rfl,AK4 h.1 h.2⟩
  exact vS0
 exact vS0
def Be6 (l:Law):Prop:=l.Out.n<=6/\∀i,i<l.Out.n->okO (l.Out.g i)/\(l.Out.g i).From<l.If.n/\((l.Out.g i).Take≠0->0<=(l.Out.g i).Of/\(l.Out.g i).Of<l.If.n)
def AT1 (hN:1000<=N){l:Law}(o:Be6 l){cut:Sl Jf}(hn:cut.n=l.If.n)(hc:∀i,i<cut.n->okS (cut.g i)) :∃s,DT N l cut=some s/\s.n=l.Out.n/\∀i,i<s.n->vS (s.g i):=by
 have v:=o.1;unfold DT;refine W7 (λi x1 x2=>x2=(i:Int)/\x1.n=i/\∀j,j<x1.n->vS (x1.g j)) l.Out.n _ (by omega) ⟨rfl,rfl,λj q=>Es q (Bj5 j)⟩ ?_;rintro r i x1 x2 hi ⟨rfl,h1,t⟩ hs;by_cases a:i<l.Out.n
 .obtain⟨⟨b,c,d⟩,w,f⟩:=o.2 i a;have x:okS (⟨(if (decide (0<=(l.Out.g i).From)) then (cut.g (l.Out.g i).From.toNat).Plus else 0),(if (decide (0<=(l.Out.g i).From)) then (cut.g (l.Out.g i).From.toNat).Minus else 0)⟩:Jf):=by
   by_cases u:0<=(l.Out.g i).From
   .simp only[u,decide_true,Eu];exact hc _ (by omega)
   simp only[u,decide_false,Bi5,Ev];exact⟨0#32,0#32,rfl⟩
  obtain⟨y,e1,hy⟩:=Aq1 (N:=N) x c b;have nx:∀z,vS z->_:=λz m=>hs a (x1.push z) _ ⟨Bn,by show x1.n+1=_;omega,λj q=>by
   show vS (if j<x1.n then x1.g j else z);split
   .exact t j (by assumption)
   exact m⟩
  have sz:∀z:Jf,(x1.n+(Sl.of [z]:Sl Jf).n)*8<=140737488355328/\x1.n+(Sl.of [z]:Sl Jf).n<=140737488355328:=λz=>by show (x1.n+1)*8<=_/\x1.n+1<=_;omega
  refine Ah (Ac ?_);rw[Kk];refine ifT (λh=>by have:=of_decide_eq_true h;omega) (B9 e1 ?_);by_cases ht:(l.Out.g i).Take=0
  .exact ifF (by simp[ht]) (ifT (sz _) (nx _ hy))
  obtain⟨g1,g2⟩:=f ht;obtain⟨z,e3,m⟩:=AT0 (N:=N) hy.ok d (hc (l.Out.g i).Of.toNat (by omega));exact ifT (by simp[ht]) (Ac (B9 e3 (ifT (sz _) (nx _ m))))
 exact Bh ⟨_,rfl,by omega,t⟩
end Go.AM
namespace Go.AM
open Go.Proofs
def AE4 {N:Nat}{x:Ei}(hx:okO x)(k:Int):∃b,AX N x k=some b:=by
 obtain⟨⟨a,b,c⟩,_⟩:=hx;unfold AX;simp only[lt,c,Dc,Lf]
 repeat' split
 all_goals exact⟨_,rfl⟩
end Go.AM
namespace Go.AM
open Go.Proofs
def Aq2 {N:Nat}{s:Str}:∃b,Dr N s=some b:=by
 unfold Dr lt;dsimp only;split
 .split
  .unfold DE;rename_i h;have h:=of_decide_eq_true h;rw[Ej ⟨by omega,by decide,by decide⟩];exact⟨_,rfl⟩
  exact⟨_,rfl⟩
 exact⟨_,rfl⟩
end Go.AM
namespace Go.AM
variable {N:Nat}
open IntKind (wrap)
open Go.Proofs
def Wi {s:Sl Ei}(m:s.n<N)(hs:s.n<1000000){f:Ei->Option Bool}{b:Nat->Bool}(o:∀i,i<s.n->f (s.g i)=some (b i)) :∃r,D3 N s f=some r/\(r=true ↔ ∃i,i<s.n/\b i=true):=by
 unfold D3 F8
 have:∃y,W8 N (λ(a:Int->Option Int) (x1:Int)=>
  if (decide (x1<(s.n:Int))) then
   if ((0:Int)<=x1/\x1<(s.n:Int))then
    (f (s.g x1.toNat)).bind λy3=>
    if y3 then
     some x1
    else
     a (wrap .i64 (x1+1))
   else none
  else
   some (-1)) 0=some y/\(0<=y ↔ ∃i,i<s.n/\b i=true):=by
  refine FC (λi x1=>x1=(i:Int)/\∀j,j<i->b j=false) s.n _ m ⟨rfl,λj c=>Es c (by omega)⟩ ?_;rintro l i x1 q ⟨rfl,h⟩ d;by_cases hl:i<s.n
  .refine Ah (Ac (B9 (by rw[Kk];exact o i hl) ?_));cases hb:b i
   .refine Bi (d hl _ ⟨Bn,λj c=>?_⟩);by_cases e:j=i
    .subst e;exact hb
    exact h j (by omega)
   exact ifT rfl ⟨i,rfl,λ_=>⟨i,hl,hb⟩,λ_=>by omega⟩
  refine Bh ⟨-1,rfl,λh=>Es h (by decide),?_⟩;rintro⟨j,c,hb⟩;rw[h j (by omega)]at hb;cases hb
 obtain⟨y,e,hy⟩:=this;exact B9 e ⟨_,rfl,by rw[Fb];exact hy⟩
def QU (l:Law):Prop:=okL l/\l.Name.length<1100000/\l.If.n<1100000/\l.Out.n<1100000/\∀i,i<l.Out.n->okO (l.Out.g i)
def Ae6 {s:Jf}(hs:okS s):∃b,H7 N s=some b/\(b=true↔vS s):=by obtain⟨p,m,e⟩:=hs;exact⟨vB p m,by rw[e];exact Dc p m,(Ap2 e).symm⟩
def AE5 {x:Ei}(hx:okO x){k:Int}(h:AX N x k=some true):x.From<k/\(x.Take≠0->0<=x.Of/\x.Of<k):=by
 obtain⟨⟨a,b,c⟩,_,_⟩:=hx;unfold AX at h;simp only[lt,c,Dc,Lf]at h;by_cases h1:x.From < -1
 .simp[h1]at h
 by_cases d:k<=x.From
 .simp[h1,d]at h
 refine⟨by omega,λht=>?_⟩;simp only[h1,d,decide_false,Bi5,Ev]at h;by_cases f:(!vB a b)=true
 .rw[Ej f]at h;cases h
 rw[Er f]at h;split at h
 .cases h
 rw[Er (by simp[ht])]at h;simpa using h
def chkAll (N:Nat)(l:Law):Prop:=Dr N l.Name=some true/\chk 40 [l.Left]/\chk 40 [l.Right]/\l.If.n<=4/\l.Out.n<=6/\l.If.n+l.Out.n≠0/\1<=l.Mode/\l.Mode<=3/\(∀i,i<l.If.n->vS (l.If.g i))/\∀i,i<l.Out.n->AX N (l.Out.g i) l.If.n=some true
def lawE (N:Nat)(l:Law)(e:Int):Prop:=(e=0/\chkAll N l) \/ (e=17/\¬chkAll N l)
def lawF (l:Law):Prop:=okL l/\chk 40 [l.Left]/\chk 40 [l.Right]/\l.If.n<=4/\Be6 l/\l.If.n+l.Out.n≠0/\1<=l.Mode/\l.Mode<=3
def chkAll.f {N:Nat}{l:Law}(hl:QU l)(h:chkAll N l):lawF l:=by obtain⟨_,h1,b,c,d,g,j,m,o,n⟩:=h;exact⟨hl.1,h1,b,c,⟨d,λi a=>⟨hl.2.2.2.2 i a,AE5 (hl.2.2.2.2 i a) (n i a)⟩⟩,g,j,m⟩
def IY (hN:3000000<=N){l:Law}(hl:QU l):∃e,Ay N l=some e/\lawE N l e:=by
 have u:=hl.2.1;have v:=hl.2.2.1;have x:=hl.2.2.2.1;unfold Ay;obtain⟨b0,e0⟩:=Aq2 (N:=N) (s:=l.Name);refine B9 e0 ?_;cases b0
 .exact ifT rfl ⟨17,rfl,.inr ⟨rfl,λh=>by have:=h.1;rw[e0]at this;cases this⟩⟩
 refine Bi ?_;obtain⟨y2,e2,o⟩:=TQ (N:=N) (by omega) hl.1.1;refine B9 e2 ?_;by_cases c2:y2=0
 case neg=>exact ifT (by simpa using c2) ⟨17,rfl,.inr ⟨rfl,λh=>c2 (o.2 h.2.1)⟩⟩
 refine ifF (by simp[c2]) ?_;obtain⟨y3,e3,q⟩:=TQ (N:=N) (by omega) hl.1.2.1;refine B9 e3 ?_;by_cases c3:y3=0
 case neg=>exact ifT (by simpa using c3) ⟨17,rfl,.inr ⟨rfl,λh=>c3 (q.2 h.2.2.1)⟩⟩
 refine ifF (by simp[c3]) ?_;by_cases c4:4<l.If.n
 .exact Ah ⟨17,rfl,.inr ⟨rfl,λh=>by have:=h.2.2.2.1;omega⟩⟩
 refine Bh ?_;by_cases c5:6<l.Out.n
 .exact Ah ⟨17,rfl,.inr ⟨rfl,λh=>by have:=h.2.2.2.2.1;omega⟩⟩
 refine Bh ?_;rw[PK (by omega)];by_cases c6:l.If.n+l.Out.n=0
 .exact ifT (by rw[c6];rfl) ⟨17,rfl,.inr ⟨rfl,λh=>h.2.2.2.2.2.1 c6⟩⟩
 refine Bh ?_;by_cases c7:l.Mode<1 \/ 3<l.Mode
 .exact Ah ⟨17,rfl,.inr ⟨rfl,λh=>by have g1:=h.2.2.2.2.2.2.1;have g2:=h.2.2.2.2.2.2.2.1;omega⟩⟩
 refine Bh ?_;have y:∀i,∃b,i<l.If.n->AZ N (l.If.g i)=some b/\(b=true ↔ ¬vS (l.If.g i)):=by
  intro i;by_cases a:i<l.If.n
  .obtain⟨b,eb,hb⟩:=Ae6 (N:=N) (hl.1.2.2 i a);refine⟨!b,λ_=>⟨by unfold AZ;rw[eb];rfl,?_⟩⟩;rw[<- hb];simp
  exact⟨false,λh=>Es h a⟩
 obtain⟨f,j⟩:=Bs7 y;obtain⟨y4,e4,r⟩:=Nb (N:=N) (w:=l.If) (by omega) (by omega) (f:=λu1=>AZ N u1) (λi a=>(j i a).1);refine B9 e4 ?_;cases c:y4
 case true=>obtain⟨i,a,hb⟩:=r.1 c;exact ifT rfl ⟨17,rfl,.inr ⟨rfl,λh=>(j i a).2.1 hb (h.2.2.2.2.2.2.2.2.1 i a)⟩⟩
 refine Bi ?_;have z:∀i,∃b,i<l.Out.n->AY N (l.Out.g i) (l.If.n:Int)=some b/\(b=true ↔ ¬AX N (l.Out.g i) l.If.n=some true):=by
  intro i;by_cases a:i<l.Out.n
  .obtain⟨b,eb⟩:=AE4 (N:=N) (hl.2.2.2.2 i a) (l.If.n:Int);refine⟨!b,λ_=>⟨by unfold AY;rw[eb];rfl,?_⟩⟩;rw[eb];simp
  exact⟨false,λh=>Es h a⟩
 obtain⟨g,m⟩:=Bs7 z;obtain⟨y5,e5,t⟩:=Wi (N:=N) (s:=l.Out) (by omega) (by omega) (f:=λu2=>AY N u2 (l.If.n:Int)) (λi a=>(m i a).1);refine B9 e5 ?_;cases d:y5
 case true=>obtain⟨i,a,hb⟩:=t.1 d;exact ifT rfl ⟨17,rfl,.inr ⟨rfl,λh=>(m i a).2.1 hb (h.2.2.2.2.2.2.2.2.2 i a)⟩⟩
 refine Bi ⟨0,rfl,.inl ⟨rfl,e0,o.1 c2,q.1 c3,by omega,by omega,c6,by omega,by omega,λi a=>?_,λi a=>?_⟩⟩
 .refine Bm4 λhn=>?_
  have:=r.2 ⟨i,a,(j i a).2.2 hn⟩
  rw[c]at this;cases this
 refine Bm4 λhn=>?_
 have:=t.2 ⟨i,a,(m i a).2.2 hn⟩
 rw[d]at this;cases this
end Go.AM
namespace Go.AM
variable {N:Nat}
open IntKind (wrap)
open Go.Proofs
def nf:(!false)=true:=rfl
def app0 {α : Type}{s t:Sl α}(h:s.n=0):s.app t=t:=by cases t;simp[Sl.app,h]
def AK5 {α : Type}[Inhabited α](s:Sl (Sl α)):Nat->Sl α
 |0=>Sl.nil
 |k+1=>(AK5 s k).app (s.g k)
def AK6 {α : Type}[Inhabited α](s:Sl (Sl α)){B:Nat}:∀k,(∀i,i<k->(s.g i).n<=B)->(AK5 s k).n<=k*B
 |0,_=>by simp[AK5]
 |k+1,h=>by
  have:=AK6 s k λi a=>h i (by omega)
  have:=h k (by omega)
  show (AK5 s k).n+(s.g k).n<=_;rw[Bs1];omega
def Yi {s:Sl (Sl Jf)}(hn:s.n<1000)(d:1000<=N)(hs:∀i,i<s.n->(s.g i).n<=3000000) :A9 N s=some (AK5 s s.n):=by
 suffices h:∃r,A9 N s=some r/\r=AK5 s s.n by obtain⟨r,h,rfl⟩:=h;exact h
 unfold A9;refine W7 (λ(i:Nat) (x1 x2:Int)=>x2=(i:Int)/\0<=x1/\x1<=(i:Int)*3000000) s.n _ (by omega) ⟨rfl,Int.le_refl 0,by simp⟩ ?_;rintro b i x1 x2 c ⟨rfl,f,h1⟩ a;by_cases hl:i<s.n
 .have:=hs i hl
  refine Ah (Ac ?_);rw[Kk,Lm];exact Bh (a hl _ _ ⟨Bn,by omega,by omega⟩)
 refine Bh (B9 (x:=Sl.nil) ?_ ?_)
 .unfold J9;rw[Ce]
 refine W7 (λi x1 x2=>x2=(i:Int)/\x1=AK5 s i) s.n _ (by omega) ⟨rfl,rfl⟩ ?_;rintro b i x1 x2 c ⟨rfl,rfl⟩ a;by_cases hl:i<s.n
 .have g1:=hs i hl;have g2:=AK6 s i (B:=3000000) λj l=>hs j (by omega);refine Ah (ifT ⟨by omega,?_⟩ (a hl _ _ ⟨Bn,?_⟩))
  .rw[Kk];omega
  rw[Kk];rfl
 exact Bh ⟨_,rfl,by congr 1;omega⟩
def repl (w:Sl Jf)(i k:Nat)(y:Sl Jf):Sl Jf:=((w.take i).app y).app (w.drop (i+k))
abbrev vW (s:Sl Jf):Prop:=∀j,j<s.n->vS (s.g j)
def Zr {s t:Sl Jf}(h:vW s)(h' : vW t):vW (s.app t):=λj a=>by
 have a:j<s.n+t.n:=a;show vS (if j<s.n then s.g j else t.g (j-s.n));split
 .exact h j (by assumption)
 exact h' _ (by omega)
def Aq3 {s:Sl Jf}(h:vW s)(k:Nat):vW (s.drop k):=λj a=>h _ (by have a:j<s.n-k:=a;omega)
def Aq4 {s:Sl Jf}(h:vW s){k:Nat}(hk:k<=s.n):vW (s.take k):=λj a=>h _ (by have a:j<k:=a;omega)
def AK7 (a:1000<=N){l:Law}(b:Be6 l){w:Sl Jf}(hw:vW w){i:Nat}(d:i+l.If.n<=w.n) :∃s,DT N l (w.sub i (i+l.If.n))=some s/\s.n=l.Out.n/\vW s:=
 AT1 a b (cut:=w.sub i (i+l.If.n)) (by show i+l.If.n-i=_;omega) λj c=>(hw (i+j) (by have:j<i+l.If.n-i:=c;omega)).ok
def cat3 (a b c:Sl Jf):AK5 (Sl.of [a,b,c]:Sl (Sl Jf)) 3=(a.app b).app c:=by show ((Iy.app a).app b).app c=_;rw[app0 (s:=Iy) rfl]
def Aq5 (d:1000<=N){a b c:Sl Jf}(ha:a.n<=3000000)(hb:b.n<=3000000)(hc:c.n<=3000000):A9 N (Sl.of [a,b,c]:Sl (Sl Jf))=some ((a.app b).app c):=by
 have h:=Yi (N:=N) (s:=(Sl.of [a,b,c]:Sl (Sl Jf))) (by show 3<1000;omega) d λi f=>by
  match i,f with
  |0,_=>exact ha
  |1,_=>exact hb
  |2,_=>exact hc
 rw[h];exact congrArg some (cat3 a b c)
def RW (a:1000<=N){l:Law}(b:Be6 l){w:Sl Jf}(c:w.n<1000)(hw:vW w){i:Nat}(d:i+l.If.n<=w.n) :∃s,U2 N l w (i:Int)=some s/\s.n=w.n-l.If.n+l.Out.n/\vW s:=by
 obtain⟨y,h1,g,f⟩:=AK7 a b hw d;have j:=b.1;refine⟨repl w i l.If.n y,?_,by show i+y.n+(w.n-(i+l.If.n))=_;omega,Zr (Zr (Aq4 hw (by omega)) f) (Aq3 hw _)⟩;unfold U2;rw[PK (by omega),Ce,Kk,Kk,h1,Lf,Ce,
  Aq5 a (by show i<=_;omega) (by omega) (by show w.n-(i+l.If.n)<=_;omega)]
 rfl
abbrev Zs:=List (Int×Sl Jf)
def vL (L:Zs):Prop:=∀x∈L,vW x.2
def Wj:vL []:=λx hx=>Es hx (by simp)
def Yj {x:Int×Sl Jf}{L:Zs}(h:vW x.2)(hL:vL L):vL (x::L):=λy hy=>by
 rcases Bj7.1 hy with rfl|hy
 .exact h
 exact hL y hy
def Aq6 (N:Nat)(l:Law)(a:Sl Jf->Int->Option Zs)(x5:Sl Jf)(x6:Int):Option Zs:= if (decide ((wrap .i64 (x6+(l.If.n:Int)))<=(x5.n:Int))) then (DU N l x5 x6).bind λc=>if (!c) then a x5 (wrap .i64 (x6+1)) else (U2 N l x5 x6).bind λb=>Ag (x6,b) (if ((l.If.n:Int)==0) then a b (wrap .i64 ((wrap .i64 (x6+(l.Out.n:Int)))+1)) else a b (wrap .i64 (x6+(l.Out.n:Int)))) else some []
def AE6 (g:3000<=N){l:Law}(o:lawF l):∀(m:Nat) (w:Sl Jf) (i:Nat),w.n<=100->vW w->i<=200->w.n+1<=i+m->∀M,m<M->∃L,Bx M (Aq6 N l) w i=some L/\vL L/\L.length<=m:=by
 obtain⟨hl,_,_,hk,d,q,_,_⟩:=o;have v:=d.1;intro m
 induction m with
 |zero=>intro w i hn a r hm M t;obtain⟨M,rfl⟩:∃K,M=K+1:=⟨M-1,by omega⟩;rw[CL,Aq6,PK (by omega),Dn];exact⟨[],rfl,Wj,Bi3 _⟩
 |succ m ih=>
  intro w i hn a r hm M t;obtain⟨M,rfl⟩:∃K,M=K+1:=⟨M-1,by omega⟩;rw[CL,Aq6,PK (by omega)];by_cases hle:i+l.If.n<=w.n
  case neg=>rw[Dn];exact⟨[],rfl,Wj,by simp⟩
  obtain⟨b,e1,h1⟩:=AK3 g hl hk (w:=w) ⟨by omega,λj u=>(a j u).ok⟩ i (by omega);rw[Ch,e1,Lf];cases b
  .rw[Ej nf,Bn];obtain⟨L,g1,g2,g3⟩:=ih w (i+1) hn a (by omega) (by omega) M (by omega);exact⟨L,g1,g2,by omega⟩
  have f:=(h1 rfl).2.1;obtain⟨s,r1,r2,r3⟩:=RW (N:=N) (by omega) d (by omega) a hle;rw[Er (by simp),r1,Lf,PK (by omega),Bn];obtain⟨L,g1,g2,g3⟩:=ih s (if l.If.n=0 then i+l.Out.n+1 else i+l.Out.n) (by omega) r3 (by split<;>omega) (by split<;>omega) M (by omega);refine⟨((i:Int),s)::L,?_,Yj r3 g2,by simp;omega⟩;by_cases c:l.If.n=0
  .rw[Ej c]at g1;rw[Ej (by simp[c]),g1];rfl
  rw[Er c]at g1;rw[Er (by simp[c]),g1];rfl
def AT2 (N:Nat)(l:Law)(a:Sl Jf->Int->Option Zs)(x7:Sl Jf)(x8:Int):Option Zs:= if (decide (0<=x8)) then (DU N l x7 x8).bind λc=>if (!c) then a x7 (wrap .i64 (x8-1)) else (U2 N l x7 x8).bind λb=>Ag (x8,b) (a b (wrap .i64 (x8-(if (l.If.n:Int)<1 then 1 else (l.If.n:Int))))) else some []
def AT3 (q:3000<=N){l:Law}(r:lawF l):∀(m:Nat) (w:Sl Jf) (i:Int),w.n<=100->vW w -> -100<=i->i+1<=m->m<=200->∀M,m<M->∃L,Bx M (AT2 N l) w i=some L/\vL L/\L.length<=m:=by
 obtain⟨hl,_,_,hk,f,t,_,_⟩:=r;have y:=f.1;intro m
 induction m with
 |zero=>intro w i hn a u hm c M v;obtain⟨M,rfl⟩:∃K,M=K+1:=⟨M-1,by omega⟩;rw[CL,AT2,Dn];exact⟨[],rfl,Wj,Bi3 _⟩
 |succ m ih=>
  intro w i hn a u hm c M v;obtain⟨M,rfl⟩:∃K,M=K+1:=⟨M-1,by omega⟩;rw[CL,AT2];by_cases hle:0<=i
  case neg=>rw[Dn];exact⟨[],rfl,Wj,by simp⟩
  obtain⟨k,rfl⟩:∃k:Nat,i=(k:Int):=⟨i.toNat,by omega⟩;obtain⟨b,e1,h1⟩:=AK3 q hl hk (w:=w) ⟨by omega,λj x=>(a j x).ok⟩ k (by omega);rw[Ej (by simp),e1,Lf];cases b
  .rw[Ej nf,Lm];obtain⟨L,g1,g2,g3⟩:=ih w ((k:Int)-1) hn a (by omega) (by omega) (by omega) M (by omega);exact⟨L,g1,g2,by omega⟩
  obtain⟨hle,d⟩:=h1 rfl;have g:=d.1;obtain⟨s,r1,r2,r3⟩:=RW (N:=N) (by omega) f (by omega) a hle;rw[Er (by simp),r1,Lf];obtain⟨L,g1,g2,g3⟩:=ih s (if l.If.n=0 then (k:Int)-1 else (k:Int)-l.If.n) (by omega) r3 (by split<;>omega) (by split<;>omega) (by omega) M (by omega);refine⟨((k:Int),s)::L,?_,Yj r3 g2,by simp;omega⟩;by_cases o:l.If.n=0
  .rw[Ej o]at g1;rw[Ce,Lm,g1];rfl
  rw[Er o]at g1;rw[Cj,Lm,g1];rfl
end Go.AM
namespace Go.AM
open IntKind (wrap)
open Go.Proofs
abbrev AllS:=Sl Jf×Int×Int
def Ae7 (N:Nat)(l:Law)(q0:Sl Jf)(a:AllS->Option Zs)(x1:Int)(z1:AllS):Option Zs:= if (decide (x1<z1.2.1)) then a (z1.1,z1.2.1,z1.2.2) else if (((0:Int)<=(wrap .i64 (x1+z1.2.2))/\(wrap .i64 (x1+z1.2.2))<=(z1.1.n:Int))/\((0:Int)<=x1/\x1<=(wrap .i64 (x1+(l.If.n:Int)))/\(wrap .i64 (x1+(l.If.n:Int)))<=(q0.n:Int)))then (DT N l (q0.sub x1.toNat (wrap .i64 (x1+(l.If.n:Int))).toNat)).bind λy6=>if ((0:Int)<=(wrap .i64 (x1+(l.If.n:Int)))/\(wrap .i64 (x1+(l.If.n:Int)))<=(q0.n:Int))then (A9 N (Sl.of [z1.1.take (wrap .i64 (x1+z1.2.2)).toNat,y6,q0.drop (wrap .i64 (x1+(l.If.n:Int))).toNat]:Sl (Sl Jf))).bind λy7=>Ag (x1,y7) (a (y7,wrap .i64 (x1+(if (l.If.n:Int)<1 then 1 else (l.If.n:Int))),wrap .i64 ((wrap .i64 (z1.2.2+(l.Out.n:Int)))-(l.If.n:Int)))) else none else none
def Aq7 {N:Nat}(f:3000<=N){l:Law}(a:Be6 l)(hk:l.If.n<=4){w:Sl Jf}(b:vW w):∀(L:List Int) (i:Nat) (acc:Sl Jf) (next sh:Int),hitL l w i L->i<=33->vW acc->(acc.n:Int)=w.n+sh->0<=next->0<=next+sh->sh<=6*i ->
 ∃R,T4 L (Ae7 N l w) (λ_=>some []) (acc,next,sh)=some R/\vL R/\R.length<=L.length
 |[],i,acc,next,sh,_,_,_,_,_,_,_=>⟨[],rfl,Wj,Bi3 _⟩
 |t::L,i,acc,next,sh,⟨j,et,h2,h3,h4,h5⟩,hi,ha,hn,h0,hs,h6=>by
  subst et;have m:=h4.1;have o:=a.1;show ∃R,Ae7 N l w (T4 L (Ae7 N l w) λ_=>some []) (j:Int) (acc,next,sh)=some R/\_;unfold Ae7;by_cases g:(j:Int)<next
  .obtain⟨R,r1,r2,r3⟩:=Aq7 f a hk b L (j+1) acc next sh h5 (by omega) ha hn h0 hs (by omega)
   exact ifT (by simpa using g) ⟨R,r1,r2,by simp;omega⟩
  obtain⟨y,p1,p3,p4⟩:=AK7 (N:=N) (by omega) a b h3;obtain⟨k,ek⟩:∃k:Nat,(j:Int)+sh=(k:Int):=⟨((j:Int)+sh).toNat,by omega⟩;have es:wrap .i64 ((j:Int)+sh)=(k:Int):=by rw[Lm,ek]
  simp only[es];rw[PK (by omega)];simp only[Kk];refine ifF (by simpa using g) (Ac (B9 p1 (Ac ?_)));refine B9 (Aq5 (by omega) (by show k<=_;omega) (by omega) (by show w.n-(j+l.If.n)<=_;omega)) ?_;have c:vW (((acc.take k).app y).app (w.drop (j+l.If.n))):=Zr (Zr (Aq4 ha (by omega)) p4) (Aq3 b _);have d:(((acc.take k).app y).app (w.drop (j+l.If.n))).n=k+y.n+(w.n-(j+l.If.n)):=rfl;generalize ((acc.take k).app y).app (w.drop (j+l.If.n))=z at c d;have en:wrap .i64 ((j:Int)+(if (l.If.n:Int)<1 then 1 else (l.If.n:Int)))=(j:Int)+(if (l.If.n:Int)<1 then 1 else (l.If.n:Int)):=E2 (by split<;>omega) (by split<;>omega);have eh:wrap .i64 ((wrap .i64 (sh+(l.Out.n:Int)))-(l.If.n:Int))=sh+l.Out.n-l.If.n:=by rw[Lm (n:=sh+(l.Out.n:Int)),Lm]
  rw[en,eh];obtain⟨R,r1,r2,r3⟩:=Aq7 f a hk b L (j+1) z ((j:Int)+(if (l.If.n:Int)<1 then 1 else (l.If.n:Int))) (sh+l.Out.n-l.If.n) h5 (by omega) c (by omega) (by split<;>omega) (by split<;>omega) (by omega);exact⟨((j:Int),z)::R,by show Ag _ (T4 L (Ae7 N l w) (λ_=>some []) _)=_;rw[r1];rfl,Yj c r2,by simp;omega⟩
abbrev DocS:=(Sl Int)×(Sl (Sl Jf))×Int
def Wk:∀(L:Zs) (x:Sl Int) (y:Sl (Sl Jf)),x.n+L.length<=100000->y.n+L.length<=100000->vL L->(∀i,i<y.n->wOk (y.g i)) ->
 ∃r,T4 L (λ(a:Sl Int×Sl (Sl Jf)->Option DocS) (x1:Int×(Sl Jf)) (z1:(Sl Int)×(Sl (Sl Jf)))=>
  if (decide (32<(x1.2.n:Int))) then
   some (Iv,(Sl.nil:Sl (Sl Jf)),11)
  else
   if (Kh 8 (z1.1.n+(Sl.of [x1.1]:Sl Int).n))then
    if (Kh 24 (z1.2.n+(Sl.of [x1.2]:Sl (Sl Jf)).n))then
     a (z1.1.push x1.1,z1.2.push x1.2)
    else none
   else none
  ) (λ(z1:(Sl Int)×(Sl (Sl Jf)))=>
   some (z1.1,z1.2,0)
  ) (x,y)=some r/\(r.2.2=11 \/ (r.2.2=0/\r.2.1.n<=100000/\∀i,i<r.2.1.n->wOk (r.2.1.g i)))
 |[],x,y,_,hy,_,h=>⟨_,rfl,.inr ⟨rfl,hy,h⟩⟩
 |(p,v)::L,x,y,hx,hy,hL,h=>by
  simp only[Bk7]at hx hy;by_cases b:32<v.n
  .exact⟨_,Ej (decide_eq_true (show (32:Int)<(v.n:Int) by omega)),.inl rfl⟩
  obtain⟨r,r1,r2⟩:=Wk L (x.push p) (y.push v) (by show x.n+1+_<=_;omega) (by show y.n+1+_<=_;omega) (λz c=>hL z (Bj4 _ c)) λi d=>by
   show wOk (if i<y.n then y.g i else v);split
   .exact h i (by assumption)
   exact⟨by omega,hL (p,v) (by simp)⟩
  refine⟨r,?_,r2⟩;rw[T4,Dn,Ej (by show (x.n+1)*8<=_/\x.n+1<=_;omega),Ej (by show (y.n+1)*24<=_/\y.n+1<=_;omega)];exact r1
def hitL.len {l:Law}{w:Sl Jf}:∀{L:List Int}{i:Nat},hitL l w i L->L.length<=w.n+1-i
 |[],i,_=>Bp2 _
 |t::L,i,⟨j,_,h2,h3,_,h5⟩=>by have:=hitL.len h5;simp;omega
def vOk {w:Sl Jf}(h:wOk w):okW w:=⟨by have:=h.1;omega,λi a=>(h.2 i a).ok⟩
def AE7 (N:Nat)(l:Law):Prop:=QU l/\chkAll N l
def AE8 {N:Nat}(o:3000000<=N){l:Law}(hl:AE7 N l){w:Sl Jf}(a:wOk w) :∃r,Fk N l w=some r/\(r.2.2=11 \/ (r.2.2=0/\r.2.1.n<=100000/\∀i,i<r.2.1.n->wOk (r.2.1.g i))):=by
 obtain⟨e,e1,q⟩:=IY o hl.1;obtain⟨e',e3,b⟩:=LF (N:=N) (by omega) λi c=>(a.2 i c).ok;obtain rfl:e=0:=q.elim (·.1) λh=>Es hl.2 h.2;obtain rfl:=(LE b).2 a;obtain⟨d,_,_,hk,s,t,u,v⟩:=id (hl.2.f hl.1);have j:=hl.2.f hl.1;have hn:=a.1;have key:∃L,Ds N w l (l.If.n:Int) (l.Out.n:Int)=some L/\vL L/\L.length<=100:=by
  unfold Ds;by_cases c1:l.Mode=1
  .refine ifT (by simp[c1]) ?_;obtain⟨H,h1,m⟩:=Aq0 (N:=N) (by omega) d hk (vOk a) 0 (by omega);obtain⟨R,r1,r2,r3⟩:=Aq7 (N:=N) (by omega) s hk a.2 H 0 w 0 0 m (by omega) a.2 (by omega) (by omega) (by omega) (by omega)
   have:=m.len
   show ∃R,(Az N l w ((0:Nat):Int)).bind (λL1=>T4 L1 (Ae7 N l w) (λ_=>some []) (w,0,0))=some R/\_;exact B9 h1 ⟨R,r1,r2,by omega⟩
  refine ifF (by simp[c1]) ?_;by_cases c2:l.Mode=2
  .obtain⟨L,g1,g2,g3⟩:=AE6 (N:=N) (by omega) j (w.n+1) w 0 (by omega) a.2 (by omega) (by omega) N (by omega);exact ifT (by simp[c2]) ⟨L,g1,g2,by omega⟩
  obtain⟨L,g1,g2,g3⟩:=AT3 (N:=N) (by omega) j (w.n+1) w ((w.n:Int)-(l.If.n:Int)) (by omega) a.2 (by omega) (by omega) (by omega) N (by omega);refine ifF (by simp[c2]) (Ah ⟨L,?_,g2,by omega⟩);rw[Lm];exact g1
 obtain⟨L,g1,g2,g3⟩:=key;have hc:Fj N l w=some 0:=by unfold Fj;rw[e1,Lf,Er (by decide),e3];try rfl
 unfold Fk;rw[hc,Lf,Er (by decide),Lx,Lf];show ∃r,(Ds N w l (l.If.n:Int) (l.Out.n:Int)).bind _=some r/\_;rw[g1,Lf];exact Wk L _ _ (by show 0+_<=_;omega) (by show 0+_<=_;omega) g2 λi c=>Es c (Bj5 i)
def AT4 {N:Nat}(b:3000000<=N){l:Law}(hl:AE7 N l){w:Sl Jf}(hw:wOk w):∃v e,Cm N l w=some (v,e)/\(e=11 \/ (e=0/\wOk v)):=by
 obtain⟨⟨x,y,e⟩,h1,h⟩:=AE8 b hl hw;have c:=hw.1;unfold Cm;rw[h1,Lf];rcases h with h|⟨h,a,d⟩
 .obtain rfl:e=11:=h;exact⟨_,_,Ej (show ((11:Int) != 0)=true by decide),.inl rfl⟩
 obtain rfl:e=0:=h;replace a:y.n<=100000:=a;rw[Er (show ¬((0:Int) != 0)=true by decide)];by_cases hy:y.n=0
 .rw[Er (by simp[hy])];unfold A6;rw[Ce];exact⟨w,0,rfl,.inr ⟨rfl,hw⟩⟩
 have e1:wrap .i64 ((y.n:Int)-1)=((y.n-1:Nat):Int):=Ap0 (by omega) (by omega);dsimp only;rw[e1,Kk,Ch,Ce];exact⟨_,_,rfl,.inr ⟨rfl,d (y.n-1) (show y.n-1<y.n by omega)⟩⟩
end Go.AM
namespace Go.AM
variable {N:Nat}
open IntKind (wrap)
open Go.Proofs
def Wl {s:Sl Law}(m:s.n<N)(hs:s.n<1000000){f:Law->Option Bool}{b:Nat->Bool}(o:∀i,i<s.n->f (s.g i)=some (b i)) :∃r,D4 N s f=some r/\(r=true ↔ ∃i,i<s.n/\b i=true):=by
 unfold D4 F9
 have:∃y,W8 N (λ(a:Int->Option Int) (x1:Int)=>
  if (decide (x1<(s.n:Int))) then
   if ((0:Int)<=x1/\x1<(s.n:Int))then
    (f (s.g x1.toNat)).bind λy3=>
    if y3 then
     some x1
    else
     a (wrap .i64 (x1+1))
   else none
  else
   some (-1)) 0=some y/\(0<=y ↔ ∃i,i<s.n/\b i=true):=by
  refine FC (λi x1=>x1=(i:Int)/\∀j,j<i->b j=false) s.n _ m ⟨rfl,λj c=>Es c (by omega)⟩ ?_;rintro l i x1 q ⟨rfl,h⟩ d;by_cases hl:i<s.n
  .refine Ah (Ac (B9 (by rw[Kk];exact o i hl) ?_));cases hb:b i
   .refine Bi (d hl _ ⟨Bn,λj c=>?_⟩);by_cases e:j=i
    .subst e;exact hb
    exact h j (by omega)
   exact ifT rfl ⟨i,rfl,λ_=>⟨i,hl,hb⟩,λ_=>by omega⟩
  refine Bh ⟨-1,rfl,λh=>Es h (by decide),?_⟩;rintro⟨j,c,hb⟩;rw[h j (by omega)]at hb;cases hb
 obtain⟨y,e,hy⟩:=this;exact B9 e ⟨_,rfl,by rw[Fb];exact hy⟩
def Aq8 (N:Nat)(laws:Sl Law):Prop:=laws.n<=64/\∀i,i<laws.n->chkAll N (laws.g i)
def BX (laws:Sl Law):Prop:=∀i,i<laws.n->QU (laws.g i)
def Aq9 (d:3000000<=N){laws:Sl Law}(hl:BX laws):∃e,BS N laws=some e/\(e=0->Aq8 N laws):=by
 unfold BS;by_cases hn:64<laws.n
 .exact Ah ⟨12,rfl,λh=>by cases h⟩
 refine Bh ?_;have j:∀i,∃b,i<laws.n->T6 N (laws.g i)=some b/\(b=true ↔ ¬chkAll N (laws.g i)):=by
  intro i;by_cases a:i<laws.n
  .obtain⟨e,e1,l⟩:=IY d (hl i a);refine⟨e != 0,λ_=>⟨by unfold T6;rw[e1];rfl,?_⟩⟩;rcases l with⟨rfl,h⟩ | ⟨rfl,h⟩
   .exact⟨λh=>Es h (by decide),λg=>Es h g⟩
   exact⟨λ_=>h,λ_=>by decide⟩
  exact⟨false,λh=>Es h a⟩
 obtain⟨f,c⟩:=Bs7 j;obtain⟨r,e1,h1⟩:=Wl (N:=N) (s:=laws) (by omega) (by omega) (f:=λu1=>T6 N u1) (λi a=>(c i a).1);refine B9 e1 ?_;cases m:r
 .refine Bi ⟨0,rfl,λ_=>⟨by omega,λi a=>Bm4 λhn=>?_⟩⟩
  have:=h1.2 ⟨i,a,(c i a).2.2 hn⟩
  rw[m]at this;cases this
 exact ifT rfl ⟨17,rfl,λh=>by cases h⟩
def Ae8 (c:3000000<=N){laws:Sl Law}(hl:BX laws){w:Sl Jf}(hw:∀i,i<w.n->okS (w.g i)) :∃e,BU N laws (Sl.of [w]:Sl (Sl Jf))=some e/\(e=0->Aq8 N laws/\wOk w):=by
 unfold BU;obtain⟨e,e1,h1⟩:=Aq9 c hl;refine B9 e1 ?_;by_cases a:e=0
 case neg=>exact ifT (by simpa using a) ⟨e,rfl,λh=>Es h a⟩
 refine ifF (by simp[a]) (ifF (by show ¬decide ((256:Int)<((1:Nat):Int))=true;decide) ?_);refine FC (λi x1=>x1=(i:Int)/\(0<i->wOk w)) 1 _ (by omega) ⟨rfl,λh=>Es h (by omega)⟩ ?_;rintro b i x1 j ⟨rfl,h⟩ hs;by_cases d:i<1
 .obtain rfl:i=0:=by omega
  obtain⟨e,e1,f⟩:=LF (N:=N) (by omega) hw;refine ifT (by show decide (((0:Nat):Int)<((1:Nat):Int))=true;decide) (ifT (by show (0:Int)<=((0:Nat):Int)/\((0:Nat):Int)<((1:Nat):Int);omega) (B9 e1 ?_));by_cases a:e=0
  .exact ifF (by simp[a]) (hs (by omega) _ ⟨rfl,λ_=>(LE f).1 a⟩)
  exact ifT (by simpa using a) ⟨e,rfl,λh=>Es h a⟩
 exact ifF (by show ¬decide ((i:Int)<((1:Nat):Int))=true;simp;omega) ⟨0,rfl,λ_=>⟨h1 a,h (by omega)⟩⟩
def Nc (N:Nat)(c:Int)(q1:Sl Law)(a:Sl Jf->Int->Option Zs)(x1:Sl Jf)(x2:Int):Option Zs:= if (decide (x2<(q1.n:Int))) then if ((0:Int)<=x2/\x2<(q1.n:Int))then (Cm N (q1.g x2.toNat) x1).bind λy4=>if (y4.2 != 0) then if y4.2=c then some []else none else Ag (wrap .i64 (x2+1),y4.1) (a y4.1 (wrap .i64 (x2+1))) else none else if c=0 then some []else none
def PN {c:Int}{laws:Sl Law}{a:Sl Jf->Int->Option Zs}{w:Sl Jf}{i:Nat}(d:i<laws.n)(b:laws.n<=64){y:Sl Jf×Int}(h:Cm N (laws.g i) w=some y) :Nc N c laws a w (i:Int)=if (y.2 != 0) then (if y.2=c then some []else none)else Ag (((i+1:Nat):Int),y.1) (a y.1 ((i+1:Nat):Int)):=by unfold Nc;rw[Ej (show decide ((i:Int)<(laws.n:Int))=true by simp;omega),Ce,Kk,h,Lf,Bn]
def Ar0:Sl Jf->Zs->Sl Jf
 |w,[]=>w
 |_,(_,v)::L=>Ar0 v L
def TR:∀(L:Zs) (w:Sl Jf),T4 L (λ(a:Sl Jf->Option (Sl Jf)) (x1:Int×(Sl Jf)) (z1:Sl Jf)=>a x1.2) (λ(z1:Sl Jf)=>some z1) w=some (Ar0 w L)
 |[],w=>rfl
 |(p,v)::L,w=>TR L v
def Ar1 (d:3000000<=N){laws:Sl Law}(hl:BX laws)(b:Aq8 N laws):∀(m i:Nat) (w:Sl Jf),wOk w->i<=laws.n->laws.n<=i+m->∀M,m<M ->
 (∃L,Bx M (Nc N 0 laws) w i=some L/\wOk (Ar0 w L)) \/ (∃L,Bx M (Nc N 0 laws) w i=none/\Bx M (Nc N 11 laws) w i=some L):=by
 have c:=b.1;intro m
 induction m with
 |zero=>intro i w hw f hm M g;obtain⟨M,rfl⟩:∃K,M=K+1:=⟨M-1,by omega⟩;exact .inl ⟨[],by rw[CL,Nc,Dn,Ej rfl],hw⟩
 |succ m ih=>
  intro i w hw f hm M g;obtain⟨M,rfl⟩:∃K,M=K+1:=⟨M-1,by omega⟩;by_cases a:i<laws.n
  case neg=>exact .inl ⟨[],by rw[CL,Nc,Dn,Ej rfl],hw⟩
  obtain⟨v,e,g1,g2⟩:=AT4 d ⟨hl i a,b.2 i a⟩ hw;rw[CL,CL,PN a c g1,PN a c g1];rcases g2 with rfl|⟨rfl,g2⟩
  .exact .inr ⟨[],rfl,rfl⟩
  rw[Er (by simp),Er (by simp)];rcases ih (i+1) v g2 (by omega) (by omega) M (by omega)with⟨L,a1,a2⟩ | ⟨L,a1,a2⟩
  .exact .inl ⟨((i+1:Nat),v)::L,by dsimp only;rw[a1];rfl,a2⟩
  exact .inr ⟨((i+1:Nat),v)::L,by dsimp only;rw[a1];rfl,by dsimp only;rw[a2];rfl⟩
def PO (l:3000000<=N){laws:Sl Law}(hl:BX laws){w:Sl Jf}(hw:∀i,i<w.n->okS (w.g i)):∃r,S9 N laws w=some r/\(r.2=0->wOk r.1):=by
 obtain⟨e,e1,m⟩:=Ae8 l hl hw;unfold S9;rw[e1,Lf];by_cases j:e=0
 case neg=>exact⟨_,Ej (by simpa using j),λh=>Es h j⟩
 rw[Er (by simp[j])];obtain⟨d,f⟩:=m j;have o:=d.1;have q:=f.1;have b:∀c,K7 N c laws w=(Ag (0,w) (Bx N (Nc N c laws) w ((0:Nat):Int))).bind λL1=>T4 L1 (λ(a:Sl Jf->Option (Sl Jf)) (x1:Int×(Sl Jf)) (z1:Sl Jf)=>a x1.2) (λ(z1:Sl Jf)=>some z1) Iy:=by intro c;unfold K7 DF BZ A6;rw[Lf,Ej (by dsimp only;omega),Lf];rfl
 unfold Ca;rw[b,b];rcases Ar1 l hl d laws.n 0 w f (by omega) (by omega) N (by omega)with⟨L,g1,g2⟩ | ⟨L,g1,g2⟩
 .rw[g1]
  have:(Ag (0,w) (some L)).bind (λL1=>T4 L1 (λ(a:Sl Jf->Option (Sl Jf)) (x1:Int×(Sl Jf)) (z1:Sl Jf)=>a x1.2) (λ(z1:Sl Jf)=>some z1) Iy)=some (Ar0 w L):=TR _ _
  rw[this];exact⟨_,rfl,λ_=>g2⟩
 rw[g1,g2]
 have:(Ag (0,w) (some L)).bind (λL1=>T4 L1 (λ(a:Sl Jf->Option (Sl Jf)) (x1:Int×(Sl Jf)) (z1:Sl Jf)=>a x1.2) (λ(z1:Sl Jf)=>some z1) Iy)=some (Ar0 w L):=TR _ _
 rw[this];exact⟨_,rfl,λh=>by cases h⟩
end Go.AM
namespace Go.AM
open Go.Proofs
def TT {α : Type}(s:Sl α)(a : α):(s.push a).toList=s.toList++[a]:=by
 show (List.range (s.n+1)).map (λi=>if i<s.n then s.g i else a)=_;rw[Bt6,Br9];congr 1
 .exact Bl3 λi b=>Ej (Bl7.1 b)
 simp
def FP {α : Type}(s:Sl α):s.toList.length=s.n:=by simp[Sl.toList]
def AK8 {N:Nat}{x y:Sl Jf}(d:x.n<N)(hs:x.n<10000000):∃b,X0 N x y=some b:=by
 have h:∃b,E5 N x y=some b/\True:=by
  unfold E5;by_cases hn:x.n=y.n
  case neg=>exact Ah ⟨false,rfl,trivial⟩
  refine ifF (by simp[hn]) ?_;refine FC (λi x1=>x1=(i:Int)) x.n _ d rfl ?_;rintro c i x1 f rfl a;by_cases hl:i<x.n
  .refine Ah (Ac ?_);split
   .exact⟨false,rfl,trivial⟩
   exact a hl _ (Bn)
  exact Bh ⟨true,rfl,trivial⟩
 obtain⟨b,h,_⟩:=h;exact⟨b,by unfold X0;rw[h];rfl⟩
abbrev okA (w:Sl Jf):Prop:=∀i,i<w.n->okS (w.g i)
end Go.AM
namespace Go.AM
variable {N:Nat}
open IntKind (wrap)
open Go.Proofs
abbrev Be7 (y:Int):Bool:=((((decide (97<=y))&&(decide (y<=122)))||((decide (65<=y))&&(decide (y<=90))))||((decide (48<=y))&&(decide (y<=57))))||(y==45)
def HL (s:Str):Bool:=(decide (1<=s.length)&&decide (s.length<=24))&&s.all λc=>Be7 ((c.toNat:Nat):Int)
def Zt {α : Type}{o:Option α}{a : α}(h:∃r,o=some r/\r=a):o=some a:=by obtain⟨r,h,rfl⟩:=h;exact h
def Ar2 (l:1000<=N){s:Str}(hb:HL s=true){let_:Int->Option Bool}(hl:∀y,let_ y=some (Be7 y)){fin:Bool}(f:1<=s.length->s.length<=24->fin=true) :W8 N (λ(a:Int->Option Bool) (x1:Int)=>
  if (decide (x1<(s.length:Int))) then
   if ((0:Int)<=x1/\x1<(s.length:Int))then
    (let_ (HX s x1)).bind λy3=>
    if (!y3) then
     some false
    else
     a (wrap .i64 (x1+1))
   else none
  else
   some fin
 ) 0=some true:=by
 unfold HL at hb;rw[Bi1,Bi1,Fb,Fb,Bi8]at hb;obtain⟨⟨h1,g⟩,j⟩:=hb;refine Zt (FC (λi x1=>x1=(i:Int)) s.length _ (by omega) rfl ?_);rintro d i x1 m rfl c;by_cases b:i<s.length
 .have eb:HX s (i:Int)=((s[i].toNat:Nat):Int):=by simp[HX,b]
  refine Ah (Ac (B9 (hl _) ?_));rw[eb,j s[i] (Bv3 b)];exact Bi (c b _ (Bn))
 exact Bh ⟨_,rfl,f h1 g⟩
def Ar3 (a:1000<=N){s:Str}(hb:HL s=true):DV N s=some true:=by unfold DV;exact Ar2 a hb (λy=>rfl) λ_ _=>by simp;omega
def AE9 (a:1000<=N){s:Str}(hb:HL s=true):EJ N s=some true:=by unfold EJ;exact Ar2 a hb (λy=>rfl) λ_ _=>by simp;omega
def Be8 (t:Sl Node)(v:Nat):Prop:=(v=0->(t.g 0).No = -1)/\(0<v->0<=(t.g v).No/\(t.g v).No<v)/\HL (t.g v).Name=true/\∀u,u<v->(t.g u).Name≠(t.g v).Name
def Fx (t:Sl Node):Prop:=1<=t.n/\t.n<=63/\∀v,v<t.n->Be8 t v
def Mk {ν : Type}{k s:Str}{v : ν}:∀es:List (Str × ν),R8 eqS s (Eh eqS k v es)=if s=k then some v else R8 eqS s es
 |[]=>by simp only[Eh,R8];by_cases h:s=k<;>simp[eqS,h]
 |(a,x)::es=>by
  simp only[Eh];by_cases h:k=a
  .subst h;rw[Ej (by simp[eqS])];simp only[R8];by_cases b:s=k<;>simp[eqS,b]
  rw[Er (by simp[eqS,h])];simp only[R8];rw[Mk es];by_cases b:s=k
  .subst b;simp[eqS,h]
  simp[b]
def AF0 (q:3000000<=N){t:Sl Node}(ht:Fx t):Dt N t=some 0:=by
 obtain⟨s,o,hk⟩:=ht;unfold Dt;refine Zt (ifT (λ_ _=>by omega) (ifF (by simp[(hk 0 (by omega)).1 rfl];omega) ?_));refine FC (λi x1=>x1=(i:Int)) t.n _ (by omega) rfl ?_;rintro c i x1 u rfl hs;by_cases d:i<t.n
 case neg=>exact Bh ⟨0,rfl,rfl⟩
 obtain⟨k1,k2,k3,k4⟩:=hk i d;have a:=AE9 (N:=N) (by omega) k3;refine Ah (ltX ?_);dsimp only;rw[Kk,a];have rest:∃r,(if (false:Bool) then some 16 else
  W8 N (λ(b:Int->Option Int) (x7:Int)=>
   if (decide (x7<(i:Int))) then
    if (((0:Int)<=x7/\x7<(t.n:Int))/\((0:Int)<=(i:Int)/\(i:Int)<(t.n:Int)))then
     if (((t.g x7.toNat).Name==(t.g i).Name) != false) then
      some 16
     else
      b (wrap .i64 (x7+1))
    else none
   else
    c (wrap .i64 ((i:Int)+1))
   ) 0)=some r/\r=0:=by
  refine Bi ?_;refine FC (λk x7=>x7=(k:Int)) i _ (by omega) rfl ?_;rintro l k x7 hk rfl m;by_cases f:k<i
  .refine Ah (Ac ?_);rw[Kk];exact ifF (by simp[k4 k f]) (m f _ (Bn))
  exact Bh (hs d _ (Bn))
 by_cases j:0<i
 .have:=k2 j
  exact Ah (Ac (Bh (Ac (Bh (Ac (B9 rfl rest))))))
 exact Bh (Ac (B9 rfl rest))
def NM (d:3000000<=N){t:Sl Node}(ht:Fx t):X1 N t=some 0:=by
 obtain⟨f,c,hk⟩:=ht;unfold X1;refine Zt (Bh ?_);refine W7 (λi (x2:List (Str×Bool)) x3=>x3=(i:Int)/\∀s,(∀u,u<i->(t.g u).Name≠s)->R8 eqS s x2=none) t.n _ (by omega) ⟨rfl,λs _=>rfl⟩ ?_;rintro b i x2 x3 j ⟨rfl,hm⟩ hs;by_cases a:i<t.n
 case neg=>exact Bh ⟨0,rfl,rfl⟩
 obtain⟨k1,k2,k3,k4⟩:=hk i a;have e1:(if 0<wrap .i64 ((i:Int)-1)then (0:Int)else wrap .i64 ((i:Int)-1))=if i=0 then -1 else 0:=by rw[Lm];split<;>split<;>omega
 refine Ah (Ac (ltX ?_));dsimp only;rw[Kk,e1,Ar3 (N:=N) (by omega) k3,hm _ k4];have hp:(t.g i).No<i/\(if i=0 then -1 else 0)<=(t.g i).No:=by
  by_cases e:i=0
  .subst e;have:=k1 rfl;rw[Ej rfl];omega
  have:=k2 (by omega);rw[Er e];omega
 refine Bh (Bh (B9 rfl (Bi ?_)));rw[CM];refine Bi (hs a _ _ ⟨Bn,λs h=>?_⟩);rw[Mk,Er λe=>h i (by omega) e.symm];exact hm s λu l=>h u (by omega)
end Go.AM
namespace Go.AM
variable {N:Nat}
open IntKind (wrap)
open Go.Proofs
structure wkH (h:Nm):Prop where
 tree:Fx h.Tree
 ten:h.Tree.n<=10
 ln:h.Laws.n<=64
 laws:∀i,i<h.Laws.n->QU (h.Laws.g i)
 on:h.On.n=h.Tree.n
 row:∀v,v<h.On.n->(h.On.g v).n<=5
 rng:∀v,v<h.On.n->∀k,k<(h.On.g v).n->0<=(h.On.g v).g k/\(h.On.g v).g k<h.Laws.n
structure okH (N:Nat) (h:Nm):Prop where
 tree:Fx h.Tree
 ten:h.Tree.n<=10
 ln:h.Laws.n<=64
 laws:∀i,i<h.Laws.n->AE7 N (h.Laws.g i)
 on:h.On.n=h.Tree.n
 row:∀v,v<h.On.n->(h.On.g v).n<=5
 rng:∀v,v<h.On.n->∀k,k<(h.On.g v).n->0<=(h.On.g v).g k/\(h.On.g v).g k<h.Laws.n
 chk:K3 N h=some 0
def IL {t:Sl Node}(ht:Fx t){v:Nat}(a:v<t.n):(v=0/\(t.g v).No = -1) \/ ∃p:Nat,p<v/\(t.g v).No=(p:Int):=by
 have hk:=ht.2.2 v a;by_cases b:v=0
 .subst b;exact .inl ⟨rfl,hk.1 rfl⟩
 obtain⟨g1,g2⟩:=hk.2.1 (by omega);exact .inr ⟨(t.g v).No.toNat,by omega,by omega⟩
def AF1 (hN:3000000<=N){h:Nm}(f:wkH h):AA N h=some 0:=by
 have x:=f.ten;have hn:=f.on;unfold AA;refine Zt (Ac ?_);refine Ao9 (λi (x4:Sl Int) (x5:Bool) x6=>x6=(i:Int)/\x4.n=h.On.n/\(∀v,v<i->0<=x4.g v/\x4.g v<=5*(v+1))/\x5=false) h.On.n _ (by omega) ⟨rfl,by show ((h.On.n:Nat):Int).toNat=_;omega,λv m=>Es m (by omega),rfl⟩ ?_;rintro j i x4 x5 x6 hle ⟨rfl,hx,hp,rfl⟩ hs;by_cases c:i<h.On.n
 case neg=>exact Bh (Bi ⟨0,rfl,rfl⟩)
 have w:=f.row i c;refine Ah (ifT (by rw[Kk];omega) (Ac (ltX ?_)));rw[Kk];have rest:∀z:Sl Int,z.n=h.On.n->(∀v,v<i->z.g v=x4.g v)->0<=z.g i/\z.g i<=5*(i+1)->∃r,(if (((0:Int)<=(i:Int)/\(i:Int)<(z.n:Int))/\i<z.n)then
  if (decide (64<(z.g i))) then
   some 2
  else
   Bx N (λ(d:Bool->Int->Option Int) (b:Bool) (a:Int)=>
    if (decide (a<((h.On.g i).n:Int))) then
     if ((0:Int)<=a/\a<((h.On.g i).n:Int))then
      d ((b||(decide (((h.On.g i).g a.toNat)<0)))||(decide ((h.Laws.n:Int)<=((h.On.g i).g a.toNat)))) (wrap .i64 (a+1))
     else none
    else
     j z b (wrap .i64 ((i:Int)+1))
    ) false 0
  else none)=some r/\r=0:=by
  intro z y o q;refine Ac (Bh ?_);refine W7 (λk (b:Bool) a=>a=(k:Int)/\b=false) (h.On.g i).n _ (by omega) ⟨rfl,rfl⟩ ?_;rintro s k b a hk ⟨rfl,rfl⟩ t;by_cases l:k<(h.On.g i).n
  .have:=f.rng i c k l
   refine Ah (Ac (t l _ _ ⟨Bn,?_⟩));rw[Kk,decide_eq_false (by omega),decide_eq_false (by omega)];rfl
  refine Bh (hs c _ _ _ ⟨Bn,y,λv m=>?_,rfl⟩);by_cases e:v=i
  .subst e;exact q
  rw[o v (by omega)];exact hp v (by omega)
 rcases IL f.tree (v:=i) (by omega)with⟨_,e⟩ | ⟨p,u,e⟩
 .rw[e];refine Bm (rest _ hx (λv m=>?_) ?_)
  .show (if v=i then _ else x4.g v)=_;rw[Cj]
  show 0<=(if i=i then ((h.On.g i).n:Int)else _)/\(if i=i then ((h.On.g i).n:Int)else _)<=_;rw[Ej rfl];omega
 have a0:=hp p u;rw[e];refine Ai (ifT ?_ ?_)
 .show ((((((0:Int)<=(i:Int)/\(i:Int)<(x4.n:Int))/\i<x4.n)/\(0:Int)<=(p:Int)/\(p:Int)<(x4.n:Int))/\(p:Int).toNat<x4.n)/\(0:Int)<=(i:Int)/\(i:Int)<(x4.n:Int))/\i<x4.n;omega
 rw[Kk];refine rest _ hx (λv m=>?_) ?_
 .show (if v=i then _ else if v=i then _ else x4.g v)=_;rw[Cj,Cj]
 have e:((x4.upd i ((h.On.g i).n:Int)).upd i (wrap .i64 (((x4.upd i ((h.On.g i).n:Int)).g i)+((x4.upd i ((h.On.g i).n:Int)).g p)))).g i=((h.On.g i).n:Int)+x4.g p:=by show (if i=i then wrap .i64 ((if i=i then ((h.On.g i).n:Int)else _)+(if p=i then _ else x4.g p))else _)=_;rw[Ej rfl,Ej rfl,Cj,Lm]
 rw[e];omega
def Zu {ν : Type}{k:Str}{v : ν}:∀{es:List (Str × ν)},R8 eqS k es=none->(Eh eqS k v es).length=es.length+1
 |[],_=>rfl
 |(a,x)::es,h=>by
  simp only[R8]at h;simp only[Eh];by_cases e:eqS k a=true
  .rw[Ej e]at h;cases h
  rw[Er e]at h;rw[Er e,Bk7,Zu h];rfl
def RX (d:3000000<=N){h:Nm}(c:wkH h):∃e,K3 N h=some e/\((e=0->∀i,i<h.Laws.n->chkAll N (h.Laws.g i))/\((∀i,i<h.Laws.n->chkAll N (h.Laws.g i))->(∀u v,u<v->v<h.Laws.n->(h.Laws.g u).Name≠(h.Laws.g v).Name)->e=0)):=by
 have o:=c.ln;unfold K3;refine B9 (NM d c.tree) (Bm (Bh ?_));refine W7 (λi (x1:List (Str×Int)) x2=>x2=(i:Int)/\(∀j,j<i->chkAll N (h.Laws.g j))/\((∀u v,u<v->v<h.Laws.n->(h.Laws.g u).Name≠(h.Laws.g v).Name)->(∀s,(∀u,u<i->(h.Laws.g u).Name≠s)->R8 eqS s x1=none)/\x1.length=i)) h.Laws.n _ (by omega) ⟨rfl,λj f=>Es f (by omega),λ_=>⟨λs _=>rfl,rfl⟩⟩ ?_;rintro l i x1 x2 hle ⟨rfl,hc,hm⟩ hs;by_cases a:i<h.Laws.n
 .obtain⟨y,y1,hy⟩:=IY d (c.laws i a);refine Ah (Ac (B9 (by rw[Kk];exact y1) ?_));rcases hy with⟨rfl,hy⟩ | ⟨rfl,hy⟩
  case inr=>exact Aq ⟨17,rfl,λe=>(by cases e),λg=>Es (g i a) hy⟩
  refine Bm ?_;have b : ∀j,j<i+1->chkAll N (h.Laws.g j):=λj f=>by
   by_cases e:j=i
   .subst e;exact hy
   exact hc j (by omega)
  rw[Kk];rcases g:R8 eqS (h.Laws.g i).Name x1 with _|v
  .rw[CM];refine hs a _ _ ⟨Bn,b,λD=>⟨λs hs=>?_,by rw[Zu g,(hm D).2]⟩⟩;rw[Mk,Er λe=>hs i (by omega) e.symm];exact (hm D).1 s λu m=>hs u (by omega)
  rw[EU];exact hs a _ _ ⟨Bn,b,λD=>by have:=(hm D).1 _ λu m=>D u i m a;rw[g]at this;cases this⟩
 refine Bh ?_;rw[Xk];have b : ∀i,i<h.Laws.n->chkAll N (h.Laws.g i):=λj f=>hc j (by omega);by_cases hl:x1.length<h.Laws.n
 .exact Ah ⟨6,rfl,λe=>(by cases e),λ_ D=>(by have:=(hm D).2;omega)⟩
 exact Bh (ifF (by simp[c.on]) (B9 (AF1 d c) ⟨0,rfl,λ_=>b,λ_ _=>rfl⟩))
def AK9 {h:Nm}(a:wkH h)(c:∀i,i<h.Laws.n->chkAll N (h.Laws.g i))(hc:K3 N h=some 0):okH N h:=⟨a.tree,a.ten,a.ln,λi b=>⟨a.laws i b,c i b⟩,a.on,a.row,a.rng,hc⟩
end Go.AM
namespace Go.AM
variable {N:Nat}
open IntKind (wrap)
open Go.Proofs
def Be9 {t:Sl Node}(ht:Fx t){u:Nat}(a:u<t.n) : -1<=(t.g u).No/\(t.g u).No<u:=by
 rcases IL ht a with⟨b,e⟩ | ⟨p,hp,e⟩
 .rw[e];omega
 rw[e];omega
def AL0 (o:3000000<=N){t:Sl Node}(ht:Fx t){v:Nat}(q:v<t.n):∃L,T0 N (v:Int) t=some L/\L.length<=64/\∀x∈L,∃u:Nat,x=(u:Int)/\u<t.n:=by
 have f:=ht.2.1;unfold T0;refine W7 (λi (x1:Int) (x2:Sl Int)=>-1<=x1/\x1<t.n/\x1+i<=v/\x2.n=i/\∀j,j<x2.n->∃u:Nat,x2.g j=(u:Int)/\u<t.n) (v+1) _ (by omega) ⟨by omega,by omega,by omega,rfl,λj b=>Es b (Bj5 j)⟩ ?_;rintro c i x1 x2 r ⟨h1,s,y,z,d⟩ hs;by_cases hx:0<=x1
 .obtain⟨u,rfl⟩:∃u:Nat,x1=u:=⟨x1.toNat,by omega⟩;refine Ai (ifT ⟨by show (x2.n+1)*8<=_/\x2.n+1<=_;omega,by omega⟩ ?_);rw[Kk];have hp:=Be9 ht (u:=u) (by omega);refine hs (by omega) _ _ ⟨hp.1,by omega,by omega,by show x2.n+1=_;omega,λj b=>?_⟩;show ∃w:Nat,(if j<x2.n then x2.g j else (u:Int))=w/\w<t.n;split
  .exact d j (by assumption)
  exact⟨u,rfl,by omega⟩
 refine Bh ?_;have hb:∀(m M:Nat),m<=x2.n->m<M->∃L,W8 M (λ(a:Int->Option (List Int)) (x3:Int)=>
  if (decide (0<=x3)) then
   if (((0:Int)<=x3/\x3<(x2.n:Int))/\x3.toNat<x2.n)then
    Ag (x2.g x3.toNat) (
     a (wrap .i64 (x3-1))
     )
   else none
  else
   some []
  ) ((m:Int)-1)=some L/\L.length<=m/\∀x∈L,∃u:Nat,x=(u:Int)/\u<t.n:=by
  intro m
  induction m with
  |zero=>intro M _ l;obtain⟨M,rfl⟩:∃K,M=K+1:=⟨M-1,by omega⟩;exact⟨[],by rw[I3,Er (by decide)],Bi3 _,by simp⟩
  |succ m ih=>intro M hm l;obtain⟨M,rfl⟩:∃K,M=K+1:=⟨M-1,by omega⟩;obtain⟨L,l1,l2,l3⟩:=ih M (by omega) (by omega);refine⟨x2.g m::L,?_,by simp;omega,λx hx=>(Bj7.1 hx).elim (λe=>e ▸ d m (by omega)) (l3 x)⟩;rw[I3,show ((m+1:Nat):Int)-1=(m:Int) by omega,Ej (by simp),Ce,Lm,l1,Kk];rfl
 rw[Lm];obtain⟨L,l1,l2,l3⟩:=hb x2.n N (Bi3 _) (by omega);exact⟨L,l1,by omega,l3⟩
abbrev Bf0 (h:Nm)(s:Sl Int):Prop:=∀k,k<s.n->0<=s.g k/\s.g k<h.Laws.n
def AT5 (j:3000000<=N){h:Nm}(b:okH N h){v:Nat}(l:v<h.Tree.n):∃s,Z8 N h (v:Int)=some (s,0)/\s.n<=1000/\Bf0 h s:=by
 have m:=b.on;obtain⟨L,l1,l2,l3⟩:=AL0 j b.tree l;unfold Z8;rw[b.chk,Lf,Er (by decide),U8,Lf,Dn,Ba,Lf];show ∃s,(T0 N (v:Int) h.Tree).bind _=_/\_;rw[l1,Lf];have key:∃r:Sl Int×Int,T4 L (λ(a:Sl Int->Option ((Sl Int)×Int)) (x1:Int) (z1:Sl Int)=>
  if (((0:Int)<=x1/\x1<(h.On.n:Int))/\(Kh 8 (z1.n+(h.On.g x1.toNat).n)))then
   a (z1.app (h.On.g x1.toNat))
  else none
  ) (λ(z1:Sl Int)=>
   some (z1,0)
  ) Iv=some r/\(r.2=0/\r.1.n<=1000/\Bf0 h r.1):=by
  refine Wg (λ(R:List Int) (z:Sl Int)=>z.n+5*R.length<=1000/\Bf0 h z/\∀x∈R,∃u:Nat,x=(u:Int)/\u<h.Tree.n) (λz c=>⟨_,rfl,rfl,by have:=c.1;simp at this;omega,c.2.1⟩) ?_ L _ ⟨by show 0+_<=_;omega,λk hk=>Es hk (Bj5 k),l3⟩;rintro x R z d ⟨h1,o,f⟩ hs;obtain⟨u,rfl,q⟩:=f x (by simp);have i:=b.row u (by omega);simp only[Bk7]at h1;rw[Kk];refine Ac (hs _ ⟨by show z.n+(h.On.g u).n+_<=_;omega,λk hk=>?_,λy hy=>f y (by simp[hy])⟩);have hk:k<z.n+(h.On.g u).n:=hk;show 0<=(if k<z.n then z.g k else (h.On.g u).g (k-z.n))/\(if k<z.n then z.g k else (h.On.g u).g (k-z.n))<_;split
  .exact o k (by assumption)
  exact b.rng u (by omega) _ (by omega)
 obtain⟨⟨s,e⟩,k1,k2,k3,k4⟩:=key;obtain rfl:e=0:=k2;exact⟨s,k1,k3,k4⟩
def Ml:∀(d:Nat) (p:Pat),okQ d p->∀M,100+d<=M->S1 M p=some p
 |0,p,h,M,_=>h.elim
 |d+1,p,h,0,hM=>by omega
 |d+1,p,h,M+1,hM=>by
  show T1 (S1 M) M p=some p;unfold T1;have hn:=h.2.1;refine Zt (FC (λi x2=>x2=(i:Int)) p.L.n _ (by omega) rfl ?_);rintro a i x2 b rfl hs;by_cases hl:i<p.L.n
  .refine Ah (Ac ?_);rw[Kk];exact B9 (Ml d (p.L.g i) (h.2.2 i hl) M (by omega)) (Ac (hs hl _ (Bn)))
  exact Bh (Ac ⟨_,rfl,rfl⟩)
def Wm (a:3000000<=N){l:Law}(hl:AE7 N l):T7 N l=some l:=by obtain⟨h1,b,c,d⟩:=hl.1;obtain⟨_,c1,c2,c3,c4,_⟩:=hl.2;unfold T7 A6 H6;rw[Ml 40 l.Left (TP 40 _ (by omega) c1 _ (by simp)) N (by omega),Ml 40 l.Right (TP 40 _ (by omega) c2 _ (by simp)) N (by omega),Lf,Lf,Ce,Lf,Ce];rfl
def PP {α : Type}[Inhabited α](l:List α):Sl α:=l.foldl Sl.push Sl.nil
def Ae9 {α : Type}[Inhabited α](l:List α)(x : α):PP (l++[x])=(PP l).push x:=List.foldl_append
def Zv {α : Type}[Inhabited α](l:List α):(PP l).toList=l:=by
 have:∀(l:List α) (s:Sl α),(l.foldl Sl.push s).toList=s.toList++l:=by
  intro l
  induction l with
  |nil=>intro s;simp
  |cons x l ih=>intro s;rw[Bt3,ih,TT];simp
 exact this l Sl.nil
def AT6 {α : Type}[Inhabited α](l:List α):(PP l).n=l.length:=by rw[<- FP,Zv]
def Yk {α : Type}{s:Sl α}{i:Nat}(h:i<s.n):s.toList.take (i+1)=s.toList.take i++[s.g i]:=by rw[List.take_add_one];simp[Sl.toList,h]
abbrev Af0 (h:Nm)(l:List Int):List Law:=l.map λx=>h.Laws.g x.toNat
def Ar4 (c:3000000<=N){h:Nm}(d:okH N h){l:Sl Int}(hn:l.n<=1000)(hl:Bf0 h l):R6 N h l=some (PP (Af0 h l.toList)):=by
 unfold R6;refine Zt (W7 (λi (x1:Sl Law) x2=>x2=(i:Int)/\x1=PP (Af0 h (l.toList.take i))) l.n _ (by omega) ⟨rfl,rfl⟩ ?_);rintro b i x1 x2 hle ⟨rfl,rfl⟩ hs;have hx:(PP (Af0 h (l.toList.take i))).n<=i:=by rw[AT6,Bk6];exact List.length_take_le _ _
 by_cases a:i<l.n
 .have f:=hl i a;refine Ah ?_;rw[Kk];exact ifT ⟨by omega,f⟩ (B9 (Wm c (d.laws (l.g i).toNat (by omega))) (ifT (by show (_+1)*200<=_/\_+1<=_;omega) (hs a _ _ ⟨Bn,by rw[Yk a];show _=PP (List.map _ (_++[l.g i]));rw[Br9];exact (Ae9 _ _).symm⟩)))
 exact Bh ⟨_,rfl,by rw[Bt0 (by rw[FP];omega)]⟩
def Zw {h:Nm}(a:okH N h){l:List Int}(hl:∀x∈l,0<=x/\x<h.Laws.n):BX (PP (Af0 h l)):=λj b=>by
 have hm:(PP (Af0 h l)).g j∈(PP (Af0 h l)).toList:=Bl2.2 ⟨j,Bl7.2 b,rfl⟩;rw[Zv]at hm;obtain⟨x,hx,e⟩:=Bl2.1 hm
 have:=hl x hx
 rw[<- e];exact (a.laws x.toNat (by omega)).1
def Ar5 {h:Nm}{s:Sl Int}(hs:Bf0 h s):∀x∈s.toList,0<=x/\x<h.Laws.n:=λx hx=>by obtain⟨j,a,rfl⟩:=Bl2.1 hx;exact hs j (Bl7.1 a)
def AT7 (b:3000000<=N){h:Nm}(a:okH N h){v:Nat}(c:v<h.Tree.n):∃s,R7 N h (v:Int)=some (s,0)/\BX s:=by obtain⟨l,l1,l2,l3⟩:=AT5 b a c;refine⟨_,?_,Zw a (Ar5 l3)⟩;unfold R7;rw[l1,Lf];show (R6 N h l).bind _=_;rw[Ar4 b a l2 l3];rfl
def At_ok (d:3000000<=N){h:Nm}(a:okH N h){w:Sl Jf}(hw:okA w)(v:Int):∃r,Cz N h w v=some r/\(r.2=0->wOk r.1):=by
 have o:=a.on;unfold Cz CW;rw[a.chk,Lf,Er (by decide)];obtain⟨e,e1,q⟩:=LF (N:=N) (by omega) hw;rw[e1];simp only[Lf];by_cases b:e=0
 case neg=>exact ifT (by simpa using b) ⟨_,rfl,λe=>Es e b⟩
 have f:wOk w:=(LE q).1 b;refine ifF (by simp[b]) ?_;rw[U8,Lf];by_cases t:0<=v/\v<(h.Tree.n:Int)
 case neg=>exact Ah ⟨_,rfl,λe=>Es e (by decide)⟩
 refine Bh ?_;rw[Ba,Lf];obtain⟨u,rfl⟩:∃u:Nat,v=(u:Int):=⟨v.toNat,by omega⟩;obtain⟨L,l1,l2,l3⟩:=AL0 d a.tree (v:=u) (by omega);refine B9 l1 ?_;refine Wg (λ(R:List Int) (z:Sl Jf)=>wOk z/\∀x∈R,∃u:Nat,x=(u:Int)/\u<h.Tree.n) (λz b=>⟨_,rfl,λ_=>b.1⟩) ?_ L _ ⟨f,l3⟩;rintro x R z j ⟨h1,m⟩ hs;obtain⟨u,rfl,hu⟩:=m x (by simp);have s1:=Ar4 d a (l:=h.On.g u) (by have:=a.row u (by omega);omega) (a.rng u (by omega));obtain⟨r,r1,r2⟩:=PO d (Zw a (Ar5 (a.rng u (by omega)))) (w:=z) λi s=>(h1.2 i s).ok;rw[Kk];refine Ac (B9 s1 (B9 r1 ?_));by_cases c:r.2=0
 .exact ifF (by simp[c]) (hs _ ⟨r2 c,λy hy=>m y (by simp[hy])⟩)
 exact ifT (by simpa using c) ⟨_,rfl,λe=>Es e c⟩
end Go.AM
namespace Go.AM
variable {N:Nat}
open IntKind (wrap)
open Go.Proofs
def TV (t:Sl Node)(v:Nat):Prop:=∀u,0<u->u<t.n->(t.g u).No≠(v:Int)
open Classical in
noncomputable def P3 (t:Sl Node):Nat->Sl Int
 |0=>Iv
 |i+1=>if TV t i then (P3 t i).push (i:Int)else P3 t i
def PQ {t:Sl Node}{i:Nat}(h:TV t i):P3 t (i+1)=(P3 t i).push (i:Int):=Ej h
def TW {t:Sl Node}{i:Nat}(h:¬TV t i):P3 t (i+1)=P3 t i:=Er h
def TX (t:Sl Node):∀i,(P3 t i).n<=i
 |0=>Bi3 0
 |i+1=>by
  have:=TX t i
  by_cases h:TV t i
  .rw[PQ h];show (P3 t i).n+1<=i+1;omega
  rw[TW h];omega
def IM (t:Sl Node):∀i k,k<(P3 t i).n->∃v:Nat,v<i/\(P3 t i).g k=(v:Int)
 |0,k,hk=>Es hk (Bj5 k)
 |i+1,k,hk=>by
  by_cases h:TV t i
  .rw[PQ h]at hk⊢;have hk:k<(P3 t i).n+1:=hk;show ∃v:Nat,v<i+1/\(if k<(P3 t i).n then (P3 t i).g k else (i:Int))=(v:Int);by_cases a:k<(P3 t i).n
   .rw[Ej a];obtain⟨v,h1,b⟩:=IM t i k a;exact⟨v,by omega,b⟩
   rw[Er a];exact⟨i,by omega,rfl⟩
  rw[TW h]at hk⊢;obtain⟨v,h1,b⟩:=IM t i k hk;exact⟨v,by omega,b⟩
def AF2 (s:3000000<=N){t:Sl Node}(ht:Fx t):∃X,AB N t=some X/\(X.n=t.n/\∀v,v<t.n->((X.g v).n=0↔TV t v)):=by
 have o:=ht.2.1;unfold AB;refine Ac (W7 (λi x (X:Sl (Sl Int))=>x=(i:Int)/\X.n=t.n/\∀v,v<t.n->(((X.g v).n=0 ↔ ∀u,0<u->u<i->(t.g u).No≠(v:Int))/\(X.g v).n<=i)) t.n _ (by omega)
  ⟨rfl,rfl,λv b=>⟨⟨λ_ u h1 a=>Es a (Bj5 u),λ_=>rfl⟩,Bi3 0⟩⟩ ?_)
 rintro l i x X hle ⟨rfl,c,f⟩ hs;by_cases hl:i<t.n
 case neg=>
  obtain rfl:i=t.n:=by omega
  exact Bi ⟨X,rfl,c,λv b=>(f v b).1⟩
 refine ifT (by simpa using hl) (Ac ?_);rw[Kk,Bn];rcases IL ht hl with⟨q,h1⟩ | ⟨p,hp,e⟩
 .subst q;rw[h1];refine ifT (by show Int.toNat (-1)<X.n;rw[c];exact hl) (ltX (Bi (hs hl _ _ ⟨rfl,c,λv b=>?_⟩)));have e:(X.upd (Int.toNat (-1)) (X.g (Int.toNat (-1)))).g v=X.g v:=by
   show (if v=_ then X.g (Int.toNat (-1))else X.g v)=X.g v;split
   .rename_i e;rw[e]
   rfl
  rw[e];obtain⟨g1,g2⟩:=f v b;exact⟨g1.trans ⟨λ_ u h1 a=>Es a (by omega),λ_ u h1 a=>Es a (by omega)⟩,by omega⟩
 rw[e,Kk];have j:p<t.n:=by omega
 have m:=(f p j).2;refine Ac (ltX (Ah (ifT ⟨⟨by omega,by rw[c];omega⟩,by omega,by omega⟩ (hs hl _ _ ⟨rfl,c,λv b=>?_⟩))));show ((if v=p then (X.g p).push (i:Int)else X.g v).n=0↔_)/\(if v=p then (X.g p).push (i:Int)else X.g v).n<=i+1;by_cases d:v=p
 .subst d;rw[Ej rfl];refine⟨⟨λh=>Es h (Nat.succ_ne_zero _),λh=>Es e (h i (by omega) (by omega))⟩,?_⟩;show (X.g v).n+1<=i+1;omega
 rw[Er d];obtain⟨g1,g2⟩:=f v b;refine⟨g1.trans ⟨λh u h1 a=>?_,λh u h1 a=>h u h1 (by omega)⟩,by omega⟩;by_cases r:u=i
 .subst r;rw[e];omega
 exact h u h1 (by omega)
def Bf1 {R:Type}{Q:R->Prop}{a:Sl Int->Int->Option R}{t:Sl Node}{i:Nat}(c:i<1000){b:Bool}(hb:b=true↔TV t i)(h:∃r,a (P3 t (i+1)) ((i+1:Nat):Int)=some r/\Q r) :∃r,(if b then
  if (Kh 8 ((P3 t i).n+(Sl.of [(i:Int)]:Sl Int).n))then
   a ((P3 t i).push (i:Int)) (wrap .i64 ((i:Int)+1))
  else none
  else a (P3 t i) (wrap .i64 ((i:Int)+1)))=some r/\Q r:=by
 have hn:=TX t i;rw[Bn];by_cases hk:TV t i
 .rw[PQ hk]at h;exact ifT (hb.2 hk) (ifT ⟨by show ((P3 t i).n+1)*8<=_;omega,by show (P3 t i).n+1<=_;omega⟩ h)
 rw[TW hk]at h;exact ifF (λg=>hk (hb.1 g)) h
def Yl (c:3000000<=N){t:Sl Node}(ht:Fx t):∃r,CX N t=some r/\r=P3 t t.n:=by
 have d:=ht.2.1;unfold CX;obtain⟨X,e,a,hk⟩:=AF2 c ht;refine B9 e (W7 (λi x1 x2=>x2=(i:Int)/\x1=P3 t i) t.n _ (by omega) ⟨rfl,rfl⟩ ?_);rintro b i x1 x2 hle ⟨rfl,rfl⟩ hs;by_cases hl:i<t.n
 .refine ifT (by rw[a];simpa using hl) (Ac ?_);rw[Kk];exact Bf1 (by omega) (by rw[<- hk i hl];simp) (hs hl _ _ ⟨rfl,rfl⟩)
 obtain rfl:i=t.n:=by omega
 exact ifF (by rw[a];simp) ⟨_,rfl,rfl⟩
def AF3 (l:3000000<=N){t:Sl Node}(ht:Fx t){v:Nat}(m:v<t.n):∃r,BV N t (v:Int)=some r/\(r.n=0↔TV t v):=by
 have f:=ht.2.1;unfold BV;refine W7 (λi (x1:Sl Int) x2=>x2=(i:Int)/\x1.n<=i/\(x1.n=0 ↔ ∀u,0<u->u<i->(t.g u).No≠(v:Int))) t.n _ (by omega) ⟨rfl,Bi3 0,λ_ u h1 a=>Es a (Bj5 u),λ_=>rfl⟩ ?_;rintro b i x1 x2 hle ⟨rfl,hn,c⟩ hs;by_cases hl:i<t.n
 .refine ifT (by simpa using hl) (Ac ?_);rw[Kk,Bn];by_cases hp:(t.g i).No=(v:Int)
  .have d:0<i:=by
    rcases IL ht hl with⟨d,h1⟩ | ⟨p,hp,e⟩
    .rw[h1]at hp;omega
    omega
   refine ifT (by simpa using hp) (ifT ⟨by show (x1.n+1)*8<=_;omega,by show x1.n+1<=_;omega⟩ (hs hl _ _ ⟨rfl,by show x1.n+1<=i+1;omega,λh=>Es h (Nat.succ_ne_zero _),λh=>Es hp (h i d (by omega))⟩))
  refine ifF (by simpa using hp) (hs hl _ _ ⟨rfl,by omega,c.trans ⟨λh u h1 a=>?_,λh u h1 a=>h u h1 (by omega)⟩⟩);by_cases j:u=i
  .subst j;exact hp
  exact h u h1 (by omega)
 obtain rfl:i=t.n:=by omega
 exact Bi ⟨_,rfl,c⟩
def IN (a:3000000<=N){t:Sl Node}(ht:Fx t):Q9 N t=some (P3 t t.n,0)/\AC N t=some (P3 t t.n,0):=by
 have c:=ht.2.1;unfold Q9 AC;rw[NM a ht,AF0 a ht,Lf,Lf,Er (by decide),Er (by decide)];obtain⟨r,g1,rfl⟩:=Yl a ht;refine⟨by rw[g1];rfl,Zt (W7 (λi x1 x2=>x2=(i:Int)/\x1=P3 t i) t.n _ (by omega) ⟨rfl,rfl⟩ ?_)⟩;rintro b i x1 x2 hle ⟨rfl,rfl⟩ hs;by_cases hl:i<t.n
 .refine ifT (by simpa using hl) ?_;obtain⟨r,k1,k2⟩:=AF3 a ht hl;exact B9 k1 (Bf1 (by omega) (by rw[<- k2];simp) (hs hl _ _ ⟨rfl,rfl⟩))
 obtain rfl:i=t.n:=by omega
 exact Bi ⟨_,rfl,rfl⟩
def Kt {t:Sl Node}(ht:Fx t):(P3 t t.n).n<=63:=by have:=TX t t.n;have:=ht.2.1;omega
end Go.AM
namespace Go.AM
variable {N:Nat}
open Go.Proofs
abbrev inT (t:Sl Node)(x:Int):Prop:=∃u:Nat,u<t.n/\x=(u:Int)
def Bf2 {t:Sl Node}(ht:Fx t):∀(M v:Nat),v+2<=M->v<t.n->∃L,W8 M (λ(a:Int->Option (List Int)) (x1:Int)=>
 if (decide (0<=x1)) then
  Ag x1 (
   if ((0:Int)<=x1/\x1<(t.n:Int))then
    a (t.g x1.toNat).No
   else none
   )
 else
  some []) (v:Int)=some L/\L.length<=v+1/\∀x∈L,inT t x
 |0,v,hM,_=>by omega
 |M+1,v,hM,hv=>by
  rw[I3,Ej (by simp),Ce,Kk];rcases IL ht hv with⟨_,e⟩ | ⟨p,hp,e⟩
  .obtain⟨M,rfl⟩:∃K,M=K+1:=⟨M-1,by omega⟩;rw[e,I3,Er (by decide)];exact⟨[(v:Int)],rfl,by simp,λx hx=>⟨v,hv,Bm6.1 hx⟩⟩
  obtain⟨L,l1,l2,l3⟩:=Bf2 ht M p (by omega) (by omega);rw[e,l1];exact⟨(v:Int)::L,rfl,by simp;omega,λx hx=>(Bj7.1 hx).elim (λe=>⟨v,hv,e⟩) (l3 x)⟩
def Bf3 {P:Int->Prop}{x:Sl Int}(hn:x.n<100000)(d:x.n<N)(f:∀j,j<x.n->P (x.g j)):∃s,I6 N x=some s/\(s.n=x.n/\∀j,j<s.n->P (s.g j)):=by
 unfold I6;refine Ao9 (λi (x1:Sl Int) x2 x3=>x2=(i:Int)/\x3=(x.n:Int)-1-(i:Int)/\x1.n=x.n/\∀j,j<x1.n->P (x1.g j)) x.n _ d ⟨rfl,(Lm).trans (by omega),rfl,f⟩ ?_;rintro c i x1 x2 x3 l ⟨rfl,rfl,hx,b⟩ hs;by_cases hl:(i:Int)<(x.n:Int)-1-(i:Int)
 .have e3:((x.n:Int)-1-(i:Int)).toNat=x.n-1-i:=by omega
  refine ifT (by simpa using hl) (ifT (by rw[Sl.upd];dsimp only;omega) ?_);rw[Kk,e3];refine hs (by omega) _ _ _ ⟨Bn,by rw[Lm];omega,hx,λj a=>?_⟩;have a:j<x1.n:=a;show P (if j=x.n-1-i then x1.g i else if j=i then x1.g (x.n-1-i)else x1.g j);split
  .exact b i (by omega)
  split
  .exact b _ (by omega)
  exact b j a
 exact ifF (by simpa using hl) ⟨_,rfl,hx,b⟩
def AT8 (f:3000000<=N){t:Sl Node}(ht:Fx t){v:Nat}(l:v<t.n):∃s,Fp N t (v:Int)=some (s,0)/\s.n<=64/\∀m,m<s.n->inT t (s.g m):=by
 have o:=ht.2.1;have hc:DW N t (Sl.of [(v:Int)]:Sl Int)=some 0:=by
  unfold DW;rw[NM f ht,Lf,Er (by decide)];refine Zt (FC (λi x=>x=(i:Int)) 1 _ (by omega) rfl ?_);rintro a i x r rfl hs;by_cases hl:i<1
  .obtain rfl:i=0:=by omega
   exact Ai (Ai (Bh (hs hl _ (Bn))))
  exact Bh ⟨_,rfl,rfl⟩
 obtain⟨L,l1,l2,l3⟩:=Bf2 ht N v (by omega) l;have b:∃z,G5 N L=some z/\(z.n=L.length/\∀j,j<z.n->inT t (z.g j)):=by
  unfold G5;refine Wg (λR (z:Sl Int)=>z.n+R.length=L.length/\(∀j,j<z.n->inT t (z.g j))/\∀x∈R,inT t x) (λz b=>⟨z,rfl,by simpa using b.1,b.2.1⟩) ?_ L _ ⟨by simp,λj c=>Es c (Bj5 j),l3⟩;rintro x R z a ⟨h1,q,d⟩ hs;simp only[Bk7]at h1;refine ifT (by show (z.n+1)*8<=_/\z.n+1<=_;omega) (hs _ ⟨by show z.n+1+_=_;omega,λj c=>?_,λy hy=>d y (by simp[hy])⟩);show inT t (if j<z.n then z.g j else x);split
  .exact q j (by assumption)
  exact d x (by simp)
 obtain⟨z,z1,z2,z3⟩:=b;obtain⟨s,s1,s2,s3⟩:=Bf3 (N:=N) (x:=z) (by omega) (by omega) z3;refine⟨s,?_,by omega,s3⟩;unfold Fp;rw[hc,Lf,Er (by decide),LA,Lf];show (Fn N (v:Int) t).bind _=_;unfold Fn;rw[l1,Lf];unfold U3;rw[z1,Lf,Lf,s1];rfl
def Af1 (hN:3000000<=N){h:Nm}(d:okH N h)(x:Int):∃X,Z2 N h x=some X/\(X.n=(P3 h.Tree h.Tree.n).n/\∀k,BX (X.g k)):=by
 have a1:=Kt d.tree;have hon:=d.on;have l:∀k,k<(P3 h.Tree h.Tree.n).n->∃u:Nat,u<h.Tree.n/\(P3 h.Tree h.Tree.n).g k=(u:Int):=λk hk=>IM h.Tree h.Tree.n k hk;unfold Z2;refine B9 (IN hN d.tree).1 ?_;generalize P3 h.Tree h.Tree.n=s at a1 l;refine ifT (by dsimp only;omega) (ifT (by dsimp only;omega) ?_);dsimp only;refine Ao9 (λi (K:Nat) (X:Sl (Sl Law)) y=>i=K/\y=(i:Int)/\X.n=s.n/\∀k,BX (X.g k)/\(X.g k).n<=320*i) s.n _ (by omega) ⟨rfl,rfl,rfl,λk=>⟨λj hj=>Es hj (Bj5 j),Bi3 0⟩⟩ ?_;rintro self i K X y hle ⟨rfl,rfl,hX,o⟩ hs;by_cases hl:i<s.n
 case neg=>exact Bh (ifT ⟨by omega,hX⟩ ⟨_,rfl,hX,λk=>(o k).1⟩)
 obtain⟨u,hu,hsu⟩:=l i hl;obtain⟨w,w1,w2,w3⟩:=AT8 hN d.tree hu;refine Ah (Ac ?_);rw[Kk,hsu];refine B9 w1 ?_;dsimp only;refine W7 (λm (X' : Sl (Sl Law)) z=>z=(m:Int)/\X'.n=s.n/\∀k,BX (X'.g k)/\(X'.g k).n<=320*i+5*m) w.n _ (by omega) ⟨rfl,hX,o⟩ ?_;rintro self2 m X' z hm ⟨rfl,r,b⟩ hs2;by_cases t:m<w.n
 case neg=>exact Bh (ifT ⟨rfl,hl⟩ (hs hl _ _ _ ⟨rfl,Bn,r,λk=>⟨(b k).1,by have:=(b k).2;omega⟩⟩))
 obtain⟨v,hv,hwv⟩:=w3 m t;have hrow:=d.row v (by omega);refine Ah ?_;rw[Kk,hwv,Kk];refine Ac ?_;refine W7 (λq (X'' : Sl (Sl Law)) z=>z=(q:Int)/\X''.n=s.n/\∀k,BX (X''.g k)/\(X''.g k).n<=320*i+5*m+q) (h.On.g v).n _ (by omega) ⟨rfl,r,b⟩ ?_;rintro self3 q X'' z hq ⟨rfl,c,a⟩ a0;by_cases f:q<(h.On.g v).n
 case neg=>exact Bh (hs2 t _ _ ⟨Bn,c,λk=>⟨(a k).1,by have:=(a k).2;omega⟩⟩)
 have hvq:=d.rng v (by omega) q f;have hb:=(a i).2;refine Ah (Ac ?_);rw[Kk];split
 .refine Ac (Ac (Ac (a0 f _ _ ⟨Bn,c,λk=>?_⟩)));show BX (if k=i then (X''.g i).push _ else X''.g k)/\(if k=i then (X''.g i).push _ else X''.g k).n<=_;split
  .refine⟨λj hj=>?_,by show (X''.g i).n+1<=_;omega⟩;show QU (if j<(X''.g i).n then (X''.g i).g j else _);split
   .exact (a i).1 j (by assumption)
   exact (d.laws _ (by omega)).1
  exact⟨(a k).1,by have:=(a k).2;omega⟩
 exact a0 f _ _ ⟨Bn,c,λk=>⟨(a k).1,by have:=(a k).2;omega⟩⟩
def Bf4 (c:3000000<=N){w:Sl Jf}(b:w.n<=32):∃k,CA N w=some k:=by
 have h:∃k,CA N w=some k/\True:=by
  unfold CA;refine W7 (λm (x1:Sl Int) x2=>x2=(m:Int)/\x1.n=6*m) w.n _ (by omega) ⟨rfl,rfl⟩ ?_;rintro a m x1 x2 hm ⟨rfl,d⟩ hs;by_cases hl:m<w.n
  .exact Ah (Ac (ifT (by show (x1.n+3)*1<=_/\x1.n+3<=_;omega) (ifT (by show (x1.n+3+3)*1<=_/\x1.n+3+3<=_;omega) (hs hl _ _ ⟨Bn,by show x1.n+3+3=_;omega⟩))))
  exact Bh ⟨_,rfl,trivial⟩
 obtain⟨k,hk,_⟩:=h;exact⟨k,hk⟩
def Ar6 (n:Nat)(M:Sl (List (Str×H3))):Prop:=M.n=n/\∀k,∀a f,(a,f)∈M.g k->f.Has=true->wOk f.W
def Wn {k:Str}{v:H3}:∀{es:List (Str×H3)},R8 eqS k es=some v->∃a,(a,v)∈es
 |[],h=>by cases h
 |(a,x)::es,h=>by
  unfold R8 at h;by_cases e:eqS k a=true
  .rw[Ej e]at h;obtain rfl:=Bn7 h;exact⟨a,by simp⟩
  rw[Er e]at h;obtain⟨b,hb⟩:=Wn h;exact⟨b,Bj4 _ hb⟩
def Zx {k a:Str}{v f:H3}:∀{es:List (Str×H3)},(a,f)∈Eh eqS k v es->(a,f)∈es \/ f=v
 |[],h=>by simp only[Eh,Bm6,Bi6]at h;exact .inr h.2
 |(b,x)::es,h=>by
  unfold Eh at h;by_cases e:eqS k b=true
  .rw[Ej e]at h;rcases Bj7.1 h with h|h
   .simp only[Bi6]at h;exact .inr h.2
   exact .inl (Bj4 _ h)
  rw[Er e]at h;rcases Bj7.1 h with h|h
  .exact .inl (by rw[h];simp)
  exact (Zx h).imp (Bj4 _) id
def AT9 (l:3000000<=N){n:Nat}{X:Sl (Sl Law)}(o:X.n=n)(s:∀k,BX (X.g k)){p:H3}(hp:p.Has=true->wOk p.W){k:Nat}(hk:k<n){M:Sl (List (Str×H3))}(b:Ar6 n M) :∃r,N5 N p (k:Int) M X=some r/\Ar6 n r.2.2/\(r.2.1=true->wOk r.1):=by
 have d:=b.1;unfold N5;by_cases j:p.Has=true
 case neg=>exact ifT (by simpa using j) ⟨_,rfl,b,λe=>by cases e⟩
 have hw:=hp j;obtain⟨key,c⟩:=Bf4 l hw.1;refine ifF (by simp[j]) ?_;rw[Kk];refine Ac (Ac (B9 c ?_));cases ha:R8 eqS key (M.g k)with
 |some v=>obtain⟨a,hm⟩:=Wn ha;exact⟨_,rfl,b,b.2 k a v hm⟩
 |none=>
  obtain⟨r,r1,r2⟩:=PO l (s k) (w:=p.W) λi t=>(hw.2 i t).ok;rw[CM];have m:(r.2==0)=true->wOk r.1:=λe=>r2 (eq_of_beq e);refine Ac (B9 r1 ⟨_,rfl,⟨d,λq a f hm=>?_⟩,m⟩);replace hm:(a,f)∈(if q=k then Eh eqS key (⟨r.2==0,r.1⟩:H3) (M.g k)else M.g q):=hm;by_cases e:q=k
  .rw[Ej e]at hm;rcases Zx hm with hm|rfl
   .exact b.2 k a f hm
   exact m
  rw[Er e]at hm;exact b.2 q a f hm
end Go.AM
namespace Go.AM
variable {N:Nat}
open IntKind (wrap)
open Go.Proofs
abbrev okF (f:H3):Prop:=wOk f.W/\(f.Has=false->f.W.n=0)
structure okE (p:Sl H3) (l:Sl Nr) (F:Nat):Prop where
 n:l.n<=256
 pn:p.n=l.n
 pf:∀i,i<p.n->okF (p.g i)
 fn:∀i,i<l.n->(l.g i).Nq.n=F
 ff:∀i,i<l.n->∀k,k<(l.g i).Nq.n->okF ((l.g i).Nq.g k)
 nm:∀i,i<l.n->HL (l.g i).Gloss=true
def Zy {l:Sl H3}(c:l.n<N)(hn:l.n<1000000)(hl:∀i,i<l.n->okF (l.g i)):Z9 N l=some true:=by
 have h:D9 N l (λ(u1:H3)=>Cb N u1)=some (-1):=by
  unfold D9;refine Zt (FC (λi x1=>x1=(i:Int)) l.n _ c rfl ?_);rintro b i x1 j rfl hs;by_cases a:i<l.n
  .refine Ah (Ac (B9 rfl ?_));rw[Kk];have d:=(hl i a).2;refine ifF ?_ (hs a _ (Bn));cases f:(l.g i).Has
   .rw[d f];simp
   simp
  exact Bh ⟨_,rfl,rfl⟩
 unfold Z9 E8;rw[h];rfl
def Zz (d:1000<=N){l:Sl H3}(hn:l.n<1000)(hl:∀i,i<l.n->okF (l.g i)):Aa N l=some 0:=by
 unfold Aa;refine Zt (FC (λi x1=>x1=(i:Int)) l.n _ (by omega) rfl ?_);rintro b i x1 f rfl hs;by_cases a:i<l.n
 .obtain⟨hw,_⟩:=hl i a;obtain⟨e,e1,c⟩:=LF (N:=N) (by omega) λk hk=>(hw.2 k hk).ok;obtain rfl:=(LE c).2 hw;exact Ah (Ac (B9 (by rw[Kk];exact e1) (Bm (hs a _ (Bn)))))
 exact Bh ⟨_,rfl,rfl⟩
def Ar7 (b:3000000<=N){s:Str}(hs:HL s=true):BW N s=some true:=by
 unfold BW;rw[NM b (t:=Sl.of [⟨-1,s⟩]) ⟨Bi3 1,by show 1<=63;omega,λv a=>?_⟩];rfl;obtain rfl:v=0:=by have a:v<1:=a;omega
 exact⟨λ_=>rfl,λh=>Es h (by omega),hs,λu c=>Es c (by omega)⟩
def Wo (g:3000000<=N){h:Nm}(c:okH N h){p:Sl H3}{l:Sl Nr}(hl:okE p l (P3 h.Tree h.Tree.n).n):U9 N h p l=some 0:=by
 have o:=Kt c.tree;have hn:=hl.n;have q:=hl.pn;have r:Z1 N l (((P3 h.Tree h.Tree.n).n:Nat):Int)=some 0:=by
  unfold Z1;refine Zt (FC (λi x1=>x1=(i:Int)) l.n _ (by omega) rfl ?_);rintro b i x1 j rfl hs;by_cases a:i<l.n
  .have m:=hl.fn i a;refine Ah (Ac (ltX ?_));rw[Kk];exact ifF (by simp[m]) (B9 (Zy (by omega) (by omega) (hl.ff i a)) (Bm (hs a _ (Bn))))
  refine Bh (FC (λi x1=>x1=(i:Int)) l.n _ (by omega) rfl ?_);rintro d i x1 j rfl f;by_cases a:i<l.n
  .exact Ah (Ac (B9 (by rw[Kk];exact Ar7 g (hl.nm i a)) (Bm (f a _ (Bn)))))
  exact Bh ⟨_,rfl,rfl⟩
 unfold U9;refine Zt (B9 (c.chk) (Bm (B9 (IN g c.tree).1 (Bh (ltX ?_)))));refine Bh (B9 (Zy (by omega) (by omega) hl.pf) (Bm ?_));refine B9 r (Bm (B9 (Zz (by omega) (by omega) hl.pf) (Bm ?_)));refine FC (λi x1=>x1=(i:Int)) l.n _ (by omega) rfl ?_;rintro b i x1 j rfl hs;by_cases a:i<l.n
 .have m:=hl.fn i a;exact Ah (Ac (B9 (by rw[Kk];exact Zz (by omega) (by omega) (hl.ff i a)) (Bm (hs a _ (Bn)))))
 exact Bh ⟨_,rfl,rfl⟩
abbrev Bf5 (l:Sl Nr)(q:CE×Sl Jf):Prop:=∃i k:Nat,q.1=⟨(i:Int),(k:Int)⟩/\i<l.n/\k<(l.g i).Nq.n
def AL1 {l:Sl Nr}{i:Nat}(b:i<l.n){R:List (CE×Sl Jf)}{rest:Option (List (CE×Sl Jf))}(c:rest=some R)(hR:∀q∈R,Bf5 l q)(hn:(l.g i).Nq.n<100000):∀(m M k:Nat),k+m=(l.g i).Nq.n->m<M->∃R',W8 M (λ(a:Int->Option (List (CE×Sl Jf))) (x4:Int)=>
 if (decide (x4<((l.g i).Nq.n:Int))) then
  if ((0:Int)<=x4/\x4<((l.g i).Nq.n:Int))then
   if ((l.g i).Nq.g x4.toNat).Has then
    Ag ((⟨(i:Int),x4⟩:CE),((l.g i).Nq.g x4.toNat).W) (
     a (wrap .i64 (x4+1))
     )
   else
    a (wrap .i64 (x4+1))
  else none
 else
  rest) (k:Int)=some R' /\ (∀q∈R',Bf5 l q)/\R'.length<=m+R.length
 |0,M,k,hk,hM=>by obtain⟨M,rfl⟩:∃K,M=K+1:=⟨M-1,by omega⟩;rw[I3,Dn];exact⟨R,c,hR,by omega⟩
 |m+1,M,k,hk,hM=>by
  obtain⟨M,rfl⟩:∃K,M=K+1:=⟨M-1,by omega⟩;obtain⟨R',r1,r2,r3⟩:=AL1 b c hR hn m M (k+1) (by omega) (by omega);rw[I3,Ch,Ce,Kk,Bn,r1];split
  .refine⟨_,rfl,λq d=>(Bj7.1 d).elim (λe=>⟨i,k,by rw[e],b,by omega⟩) (r2 q),by simp;omega⟩
  exact⟨R',rfl,r2,by omega⟩
def AU0 {l:Sl Nr}{F:Nat}(o:1000000<=N)(hn:l.n<=256)(r:F<=63)(c:∀i,i<l.n->(l.g i).Nq.n=F):∃R,X8 N l=some R/\(∀q∈R,Bf5 l q)/\R.length<=l.n*F:=by
 have key:∀(m M i:Nat),i+m=l.n->m<M->∃R,W8 M (λ(b:Int->Option (List (CE×Sl Jf))) (x2:Int)=>
  if (decide (x2<(l.n:Int))) then
   if ((0:Int)<=x2/\x2<(l.n:Int))then
    W8 N (λa (x4:Int)=>
     if (decide (x4<((l.g x2.toNat).Nq.n:Int))) then
      if ((0:Int)<=x4/\x4<((l.g x2.toNat).Nq.n:Int))then
       if ((l.g x2.toNat).Nq.g x4.toNat).Has then
        Ag ((⟨x2,x4⟩:CE),((l.g x2.toNat).Nq.g x4.toNat).W) (
         a (wrap .i64 (x4+1))
         )
       else
        a (wrap .i64 (x4+1))
      else none
     else
      b (wrap .i64 (x2+1))
     ) 0
   else none
  else
   some []) (i:Int)=some R/\(∀q∈R,Bf5 l q)/\R.length<=m*F:=by
  intro m
  induction m with
  |zero=>intro M i d f;obtain⟨M,rfl⟩:∃K,M=K+1:=⟨M-1,by omega⟩;exact⟨[],by rw[I3,Dn],by simp,by simp⟩
  |succ m ih=>intro M i d f;obtain⟨M,rfl⟩:∃K,M=K+1:=⟨M-1,by omega⟩;have j:=c i (by omega);obtain⟨R,r1,r2,r3⟩:=ih M (i+1) (by omega) (by omega);rw[I3,Ch,Ce,Kk,Bn];obtain⟨R',q1,q2,q3⟩:=AL1 (l:=l) (i:=i) (by omega) r1 r2 (by omega) (l.g i).Nq.n N 0 (by omega) (by omega);exact⟨R',q1,q2,by rw[Bs1];omega⟩
 obtain⟨R,r1,r2,r3⟩:=key l.n N 0 (by omega) (by omega);exact⟨R,r1,r2,r3⟩
def badB (N:Nat)(p:Sl H3)(X:Sl (Sl Law))(c:Int)(a:(Sl (List (Str×H3)))×(Sl A5)->Option (Sl A5×Int))(x1:CE×(Sl Jf))(z1:(Sl (List (Str×H3)))×(Sl A5)):Option (Sl A5×Int):= if ((0:Int)<=x1.1.entry/\x1.1.entry<(p.n:Int))then (N5 N (p.g x1.1.entry.toNat) x1.1.leaf z1.1 X).bind λy8=>if (!y8.2.1) then if (Kh 32 (z1.2.n+(Sl.of [(⟨x1.1.entry,x1.1.leaf,2,c⟩:A5)]:Sl A5).n))then a (y8.2.2,z1.2.push (⟨x1.1.entry,x1.1.leaf,2,c⟩:A5)) else none else (X0 N y8.1 x1.2).bind λy9=>if (!y9) then if (Kh 32 (z1.2.n+(Sl.of [(⟨x1.1.entry,x1.1.leaf,1,c⟩:A5)]:Sl A5).n))then a (y8.2.2,z1.2.push (⟨x1.1.entry,x1.1.leaf,1,c⟩:A5)) else none else a (y8.2.2,z1.2) else none
def exR (l:Sl Nr)(e:A5):Prop:=∃i k:Nat,e.Nr=(i:Int)/\e.Nj=(k:Int)/\i<l.n/\k<(l.g i).Nq.n/\(e.Kind=1 \/ e.Kind=2)
abbrev atC (c:Int)(e:A5):A5:=⟨e.Nr,e.Nj,e.Kind,c⟩
def AL2 {N:Nat}(f:3000000<=N){p:Sl H3}{l:Sl Nr}{F:Nat}(hl:okE p l F){X:Sl (Sl Law)}(x2:X.n=F)(x3:∀k,BX (X.g k)):∀(R:List (CE×Sl Jf)) (M:Sl (List (Str×H3))),Ar6 X.n M->(∀q∈R,Bf5 l q) ->
 ∃Q:List A5,(∀e∈Q,exR l e)/\Q.length<=R.length/\∀(c:Int) (z:Sl A5),z.n+R.length<=16128->∃y,T4 R (badB N p X c) (λz1=>some (z1.2,0)) (M,z)=some y/\(y.2=0/\y.1.toList=z.toList++Q.map (atC c))
 |[],M,_,_=>⟨[],by simp,Bi3 _,λc z _=>⟨_,rfl,rfl,by simp⟩⟩
 |(pl,w)::R,M,h3,h5=>by
  obtain⟨i,k,eq,j,hk⟩:=h5 (pl,w) (by simp);obtain rfl:pl=⟨(i:Int),(k:Int)⟩:=eq;have m:=hl.pn;have d : k<X.n:=by rw[x2,<- hl.fn i j];exact hk
  obtain⟨r,r1,r2,r3⟩:=AT9 f rfl x3 (p:=p.g i) (λ_=>(hl.pf i (by omega)).1) d h3;obtain⟨Q,q1,q2,q3⟩:=AL2 f hl x2 x3 R r.2.2 r2 λq o=>h5 q (by simp[o]);have add:∀t:Int,(t=1 \/ t=2)->(∀e∈(⟨(i:Int),(k:Int),t,0⟩:A5)::Q,exR l e):=λt ht e s=>(Bj7.1 s).elim (λe=>e ▸ ⟨i,k,rfl,rfl,j,hk,ht⟩) (q1 e);have go:∀(t c:Int) (z:Sl A5),z.n+(R.length+1)<=16128->∃y,T4 R (badB N p X c) (λz1=>some (z1.2,0)) (r.2.2,z.push ⟨(i:Int),(k:Int),t,c⟩)=some y/\(y.2=0/\y.1.toList=z.toList++((⟨(i:Int),(k:Int),t,0⟩:A5)::Q).map (atC c)):=λt c z a=>by obtain⟨y,y1,y2,y3⟩:=q3 c (z.push ⟨(i:Int),(k:Int),t,c⟩) (by show z.n+1+_<=_;omega);exact⟨y,y1,y2,by rw[y3,TT];simp⟩
  have b:(0:Int)<=(i:Int)/\(i:Int)<(p.n:Int):=by omega
  have rr:N5 N (p.g (i:Int).toNat) (k:Int) M X=some r:=by rw[Kk];exact r1
  by_cases hb:r.2.1=true
  case neg=>exact⟨_,add 2 (.inr rfl),by simp;omega,λc z a=>ifT b (B9 rr (ifT (by simpa using hb) (ifT (by have a:z.n+(R.length+1)<=_:=a;show (z.n+1)*32<=_/\z.n+1<=_;omega) (go 2 c z a))))⟩
  have u:=(r3 hb).1;obtain⟨e,e1⟩:=AK8 (N:=N) (x:=r.1) (y:=w) (by omega) (by omega);cases e
  .exact⟨_,add 1 (.inl rfl),by simp;omega,λc z a=>ifT b (B9 rr (ifF (by simp[hb]) (B9 e1 (ifT rfl (ifT (by have a:z.n+(R.length+1)<=_:=a;show (z.n+1)*32<=_/\z.n+1<=_;omega) (go 1 c z a))))))⟩
  exact⟨Q,q1,by simp;omega,λc z a=>ifT b (B9 rr (ifF (by simp[hb]) (B9 e1 (Bm (q3 c z (by have a:z.n+(R.length+1)<=_:=a;omega))))))⟩
def AU1 (g:3000000<=N){h:Nm}(d:okH N h){p:Sl H3}{l:Sl Nr}(hl:okE p l (P3 h.Tree h.Tree.n).n) :∃Q:List A5,(∀e∈Q,exR l e)/\Q.length<=l.n*(P3 h.Tree h.Tree.n).n/\∀c:Int,0<=c/\c<=1073741824->∃b,DY N h p l c=some (b,0)/\b.toList=Q.map (atC c):=by obtain⟨X,x1,x2,x3⟩:=Af1 g d (-1);obtain⟨R,a1,a2,a3⟩:=AU0 (N:=N) (by omega) hl.n (Kt d.tree) hl.fn;obtain⟨Q,q1,q2,q3⟩:=AL2 g hl x2 x3 R ⟨X.n,λ_=>[]⟩ ⟨rfl,λk a f hm=>by cases hm⟩ a2;refine⟨Q,q1,by omega,λc hc=>?_⟩;have i:l.n*(P3 h.Tree h.Tree.n).n<=256*63:=Nat.mul_le_mul hl.n (Kt d.tree);obtain⟨⟨b,e⟩,y1,y2,y3⟩:=q3 c Sl.nil (by show 0+_<=_;omega);obtain rfl:e=0:=y2;refine⟨b,?_,y3⟩;unfold DY;rw[Wo g d hl,Lf,Er (by decide),Dn,x1,Lf,Bb,Lf,a1,Lf];exact y1
end Go.AM
namespace Go.AM
open IntKind (wrap)
open Go.Proofs
def AF4 {N:Nat}(hN:3000000<=N){h:Nm}(a:okH N h){u k:Nat}(hu:u<h.Tree.n)(hk:k+1<(h.On.g u).n) :∃r,K4 N h (u:Int) (k:Int)=some r/\(r.2=0/\r.1.Tree=h.Tree/\wkH r.1):=by
 have h63:=a.tree.2.1;have t:=a.ln;have hon:=a.on;have ho:=a.row u (by omega);unfold K4;have eP:wrap .i64 (((h.On.g u).n:Int)-1)=(((h.On.g u).n-1:Nat):Int):=Ap0 (by omega) (by omega);refine B9 a.chk (Bm (B9 rfl ?_));rw[Kk,Kk,eP];have d:((decide (0<=(u:Int)))&&(decide ((u:Int)<(h.Tree.n:Int))))=true:=by simp;omega
 rw[d];refine ifT (λ_ _=>by omega) (Bh ?_);refine B9 (x:=h.Tree) (Ce) ?_;refine W7 (λi (x1:Sl Law) x2=>x2=(i:Int)/\x1.n=i/\BX x1) h.Laws.n _ (by omega) ⟨rfl,rfl,λj b=>Es b (Bj5 j)⟩ ?_;rintro y i x1 x2 hle ⟨rfl,hx,b⟩ hs;by_cases f:i<h.Laws.n
 .have q1:=Wm hN (a.laws i f);refine Ah (Ac ?_);rw[Kk];refine B9 q1 (ifT (by show (x1.n+1)*200<=_/\x1.n+1<=_;omega) (hs f _ _ ⟨Bn,by show x1.n+1=_;omega,λj m=>?_⟩));show QU (if j<x1.n then x1.g j else h.Laws.g i);split
  .exact b j (by assumption)
  exact (a.laws i f).1
 refine Bh ?_;clear hs;refine W7 (λv (x3:Sl (Sl Int)) x4=>x4=(v:Int)/\x3.n=v/\∀j,j<v->x3.g j=h.On.g j) h.On.n _ (by omega) ⟨rfl,rfl,λj b=>Es b (by omega)⟩ ?_;rintro o v x3 x4 hv ⟨rfl,hx3,c⟩ q;by_cases l:v<h.On.n
 .have z:=a.row v l;refine Ah (Ac ?_);rw[Kk];refine B9 (x:=h.On.g v) (Ce) (ifT (by show (x3.n+1)*24<=_/\x3.n+1<=_;omega) (q l _ _ ⟨Bn,by show x3.n+1=_;omega,λj m=>?_⟩));show (if j<x3.n then x3.g j else h.On.g v)=_;by_cases e:j=v
  .subst e;rw[Cj]
  rw[Ce];exact c j (by omega)
 have eK:wrap .i64 ((k:Int)+1)=((k+1:Nat):Int):=Bn;rw[eK,Kk,c u (by omega)];refine Bh (Ac (Ac ⟨_,rfl,rfl,rfl,a.tree,a.ten,by show x1.n<=64;omega,b,by show x3.n=h.Tree.n;omega,λw hw=>?_,λw hw=>?_⟩))
 .have hw:w<x3.n:=hw;show (if w=u then _ else x3.g w).n<=5;split
  .exact ho
  rw[c w (by omega)];exact a.row w (by omega)
 have hw:w<x3.n:=hw;show ∀j,j<(if w=u then _ else x3.g w).n->0<=(if w=u then _ else x3.g w).g j/\(if w=u then _ else x3.g w).g j<(x1.n:Int);have s:x1.n=h.Laws.n:=by omega
 rw[s];split
 .intro j b;have b:j<(h.On.g u).n:=b;have r:=a.rng u (by omega);show 0<=(if j=k+1 then (h.On.g u).g k else if j=k then (h.On.g u).g (k+1)else (h.On.g u).g j)/\(if j=k+1 then (h.On.g u).g k else if j=k then (h.On.g u).g (k+1)else (h.On.g u).g j)<_;split
  .exact r k (by omega)
  split
  .exact r _ hk
  exact r j b
 rw[c w (by omega)];exact a.rng w (by omega)
def AF5 {N:Nat}(a:3000000<=N){h:Nm}(b:wkH h){v:Nat}(d:v<h.Tree.n):∃r,R7 N h (v:Int)=some r/\BX r.1:=by
 obtain⟨e,e1,e2,_⟩:=RX a b;by_cases c:e=0
 .subst c;obtain⟨s,s1,s2⟩:=AT7 a (AK9 b (e2 rfl) e1) d;exact⟨_,s1,s2⟩
 unfold R7 Z8 R6;rw[e1,Lf,Ej (by simpa using c),Lf];obtain⟨M,rfl⟩:∃K,N=K+1:=⟨N-1,by omega⟩;rw[CL,Er (by show ¬decide ((0:Int)<((0:Nat):Int))=true;decide)];exact⟨_,rfl,λj f=>Es f (Bj5 j)⟩
end Go.AM
namespace Go.AM
variable {N:Nat}
open IntKind (wrap)
open Go.Proofs
def Bf6 (c:3000000<=N){laws:Sl Law}(hl:BX laws){p f:H3}(hp:wOk p.W):∃b,G1 N laws p f=some b:=by
 unfold G1;by_cases h:((!p.Has)||(!f.Has))=true
 .exact⟨false,Ej h⟩
 rw[Er h];obtain⟨⟨v,e⟩,r1,r2⟩:=PO c hl (w:=p.W) λi d=>(hp.2 i d).ok;rw[r1,Lf];by_cases a:e=0
 .subst a;have g:v.n<=32:=(r2 rfl).1;obtain⟨b,hb⟩:=AK8 (N:=N) (x:=v) (y:=f.W) (by omega) (by omega);exact⟨b,by show ((X0 N v f.W).bind λy3=>some y3)=some b;rw[hb];rfl⟩
 exact⟨false,by dsimp only;rw[lt,Er (by simpa using a)]⟩
def Ar8 (L:Sl (Sl Law))(m:Nat):Prop:=L.n=m/\∀k,BX (L.g k)
def AF6 (b:3000000<=N){h:Nm}(a:wkH h):∃L,N6 N h=some L/\Ar8 L (P3 h.Tree h.Tree.n).n:=by
 have f:=Kt a.tree;unfold N6;rw[(IN b a.tree).1,Lf];refine W7 (λi x1 x2=>x2=(i:Int)/\Ar8 x1 i) (P3 h.Tree h.Tree.n).n _ (by omega) ⟨rfl,rfl,λk j l=>Es l (Bj5 j)⟩ ?_;rintro c i x1 x2 hle ⟨rfl,hn,d⟩ hs;by_cases hl:i<(P3 h.Tree h.Tree.n).n
 .obtain⟨v,m,e⟩:=IM h.Tree h.Tree.n i hl;obtain⟨s,s1,s2⟩:=AF5 b a m;refine ifT (by simpa using hl) (ifT (by dsimp only;omega) ?_);rw[Kk];refine B9 (by show R7 N h ((P3 h.Tree h.Tree.n).g i)=_;rw[e];exact s1) (ifT (by show (x1.n+1)*24<=_/\x1.n+1<=_;omega) (hs hl _ _ ⟨Bn,by show x1.n+1=_;omega,λk=>?_⟩));show BX (if k<x1.n then x1.g k else s.1);split
  .exact d k
  exact s2
 obtain rfl:i=(P3 h.Tree h.Tree.n).n:=by omega
 exact Bi ⟨x1,rfl,hn,d⟩
def AU2 (i:Nat):Nat->Nat->List B7
 |0,_=>[]
 |m+1,k=>⟨(i:Int),(k:Int)⟩::AU2 i m (k+1)
def Gd (w:Nat->Nat):Nat->Nat->List B7
 |0,_=>[]
 |m+1,i=>AU2 i (w i) 0++Gd w m (i+1)
def ZA {i:Nat}{q:B7}:∀{m k:Nat},q∈AU2 i m k->∃j:Nat,q=⟨(i:Int),(j:Int)⟩/\j<k+m
 |0,_,h=>by cases h
 |m+1,k,h=>by
  rcases Bj7.1 h with rfl|h
  .exact⟨k,rfl,by omega⟩
  obtain⟨j,e,a⟩:=ZA h;exact⟨j,e,by omega⟩
def IO {w:Nat->Nat}{q:B7}:∀{m i:Nat},q∈Gd w m i->∃a b:Nat,q=⟨(a:Int),(b:Int)⟩/\a<i+m/\b<w a
 |0,_,h=>by cases h
 |m+1,i,h=>by
  rcases Bs0.1 h with h|h
  .obtain⟨j,e,c⟩:=ZA h;exact⟨i,j,e,by omega,by omega⟩
  obtain⟨a,b,e,ha,hb⟩:=IO h;exact⟨a,b,e,by omega,hb⟩
def ZB {i:Nat}:∀m k,(AU2 i m k).length=m
 |0,_=>rfl
 |m+1,k=>congrArg (· + 1) (ZB m (k+1))
def IP {w:Nat->Nat}{B:Nat}:∀{m i:Nat},(∀a,a<i+m->w a<=B)->(Gd w m i).length<=m*B
 |0,_,_=>Bp2 _
 |m+1,i,h=>by have h1:=IP (w:=w) (B:=B) (m:=m) (i:=i+1) λa ha=>h a (by omega);have b:=h i (by omega);rw[Gd,Bi9,ZB,Bs1];omega
def rgB (N:Nat)(p:B2)(L:Sl (Sl Law))(q:B7):Bool:=G1 N (L.g q.a1.toNat) (p.Nl.g q.a0.toNat) ((p.Np.g q.a0.toNat).Nq.g q.a1.toNat)==some true
abbrev fwE (p:B2)(i:Nat):Nat:=(p.Np.g i).Nq.n
def Bf7 (a:3000000<=N){p:B2}{L:Sl (Sl Law)}{i k:Nat}(hp:wOk (p.Nl.g i).W)(hl:BX (L.g k)):G1 N (L.g k) (p.Nl.g i) ((p.Np.g i).Nq.g k)=some (rgB N p L ⟨(i:Int),(k:Int)⟩):=by obtain⟨b,hb⟩:=Bf6 (p:=p.Nl.g i) (f:=(p.Np.g i).Nq.g k) a hl hp;unfold rgB;simp only[Kk,hb];cases b<;>rfl
def ZC {N:Nat}(f:3000000<=N){p:B2}{laws:Sl (Sl Law)}{i:Nat}(l:i<p.Np.n)(d:p.Nl.n=p.Np.n)(c:wOk (p.Nl.g i).W)(a:Ar8 laws (p.Np.g i).Nq.n)(o:(p.Np.g i).Nq.n<100000)
 {rest:Option (List B7)}{R:List B7}(j:rest=some R):∀(m M k:Nat),k+m=(p.Np.g i).Nq.n->m<M->W8 M (λ(b:Int->Option (List B7)) (x4:Int)=>
  if (decide (x4<((p.Np.g i).Nq.n:Int))) then
   if ((0:Int)<=x4/\x4<((p.Np.g i).Nq.n:Int))then
    if (((0:Int)<=x4/\x4<(laws.n:Int))/\((0:Int)<=(i:Int)/\(i:Int)<(p.Nl.n:Int)))then
     (G1 N (laws.g x4.toNat) (p.Nl.g i) ((p.Np.g i).Nq.g x4.toNat)).bind λy9=>
     if y9 then
      Ag (⟨(i:Int),x4⟩:B7) (
       b (wrap .i64 (x4+1))
       )
     else
      b (wrap .i64 (x4+1))
    else none
   else none
  else
   rest
  ) (k:Int)=some ((AU2 i m k).filter (rgB N p laws)++R)
 |_,0,_,_,hM=>Es hM (Bj5 _)
 |0,M+1,k,hk,_=>by rw[I3,Dn];exact j
 |m+1,M+1,k,hk,hM=>by have h1:=ZC f l d c a o j m M (k+1) (by omega) (by omega);have q:=a.1;rw[I3,Ch,Ce,Ce,Kk,Bf7 f c (a.2 k),Lf,Bn,h1,AU2,List.filter_cons];split<;>rfl
def AF7 (l:3000000<=N){p:B2}{laws:Sl (Sl Law)}{F:Nat}(hn:p.Np.n<=256)(r:F<=63)(d:p.Nl.n=p.Np.n)(f:∀i,i<p.Nl.n->wOk (p.Nl.g i).W)(o:∀i,i<p.Np.n->(p.Np.g i).Nq.n=F)(c:Ar8 laws F) :Db N p laws=some ((Gd (fwE p) p.Np.n 0).filter (rgB N p laws)):=by
 have key:∀(m M i:Nat),i+m=p.Np.n->m<M->W8 M (λ(b:Int->Option (List B7)) (x2:Int)=>
  if (decide (x2<(p.Np.n:Int))) then
   if ((0:Int)<=x2/\x2<(p.Np.n:Int))then
    W8 N (λa (x4:Int)=>
     if (decide (x4<((p.Np.g x2.toNat).Nq.n:Int))) then
      if ((0:Int)<=x4/\x4<((p.Np.g x2.toNat).Nq.n:Int))then
       if (((0:Int)<=x4/\x4<(laws.n:Int))/\((0:Int)<=x2/\x2<(p.Nl.n:Int)))then
        (G1 N (laws.g x4.toNat) (p.Nl.g x2.toNat) ((p.Np.g x2.toNat).Nq.g x4.toNat)).bind λy9=>
        if y9 then
         Ag (⟨x2,x4⟩:B7) (
          a (wrap .i64 (x4+1))
          )
        else
         a (wrap .i64 (x4+1))
       else none
      else none
     else
      b (wrap .i64 (x2+1))
     ) 0
   else none
  else
   some []) (i:Int)=some ((Gd (fwE p) m i).filter (rgB N p laws)):=by
  intro m
  induction m with
  |zero=>intro M i hk q;obtain⟨M,rfl⟩:∃M',M=M' + 1:=⟨M-1,by omega⟩;rw[I3,Dn];rfl
  |succ m ih=>intro M i hk q;obtain⟨M,rfl⟩:∃M',M=M' + 1:=⟨M-1,by omega⟩;have j:=o i (by omega);rw[I3,Ch,Ce,Kk,Bn,Gd,List.filter_append];exact ZC l (p:=p) (laws:=laws) (i:=i) (by omega) d (f i (by omega)) (by rw[j];exact c) (by omega) (ih M (i+1) (by omega) (by omega)) (fwE p i) N 0 (Bm8 _) (by show (p.Np.g i).Nq.n<N;omega)
 exact key p.Np.n N 0 (by omega) (by omega)
def Af2 {R:List B7}(h:R.length<=16128):∃s,N7 N R=some s/\s.toList=R:=by
 have key:∀(R:List B7) (z:Sl B7),z.n+R.length<=20000->∃s,T4 R (λ(a:Sl B7->Option (Sl B7)) (x1:B7) (z1:Sl B7)=>
  if (Kh 16 (z1.n+(Sl.of [x1]:Sl B7).n))then
   a (z1.push x1)
  else none
  ) (λ(z1:Sl B7)=>some z1) z=some s/\s.toList=z.toList++R:=by
  intro R
  induction R with
  |nil=>exact λz _=>⟨z,rfl,by simp⟩
  |cons x R ih=>intro z c;have c:z.n+(R.length+1)<=20000:=c;obtain⟨s,h1,b⟩:=ih (z.push x) (by show z.n+1+R.length<=_;omega);refine⟨s,?_,by rw[b,TT];simp⟩;show (if _ then _ else none)=_;rw[Ej (by show (z.n+1)*16<=_/\z.n+1<=_;omega)];exact h1
 obtain⟨s,h1,b⟩:=key R (Sl.nil:Sl B7) (by show 0+_<=_;omega);refine⟨s,?_,b⟩;unfold N7 H0;rw[h1];rfl
end Go.AM
namespace Go.AM
variable {N:Nat}
open IntKind (wrap)
open Go.Proofs
def swV (N:Nat)(h:Nm)(q:B7):Nm:=match K4 N h q.a0 q.a1 with|some r=>r.1|none=>h
def lnV (N:Nat)(h:Nm):Sl (Sl Law):=match N6 N h with|some L=>L|none=>Sl.nil
def AU3 (a:3000000<=N){h:Nm}(b:okH N h){v k:Nat}(c:v<h.Tree.n)(hk:k+1<(h.On.g v).n):K4 N h (v:Int) (k:Int)=some (swV N h ⟨(v:Int),(k:Int)⟩,0)/\(swV N h ⟨(v:Int),(k:Int)⟩).Tree=h.Tree/\wkH (swV N h ⟨(v:Int),(k:Int)⟩):=by obtain⟨⟨g,e⟩,g1,g2,g3⟩:=AF4 a b c hk;obtain rfl:e=0:=g2;unfold swV;rw[g1];exact⟨rfl,g3⟩
def Bf8 (a:3000000<=N){h:Nm}(b:wkH h):N6 N h=some (lnV N h)/\Ar8 (lnV N h) (P3 h.Tree h.Tree.n).n:=by obtain⟨L,l1,l2⟩:=AF6 a b;unfold lnV;rw[l1];exact⟨rfl,l2⟩
abbrev rwH (h:Nm)(v:Nat):Nat:=(h.On.g v).n-1
def Ar9 {N:Nat}(c:3000000<=N){h:Nm}(b:okH N h){v:Nat}(d:v<h.Tree.n){rest:Option (List (B7×Nm))}{R:List (B7×Nm)}(f:rest=some R) :∀(m M k:Nat),k+m=rwH h v->m<M->W8 M (λ(a:Int->Option (List (B7×Nm))) (x4:Int)=>
  if (decide (x4<(wrap .i64 (((h.On.g v).n:Int)-1)))) then
   (K4 N h (v:Int) x4).bind λy9=>
   Ag ((⟨(v:Int),x4⟩:B7),y9.1) (
    a (wrap .i64 (x4+1))
    )
  else
   rest
  ) (k:Int)=some ((AU2 v m k).map (λq=>(q,swV N h q))++R)
 |_,0,_,_,hM=>Es hM (Bj5 _)
 |0,M+1,k,hk,_=>by have hk:k+0=(h.On.g v).n-1:=hk;have i:=b.row v (by have:=b.on;omega);rw[I3,Lm (n:=((h.On.g v).n:Int)-1),Dn];exact f
 |m+1,M+1,k,hk,hM=>by have hk:k+(m+1)=(h.On.g v).n-1:=hk;have i:=b.row v (by have:=b.on;omega);have h1:=Ar9 c b d f m M (k+1) (by show _=(h.On.g v).n-1;omega) (by omega);rw[I3,Ej (by rw[Lm (n:=((h.On.g v).n:Int)-1)];simp;omega),(AU3 c b d (k:=k) (by omega)).1,Lf,Bn,h1];rfl
def AU4 (d:3000000<=N){p:B2}(c:okH N p.Nm):Y2 N p=some ((Gd (rwH p.Nm) p.Nm.On.n 0).map (λq=>(q,swV N p.Nm q))):=by
 have f:=c.tree.2.1;have j:=c.on;have key:∀(m M i:Nat),i+m=p.Nm.On.n->m<M->W8 M (λ(a:Int->Option (List (B7×Nm))) (x2:Int)=>
  if (decide (x2<(p.Nm.On.n:Int))) then
   if ((0:Int)<=x2/\x2<(p.Nm.On.n:Int))then
    W8 N (λb (x4:Int)=>
     if (decide (x4<(wrap .i64 (((p.Nm.On.g x2.toNat).n:Int)-1)))) then
      (K4 N p.Nm x2 x4).bind λy9=>
      Ag ((⟨x2,x4⟩:B7),y9.1) (
       b (wrap .i64 (x4+1))
       )
     else
      a (wrap .i64 (x2+1))
     ) 0
   else none
  else
   some []) (i:Int)=some ((Gd (rwH p.Nm) m i).map (λq=>(q,swV N p.Nm q))):=by
  intro m
  induction m with
  |zero=>intro M i hk l;obtain⟨M,rfl⟩:∃M',M=M' + 1:=⟨M-1,by omega⟩;rw[I3,Dn];rfl
  |succ m ih=>intro M i hk l;obtain⟨M,rfl⟩:∃M',M=M' + 1:=⟨M-1,by omega⟩;have o:=c.row i (by omega);rw[I3,Ch,Ce,Kk,Bn,Gd,Br9];exact Ar9 d c (v:=i) (by omega) (ih M (i+1) (by omega) (by omega)) (rwH p.Nm i) N 0 (Bm8 _) (by show (p.Nm.On.g i).n-1<N;omega)
 exact key p.Nm.On.n N 0 (by omega) (by omega)
def pkF (N:Nat)(p:B2)(q:B7):Option B7:=(Gd (fwE p) p.Np.n 0).find? λr=>rgB N p (lnV N p.Nm) r && !rgB N p (lnV N (swV N p.Nm q)) r
def pkS (N:Nat)(p:B2)(q:B7):List FB:=match pkF N p q with
 |some r=>[⟨q.a0,q.a1,r.a0,r.a1⟩]
 |none=>[]
def As0 {N:Nat}{p:B2}:∀L:List B7,(L.flatMap (pkS N p)).length<=L.length
 |[]=>Bi3 _
 |q::L=>by
  have:=As0 (N:=N) (p:=p) L
  have h:(pkS N p q).length<=1:=by unfold pkS;split<;>simp
  rw[List.flatMap_cons,Bi9,Bk7];omega
def inX (h:Nm)(q:B7):Prop:=∃v k:Nat,q=⟨(v:Int),(k:Int)⟩/\v<h.Tree.n/\k+1<(h.On.g v).n
def AU5 {α : Type}{s:Sl α}{g : α -> Bool}{i:Nat}(a:i<s.n)(h:∀j,j<i->g (s.g j)=false)(b:g (s.g i)=true):s.toList.find? g=some (s.g i):=by rw[List.find?_eq_some_iff_getElem];exact⟨b,i,by simpa[Sl.toList]using a,by simp[Sl.toList],λj c=>by simp[Sl.toList,h j c]⟩
structure AF8 (N:Nat) (p:B2):Prop where
 chk:U5 N p=some 0
 hist:okH N p.Nm
 Nk:okE p.Nl p.Np (P3 p.Nm.Tree p.Nm.Tree.n).n
def Bf9 {h:Nm}(a:okH N h):wkH h:=⟨a.tree,a.ten,a.ln,λi b=>(a.laws i b).1,a.on,a.row,a.rng⟩
def As1 {α : Type}{s:Sl α}{k:Nat}(h:k<s.n):s.g k∈s.toList:=Bl2.2 ⟨k,Bl7.2 h,rfl⟩
def AF9 (f:3000000<=N){p:B2}(hp:AF8 N p):∃s,Bd N p=some (s,0)/\s.toList=(Gd (rwH p.Nm) p.Nm.On.n 0).flatMap (pkS N p):=by
 have ha:=hp.Nk;have c:=hp.hist;have hn:=ha.n;have hpn:=ha.pn;have d:=Kt c.tree;have ht63:=c.tree.2.1;have hon:=c.on
 suffices ∃r,Bd N p=some r/\(r.2=0/\r.1.toList=(Gd (rwH p.Nm) p.Nm.On.n 0).flatMap (pkS N p)) by obtain⟨⟨s,e⟩,r1,r2,r3⟩:=this;obtain rfl:e=0:=r2;exact⟨s,r1,r3⟩
 unfold Bd;refine B9 hp.chk (Bm ?_);obtain⟨l1,l2⟩:=Bf8 f (Bf9 c);refine B9 l1 (B9 rfl ?_);have f1:=AF7 f (p:=p) (laws:=lnV N p.Nm) hn d hpn (λi hi=>(ha.pf i hi).1) ha.fn l2;obtain⟨G,c1,c2⟩:=Af2 (N:=N) (R:=(Gd (fwE p) p.Np.n 0).filter (rgB N p (lnV N p.Nm))) (by
  have:=IP (w:=fwE p) (B:=63) (m:=p.Np.n) (i:=0) λa hx=>by show (p.Np.g a).Nq.n<=_;rw[ha.fn a (by omega)];exact d
  have:=Bv1 (rgB N p (lnV N p.Nm)) (Gd (fwE p) p.Np.n 0)
  omega)
 refine B9 f1 (B9 c1 (B9 rfl (B9 (AU4 f c) ?_)));have hG:∀i,i<G.n->∃a b:Nat,G.g i=⟨(a:Int),(b:Int)⟩/\a<p.Np.n/\b<(p.Np.g a).Nq.n:=λi hi=>by obtain⟨a,b,e,h1,l⟩:=IO (Bt4.1 (c2 ▸ As1 hi)).1;exact⟨a,b,e,by omega,l⟩
 have hGn:G.n<=16128:=by
  have:=congrArg List.length c2
  rw[FP]at this
  have:=IP (w:=fwE p) (B:=63) (m:=p.Np.n) (i:=0) λa hx=>by show (p.Np.g a).Nq.n<=_;rw[ha.fn a (by omega)];exact d
  have:=Bv1 (rgB N p (lnV N p.Nm)) (Gd (fwE p) p.Np.n 0)
  omega
 have o:∀q∈Gd (rwH p.Nm) p.Nm.On.n 0,inX p.Nm q:=λq o=>by obtain⟨a,b,e,h1,l⟩:=IO o;have l:b<(p.Nm.On.g a).n-1:=l;exact⟨a,b,e,by omega,by omega⟩
 have hql:=IP (w:=rwH p.Nm) (B:=63) (m:=p.Nm.On.n) (i:=0) λa hx=>by have:=c.row a (by omega);show (p.Nm.On.g a).n-1<=63;omega
 have h10:=c.ten;refine Wg (λ(L:List (B7×Nm)) (z:Sl FB)=>∃Qs:List B7,L=Qs.map (λq=>(q,swV N p.Nm q))/\(∀q∈Qs,inX p.Nm q)/\z.toList++Qs.flatMap (pkS N p)=(Gd (rwH p.Nm) p.Nm.On.n 0).flatMap (pkS N p)/\z.n+Qs.length<=4032) (λz hz=>?_) ?_ _ (Sl.nil:Sl FB) ⟨_,rfl,o,rfl,by show 0+_<=_;omega⟩
 .obtain⟨Qs,e,_,h1,_⟩:=hz;obtain rfl:=List.map_eq_nil_iff.1 e.symm;exact⟨(z,0),rfl,rfl,by simpa using h1⟩
 rintro x Y z t ⟨Qs,e,hx,hT,hz⟩ hs;rcases Qs with _|⟨q,Qs⟩
 .cases e
 obtain⟨rfl,rfl⟩:=Bx7 e;have hz:z.n+(Qs.length+1)<=4032:=hz;obtain⟨v,k,rfl,hv,hk⟩:=hx q (by simp);obtain⟨_,g1,g2⟩:=AU3 f c hv hk;obtain⟨m1,m2⟩:=Bf8 f g2;rw[g1]at m2;have hL':=m2.1;refine B9 m1 ?_;have nx:∀z' : Sl FB,z'.toList=z.toList++pkS N p ⟨(v:Int),(k:Int)⟩->z'.n<=z.n+1->∃r,t z' = some r/\(r.2=0/\r.1.toList=(Gd (rwH p.Nm) p.Nm.On.n 0).flatMap (pkS N p)):=λz' h1 l=>hs z' ⟨Qs,rfl,λq o=>hx q (Bj4 _ o),by rw[h1,<- hT,List.flatMap_cons,Bq6],by omega⟩;have u:pkF N p ⟨(v:Int),(k:Int)⟩=G.toList.find? λr=>!rgB N p (lnV N (swV N p.Nm ⟨(v:Int),(k:Int)⟩)) r:=by rw[c2,List.find?_filter];simp only[Bool.decide_and,Bool.decide_eq_true];rfl
 refine FC (λi x5=>x5=(i:Int)/\∀j,j<i->(!rgB N p (lnV N (swV N p.Nm ⟨(v:Int),(k:Int)⟩)) (G.g j))=false) G.n _ (by omega) ⟨rfl,λj y=>Es y (Bj5 j)⟩ ?_;rintro self4 i x5 hle ⟨rfl,y⟩ hs4;by_cases hl:i<G.n
 .obtain⟨a,b,ge,ga,gb⟩:=hG i hl;refine ifT (by simpa using hl) (Ac ?_);rw[Kk,ge];have hF:=ha.fn a ga;have hy:=Bf7 f (p:=p) (L:=lnV N (swV N p.Nm ⟨(v:Int),(k:Int)⟩)) (i:=a) (k:=b) (ha.pf a (by omega)).1 (m2.2 b);refine ifT (by dsimp only;rw[Kk];omega) ?_;refine B9 (x:=rgB N p (lnV N (swV N p.Nm ⟨(v:Int),(k:Int)⟩)) ⟨(a:Int),(b:Int)⟩) (by simpa using hy) ?_;by_cases hb:rgB N p (lnV N (swV N p.Nm ⟨(v:Int),(k:Int)⟩)) ⟨(a:Int),(b:Int)⟩=true
  .refine ifF (by simp[hb]) (hs4 hl _ ⟨Bn,λj a0=>?_⟩);by_cases e:j=i
   .rw[e,ge,hb];rfl
   exact y j (by omega)
  have hf:=u.trans (AU5 hl y (by rw[ge];simpa using hb));refine ifT (by simpa using hb) (ifT (by show (z.n+1)*32<=_/\z.n+1<=_;omega) (nx _ ?_ (Bi3 _)));rw[TT,pkS,hf,ge]
 have hf:pkF N p ⟨(v:Int),(k:Int)⟩=none:=by
  rw[u,List.find?_eq_none];intro r hr;obtain⟨j,a0,rfl⟩:=Bl2.1 hr
  have:=y j (by have:=Bl7.1 a0;omega)
  simpa using this
 exact ifF (by simpa using hl) (nx z (by rw[pkS,hf];simp) (by omega))
def AU6 (a:3000000<=N){p:B2}(hp:AF8 N p):∃(Q:List A5) (s:Sl FB),(∀e∈Q,exR p.Np e)/\Q.length<=p.Np.n*(P3 p.Nm.Tree p.Nm.Tree.n).n/\s.toList=(Gd (rwH p.Nm) p.Nm.On.n 0).flatMap (pkS N p) /\
 ∀c:Int,0<=c/\c<=1073741824->∃b,X2 N p c=some (⟨b,s⟩,0)/\b.toList=Q.map (atC c):=by
 obtain⟨Q,q1,q2,q3⟩:=AU1 a hp.hist hp.Nk;obtain⟨s,s1,s2⟩:=AF9 a hp;refine⟨Q,s,q1,q2,s2,λc hc=>?_⟩;obtain⟨b,b1,b2⟩:=q3 c hc;refine⟨b,?_,b2⟩;unfold X2 CZ;rw[hp.chk,Lf,Er (by decide),Dn,Lf,Er (by decide),b1,Lf,s1,Lf]
end Go.AM
namespace Go.AM
open Go.Proofs
def dep:Nat->Pat->Prop
 |0,_=>False
 |d+1,p=>p.L.n<=40/\∀i,i<p.L.n->dep d (p.L.g i)
def AL3:∀(d:Nat) (p:Pat),dep d p->∀e,d<=e->dep e p
 |0,_,h,_,_=>h.elim
 |d+1,p,h,0,he=>by omega
 |d+1,p,h,e+1,he=>⟨h.1,λi a=>AL3 d _ (h.2 i a) e (by omega)⟩
def Wp {N:Nat}(o:1000<=N):∀(d:Nat),d<=40->∀(p:Pat) (M:Nat),N+d+2<=M->∃r:Nat,Cl M p ((40-d:Nat):Int)=some (r:Int)/\40-d<r/\r<=41/\(r<=40->dep (d+1) p)
 |d,hd,p,0,hM=>by omega
 |d,hd,p,M+1,hM=>by
  have:∃x,Cl (M+1) p ((40-d:Nat):Int)=some x/\∃r:Nat,x=(r:Int)/\40-d<r/\r<=41/\(r<=40->dep (d+1) p):=by
   show ∃x,CQ (Cl M) M p _=some x/\_;unfold CQ;rw[Bn];refine W7 (λi x1 x2=>x2=(i:Int)/\∃k:Nat,x1=(k:Int)/\40-d+1+i<=k/\k<=41/\i<=p.L.n/\(k<=40->∀j,j<i->dep d (p.L.g j))) 41 _ (by omega) ⟨rfl,40-d+1,rfl,by omega,by omega,by omega,λ_ j b=>Es b (by omega)⟩ ?_;rintro f i x1 x2 q ⟨rfl,k,rfl,h1,c,s,l⟩ hs;by_cases hc:i<p.L.n/\k<=40
   .refine ifT (by simp only[Bi1,Fb];omega) (Ac ?_);obtain⟨r,m,r1,r2,r3⟩:=Wp o (40-k) (by omega) (p.L.g i) M (by omega);rw[show ((40-(40-k):Nat):Int)=(k:Int) by omega]at m;refine B9 (by rw[Kk];exact m) (hs (by omega) _ _ ⟨Bn,r,rfl,by omega,r2,by omega,λa j b=>?_⟩);by_cases e:j=i
    .subst e;exact AL3 _ _ (r3 a) d (by omega)
    exact l hc.2 j (by omega)
   refine ifF (by simp only[Bi1,Fb];omega) ⟨_,rfl,k,rfl,by omega,c,λhk=>⟨by omega,λj b=>l hk j (by omega)⟩⟩
  obtain⟨x,h1,r,rfl,c⟩:=this;exact⟨r,h1,c⟩
def PR:∀(d:Nat) (p:Pat),dep d p->∀M,100+d<=M->∃r,AT M p=some r
 |0,p,h,M,_=>h.elim
 |d+1,p,h,0,hM=>by omega
 |d+1,p,h,M+1,hM=>by
  suffices ∃r,AT (M+1) p=some r/\True by obtain⟨r,h,_⟩:=this;exact⟨r,h⟩
  show ∃x,Au (AT M) M p=some x/\_;unfold Au;have hn:=h.1;refine W7 (λi x1 x2=>x2=(i:Int)) p.L.n _ (by omega) rfl ?_;rintro a i x1 x2 c rfl hs;by_cases hl:i<p.L.n
  .obtain⟨r,b⟩:=PR d (p.L.g i) (h.2 i hl) M (by omega);exact Ah (Ac (B9 (by rw[Kk];exact b) (hs hl _ _ (Bn))))
  exact Bh ⟨_,rfl,trivial⟩
def TY {N:Nat}(b:2000<=N)(p:Pat):∃r:Nat,Dq N p=some (r:Int)/\(r<=40->dep 41 p):=by obtain⟨r,h1,_,_,a⟩:=Wp (N:=1000) (by omega) 40 (by omega) p N (by omega);exact⟨r,by unfold Dq;rw[show Cl N p 0=some (r:Int) from h1];rfl,a⟩
def AG0 {N:Nat}(f:2000<=N)(laws:Sl Law):∃r,EI N laws=some r:=by
 suffices ∃r,EI N laws=some r/\True by obtain⟨r,h,_⟩:=this;exact⟨r,h⟩
 unfold EI;refine W7 (λi x1 x2=>x2=(i:Int)) 301 _ (by omega) rfl ?_;rintro d i x1 x2 s rfl hs;by_cases hc:i<laws.n/\i<=300
 .refine ifT (by simp only[Bi1,Fb];omega) (Ac ?_);refine W7 (λj x7 x8=>x8=(j:Int)) 2 _ (by omega) rfl ?_;rintro b j x7 x8 t rfl a;by_cases hl:j<2
  .refine ifT (by show decide ((j:Int)<((2:Nat):Int))=true;simp;omega) (ifT (by show (0:Int)<=(j:Int)/\(j:Int)<((2:Nat):Int);omega) ?_);obtain⟨r,l,m⟩:=TY f ((Sl.of [(laws.g (i:Int).toNat).Left,(laws.g (i:Int).toNat).Right]:Sl Pat).g (j:Int).toNat);refine B9 l ?_;by_cases c:r<=40
   .obtain⟨q,o⟩:=PR 41 _ (m c) N (by omega);exact Ah (B9 o (a hl _ _ (Bn)))
   exact Bh (a hl _ _ (Bn))
  exact ifF (by show ¬decide ((j:Int)<((2:Nat):Int))=true;simp;omega) (hs (by omega) _ _ (Bn))
 exact ifF (by simp only[Bi1,Fb];omega) ⟨_,rfl,trivial⟩
end Go.AM
namespace Go.AM
open IntKind (wrap)
open Go.Proofs
def As2 {N:Nat}(t:3000000<=N)(h:Nm):∃b,Fv N h=some b/\True:=by
 unfold Fv;by_cases hb:(((decide (70<(h.Tree.n:Int)))||(decide (70<(h.Laws.n:Int))))||(decide (70<(h.On.n:Int))))=true
 .exact ifT hb ⟨_,rfl,trivial⟩
 refine ifF hb ?_;have o : h.Laws.n<=70/\h.On.n<=70:=by simp at hb;omega
 refine FC (λi x=>x=(i:Int)) h.On.n _ (by omega) rfl ?_;rintro l i x q rfl hs;by_cases d:i<h.On.n
 .refine Ah (Ac ?_);by_cases m:(decide (70<((h.On.g (i:Int).toNat).n:Int)))=true
  .exact ifT m ⟨_,rfl,trivial⟩
  exact ifF m (hs d _ (Bn))
 refine Bh ?_;refine FC (λi x=>x=(i:Int)) h.Laws.n _ (by omega) rfl ?_;rintro f i x q rfl j;by_cases d:i<h.Laws.n
 .rw[Bn];refine Ah (Ac ?_);obtain⟨r,s⟩:=AG0 (N:=N) (by omega) (h.Laws.sub (i:Int).toNat ((i+1:Nat):Int).toNat);refine B9 s ?_;have last:∀z3:Bool,∃r,(if z3 then some false else f ((i+1:Nat):Int))=some r/\True:=λz=>by
   cases z
   .exact Bi (j d _ rfl)
   exact ifT rfl ⟨_,rfl,trivial⟩
  refine ltX ?_;by_cases g1:(decide (4<r))=true
  .exact ifT g1 (last _)
  refine ifF g1 ?_;by_cases g2:(decide (20<((h.Laws.g (i:Int).toNat).If.n:Int)))=true
  .exact ifT g2 (last _)
  refine ifF g2 ?_;by_cases g3:(decide (20<((h.Laws.g (i:Int).toNat).Out.n:Int)))=true
  .exact ifT g3 (last _)
  refine ifF g3 ?_;obtain⟨a,ha,_⟩:=TY (N:=N) (by omega) (h.Laws.g (i:Int).toNat).Left;refine B9 ha ?_;by_cases g4:(decide (41<(a:Int)))=true
  .exact ifT g4 (last _)
  refine ifF g4 ?_;obtain⟨c,hc,_⟩:=TY (N:=N) (by omega) (h.Laws.g (i:Int).toNat).Right;exact B9 hc (last _)
 exact Bh ⟨_,rfl,trivial⟩
structure TZ (x:Small):Prop where
 par:∀i,i<x.Parents.n->∃k:Nat,x.Parents.g i=(k:Int)/\k<256
 laws:BX x.Laws
 on:∀i,i<x.On.n->∃k:Nat,x.On.g i=(k:Int)/\k<65536
def ZD {n:Nat}(h:n<256):IntKind.u8.wrap (n:Int)=n:=by have h1:((n:Int) % (2 ^ 8:Int))=n:=Bo9 (by omega) (by omega);unfold wrap;simp only[IntKind.bits,IntKind.signed,h1,Br5,Bi5,Ev]
def Ag4 (a j:Nat):Str:=[UInt8.ofNat (a+j)]
def As3 {a j:Nat}(h:a+j<256):[UInt8.ofNat (wrap .u8 ((a:Int)+(wrap .u8 (j:Int)))).toNat]=Ag4 a j:=by rw[ZD (by omega),<- Int.natCast_add,ZD h,Kk];rfl
def ZE {a i j:Nat}(b:a+i<256)(c:a+j<256)(h:Ag4 a i=Ag4 a j):i=j:=by
 have:=congrArg UInt8.toNat (Bx7 h).1
 rw[Bw3,Bw3]at this;omega
def As4:∀j:Fin 10,HL (Ag4 97 j.val)=true:=by decide +kernel
def AU7 (x:Small):Nat->Node
 |0=>⟨-1,[114]⟩
 |j+1=>⟨(((x.Parents.g j).toNat % (j+1):Nat):Int),Ag4 97 (j+1)⟩
def AW3 (x:Small)(j:Nat):Law:=⟨Ag4 65 j,(x.Laws.g j).Left,(x.Laws.g j).Right,(x.Laws.g j).If,(x.Laws.g j).Out,(x.Laws.g j).Mode⟩
def As5 {x:Small}(hx:TZ x){j:Nat}(d:j<x.Laws.n):QU (AW3 x j):=by obtain⟨⟨a,b,c⟩,l,f,g,i⟩:=hx.laws j d;exact⟨⟨a,b,c⟩,by show 1<_;omega,f,g,i⟩
def AG1 {x:Small}{t:Sl Node}(hn:t.n<=10)(ht:∀j,j<t.n->t.g j=AU7 x j){v:Nat}(c:v<t.n):Be8 t v:=by
 have a:∀j,j<t.n->0<j->(AU7 x j).Name=Ag4 97 j:=λj _ d=>by obtain⟨k,rfl⟩:∃k,j=k+1:=⟨j-1,by omega⟩;rfl
 have b:∀j,j<10->([114]:Str)≠Ag4 97 j:=λj f h=>by
  have:=congrArg UInt8.toNat (Bx7 h).1
  rw[Bw3]at this;have e:(114:UInt8).toNat=114:=rfl;omega
 refine⟨λh=>by rw[ht 0 (by omega)];rfl,λd=>?_,?_,λu i=>?_⟩
 .obtain⟨k,rfl⟩:∃k,v=k+1:=⟨v-1,by omega⟩;rw[ht _ c];show 0<=(((x.Parents.g k).toNat % (k+1):Nat):Int)/\(((x.Parents.g k).toNat % (k+1):Nat):Int)<((k+1:Nat):Int)
  have:=Bs9 (x.Parents.g k).toNat (show 0<k+1 by omega)
  omega
 .rw[ht _ c];by_cases d:v=0
  .subst d;show HL [114]=true;decide +kernel
  rw[a v c (by omega)];exact As4 ⟨v,by omega⟩
 rw[ht _ c,ht u (by omega),a v c (by omega)];by_cases d:u=0
 .subst d;exact b v (by omega)
 rw[a u (by omega) (by omega)];exact λh=>by have:=ZE (by omega) (by omega) h;omega
def AU8:∀i:Fin 6,HL (Ag4 65 i.1)=true:=by decide +kernel
def AG2 {N:Nat}(hN:3000000<=N){x:Small}(hx:TZ x) :∃r:Nm×Bool,Z4 N x=some r/\((r.2=false/\r.1.Tree.n=0) \/ (okH N r.1/\∀i,i<r.1.Laws.n->HL (r.1.Laws.g i).Name=true)):=by
 unfold Z4;refine W7 (λi (x1:Sl Node) x2=>x2=((i+1:Nat):Int)/\x1.n=i+1/\∀j,j<i+1->x1.g j=AU7 x j) 9 _ (by omega) ⟨rfl,rfl,λj s=>by obtain rfl:j=0:=(by omega);rfl⟩ ?_;rintro self i x1 x2 hi ⟨rfl,hn1,h1⟩ hs;by_cases hlt:i+1<=x.Parents.n/\i+1<10
 .obtain⟨k,hk,a0⟩:=hx.par i (by omega);have e1:wrap .i64 (((i+1:Nat):Int)-1)=(i:Int):=by rw[Ap0 (by omega) (by omega)];rfl
  refine Ah ?_;rw[e1,Kk,hk,Lm (n:=(k:Int))];refine ifT ⟨⟨by omega,by omega⟩,by omega⟩ (ifT (by show (x1.n+1)*24<=_/\x1.n+1<=_;omega) (hs (by omega) _ _ ⟨Bn,by show x1.n+1=_;omega,λj s=>?_⟩));show (if j<x1.n then x1.g j else _)=_;by_cases e:j<x1.n
  .rw[Ej e];exact h1 j (by omega)
  obtain rfl:j=i+1:=by omega
  rw[Er e];have e2:[UInt8.ofNat (wrap .u8 (97+(wrap .u8 ((i+1:Nat):Int)))).toNat]=Ag4 97 (i+1):=As3 (a:=97) (by omega);rw[e2];show (⟨_,_⟩:Node)=⟨(((x.Parents.g i).toNat % (i+1):Nat):Int),Ag4 97 (i+1)⟩;rw[hk,Kk];rfl
 refine Bh ?_;clear hs;refine W7 (λi (x4:Sl Law) x5=>x5=(i:Int)/\x4.n=i/\∀j,j<i->x4.g j=AW3 x j/\j<x.Laws.n/\chkAll N (AW3 x j)) 6 _ (by omega) ⟨rfl,rfl,λj s=>Es s (by omega)⟩ ?_;rintro self2 m x4 x5 hm ⟨rfl,hn4,t⟩ a1;by_cases a2:m<x.Laws.n/\m<6
 .obtain⟨a3,hm6⟩:=a2;have e2:[UInt8.ofNat (wrap .u8 (65+(wrap .u8 (m:Int)))).toNat]=Ag4 65 m:=As3 (a:=65) (by omega);have hin:=As5 hx a3;refine Ah (Ac ?_);rw[Kk,e2];obtain⟨b,hb,_⟩:=As2 hN (⟨(Sl.nil:Sl Node),(Sl.of [AW3 x m]:Sl Law),(Sl.nil:Sl (Sl Int))⟩:Nm);have hl:Fw N (AW3 x m)=some b:=by unfold Fw;rw[hb];rfl
  refine B9 hl (ltX ?_);cases b
  .exact ifT rfl (ifT rfl ⟨_,rfl,.inl ⟨rfl,rfl⟩⟩)
  refine Bm ?_;obtain⟨e,he,hE⟩:=IY hN hin;refine B9 he ?_;rcases hE with⟨rfl,hc⟩ | ⟨rfl,_⟩
  .refine Bm (ifT (by show (x4.n+1)*200<=_/\x4.n+1<=_;omega) (a1 hm6 _ _ ⟨Bn,by show x4.n+1=_;omega,λj s=>?_⟩));show (if j<x4.n then x4.g j else AW3 x m)=_/\_;by_cases e:j<x4.n
   .rw[Ej e];exact t j (by omega)
   obtain rfl:j=m:=by omega
   rw[Er e];exact⟨rfl,a3,hc⟩
  exact Aq ⟨_,rfl,.inl ⟨rfl,rfl⟩⟩
 refine Bh ?_;clear a1;have hL1:wrap .i64 ((x4.n:Int)+1)=((x4.n+1:Nat):Int):=Bn;rw[hL1];refine W7 (λv (f:Sl (Sl Int)) a4=>a4=(v:Int)/\f.n=v/\∀u,u<v->(f.g u).n<=5/\∀j,j<(f.g u).n->0<=(f.g u).g j/\(f.g u).g j<x4.n) x1.n _ (by omega) ⟨rfl,rfl,λj s=>Es s (by omega)⟩ ?_;rintro self5 v f a4 o ⟨rfl,hn10,w⟩ hs5;by_cases hvl:v<x1.n
 .obtain⟨c,hc,hc2⟩:∃c:Nat,Eb N x.On (v:Int)=some (c:Int)/\c<65536:=by
   unfold Eb;by_cases h:v<x.On.n
   .obtain⟨k,hk,a0⟩:=hx.on v h;exact⟨k,by rw[Ch,Ce,Kk,hk,Lm],a0⟩
   exact⟨0,by rw[Dn];rfl,by omega⟩
  refine Ah (B9 hc ?_);refine W7 (λq (l:Sl Int) a5=>l.n=q/\(∃d:Nat,a5=(d:Int)/\d<65536)/\∀j,j<l.n->0<=l.g j/\l.g j<x4.n) 5 _ (by omega) ⟨rfl,⟨c,rfl,hc2⟩,λj s=>Es s (Bj5 j)⟩ ?_;rintro self6 q l a5 hq ⟨hn14,⟨d,rfl,hd⟩,a6⟩ hs6;refine Ac ?_;have em:(d:Int).tmod ((x4.n+1:Nat):Int)=((d % (x4.n+1):Nat):Int):=rfl;have ed:(d:Int).tdiv ((x4.n+1:Nat):Int)=((d / (x4.n+1):Nat):Int):=rfl;rw[em,ed];have a7:=Bs9 d (show 0<x4.n+1 by omega);have a8:=Nat.div_le_self d (x4.n+1);generalize d / (x4.n+1)=d1 at a8;generalize d % (x4.n+1)=m1 at a7;by_cases g:m1≠0/\q<5
  .rw[Ap0 (by omega) (by omega),Lm (n:=(d1:Int))];refine Ah (ifT ⟨⟨by omega,by show (l.n+1)*8<=_;omega,by show l.n+1<=_;omega⟩,by omega⟩ (hs6 (by omega) _ _ ⟨by show l.n+1=_;omega,⟨_,rfl,by omega⟩,λj s=>?_⟩));show 0<=(if j<l.n then l.g j else _)/\(if j<l.n then l.g j else _)<_;by_cases e:j<l.n
   .rw[Ej e];exact a6 j e
   rw[Er e];omega
  refine Bh (ifT (by show (f.n+1)*24<=_/\f.n+1<=_;omega) (hs5 hvl _ _ ⟨Bn,by show f.n+1=_;omega,λu hu=>?_⟩));show (if u<f.n then f.g u else l).n<=5/\∀j,j<(if u<f.n then f.g u else l).n->0<=(if u<f.n then f.g u else l).g j/\(if u<f.n then f.g u else l).g j<_;by_cases e:u<f.n
  .rw[Ej e];exact w u (by omega)
  rw[Er e];exact⟨by omega,a6⟩
 obtain rfl:v=x1.n:=by omega
 have y:Fx x1:=⟨by omega,by omega,λv o=>AG1 (by omega) (λj s=>h1 j (by omega)) o⟩;have hw:wkH (⟨x1,x4,f⟩:Nm):=⟨y,by show x1.n<=10;omega,by show x4.n<=64;omega,λi z=>?_,by show f.n=x1.n;omega,λv o=>(w v (by have o:v<f.n:=o;omega)).1,λv o=>(w v (by have o:v<f.n:=o;omega)).2⟩
 .have hc:∀i,i<x4.n->chkAll N (x4.g i):=λi z=>by rw[(t i (by omega)).1];exact (t i (by omega)).2.2
  obtain⟨e,e1,_,e2⟩:=RX hN hw;obtain rfl:=e2 hc λu v huv o hn=>by
   have o:v<x4.n:=o;have hn:(x4.g u).Name=(x4.g v).Name:=hn;rw[(t u (by omega)).1,(t v (by omega)).1]at hn
   have:=ZE (a:=65) (by omega) (by omega) hn
   omega
  exact Bi ⟨_,rfl,.inr ⟨AK9 hw hc e1,λi hi=>by have hi:i<x4.n:=hi;show HL (x4.g i).Name=true;rw[(t i (by omega)).1];exact AU8 ⟨i,by omega⟩⟩⟩
 have z:i<x4.n:=z;show QU (x4.g i);obtain⟨e,hil,_⟩:=t i (by omega);rw[e];exact As5 hx hil
end Go.AM
namespace Go.AM
variable {N:Nat}
open IntKind (wrap)
open Go.Proofs
def As6 {n:Nat}(h:n<4294967296):IntKind.u32.wrap (n:Int)=n:=by have h1:((n:Int) % (2 ^ 32:Int))=n:=Bo9 (by omega) (by omega);unfold wrap;simp only[IntKind.bits,IntKind.signed,h1,Br5,Bi5,Ev]
def As7 (l:1000<=N){s:Str}(hs:s.length<=32):∃w,S2 N s=some w/\wOk w:=by
 unfold S2;refine W7 (λi (x1:Sl Jf) x2=>x2=(i:Int)/\x1.n=i/\vW x1) s.length _ (by omega) ⟨rfl,rfl,λj c=>Es c (Bj5 j)⟩ ?_;rintro a i x1 x2 m ⟨rfl,h1,d⟩ b;by_cases hl:i<s.length
 .have nx:∀z:Jf,vS z->∃r,(if (Kh 8 (x1.n+(Sl.of [z]:Sl Jf).n))then a (x1.push z) (wrap .i64 ((i:Int)+1))else none)=some r/\wOk r:=λz f=>
   ifT (by show (x1.n+1)*8<=_/\x1.n+1<=_;omega) (b hl _ _ ⟨Bn,by show x1.n+1=_;omega,λj c=>by
    show vS (if j<x1.n then x1.g j else z);split
    .exact d j (by assumption)
    exact f⟩)
  refine Ah (Ac ?_);split
  .exact nx _ ⟨2#32,5#32,rfl,by decide +kernel⟩
  split
  .exact nx _ ⟨3#32,4#32,rfl,by decide +kernel⟩
  exact nx _ ⟨5#32,2#32,rfl,by decide +kernel⟩
 exact Bh ⟨x1,rfl,by omega,d⟩
def ifC {R:Type}{Q:R->Prop}{p:Prop}[Decidable p]{a b:Option R}(h1:∃r,a=some r/\Q r)(c:∃r,b=some r/\Q r):∃r,(if p then a else b)=some r/\Q r:=by
 split
 .exact h1
 exact c
def Ym:wOk Iy:=⟨Bp2 _,λi a=>Es a (Bj5 i)⟩
def AU9 (a:1000<=N){s:Str}(hs:s.length<=32):∃f,Be N s=some f/\okF f:=by
 unfold Be;obtain⟨w,w1,w2⟩:=As7 a hs;split
 .exact⟨_,rfl,Ym,λ_=>rfl⟩
 exact B9 w1 ⟨_,rfl,w2,λh=>by cases h⟩
def Wq (v:3000000<=N){h:Nm}(x:okH N h){lv:Sl Int}(hl:lv.n<=63){n:Int}{s:Str}(hs:s.length<=32){K:Sl H3->Option (B2×Bool)}{Q:B2×Bool->Prop}
 (y:∀fs:Sl H3,fs.n=lv.n->(∀k,k<fs.n->okF (fs.g k))->∃r,K fs=some r/\Q r) (p0:B2) (z:Q (p0,false)):∃r,Bx N (λ(c:Sl H3->Int->Option (B2×Bool)) (a:Sl H3) (b:Int)=>
  if (decide (b<(lv.n:Int))) then
   (S2 N s).bind λd=>
   if (0:Int)<=(wrap .i64 (10+(wrap .i64 (2*(b.tmod 8)))))then
    if (((shI .shr .u32 n (wrap .i64 (10+(wrap .i64 (2*(b.tmod 8)))))).tmod 4)==0) then
     if (Kh 32 (a.n+(Sl.of [(⟨false,Iy⟩:H3)]:Sl H3).n))then
      c (a.push (⟨false,Iy⟩:H3)) (wrap .i64 (b+1))
     else none
    else
     if (if (((shI .shr .u32 n (wrap .i64 (10+(wrap .i64 (2*(b.tmod 8)))))).tmod 4)==1) then ((shI .shr .u32 n (wrap .i64 (10+(wrap .i64 (2*(b.tmod 8)))))).tmod 4)==1 else ((shI .shr .u32 n (wrap .i64 (10+(wrap .i64 (2*(b.tmod 8)))))).tmod 4)==2) then
      if (((0:Int)<=b/\b<(lv.n:Int))/\b.toNat<lv.n)then
       (Cz N h d (lv.g b.toNat)).bind λl=>
       if (l.2 != 0) then
        some (p0,false)
       else
        if (Kh 32 (a.n+(Sl.of [(⟨true,l.1⟩:H3)]:Sl H3).n))then
         c (a.push (⟨true,l.1⟩:H3)) (wrap .i64 (b+1))
        else none
      else none
     else
      if (Kh 32 (a.n+(Sl.of [(⟨true,d⟩:H3)]:Sl H3).n))then
       c (a.push (⟨true,d⟩:H3)) (wrap .i64 (b+1))
      else none
   else none
  else K a
  ) (Sl.nil:Sl H3) 0=some r/\Q r:=by
 obtain⟨w,w1,w2⟩:=As7 (N:=N) (by omega) hs;refine W7 (λi (a:Sl H3) b=>b=(i:Int)/\a.n=i/\∀k,k<a.n->okF (a.g k)) lv.n _ (by omega) ⟨rfl,rfl,λk hk=>Es hk (Bj5 k)⟩ ?_;rintro m i a b hi ⟨rfl,h1,u⟩ o;by_cases q:i<lv.n
 case neg=>exact Bh (y _ (by omega) u)
 have nx:∀f:H3,okF f->∃r,(if (Kh 32 (a.n+(Sl.of [f]:Sl H3).n))then m (a.push f) (wrap .i64 ((i:Int)+1))else none)=some r/\Q r:=λf hf=>
  ifT (by show (a.n+1)*32<=_/\a.n+1<=_;omega) (o q _ _ ⟨Bn,by show a.n+1=_;omega,λk hk=>by
   show okF (if k<a.n then a.g k else f);split
   .exact u k (by assumption)
   exact hf⟩)
 have hm:(i:Int).tmod 8=((i % 8:Nat):Int):=rfl;have hm8:=Bs9 i (show 0<8 by omega);refine Ah (B9 w1 (ifT (by rw[hm,Lm (n:=2*_),Lm];omega) ?_));refine ifC (nx _ ⟨Ym,λ_=>rfl⟩) (ifC ?_ (nx ⟨true,w⟩ ⟨w2,λe=>by cases e⟩))
 obtain⟨r,r1,r2⟩:=At_ok v x (w:=w) (λj hj=>(w2.2 j hj).ok) (lv.g (i:Int).toNat);refine Ac (B9 r1 ?_);by_cases t:r.2=0
 .exact ifF (by simp[t]) (nx ⟨true,r.1⟩ ⟨r2 t,λe=>by cases e⟩)
 exact ifT (by simpa using t) ⟨_,rfl,z⟩
structure As8 (x:An5):Prop where
 H:TZ x.H
 L:∀i,i<x.L.n->∃b:BitVec 32,x.L.g i=(b.toNat:Int)
def Af3:(Dw 4194304).isSome=true:=by decide +kernel
def Wr:Sl Str:=(Dw 4194304).getD Sl.nil
def AG3:Dw 4194304=some Wr:=by obtain⟨v,a⟩:=Bj3.1 Af3;unfold Wr;rw[a];rfl
def AG4 (h:Nm)(p:Sl H3)(e:Sl Nr):Ea 4194304 ⟨Wr,Sl.nil,Sl.nil,h,p,e⟩=some 0:=by
 have:Ea 4194304 ⟨Wr,Sl.nil,Sl.nil,⟨Sl.nil,Sl.nil,Sl.nil⟩,Sl.nil,Sl.nil⟩=some 0:=by decide +kernel
 exact this
def AG5:∀i:Fin 4,HL [103,UInt8.ofNat (wrap .u8 (48+(wrap .u8 ((i.val:Nat):Int)))).toNat]=true:=by decide +kernel
def AG6 {h:Nm}{p:Sl H3}{l:Sl Nr}(a:okH 4194304 h)(hl:okE p l (P3 h.Tree h.Tree.n).n):AF8 4194304 ⟨Wr,Sl.nil,Sl.nil,h,p,l⟩:=⟨by unfold U5;rw[AG4,Lf,Er (by decide)];show (U9 4194304 h p l).bind _=_;rw[Wo (by omega) a hl];rfl,a,hl⟩
structure AG7 (p:B2):Prop where
 ok:AF8 4194304 p
 nm:∀i,i<p.Nm.Laws.n->HL (p.Nm.Laws.g i).Name=true
 e4:p.Np.n<=4
def AG8 {x:An5}(hx:As8 x):∃r,AH 4194304 x=some r/\(r.2=true->AG7 r.1):=by
 have w:3000000<=4194304:=by omega
 unfold AH;obtain⟨⟨h,ok⟩,m1,m2⟩:=AG2 w hx.H;refine B9 m1 ?_;have bad:∀{e:Sl Int×Int},(ok=false \/ e.2≠0)->((!ok)||(e.2 != 0))=true:=λ{e} g=>by
  rcases g with g|g
  .simp[g]
  simp[g]
 rcases m2 with⟨g1,g2⟩ | ⟨c,y⟩
 .obtain rfl:ok=false:=g1
  have:∃r,AC 4194304 h.Tree=some r:=by unfold AC Dt;have g2:h.Tree.n=0:=g2;rw[g2];exact⟨_,rfl⟩
  obtain⟨r,hr⟩:=this;exact B9 hr (ifT (bad (.inl rfl)) ⟨_,rfl,λe=>by cases e⟩)
 have c:okH 4194304 h:=c;refine B9 (IN w c.tree).2 ?_;have d:=Kt c.tree;have o:=@AG6 h;generalize P3 h.Tree h.Tree.n=lv at d o;by_cases hb:ok=true
 case neg=>exact ifT (bad (.inl (by simpa using hb))) ⟨_,rfl,λe=>by cases e⟩
 subst hb;refine Bi (B9 AG3 ?_);refine Ao9 (λi (x7:Sl H3) (x8:Sl Nr) x9=>x9=(i:Int)/\x7.n=i/\x8.n=i/\(∀k,k<x7.n->okF (x7.g k))/\∀k,k<x8.n->(x8.g k).Nq.n=lv.n/\(∀j,j<(x8.g k).Nq.n->okF ((x8.g k).Nq.g j))/\HL (x8.g k).Gloss=true) 4 _ (by omega) ⟨rfl,rfl,rfl,λk hk=>Es hk (Bj5 k),λk hk=>Es hk (Bj5 k)⟩ ?_;rintro t i x7 x8 x9 hi ⟨rfl,h7,h8,u,a⟩ hs;by_cases l:i<x.L.n/\i<4
 case neg=>exact Bh ⟨_,rfl,λ_=>⟨o c ⟨by omega,by omega,u,λk hk=>(a k hk).1,λk hk=>(a k hk).2.1,λk hk=>(a k hk).2.2⟩,y,by show x8.n<=4;omega⟩⟩
 obtain⟨b,hb⟩:=hx.L i l.1;refine Ah (Ac ?_);rw[Kk,hb];refine W7 (λk (m:Str) v=>v=(k:Int)/\m.length=k) 4 _ (by omega) ⟨rfl,rfl⟩ ?_;rintro z k m v hk ⟨rfl,h16⟩ a0;have hm:((b.toNat:Nat):Int).tmod 4=((b.toNat % 4:Nat):Int):=rfl;have hm4:=Bs9 b.toNat (show 0<4 by omega);rw[hm,Lm (n:=((b.toNat % 4:Nat):Int))];by_cases hkl:k<=b.toNat % 4
 .have e1:wrap .i64 (2+(wrap .i64 (2*(k:Int))))=((2+2*k:Nat):Int):=by rw[Lm (n:=2*_),Lm];omega
  have e2:(shI .shr .u32 (b.toNat:Int) ((2+2*k:Nat):Int)).tmod 4=(((b >>> (2+2*k)).toNat % 4:Nat):Int):=by rw[AI9];rfl
  have hq:=Bs9 (b >>> (2+2*k)).toNat (show 0<4 by omega);rw[e1,e2];generalize (b >>> (2+2*k)).toNat % 4=q at hq;have e3:wrap .u32 ((q:Int)+1)=((q+1:Nat):Int):=As6 (n:=q+1) (by omega);have h4:(([112,98,97,97]:Str).length:Int)=4:=rfl;rw[e3,h4,Kk,Kk];have hd:((([112,98,97,97]:Str).take (q+1)).drop q).length=1:=by rw[Bj9,Bo2];show min (q+1) 4-q=1;omega
  exact Ah (ifT ⟨⟨⟨by omega,by omega⟩,by omega,by omega,by omega⟩,by rw[hd];omega⟩ (a0 (by omega) _ _ ⟨Bn,by rw[Bi9,hd];omega⟩))
 refine Bh ?_;obtain⟨f,f1,f2⟩:=AU9 (N:=4194304) (by omega) (s:=m) (by omega);refine B9 f1 (ltX ?_);have a1:=AG5 ⟨i,l.2⟩;have K:∀z3:Bool×Sl Jf,okF ⟨z3.1,z3.2⟩->∀fs:Sl H3,fs.n=lv.n->(∀k,k<fs.n->okF (fs.g k))->∃r,(if (Kh 32 (x7.n+(Sl.of [(⟨z3.1,z3.2⟩:H3)]:Sl H3).n))then
  if (Kh 40 (x8.n+(Sl.of [(⟨[103,UInt8.ofNat (wrap .u8 (48+(wrap .u8 (i:Int)))).toNat],fs⟩:Nr)]:Sl Nr).n))then
   t (x7.push (⟨z3.1,z3.2⟩:H3)) (x8.push (⟨[103,UInt8.ofNat (wrap .u8 (48+(wrap .u8 (i:Int)))).toNat],fs⟩:Nr)) (wrap .i64 ((i:Int)+1))
  else none
  else none)=some r/\(r.2=true->AG7 r.1):=by
  intro z3 hz fs a2 a3;refine ifT (by show (x7.n+1)*32<=_/\x7.n+1<=_;omega) (ifT (by show (x8.n+1)*40<=_/\x8.n+1<=_;omega) (hs l.2 _ _ _ ⟨Bn,by show x7.n+1=_;omega,by show x8.n+1=_;omega,λk hk=>?_,λk hk=>?_⟩))
  .show okF (if k<x7.n then x7.g k else _);split
   .exact u k (by assumption)
   exact hz
  show (if k<x8.n then x8.g k else _).Nq.n=lv.n/\(∀j,j<(if k<x8.n then x8.g k else _).Nq.n->okF ((if k<x8.n then x8.g k else _).Nq.g j))/\HL (if k<x8.n then x8.g k else _).Gloss=true;split
  .exact a k (by assumption)
  exact⟨a2,a3,a1⟩
 split
 .exact Wq w c d (by omega) (K (false,Sl.nil) ⟨Ym,λ_=>rfl⟩) _ (λe=>by cases e)
 exact Wq w c d (by omega) (K (f.Has,f.W) f2) _ (λe=>by cases e)
end Go.AM
namespace Go.AM
set_option maxRecDepth 100000
def RY:Fu 4194304=some true:=by decide +kernel
end Go.AM
namespace Go.AM
open IntKind (wrap)
open Go.Proofs
def AG9 (N:Nat)(a:B2)(y2:Sl Int×Int)(e:A5)(slf:Str->Option (Str×Int))(x2:Str):Option (Str×Int):= (Cr N a e.Nr e.Nj).bind λd=>if (!d) then some ([],3) else My (R8 eqI e.Kind ([(1,0),(2,1)]:List (Int×Int))) (if (((((0:Int)<=e.Nr/\e.Nr<(a.Np.n:Int))/\((0:Int)<=e.Nj/\e.Nj<(y2.1.n:Int)))/\e.Nj.toNat<y2.1.n)/\((0:Int)<=(y2.1.g e.Nj.toNat)/\(y2.1.g e.Nj.toNat)<(a.Nm.Tree.n:Int)))then (I8 N e.Cost 10).bind λf=>(H1 N (Sl.of [[98,97,100],(a.Np.g e.Nr.toNat).Gloss,(a.Nm.Tree.g (y2.1.g e.Nj.toNat).toNat).Name,[111,116,104,101,114],f]:Sl Str) [32]).bind λb=>if (x2++(b++[10])).length<=140737488355328 then slf (x2++(b++[10])) else none else none) λv6=>if ((0:Int)<=v6/\v6<2)then if (((((0:Int)<=e.Nr/\e.Nr<(a.Np.n:Int))/\((0:Int)<=e.Nj/\e.Nj<(y2.1.n:Int)))/\e.Nj.toNat<y2.1.n)/\((0:Int)<=(y2.1.g e.Nj.toNat)/\(y2.1.g e.Nj.toNat)<(a.Nm.Tree.n:Int)))then (I8 N e.Cost 10).bind λi=>(H1 N (Sl.of [[98,97,100],(a.Np.g e.Nr.toNat).Gloss,(a.Nm.Tree.g (y2.1.g e.Nj.toNat).toNat).Name,[([111,116,104,101,114]:Str),([110,111,110,101]:Str)].getD v6.toNat [],i]:Sl Str) [32]).bind λc=>if (x2++(c++[10])).length<=140737488355328 then slf (x2++(c++[10])) else none else none else none
def ZF (N:Nat)(a:B2)(y2:Sl Int×Int)(e:FB)(slf:Str->Option (Str×Int))(x4:Str):Option (Str×Int):= (T2 N a e).bind λb=>if (b.2 != 0) then some ([],b.2) else if ((0:Int)<=e.Node/\e.Node<(a.Nm.On.n:Int))then if ((((((((((0:Int)<=e.Node/\e.Node<(a.Nm.Tree.n:Int))/\((0:Int)<=e.Place/\e.Place<((a.Nm.On.g e.Node.toNat).n:Int)))/\((0:Int)<=((a.Nm.On.g e.Node.toNat).g e.Place.toNat)/\((a.Nm.On.g e.Node.toNat).g e.Place.toNat)<(a.Nm.Laws.n:Int)))/\((0:Int)<=(wrap .i64 (e.Place+1))/\(wrap .i64 (e.Place+1))<((a.Nm.On.g e.Node.toNat).n:Int)))/\((0:Int)<=((a.Nm.On.g e.Node.toNat).g (wrap .i64 (e.Place+1)).toNat)/\((a.Nm.On.g e.Node.toNat).g (wrap .i64 (e.Place+1)).toNat)<(a.Nm.Laws.n:Int)))/\((0:Int)<=e.Nr/\e.Nr<(a.Np.n:Int)))/\((0:Int)<=e.Nj/\e.Nj<(y2.1.n:Int)))/\e.Nj.toNat<y2.1.n)/\((0:Int)<=(y2.1.g e.Nj.toNat)/\(y2.1.g e.Nj.toNat)<(a.Nm.Tree.n:Int)))then (H1 N (Sl.of [[115,119,97,112],(a.Nm.Tree.g e.Node.toNat).Name,(a.Nm.Laws.g ((a.Nm.On.g e.Node.toNat).g e.Place.toNat).toNat).Name,(a.Nm.Laws.g ((a.Nm.On.g e.Node.toNat).g (wrap .i64 (e.Place+1)).toNat).toNat).Name,(a.Np.g e.Nr.toNat).Gloss,(a.Nm.Tree.g (y2.1.g e.Nj.toNat).toNat).Name]:Sl Str) [32]).bind λc=>if (x4++(c++[10])).length<=140737488355328 then slf (x4++(c++[10])) else none else none else none
def tx1 (N:Nat)(a:Je)(T:Option (Str×Int)):Option (Str×Int):= W8 N (λb (x1:Int)=>if (decide (x1<(a.Bad.n:Int))) then if ((0:Int)<=x1/\x1<(a.Bad.n:Int))then My (R8 eqI (a.Bad.g x1.toNat).Kind ([(1,0),(2,1)]:List (Int×Int))) (some ([],2)) λv3=>b (wrap .i64 (x1+1)) else none else T) 0
def tx2 (N:Nat)(b:B2)(y2:Sl Int×Int)(l:Sl A5)(T:Str->Option (Str×Int)):Option (Str×Int):= Bx N (λa (x2:Str) (x3:Int)=>if (decide (x3<(l.n:Int))) then if ((0:Int)<=x3/\x3<(l.n:Int))then AG9 N b y2 (l.g x3.toNat) (λs=>a s (wrap .i64 (x3+1))) x2 else none else T x2) [] 0
def tx3 (N:Nat)(b:B2)(y2:Sl Int×Int)(l:Sl FB)(x2:Str):Option (Str×Int):= Bx N (λa (x4:Str) (x5:Int)=>if (decide (x5<(l.n:Int))) then if ((0:Int)<=x5/\x5<(l.n:Int))then ZF N b y2 (l.g x5.toNat) (λs=>a s (wrap .i64 (x5+1))) x4 else none else if (decide (65536<(x4.length:Int))) then some ([],11)else some (x4,0)) x2 0
def Af4 (N:Nat)(a:B2)(b:Je):CC N a b=(U5 N a).bind λy1=>if (y1 != 0) then some ([],y1)else
 tx1 N b ((Q9 N a.Nm.Tree).bind λy2=>tx2 N a y2 b.Bad (λx2=>tx3 N a y2 b.Nn x2)):=rfl
end Go.AM
namespace Go.AM
open Go.Proofs
def Yn (c b:UInt8)(l:List UInt8):[c].isPrefixOf (b::l)=(b==c):=by rw[List.isPrefixOf];simp[Bool.beq_comm,List.isPrefixOf]
def Af5 {c:UInt8}:∀{l:Str},(∀b∈l,b≠c)->Lib.index l [c] = -1
 |[],_=>rfl
 |b::l,h=>by simp only[Lib.index];rw[Yn,Af5 λx hx=>h x (by simp[hx]),Er (by simpa using h b (by simp))];rfl
def Ws {c:UInt8}{t:Str}:∀{l:Str},(∀b∈l,b≠c)->Lib.index (l++c::t) [c]=(l.length:Int)
 |[],_=>by show Lib.index (c::t) [c]=_;simp only[Lib.index];rw[Yn,Ej (by simp)];rfl
 |b::l,h=>by show Lib.index (b::(l++c::t)) [c]=_;simp only[Lib.index];rw[Yn,Ws λx hx=>h x (by simp[hx]),Er (by simpa using h b (by simp)),Er (by simp<;>omega)];simp
def ZG {c:UInt8}{l:Str}(h:∀b∈l,b≠c):PX c l=[l]:=by unfold PX;rw[Bx8,BB2.2 λhm=>h c hm rfl];rfl
def ZH {c:UInt8}{l t:Str}(h:∀b∈l,b≠c):PX c (l++c::t)=l::PX c t:=by unfold PX;rw[Bx8,List.count_append,BB2.2 λhm=>h c hm rfl,List.count_cons_self,Bm8,Lib.splitK,Ws h,Er (by simp<;>omega),Bx8];simp[Kk]
def txt (L:List Str):Str:=L.flatMap λl=>l++[10]
def As9:∀{L:List Str},(∀l∈L,∀b∈l,b≠10)->PX 10 (txt L)=L++[[]]
 |[],_=>ZG (λb hb=>by cases hb)
 |l::L,h=>by
  have e:txt (l::L)=l++10::txt L:=by simp[txt]
  rw[e,ZH (h l (by simp)),As9 λx hx=>h x (by simp[hx])];rfl
def ZI (x y:Str)(r:List Str)(s:Str):Lib.join (x::y::r) s=x++(s++Lib.join (y::r) s):=by rw[Lib.join_cons,Lib.join_cons];simp[Lib.joinTail]
def ZJ:∀{x:Str}{r:List Str},(∀w∈x::r,∀b∈w,b≠32)->PX 32 (Lib.join (x::r) [32])=x::r
 |x,[],h=>by rw[Lib.join_one];exact ZG (h x (by simp))
 |x,y::r,h=>by rw[ZI];show PX 32 (x++32::Lib.join (y::r) [32])=_;rw[ZH (h x (by simp)),ZJ λw hw=>h w (by simp at hw⊢;exact .inr hw)]
def gw (s:Str):Prop:=s.length<=24/\∀b∈s,b≠10/\b≠32
def Ua:∀{x:Str}{r:List Str},(∀w∈x::r,gw w)->(Lib.join (x::r) [32]).length<=25*(r.length+1)/\∀b∈Lib.join (x::r) [32],b≠10
 |x,[],h=>by
  rw[Lib.join_one]
  have:=h x (by simp)
  exact⟨by have:=this.1;omega,λb hb=>(this.2 b hb).1⟩
 |x,y::r,h=>by
  rw[ZI];have hx:=h x (by simp);obtain⟨h1,a⟩:=Ua (x:=y) (r:=r) λw hw=>h w (by simp at hw⊢;exact .inr hw);refine⟨by have:=hx.1;simp;omega,λb hb=>?_⟩;rcases Bs0.1 hb with hb|hb
  .exact (hx.2 b hb).1
  rcases Bs0.1 hb with hb|hb
  .rw[Bm6.1 hb];decide
  exact a b hb
def Ku {s:Str}(h:HL s=true):gw s:=by
 unfold HL at h;simp only[Bi1,Fb,Bi8]at h;refine⟨h.1.2,λb hb=>?_⟩
 have:=h.2 b hb
 refine⟨λe=>?_,λe=>?_⟩<;>(subst e;revert this;decide)
def AL4:∀(k u:Nat),u<10 ^ k->1<=k->k<=24->(Lib.decDigits u).length<=k/\∀b∈Lib.decDigits u,b≠10/\b≠32
 |0,u,_,h,_=>Es h (by omega)
 |k+1,u,h,_,hk=>by
  have dig:∀d:Fin 10,UInt8.ofNat (48+d.1)≠10/\UInt8.ofNat (48+d.1)≠32:=by decide
  rw[Lib.decDigits];by_cases a:u<10
  .rw[dif_pos a];exact⟨by simp,λb hb=>by rw[Bm6.1 hb];exact dig ⟨u,a⟩⟩
  rw[dif_neg a];have c:1<=k:=by
   rcases k with _|k
   .exact Es h (by omega)
   omega
  obtain⟨h1,f⟩:=AL4 k (u / 10) (by rw[Nat.pow_succ]at h;omega) c (by omega);refine⟨by rw[Bi9,Bl1];omega,λb hb=>?_⟩;rcases Bs0.1 hb with hb|hb
  .exact f b hb
  rw[Bm6.1 hb];exact dig ⟨u % 10,Bs9 _ (by omega)⟩
def AV0 {k:Nat}(h:k<65536):gw (Lib.itoa (k:Int)):=by unfold Lib.itoa;rw[Cj,Kk];obtain⟨h1,a⟩:=AL4 5 k (by omega) (by omega) (by omega);exact⟨by omega,a⟩
def Ub {B:Nat}:∀{L:List Str},(∀l∈L,l.length<=B)->(txt L).length<=L.length*(B+1)
 |[],_=>Bp2 _
 |l::L,h=>by have e:txt (l::L)=(l++[10])++txt L:=rfl;have h1:=Ub (B:=B) (L:=L) λx hx=>h x (by simp[hx]);have a:=h l (by simp);rw[e,Bi9,Bi9,Bl1,Bk7,Bs1];omega
def ZK (L:List Str)(l:Str):txt (L++[l])=txt L++(l++[10]):=by simp[txt]
end Go.AM
namespace Go.AM
variable {N:Nat}
open IntKind (wrap)
open Go.Proofs
def wB (p:B2)(lv:Sl Int)(e:A5):List Str:=[[98,97,100],(p.Np.g e.Nr.toNat).Gloss,(p.Nm.Tree.g (lv.g e.Nj.toNat).toNat).Name,if e.Kind=1 then [111,116,104,101,114]else [110,111,110,101],Lib.itoa e.Cost]
def wS (p:B2)(lv:Sl Int)(x:FB):List Str:=[[115,119,97,112],(p.Nm.Tree.g x.Node.toNat).Name,(p.Nm.Laws.g ((p.Nm.On.g x.Node.toNat).g x.Place.toNat).toNat).Name,(p.Nm.Laws.g ((p.Nm.On.g x.Node.toNat).g (x.Place+1).toNat).toNat).Name,(p.Np.g x.Nr.toNat).Gloss,(p.Nm.Tree.g (lv.g x.Nj.toNat).toNat).Name]
abbrev ln (l:List Str):Str:=Lib.join l [32]
def bOk (p:B2)(e:A5):Prop:=exR p.Np e/\∃q:Nat,e.Cost=(q:Int)/\q<65536
def sOk (p:B2)(x:FB):Prop:=∃v i n k:Nat,x=⟨(v:Int),(i:Int),(n:Int),(k:Int)⟩/\v<p.Nm.Tree.n/\i+1<(p.Nm.On.g v).n/\n<p.Np.n/\k<(p.Np.g n).Nq.n
noncomputable abbrev lvP (p:B2):Sl Int:=P3 p.Nm.Tree p.Nm.Tree.n
def AL5 {p:B2}{n k:Nat}(hn:n<p.Np.n)(hk:k<(p.Np.g n).Nq.n):Cr N p (n:Int) (k:Int)=some true:=by
 unfold Cr;rw[Ej (λ_ _ _=>by omega),Kk]
 have:((((decide (0<=(n:Int)))&&(decide ((n:Int)<(p.Np.n:Int))))&&(decide (0<=(k:Int))))&&(decide ((k:Int)<((p.Np.g n).Nq.n:Int))))=true:=by simp;omega
 rw[this]
def Bg0 {p:B2}(hp:AG7 p){e:A5}(b:bOk p e):∀w∈wB p (lvP p) e,gw w:=by
 obtain⟨⟨n,k,e1,e2,hn,hk,_⟩,q,e3,c⟩:=b;have a:=hp.ok.Nk;have f:=a.fn n hn;obtain⟨v,d,ev⟩:=IM p.Nm.Tree p.Nm.Tree.n k (by omega);have ht:=hp.ok.hist.tree.2.2 v d;unfold wB;rw[e1,e2,e3,Kk,Kk,ev,Kk];intro w hw;simp only[Bj7,Bx9,or_false]at hw;rcases hw with rfl|rfl|rfl|rfl|rfl
 .exact⟨by decide,by decide⟩
 .exact Ku (a.nm n hn)
 .exact Ku ht.2.2.1
 .split<;>exact⟨by decide,by decide⟩
 exact AV0 c
def Bg1 {p:B2}(hp:AG7 p){x:FB}(hx:sOk p x):∀w∈wS p (lvP p) x,gw w:=by
 obtain⟨v,i,n,k,rfl,c,d,hn,hk⟩:=hx;have a:=hp.ok.Nk;have b:=hp.ok.hist;have f:=b.on;have j:=a.fn n hn;obtain⟨u,g,eu⟩:=IM p.Nm.Tree p.Nm.Tree.n k (by omega);have r1:=b.rng v (by omega) i (by omega);have r2:=b.rng v (by omega) (i+1) d;unfold wS;dsimp only;rw[show ((i:Int)+1).toNat=i+1 by omega,Kk,Kk,Kk,Kk,eu,Kk];intro w hw;simp only[Bj7,Bx9,or_false]at hw;rcases hw with rfl|rfl|rfl|rfl|rfl|rfl
 .exact⟨by decide,by decide⟩
 .exact Ku (b.tree.2.2 v c).2.2.1
 .exact Ku (hp.nm _ (by omega))
 .exact Ku (hp.nm _ (by omega))
 .exact Ku (a.nm n hn)
 exact Ku (b.tree.2.2 u g).2.2.1
def ZL {p:B2}(hp:AG7 p){e:A5}(a:bOk p e):(ln (wB p (lvP p) e)).length<=150/\∀b∈ln (wB p (lvP p) e),b≠10:=by obtain⟨h1,c⟩:=Ua (Bg0 hp a);exact⟨Bm1 h1 (by simp),c⟩
def At0 {p:B2}(hp:AG7 p){x:FB}(hx:sOk p x):(ln (wS p (lvP p) x)).length<=150/\∀b∈ln (wS p (lvP p) x),b≠10:=by obtain⟨h1,a⟩:=Ua (Bg1 hp hx);exact⟨Bm1 h1 (by simp),a⟩
def AV1 {ws l:List Str}(e:(List.range ws.length).map (Sl.of ws:Sl Str).g=l)(h1:ws.length<=10)(a:(ln l).length<=150):H1 N (Sl.of ws:Sl Str) [32]=some (ln l):=by unfold H1;show (if ws.length<=_/\(Lib.join ((List.range ws.length).map (Sl.of ws:Sl Str).g) [32]).length<=_ then some (Lib.join ((List.range ws.length).map (Sl.of ws:Sl Str).g) [32])else none)=_;rw[e,Ej ⟨by omega,by show (ln l).length<=_;omega⟩]
def AH0 {p:B2}(hp:AG7 p){e:A5}(c:bOk p e){slf:Str->Option (Str×Int)}{x:Str}(hx:x.length<=100000):AG9 N p (lvP p,0) e slf x=slf (x++(ln (wB p (lvP p) e)++[10])):=by
 have hl:=(ZL hp c).1;obtain⟨⟨n,k,e1,e2,hn,hk,a⟩,q,e3,f⟩:=c;rcases e with⟨_,_,t,_⟩;obtain rfl:=e1;obtain rfl:=e2;obtain rfl:=e3;have b:=hp.ok.Nk;have i:=b.fn n hn;obtain⟨v,j,ev⟩:=IM p.Nm.Tree p.Nm.Tree.n k (by omega);unfold AG9;dsimp only at a⊢;rw[AL5 hn hk,Lf,Er (by decide)];have hc:(((((0:Int)<=(n:Int)/\(n:Int)<(p.Np.n:Int))/\((0:Int)<=(k:Int)/\(k:Int)<((lvP p).n:Int)))/\(k:Int).toNat<(lvP p).n)/\((0:Int)<=((lvP p).g (k:Int).toNat)/\((lvP p).g (k:Int).toNat)<(p.Nm.Tree.n:Int))):=by rw[Kk];show _/\((0:Int)<=(P3 p.Nm.Tree p.Nm.Tree.n).g k/\(P3 p.Nm.Tree p.Nm.Tree.n).g k<_);rw[ev];show ((_/\((0:Int)<=(k:Int)/\(k:Int)<((P3 p.Nm.Tree p.Nm.Tree.n).n:Int)))/\k<(P3 p.Nm.Tree p.Nm.Tree.n).n)/\_;omega
 have d:I8 N (q:Int) 10=some (Lib.itoa (q:Int)):=by unfold I8;rw[Ej ⟨⟨by omega,by omega⟩,rfl⟩]
 rcases a with rfl|rfl
 .show (if (0:Int)<=0/\(0:Int)<2 then _ else none)=_;rw[Ej (by decide),Ej hc,d,Lf,AV1 (l:=wB p (lvP p) ⟨(n:Int),(k:Int),1,(q:Int)⟩) rfl (by simp) hl,Lf];refine (Ej (by decide)).trans (Ej ?_);rw[Bi9,Bi9,Bl1];omega
 show (if (0:Int)<=1/\(1:Int)<2 then _ else none)=_;rw[Ej (by decide),Ej hc,d,Lf,AV1 (l:=wB p (lvP p) ⟨(n:Int),(k:Int),2,(q:Int)⟩) rfl (by simp) hl,Lf];refine (Ej (by decide)).trans (Ej ?_);rw[Bi9,Bi9,Bl1];omega
def At1 {p:B2}(hp:AG7 p){e:FB}(c:sOk p e){slf:Str->Option (Str×Int)}{x:Str}(hx:x.length<=100000):ZF 4194304 p (lvP p,0) e slf x=slf (x++(ln (wS p (lvP p) e)++[10])):=by
 have hl:=(At0 hp c).1;have f:3000000<=4194304:=by omega
 obtain⟨v,i,n,k,rfl,j,d,hn,hk⟩:=c;have a:=hp.ok.Nk;have b:=hp.ok.hist;have l:=b.on;have q:=a.fn n hn;obtain⟨u,r,eu⟩:=IM p.Nm.Tree p.Nm.Tree.n k (by omega);have r1:=b.rng v (by omega) i (by omega);have r2:=b.rng v (by omega) (i+1) d;have s:=b.row v (by omega);have hs:T2 4194304 p ⟨(v:Int),(i:Int),(n:Int),(k:Int)⟩=some (swV 4194304 p.Nm ⟨(v:Int),(i:Int)⟩,0):=by unfold T2;show (K4 4194304 p.Nm (v:Int) (i:Int)).bind _=_;rw[(AU3 f b j d).1,Lf];dsimp only;rw[lt,Er (by decide),AL5 hn hk];rfl
 unfold ZF;rw[hs,Lf,Er (show ¬((0:Int) != 0)=true by decide)];dsimp only;rw[show wrap .i64 ((i:Int)+1)=((i+1:Nat):Int) from Bn];simp only[Kk];have m:k<(lvP p).n:=by show k<(P3 p.Nm.Tree p.Nm.Tree.n).n;omega
 have eu2:(lvP p).g k=(u:Int):=eu;have o:H1 4194304 (Sl.of [[115,119,97,112],(p.Nm.Tree.g v).Name,(p.Nm.Laws.g ((p.Nm.On.g v).g i).toNat).Name,(p.Nm.Laws.g ((p.Nm.On.g v).g (i+1)).toNat).Name,(p.Np.g n).Gloss,(p.Nm.Tree.g ((lvP p).g k).toNat).Name]:Sl Str) [32]=some (ln (wS p (lvP p) ⟨(v:Int),(i:Int),(n:Int),(k:Int)⟩)):=AV1 rfl (by simp) hl;rw[Ce,Ej (by rw[eu2];omega),o,Lf];exact Ej (by rw[Bi9,Bi9,Bl1];omega)
def AH1 {p:B2}(hp:AG7 p){b:Sl A5}{s:Sl FB}(hb:∀i,i<b.n->bOk p (b.g i))(hs:∀i,i<s.n->sOk p (s.g i))(z:b.n<=40)(a0:s.n<=40) :CC 4194304 p ⟨b,s⟩=some (txt (b.toList.map (λe=>ln (wB p (lvP p) e))++s.toList.map (λx=>ln (wS p (lvP p) x))),0):=by
 have hN:3000000<=4194304:=by omega
 rw[Af4];rw[hp.ok.chk,Lf,Er (by decide)];have hB:∀j,∀l∈(b.toList.take j).map (λe=>ln (wB p (lvP p) e)),l.length<=150:=λj l hl=>by obtain⟨e,m,rfl⟩:=Bl2.1 hl;obtain⟨i,d,rfl⟩:=Bl2.1 (Bz6 m);exact (ZL hp (hb i (Bl7.1 d))).1
 have hS:∀j,∀l∈b.toList.map (λe=>ln (wB p (lvP p) e))++(s.toList.take j).map (λx=>ln (wS p (lvP p) x)),l.length<=150:=λj l hl=>by
  rcases Bs0.1 hl with hl|hl
  .obtain⟨e,m,rfl⟩:=Bl2.1 hl;obtain⟨i,d,rfl⟩:=Bl2.1 m;exact (ZL hp (hb i (Bl7.1 d))).1
  obtain⟨e,m,rfl⟩:=Bl2.1 hl;obtain⟨i,d,rfl⟩:=Bl2.1 (Bz6 m);exact (At0 hp (hs i (Bl7.1 d))).1
 have o:∀{α : Type}(f : α -> Str) (L:List α) (x : α),txt (L.map f++[f x])=txt (L.map f)++(f x++[10]):=λf L x=>ZK _ _;refine Zt ?_;unfold tx1;dsimp only;refine FC (λi x=>x=(i:Int)) b.n _ (by omega) rfl ?_;rintro y i x d rfl q;by_cases c:i<b.n
 .refine Ah (Ac ?_);rw[Kk];obtain⟨⟨_,_,_,_,_,_,hk⟩,_⟩:=hb i c;rcases hk with hk|hk
  .rw[hk];exact q c _ (Bn)
  rw[hk];exact q c _ (Bn)
 refine Bh (B9 (IN hN hp.ok.hist.tree).1 ?_);unfold tx2;refine W7 (λj (x2:Str) x3=>x3=(j:Int)/\x2=txt ((b.toList.take j).map λe=>ln (wB p (lvP p) e))) b.n _ (by omega) ⟨rfl,rfl⟩ ?_;rintro t j x2 x3 hj ⟨rfl,rfl⟩ u;by_cases a:j<b.n
 .have hle:=Ub (hB j);rw[Bk6,Bo2,FP]at hle;refine Ah (Ac ?_);rw[Kk];show ∃r,AG9 4194304 p (lvP p,0) (b.g j) _ _=some r/\_;rw[AH0 hp (hb j a) (by omega)];exact u a _ _ ⟨Bn,by rw[Yk a,Br9];exact (o _ _ _).symm⟩
 refine Bh ?_;rw[Bt0 (by rw[FP];omega)];unfold tx3;refine W7 (λj (x4:Str) x5=>x5=(j:Int)/\x4=txt (b.toList.map (λe=>ln (wB p (lvP p) e))++(s.toList.take j).map λx=>ln (wS p (lvP p) x))) s.n _ (by omega) ⟨rfl,by rw[Bv0,Bo8,Bn3]⟩ ?_;rintro v j x4 x5 hj ⟨rfl,rfl⟩ w;have hle:=Ub (hS j);rw[Bi9,Bk6,Bk6,Bo2,FP,FP]at hle;by_cases a:j<s.n
 .refine Ah (Ac ?_);rw[Kk];show ∃r,ZF 4194304 p (lvP p,0) (s.g j) _ _=some r/\_;rw[At1 hp (hs j a) (by omega)];refine w a _ _ ⟨Bn,?_⟩;rw[Yk a,Br9]
  have:=ZK (b.toList.map (λe=>ln (wB p (lvP p) e))++(s.toList.take j).map λx=>ln (wS p (lvP p) x)) (ln (wS p (lvP p) (s.g j)))
  rw[Bq6]at this;exact this.symm
 refine Bh (ifF (by rw[Fb];omega) ⟨_,rfl,?_⟩);rw[Bt0 (by rw[FP];omega)]
end Go.AM
namespace Go.AM
open IntKind (wrap)
open Go.Proofs
def ZM {N:Nat}{x:Str}{r:List Str}(h:∀w∈x::r,gw w)(a:r.length<=10):T3 N (ln (x::r)) [32]=some (Sl.of (x::r):Sl Str):=by show (if (ln (x::r)).length<=1000000 then some (Sl.of (PX 32 (ln (x::r))):Sl Str)else none)=_;have h1:=(Ua h).1;rw[Ej (by show (Lib.join (x::r) [32]).length<=_;omega),ZJ λw hw b hb=>((h w hw).2 b hb).2]
def PY {x:An5}(hx:As8 x){pr:Int}(a3:∃k:Nat,pr=(k:Int)/\k<65536):Cc 4194304 x pr=some true:=by
 have hN:3000000<=4194304:=by omega
 refine Zt ?_;obtain⟨⟨p,ok⟩,r1,r2⟩:=AG8 hx;unfold Cc;refine B9 r1 ?_;by_cases hr:ok=true
 case neg=>exact ifT (by simpa using hr) ⟨true,by rw[RY];rfl,rfl⟩
 have hp:=r2 hr;refine ifF (by simp[hr]) ?_;clear r1 r2;dsimp only at hp⊢;have hh:=hp.ok.hist;have u:=hp.ok.Nk;have hon:=hh.on;have h10:=hh.ten;have h4:=hp.e4;obtain⟨k,rfl,hk⟩:=a3;rw[Lm];obtain⟨Q,s,q1,q2,q3,q4⟩:=AU6 hN hp.ok;obtain⟨b,c1,c2⟩:=q4 (k:Int) (by omega);have hbn:b.n<=40:=by rw[<- FP,c2,Bk6];exact Bm1 q2 (Nat.mul_le_mul h4 (Bm1 (TX _ _) h10))
 have hsn:s.n<=40:=by
  rw[<- FP,q3];have h1:=As0 (N:=4194304) (p:=p) (Gd (rwH p.Nm) p.Nm.On.n 0);have h2:=IP (w:=rwH p.Nm) (B:=4) (m:=p.Nm.On.n) (i:=0) λa hx=>by have:=hh.row a (by omega);show (p.Nm.On.g a).n-1<=4;omega
  omega
 have hb:∀i,i<b.n->bOk p (b.g i):=λi f=>by have hm:b.g i∈b.toList:=As1 f;rw[c2]at hm;obtain⟨e,u,h⟩:=Bl2.1 hm;obtain⟨n,j,g1,g2,g3,g4,g5⟩:=q1 e u;rw[<- h];exact⟨⟨n,j,g1,g2,g3,g4,g5⟩,k,rfl,hk⟩
 have hs:∀i,i<s.n->sOk p (s.g i):=λi f=>by
  have hm:s.g i∈s.toList:=As1 f;rw[q3]at hm;obtain⟨q,hq,h⟩:=By0.1 hm;obtain⟨v,j,rfl,hv,o⟩:=IO hq;have o:j<(p.Nm.On.g v).n-1:=o;unfold pkS at h;split at h
  .rename_i r hf;obtain⟨n,m,rfl,hn,hm⟩:=IO (List.mem_of_find?_eq_some hf);exact⟨v,j,n,m,Bm6.1 h,by omega,by omega,by omega,hm⟩
  cases h
 have hT:=AH1 hp hb hs hbn hsn;have z:∀l∈b.toList.map (λe=>ln (wB p (lvP p) e))++s.toList.map (λx=>ln (wS p (lvP p) x)),l.length<=150/\∀c∈l,c≠10:=λl hl=>by
  rcases Bs0.1 hl with hl|hl
  .obtain⟨e,u,rfl⟩:=Bl2.1 hl;obtain⟨i,f,rfl⟩:=Bl2.1 u;exact ZL hp (hb i (Bl7.1 f))
  obtain⟨e,u,rfl⟩:=Bl2.1 hl;obtain⟨i,f,rfl⟩:=Bl2.1 u;exact At0 hp (hs i (Bl7.1 f))
 have a0:=Ub λl hl=>(z l hl).1;rw[Bi9,Bk6,Bk6,FP,FP]at a0;have hsp:∃y:Sl Str,T3 4194304 (txt (b.toList.map (λe=>ln (wB p (lvP p) e))++s.toList.map (λx=>ln (wS p (lvP p) x)))) [10]=some y/\y.n=b.n+s.n+1/\y.g (b.n+s.n)=[]/\(∀i,i<b.n->y.g i=ln (wB p (lvP p) (b.g i)))/\∀j,j<s.n->y.g (b.n+j)=ln (wS p (lvP p) (s.g j)):=by
  refine⟨(Sl.of (b.toList.map (λe=>ln (wB p (lvP p) e))++s.toList.map (λx=>ln (wS p (lvP p) x))++[[]]):Sl Str),?_,?_,?_,λi f=>?_,λj o=>?_⟩
  .show (if _<=1000000 then some (Sl.of (PX 10 _):Sl Str)else none)=_;rw[Ce,As9 λl hl=>(z l hl).2]
  .show List.length _=_;rw[Bi9,Bi9,Bk6,Bk6,FP,FP];rfl
  .show List.getD _ _ default=_;rw[Bh8,Bo4 (by simp[Sl.toList])];simp[Sl.toList]
  .show List.getD _ _ default=_;rw[Bh8,Bq6,Bl6 (by simp[Sl.toList];omega)];simp[Sl.toList,f]
  show List.getD _ _ default=_;rw[Bh8,Bq6,Bo4 (by simp[Sl.toList]),Bl6 (by simp[Sl.toList];omega)];simp[Sl.toList,o]
 obtain⟨y,y1,y2,y3,y4,y5⟩:=hsp;refine B9 c1 (B9 hT (ifF (show ¬(((0:Int) != 0)||((0:Int) != 0))=true by decide) ?_));dsimp only;refine B9 y1 ?_;have e1:wrap .i64 ((wrap .i64 ((b.n:Int)+(s.n:Int)))+1)=((b.n+s.n+1:Nat):Int):=by rw[PK (by omega),Bn]
 have e2:wrap .i64 (((b.n+s.n+1:Nat):Int)-1)=((b.n+s.n:Nat):Int):=Ap0 (by omega) (by omega);simp only[y2,e1,e2,Kk];rw[y3];refine ifT (λ_=>by omega) (Bi ?_);refine FC (λi x1=>x1=(i:Int)) (b.n+s.n) _ (by omega) rfl ?_;rintro self i x1 f rfl a1;by_cases a2:i<b.n+s.n
 case neg=>exact Bh ⟨true,by rw[RY];rfl,rfl⟩
 refine Ah (Ac ?_);rw[Kk];by_cases t:i<b.n
 .rw[y4 i t];have d:T3 4194304 (ln (wB p (lvP p) (b.g i))) [32]=some (Sl.of (wB p (lvP p) (b.g i)):Sl Str):=ZM (Bg0 hp (hb i t)) (by simp);obtain⟨⟨n,m,f1,f2,f3,f4,f5⟩,_⟩:=hb i t;refine B9 d (Ah (Ac ?_));refine ifF (show ¬((5:Int) != 5)=true by decide) (ifT (show (0:Int)<=0/\(0:Int)<5 by decide) (ifF (show ¬((([98,97,100]:Str)==[98,97,100]) != true)=true by decide) ?_));refine ifF (by rw[Fb,f1];omega) (ifF (by rw[Fb,f1];omega) (ifT ⟨show (0:Int)<=1/\(1:Int)<5 by decide,by rw[f1];omega⟩ ?_));refine ifF (by show ¬(((p.Np.g (b.g i).Nr.toNat).Gloss==(p.Np.g (b.g i).Nr.toNat).Gloss) != true)=true;simp) (ifT (show (0:Int)<=3/\(3:Int)<5 by decide) (ifF ?_ (ifT (show (0:Int)<=3/\(3:Int)<5 by decide) (ifF ?_ (a1 a2 _ (Bn))))))
  .show ¬(((((if (b.g i).Kind=1 then ([111,116,104,101,114]:Str)else [110,111,110,101])==[110,111,110,101]) != false)==((b.g i).Kind==2)) != true)=true;rcases f5 with h|h<;>rw[h]<;>decide
  show ¬(((((if (b.g i).Kind=1 then ([111,116,104,101,114]:Str)else [110,111,110,101])==[111,116,104,101,114]) != false)==((b.g i).Kind==1)) != true)=true;rcases f5 with h|h<;>rw[h]<;>decide
 obtain⟨j,rfl⟩:∃j,i=b.n+j:=⟨i-b.n,by omega⟩;have o:j<s.n:=by omega
 have ej:wrap .i64 (((b.n+j:Nat):Int)-(b.n:Int))=(j:Int):=by rw[Lm];omega
 rw[y5 j o];have d:T3 4194304 (ln (wS p (lvP p) (s.g j))) [32]=some (Sl.of (wS p (lvP p) (s.g j)):Sl Str):=ZM (Bg1 hp (hs j o)) (by simp);obtain⟨v,m,n,q,f1,f2,f3,f4,f5⟩:=hs j o;have g1:(s.g j).Node=(v:Int):=by rw[f1]
 have g2:(s.g j).Nr=(n:Int):=by rw[f1]
 refine B9 d (Bh ?_);simp only[ej,Kk];refine Ac (ifF (show ¬((6:Int) != 6)=true by decide) (ifT (show (0:Int)<=0/\(0:Int)<6 by decide) (ifF (show ¬((([115,119,97,112]:Str)==[115,119,97,112]) != true)=true by decide) ?_)));refine ifF (by rw[Fb,g1];omega) (ifF (by rw[Fb,g1];omega) (ifT ⟨show (0:Int)<=1/\(1:Int)<6 by decide,by rw[g1];omega⟩ ?_));refine ifF (by show ¬(((p.Nm.Tree.g (s.g j).Node.toNat).Name==(p.Nm.Tree.g (s.g j).Node.toNat).Name) != true)=true;simp) ?_;refine ifF (by rw[Fb,g2];omega) (ifF (by rw[Fb,g2];omega) (ifT ⟨show (0:Int)<=4/\(4:Int)<6 by decide,by rw[g2];omega⟩ ?_));exact ifF (by show ¬(((p.Np.g (s.g j).Nr.toNat).Gloss==(p.Np.g (s.g j).Nr.toNat).Gloss) != true)=true;simp) (a1 a2 _ (Bn))
end Go.AM
