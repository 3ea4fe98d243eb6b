/- Part 9. -/
import Derived.Test.YtejklpcnclnkbaaGreatDoorSF
import Derived.Test.YtejklpcnclnkbaaGreatDoorSG
import Derived.Test.YtejklpcnclnkbaaGreatDoorSH
set_option linter.defProp false
set_option linter.unusedSimpArgs false
set_option linter.unusedVariables false
set_option linter.unusedSectionVars false
namespace Go.AM
def Ev:=@decide_eq_true_eq
def Cg{c:Prop}{i:Decidable c}{α:Sort _}{a b:α}(h:¬c:=by simp;omega):(if c then a else b)=b:=Ej h
def Ce{c:Prop}{i:Decidable c}{α:Sort _}{a b:α}(h:c:=by simp;omega):(if c then a else b)=a:=Dn h
def Cb{c:Prop}{i:Decidable c}{α:Sort _}{a b:α}(h:c:=by omega):(if c then a else b)=a:=Dn h
open IntKind (wrap)
def Bn5:=@Classical.axiomOfChoice
def Bp5:=@BitVec.getLsbD_or
def Bq6:=@List.reverse_append
def Bq8:=@BitVec.getLsbD_and
def Bq9:=@UInt8.toNat_ofNat'
def Bs2:=@BitVec.eq_of_getLsbD_eq
def Bs3:=@Nat.testBit_two_pow_mul
def Bs8:=@Nat.testBit_lt_two_pow
def Bs9:=@List.reverse_singleton
def Bt4:=@List.singleton_append
def Bt9:=@BitVec.getLsbD_of_ge
def Bv3:=@BitVec.getLsbD_not
def Bv4:=@Nat.lt_of_le_of_lt
def Bv5:=@List.cons.inj
open Go.Proofs
def AA1 {A R:Type}{body:(A->Option R)->A->Option R}(I:Nat->A->Prop)(n:Nat)(L7:R->Prop)
 (b:∀self i a,i<=n->I i a->(i<n->∀a',I (i+1) a' -> ∃r,self a' = some r/\L7 r)->∃r,body self a=some r/\L7 r) :
 ∀(N i:Nat) (a:A),i<=n->I i a->n-i<N->∃r,Y1 N body a=some r/\L7 r
 |0,_,_,_,_,h=>by omega
 |N+1,i,a,hi,hI,h=>by rw[I2];exact b _ i a hi hI fun c a' d=>AA1 I n L7 b N (i+1) a' c d (by omega)
def FY {A R:Type}{body:(A->Option R)->A->Option R}(I:Nat->A->Prop)(n:Nat)(L7:R->Prop){N:Nat}(c:n<N){a:A}(d:I 0 a)
 (b:∀self i a,i<=n->I i a->(i<n->∀a',I (i+1) a' -> ∃r,self a' = some r/\L7 r)->∃r,body self a=some r/\L7 r):∃r,Y1 N body a=some r/\L7 r:=
 AA1 I n L7 b N 0 a (Bl6 _) d c
def X9 {A B R:Type}{body:(A->B->Option R)->A->B->Option R}(I:Nat->A->B->Prop)(n:Nat)(L7:R->Prop){N:Nat}(g:n<N){a:A}{b:B}(j:I 0 a b)
 (d:∀c i a b,i<=n->I i a b->(i<n->∀a' b',I (i+1) a' b' -> ∃r,c a' b' = some r/\L7 r)->∃r,body c a b=some r/\L7 r):∃r,BD N body a b=some r/\L7 r:=
 AA1 (fun i x=>I i x.1 x.2) n L7 (fun c i x l m h=>d (fun a b=>c (a,b)) i x.1 x.2 l m fun hl a' b' f=>h hl (a',b') f) N 0 (a,b) (Bl6 _) j g
def Al7 {A B C R:Type}{body:(A->B->C->Option R)->A->B->C->Option R}(I:Nat->A->B->C->Prop)(n:Nat)(L7:R->Prop){N:Nat}(j:n<N){a:A}{b:B}{c:C}(l:I 0 a b c)
 (f:∀d i a b c,i<=n->I i a b c->(i<n->∀a' b' c',I (i+1) a' b' c' -> ∃r,d a' b' c' = some r/\L7 r)->∃r,body d a b c=some r/\L7 r):∃r,Av4 N body a b c=some r/\L7 r:=
 AA1 (fun i x=>I i x.1 x.2.1 x.2.2) n L7 (fun d i x m o h=>f (fun a b c=>d (a,b,c)) i x.1 x.2.1 x.2.2 m o fun hl a' b' c' g=>h hl (a',b',c') g) N 0 (a,b,c) (Bl6 _) l j
def B7 {X R:Type}{Q:R->Prop}{o:Option X}{f:X->Option R}{x:X}(h:o=some x)(a:∃r,f x=some r/\Q r):∃r,o.bind f=some r/\Q r:=by subst h;exact a
def ltX {R A:Type}{Q:R->Prop}{k:A->Option R}{f:(A->Option R)->Option R}(h:∃r,f k=some r/\Q r):∃r,lt k f=some r/\Q r:=h
def ifT {R:Type}{Q:R->Prop}{p:Prop}[Decidable p]{a b:Option R}(h:p)(c:∃r,a=some r/\Q r):∃r,(if p then a else b)=some r/\Q r:=by rw[Dn h];exact c
def Ap{R:Type}{Q:R->Prop}{p:Prop}[Decidable p]{a b:Option R}(h2:∃ r,a=some r/\Q r)(h:p:=by decide):∃ r,(if p then a else b)=some r/\Q r:=ifT h h2
def Ah{R:Type}{Q:R->Prop}{p:Prop}[Decidable p]{a b:Option R}(h2:∃ r,a=some r/\Q r)(h:p:=by simp):∃ r,(if p then a else b)=some r/\Q r:=ifT h h2
def Ag{R:Type}{Q:R->Prop}{p:Prop}[Decidable p]{a b:Option R}(h2:∃ r,a=some r/\Q r)(h:p:=by simp;omega):∃ r,(if p then a else b)=some r/\Q r:=ifT h h2
def Ab{R:Type}{Q:R->Prop}{p:Prop}[Decidable p]{a b:Option R}(h2:∃ r,a=some r/\Q r)(h:p:=by omega):∃ r,(if p then a else b)=some r/\Q r:=ifT h h2
def ifF {R:Type}{Q:R->Prop}{p:Prop}[Decidable p]{a b:Option R}(h:¬p)(c:∃r,b=some r/\Q r):∃r,(if p then a else b)=some r/\Q r:=by rw[Ej h];exact c
def Bk{R:Type}{Q:R->Prop}{p:Prop}[Decidable p]{a b:Option R}(h2:∃ r,b=some r/\Q r)(h:¬p:=by decide):∃ r,(if p then a else b)=some r/\Q r:=ifF h h2
def Bh{R:Type}{Q:R->Prop}{p:Prop}[Decidable p]{a b:Option R}(h2:∃ r,b=some r/\Q r)(h:¬p:=by simp):∃ r,(if p then a else b)=some r/\Q r:=ifF h h2
def Bg{R:Type}{Q:R->Prop}{p:Prop}[Decidable p]{a b:Option R}(h2:∃ r,b=some r/\Q r)(h:¬p:=by simp;omega):∃ r,(if p then a else b)=some r/\Q r:=ifF h h2
def Aq{R:Type}{Q:R->Prop}{p:Prop}[Decidable p]{a b:Option R}(h2:∃ r,b=some r/\Q r)(h:¬p:=by omega):∃ r,(if p then a else b)=some r/\Q r:=ifF h h2
def D9 {n:Int}(h : -9223372036854775808<=n)(h' : n<=9223372036854775807):IntKind.i64.wrap n=n:=by
 by_cases a:0<=n
 .have h1:n % (2 ^ 64:Int)=n:=Bk6 a (by omega);unfold wrap;simp only[IntKind.bits,IntKind.signed,h1];rw[Ej];simp;omega
 have h1:n % (2 ^ 64:Int)=n+2 ^ 64:=by rw[<- Int.add_emod_right];exact Bk6 (by omega) (by omega)
 unfold wrap;simp only[IntKind.bits,IntKind.signed,h1];rw[Dn]
 .omega
 simp;omega
def G6 {i:Nat}(h:i<1000000000000000000):IntKind.i64.wrap ((i:Int)+1)=((i+1:Nat):Int):=by rw[D9 (by omega) (by omega)];rfl
def Bm{i:Nat}(h:i<1000000000000000000:=by omega):IntKind.i64.wrap ((i:Int)+1)=((i+1:Nat):Int):=G6 h
def AA2 {i:Nat}(a:1<=i)(h:i<1000000000000000000):IntKind.i64.wrap ((i:Int)-1)=((i-1:Nat):Int):=by rw[D9 (by omega) (by omega)];omega
def QF {i j:Nat}(h:i+j<1000000000000000000):IntKind.i64.wrap ((i:Int)+(j:Int))=((i+j:Nat):Int):=by rw[D9 (by omega) (by omega)];rfl
end Go.AM
namespace Go.AM
variable {N:Nat}
open Go.Proofs
abbrev sOf (x y:BitVec 32):Im:=⟨(x.toNat:Int),(y.toNat:Int)⟩
def okS (s:Im):Prop:=∃p m:BitVec 32,s=sOf p m
def eq0 (x:BitVec 32):((x.toNat:Int)==0)=decide (x=0#32):=by
 rw[Bo2];simp only[beq_iff_eq,Ev];constructor
 .intro h;apply Bj8;show x.toNat=0;omega
 rintro rfl;rfl
def z32 (x:BitVec 32):x=0#32 ↔ ∀i,i<32->x.getLsbD i=false:=by
 constructor
 .rintro rfl i a;simp
 intro h;apply Bs2;intro i a;rw[h i a];simp
def Al8 (x:BitVec 32):x.toNat<16777216 ↔ ∀i,24<=i->i<32->x.getLsbD i=false:=by
 constructor
 .intro h i a b;exact Bs8 (Bf4 h (Bo4 (n:=2) (i:=24) (by omega) a))
 intro h;refine Nat.lt_pow_two_of_testBit (n:=24) _ fun i a=>?_;by_cases c:i<32
 .exact h i a c
 exact Bs8 (Bf4 x.isLt (Bo4 (by omega) (by omega)))
def vB (p m:BitVec 32):Bool:=decide (∀i:Fin 32,¬(p.getLsbD i=true/\m.getLsbD i=true)/\(24<=i.1->p.getLsbD i=false/\m.getLsbD i=false))
def AG0 (p m:BitVec 32):vB p m=true ↔ ∀i,i<32->¬(p.getLsbD i=true/\m.getLsbD i=true)/\(24<=i->p.getLsbD i=false/\m.getLsbD i=false):=by rw[vB,Ev];exact⟨fun h i a=>h ⟨i,a⟩,fun h i=>h i.1 i.2⟩
def AA3 (p m:BitVec 32):p &&& m=0#32 ↔ ∀i,i<32->¬(p.getLsbD i=true/\m.getLsbD i=true):=by rw[z32];refine forall_congr' fun i=>forall_congr' fun a=>?_;rw[Bq8,Bool.and_eq_false_iff];cases p.getLsbD i<;>cases m.getLsbD i<;>simp
def AZ0 (p m:BitVec 32):vB p m=true↔p &&& m=0#32/\(p ||| m).toNat<16777216:=by
 rw[AG0,AA3,Al8];constructor
 .intro h;refine⟨fun i a=>(h i a).1,fun i h1 b=>?_⟩
  have:=(h i b).2 h1
  rw[Bp5,this.1,this.2];rfl
 rintro⟨h1,b⟩ i a;refine⟨h1 i a,fun c=>?_⟩
 have:=b i c a
 rw[Bp5,Bool.or_eq_false_iff]at this;exact this
def Da (p m:BitVec 32):H4 N (sOf p m)=some (vB p m):=by unfold H4;rw[So,YA,eq0];congr 1;rw[Bo2,AZ0];simp only[Bd3,Ev];exact⟨fun h=>⟨h.1,by have:=h.2;omega⟩,fun h=>⟨h.1,by have:=h.2;omega⟩⟩
def shr24 (x:BitVec 32):(shI .shr .u32 (x.toNat:Int) 24==0)=decide (x.toNat<16777216):=by
 rw[show (24:Int)=((24:Nat):Int) from rfl,AE9,Bo2];simp only[beq_iff_eq,Ev,Br7,Br1]
 have:=Nat.div_eq_zero_iff (a:=x.toNat) (b:=2 ^ 24)
 omega
def VN (p m:BitVec 32):Cu N (sOf p m)=some (vB p m):=by unfold Cu;rw[So,YA,eq0,shr24];congr 1;rw[Bo2,AZ0];simp only[Bd3,Ev]
def VO (p m:BitVec 32):Q7 N (sOf p m)=some (vB p m):=VN (N:=N) p m
def Aq6 (x y s:BitVec 32):BitVec 32:=(x &&& ~~~ s) ||| (y &&& s)
def AG1 (p m a b s:BitVec 32):Dq N (sOf p m) (sOf a b) (s.toNat:Int)=some (sOf (Aq6 p a s) (Aq6 m b s)):=by unfold Dq;simp only[ZO,So,YA,Aq6]
def chgE (p m c a b:BitVec 32):Im×Int:=if vB p m=true/\vB a b then (if c.toNat<16777216/\c &&& (a ||| b)=0#32 then (sOf (Aq6 p a (c ||| (a ||| b))) (Aq6 m b (c ||| (a ||| b))),0)else (⟨0,0⟩,2))else (⟨0,0⟩,14)
def Ab5 (p m c a b:BitVec 32):Z5 N (sOf p m) (c.toNat:Int) (sOf a b)=some (chgE p m c a b):=by
 unfold Z5 chgE;rw[Da];simp only[Option.bind_some,lt,Da,Ff,YA,So,AG1];cases h1:vB p m
 .simp
 cases g:vB a b
 .simp
 by_cases d:c.toNat<16777216
 .have e:((c &&& (a ||| b)).toNat:Int) != 0 ↔ ¬(c &&& (a ||| b)=0#32):=by
   have:=eq0 (c &&& (a ||| b))
   simp only[bne_iff_ne,ne_eq];rw[<- Ev (p:=c &&& (a ||| b)=0#32),<- this];simp
  by_cases f:c &&& (a ||| b)=0#32
  .simp[d,f];omega
  have e':=e.2 f;rw[Ej (by simp<;>omega),e'];simp[d,f]
 simp[d];omega
def takE (p m a b s:BitVec 32):Im×Int:=if vB p m=true/\vB a b then (if s.toNat<16777216 then (sOf (Aq6 p a s) (Aq6 m b s),0)else (⟨0,0⟩,2))else (⟨0,0⟩,14)
def AA4 (p m a b s:BitVec 32):Ct N (sOf p m) (sOf a b) (s.toNat:Int)=some (takE p m a b s):=by
 unfold Ct takE;rw[Da];simp only[Option.bind_some,lt,Da,AG1];cases h1:vB p m
 .simp
 cases d:vB a b
 .simp
 by_cases c:s.toNat<16777216
 .simp[c];omega
 simp[c];omega
end Go.AM
namespace Go.AM
open Go.Proofs
def vS (s:Im):Prop:=∃p m:BitVec 32,s=sOf p m/\vB p m=true
def Tv (p:Pat):Prop:= (0<=p.Kind/\p.Kind<=6)/\(p.Kind≠1->(p.Is.Plus=0/\p.Is.Minus=0)/\p.Not=false)/\(p.Kind≠3->p.Kind≠4->p.Kind≠5->p.L.n=0)/\(p.Kind≠5->p.Min=0/\p.Max=0) /\ (p.Kind=5->p.L.n=1/\0<=p.Min/\p.Min<=32/\(p.Max = -1 \/ (p.Min<=p.Max/\p.Max<=32)))/\vS p.Is
def Al9 {s:Im}{p m:BitVec 32}(h:s=sOf p m):vS s↔vB p m=true:=by
 constructor
 .rintro⟨q,r,e,a⟩;rw[h]at e;have e1:(p.toNat:Int)=q.toNat:=congrArg Im.Plus e;have e2:(m.toNat:Int)=r.toNat:=congrArg Im.Minus e;rw[Bj8 (show p.toNat=q.toNat by omega),Bj8 (show m.toNat=r.toNat by omega)];exact a
 exact fun a=>⟨p,m,h,a⟩
def okPS:Pat->Prop
 |.nil=>True
 |.mk _ is _ _ _ n g=>okS is/\∀i,i<n->okPS (g i)
def okPS.is {p:Pat}(h:okPS p):okS p.Is:=by
 cases p with
 |nil=>exact⟨0#32,0#32,rfl⟩
 |mk _ is _ _ _ n g=>exact h.1
def okPS.L {p:Pat}(h:okPS p){i:Nat}(a:i<p.L.n):okPS (p.L.g i):=by
 cases p with
 |nil=>exact Er a (by show ¬i<0;omega)
 |mk _ is _ _ _ n g=>exact h.2 i a
def chk:Nat->List Pat->Prop
 |0,l=>l=[]
 |_+1,[]=>True
 |k+1,p::l=>Tv p/\chk k (p.L.toList++l)
def AO4:∀k,chk k []
 |0=>rfl
 |_+1=>trivial
def Tw:∀(k:Nat) (l:List Pat),chk k l->l.length<=k
 |0,l,h=>by rw[show l=[] from h];exact Bd8 _
 |k+1,[],_=>Bl6 _
 |k+1,p::l,⟨_,h⟩=>by
  have:=Tw k _ h
  rw[Bg1]at this;simp only[Bf9];omega
def Ab6 {α : Type}{s:Sl α}{i:Nat}(h:i<s.n):s.g i∈s.toList:=Bk3.2 ⟨i,Bj5.2 h,rfl⟩
def Gz {α : Type}(s:Sl α):s.toList.length=s.n:=by simp[Sl.toList]
def XO {α : Type}(s:Sl α){i:Nat}(h:i<s.n):s.toList.drop i=s.g i::s.toList.drop (i+1):=by
 have hl:i<s.toList.length:=by rw[Gz];exact h
 rw[Bm2 hl];simp[Sl.toList]
def PB {α : Type}(s:Sl α):s.toList.drop s.n=[]:=Bk5 (by rw[Gz];exact Bd8 _)
end Go.AM
namespace Go.AM
open Go.Proofs
def Am0 (x:BitVec 64)(h:x≠0#64):Lib.ctz 64 x.toNat<64/\x.getLsbD (Lib.ctz 64 x.toNat)=true/\∀j,j<Lib.ctz 64 x.toNat->x.getLsbD j=false:=by
 have b:x.toNat≠0:=fun e=>h (Bj8 (by simpa using e));obtain⟨m,hm,a⟩:=Lib.ctzFrom_spec 64 x.toNat (by omega) x.isLt;have e:Lib.ctz 64 x.toNat=Lib.ctzFrom 64 x.toNat:=by unfold Lib.ctz;rw[Ej b]
 rw[e];refine⟨a,?_,fun j c=>?_⟩
 .show x.toNat.testBit _=true;rw[hm,Bs3];simp[<- hm,Nat.testBit_zero]
 show x.toNat.testBit _=false;rw[hm,Bs3];simp[<- hm];omega
def Hi (x:BitVec 64)(i:Nat):List Int:=((List.range' i (64-i)).filter fun j=>x.getLsbD j).map fun (j:Nat)=>(j:Int)
def RB {x:BitVec 64}{i:Nat}(h:∀j,j<64->x.getLsbD j=false):Hi x i=[]:=by
 unfold Hi;rw[List.filter_eq_nil_iff.2 fun j a=>by
  have:=List.mem_range'.1 a
  simp;exact h j (by omega)]
 rfl
def RC {x:BitVec 64}{t:Nat}:∀(k i:Nat),t=i+k->t<64->x.getLsbD t=true->(∀j,j<t->x.getLsbD j=false)->Hi x i=(t:Int)::Hi x (t+1)
 |0,i,h,ht,hb,hl=>by
  obtain rfl:t=i:=by omega
  unfold Hi;rw[show 64-t=(64-(t+1))+1 by omega,Bp7,List.filter_cons_of_pos hb];rfl
 |k+1,i,h,ht,hb,hl=>by rw[<- RC k (i+1) (by omega) ht hb hl];unfold Hi;rw[show 64-i=(64-(i+1))+1 by omega,Bp7,List.filter_cons_of_neg (by simp;exact hl i (by omega))]
def XP {x y:BitVec 64}{i:Nat}(h:∀j,i<=j->x.getLsbD j=y.getLsbD j):Hi x i=Hi y i:=by unfold Hi;rw[List.filter_congr fun j a=>h j (by have:=List.mem_range'.1 a;omega)]
def Bc6 (M:Nat)(a:Int->Option (List Int))(x1:Int):Option (List Int):= if (x1 != 0) then (I3 M x1).bind fun y3=>if (0:Int)<=y3 then Af y3 (a (O8 .andNot .u64 x1 (shI .shl .u64 1 y3))) else none else some []
def Am1 {x:BitVec 64}{M:Nat}{a:Int->Option (List Int)}(hx:x≠0#64):Bc6 M a (U x)=Af ((Lib.ctz 64 x.toNat:Nat):Int) (a (U (x &&& ~~~(1#64 <<< Lib.ctz 64 x.toNat)))):=by
 have c:x.toNat≠0:=fun e=>hx (Bj8 (by simpa using e));have b:=x.isLt;unfold Bc6;rw[Ce]
 have:I3 M (U x)=some ((Lib.ctz 64 x.toNat:Nat):Int):=by unfold I3;rw[Dn ⟨show (0:Int)<=(x.toNat:Int) by omega,show (x.toNat:Int)<18446744073709551616 by omega⟩];rfl
 rw[this,Option.bind_some,Cb,Az3 _ (Am0 x hx).1,Az2]
def VP {M:Nat}{a:Int->Option (List Int)}:Bc6 M a (U 0#64)=some []:=rfl
def AO5 (M:Nat):∀(k i:Nat) (x:BitVec 64),64-i<=k->(∀j,j<i->x.getLsbD j=false)->∀N,k<N->Y1 N (Bc6 M) (U x)=some (Hi x i):=by
 intro k
 induction k with
 |zero=>
  intro i x hk hl N b;have g:x=0#64:=Bs2 fun j a=>by simp;exact hl j (by omega)
  subst g
  match N,b with
  |N+1,_=>rw[RB fun j a=>by simp,I2,VP]
 |succ k ih=>
  intro i x hk hl N b
  match N,b with
  |N+1,b=>
   by_cases hx:x=0#64
   .subst hx;rw[RB fun j a=>by simp,I2,VP]
   obtain⟨h1,c,d⟩:=Am0 x hx;have l:i<=Lib.ctz 64 x.toNat:=by
    by_cases m:Lib.ctz 64 x.toNat<i
    .rw[hl _ m]at c;cases c
    omega
   rw[RC (Lib.ctz 64 x.toNat-i) i (by omega) h1 c d,I2,Am1 hx];generalize Lib.ctz 64 x.toNat=t at h1 c d l;have hb:∀j,j<64->(x &&& ~~~(1#64 <<< t)).getLsbD j=(x.getLsbD j && !decide (j=t)):=fun j a=>by rw[Bq8,Bv3,Al1 h1 a];simp[a]
   have hc:Hi x (t+1)=Hi (x &&& ~~~(1#64 <<< t)) (t+1):=XP fun j a=>by
    by_cases f:j<64
    .rw[hb j f];have:¬j=t:=by omega
     simp[this]
    rw[Bt9 _ _ (by omega),Bt9 _ _ (by omega)]
   rw[ih (t+1) (x &&& ~~~(1#64 <<< t)) (by omega) (fun j a=>by
    rw[hb j (by omega)];by_cases e:j=t
    .simp[e]
    rw[d j (by omega)];rfl) N (by omega),<- hc]
   rfl
def PC (x:BitVec 64){N:Nat}(b:100<=N):T1 N (U x)=some (Hi x 0):=
 AO5 N 64 0 x (by omega) (fun j a=>Er a (by omega)) N (by omega)
def mem_bitsF {x:BitVec 64}{i:Nat}{y:Int}:y∈Hi x i ↔ ∃j:Nat,y=(j:Int)/\i<=j/\j<64/\x.getLsbD j=true:=by
 unfold Hi;simp only[Bk3,Bp0,List.mem_range'_1];constructor
 .rintro⟨j,⟨h1,a⟩,rfl⟩;exact⟨j,rfl,h1.1,by omega,a⟩
 rintro⟨j,rfl,h1,a,b⟩;exact⟨j,⟨⟨h1,by omega⟩,b⟩,rfl⟩
def Tx {T A R:Type}{body:(A->Option R)->T->A->Option R}{k:A->Option R}{L7:R->Prop}(J:List T->A->Prop)(c:∀a,J [] a->∃r,k a=some r/\L7 r)
 (b:∀t L a self,J (t::L) a->(∀a',J L a' -> ∃r,self a' = some r/\L7 r)->∃r,body self t a=some r/\L7 r):∀(L:List T) (a:A),J L a->∃r,U1 L body k a=some r/\L7 r
 |[],a,h=>c a h
 |t::L,a,h=>b t L a _ h fun a' h'=>Tx J c b L a' h'
def AA5 (f:Nat->Int)(i:Nat)(v:Int)(a:Nat):Oz f i v a=if a=i then v else f a:=rfl
def UB (n:Nat)(z:BitVec 64):Prop:=∀b,b<64->z.getLsbD b=true->b<=n
def TU (n:Nat)(f:Nat->Int):Prop:=∀a,∃z:BitVec 64,f a=U z/\UB n z
def TU.zero (n:Nat):TU n (fun _=>0):=fun a=>⟨0#64,rfl,fun b _ h=>by simp at h⟩
def TU.upd {n:Nat}{f:Nat->Int}(h:TU n f)(i:Nat){z:BitVec 64}(b:UB n z):TU n (Oz f i (U z)):=fun a=>by
 rw[AA5];split
 .exact⟨z,rfl,b⟩
 exact h a
def UB.or {n:Nat}{u v:BitVec 64}(h:UB n u)(g:UB n v):UB n (u ||| v):=fun b hb e=>by rw[Bp5,Bi1]at e;exact e.elim (h b hb) (g b hb)
def UB.one {n k:Nat}(h:k<=n)(hn:n<64):UB n (1#64 <<< k):=fun b hb e=>by rw[Al1 (by omega) hb,Ev]at e;omega
def AZ1 {N n:Nat}{x y:Nat->Int}(c:1000<=N)(hx:TU n x)(hy:TU n y):∃s,P0 N x y=some s/\TU n s:=by
 unfold P0;refine X9 (fun i x1 x2=>x2=(i:Int)/\TU n x1) 33 _ (by omega) ⟨rfl,hx⟩ ?_;rintro b i x1 x2 d ⟨rfl,a⟩ hs;by_cases hl:i<33
 .refine Ag (Ab (Ab (hs (by omega) _ _ ⟨Bm,?_⟩)));obtain⟨u,e1,g1⟩:=a (0+(i:Int).toNat*1);obtain⟨v,e2,g2⟩:=hy (0+(i:Int).toNat*1);rw[e1,e2,or64];exact a.upd _ (g1.or g2)
 exact Bg ⟨x1,rfl,a⟩
def Kh {N n:Nat}(hn:n<=32)(c:1000<=N):∃s,S6 N (n:Int)=some s/\TU n s:=by
 unfold S6;rw[Bm];refine X9 (fun i x1 x2=>x2=(i:Int)/\TU n x1) (n+1) _ (by omega) ⟨rfl,TU.zero n⟩ ?_;rintro a i x1 x2 d ⟨rfl,b⟩ hs;by_cases hl:i<=n
 .refine Ag (Ab (hs (by omega) _ _ ⟨Bm,?_⟩));rw[Az3 _ (by omega)];exact b.upd _ (UB.one hl (by omega))
 exact Bg ⟨x1,rfl,b⟩
def Ty {N n:Nat}{x y:Nat->Int}(hn:n<=32)(q:1000<=N)(hx:TU n x)(hy:TU n y):∃s,F2 N x y=some s/\TU n s:=by
 unfold F2;refine X9 (fun i x3 x4=>x4=(i:Int)/\TU n x3) 33 _ (by omega) ⟨rfl,TU.zero n⟩ ?_;rintro g i x3 x4 r ⟨rfl,l⟩ hs;by_cases hl:i<33
 .refine Ag (Ab ?_);obtain⟨u,e1,g1⟩:=hx (0+(i:Int).toNat*1);refine B7 rfl (B7 (x:=Hi u 0) (by rw[e1];exact PC u (by omega)) ?_);refine Tx (fun L z=>TU n z/\∀t∈L,∃c:Nat,t=(c:Int)/\c<=n) ?_ ?_ _ _ ⟨l,fun t ht=>?_⟩
  .exact fun z m=>hs (by omega) _ _ ⟨Bm,m.1⟩
  .rintro t L z d ⟨k1,k2⟩ f;obtain⟨c,rfl,hc⟩:=k2 t (by simp);refine Ab (f _ ⟨?_,fun t ht=>k2 t (by simp[ht])⟩);obtain⟨a,e2,g2⟩:=k1 (0+(i:Int).toNat*1);obtain⟨b,e3,g3⟩:=hy (0+(c:Int).toNat*1);rw[e2,e3,or64];exact k1.upd _ (g2.or g3)
  obtain⟨j,rfl,_,o,hb⟩:=mem_bitsF.1 ht;exact⟨j,rfl,g1 j o hb⟩
 exact Bg ⟨x3,rfl,l⟩
def AA6 (N:Nat)(x:Nat->Int):O5 N x=F2 N x x:=rfl
end Go.AM
namespace Go.AM
variable {N:Nat}
open Go.Proofs
def AZ2:∀m:Fin 33,shI .shr .i64 ((m.val:Nat):Int) 1=((m.val / 2:Nat):Int):=by decide +kernel
def YZ {N n:Nat}{x:Nat->Int}(hn:n<=32)(d:1000<=N)(hx:TU n x){k:Nat}(hk:k<=32):∃s,G2 N x (k:Int) (n:Int)=some s/\TU n s:=by
 unfold G2;obtain⟨y1,e1,h1⟩:=Kh (N:=N) hn d;refine B7 e1 ?_;refine Al7 (fun i x1 x2 x3=>x1=((k / 2 ^ i:Nat):Int)/\TU n x2/\TU n x3) 6 _ (by omega) ⟨by simp,hx,h1⟩ ?_;rintro l i x1 x2 x3 m ⟨rfl,f,g⟩ hs;have hm:k / 2 ^ i<=32:=Bh7 (Nat.div_le_self _ _) hk;have b2:=AZ2 ⟨k / 2 ^ i,by omega⟩;simp only at b2;have a:k / 2 ^ i / 2=k / 2 ^ (i+1):=by rw[Nat.div_div_eq_div_mul,Nat.pow_succ]
 obtain⟨sq,esq,b⟩:=Ty hn d f f;rw[<- AA6]at esq;by_cases j:k / 2 ^ i=0
 .exact ifF (by simp[j]) ⟨x3,rfl,g⟩
 have c:i<6:=by
  by_cases h:i<6
  .exact h
  exact Er (Bn6 (Bv4 hk (Bf4 (by decide:32<2 ^ 6) (Bo4 (by omega) (by omega))))) j
 refine ifT (decide_eq_true (Int.natCast_pos.2 (Bu4 j))) ?_;obtain⟨t,et,ht⟩:=Ty hn d g f;split
 .exact B7 et (B7 esq (hs c _ _ _ ⟨by rw[b2,a],b,ht⟩))
 exact B7 esq (hs c _ _ _ ⟨by rw[b2,a],b,g⟩)
def AA7 (d:1000<=N){w:Sl Im}(hw:w.n<=32)(c:Im)(no:Bool):∃f,Av N ⟨c,no⟩ w=some f/\TU w.n f:=by
 unfold Av;refine X9 (fun i x1 x2=>x2=(i:Int)/\TU w.n x1) w.n _ (by omega) ⟨rfl,TU.zero _⟩ ?_;rintro b i x1 x2 g ⟨rfl,a⟩ hs;by_cases hl:i<w.n
 .refine Ag (Ab ?_);rw[Bm];split
  .refine Ab (hs hl _ _ ⟨rfl,?_⟩);rw[Az3 _ (by omega)];exact a.upd _ (UB.one (by omega) (by omega))
  exact hs hl _ _ ⟨rfl,a⟩
 exact Bg ⟨x1,rfl,a⟩
def Am2 {w:Sl Im}(hw:w.n<=32)(e:Bool):∃f,BN N ⟨e⟩ w=some f/\TU w.n f:=by
 unfold BN;cases e
 .exact Bh (Ap ⟨_,rfl,(TU.zero w.n).upd 0 (z:=1#64 <<< 0) (UB.one (by omega) (by omega))⟩)
 refine ifT rfl (Ab ⟨_,rfl,?_⟩);rw[Az3 _ (by omega)];exact (TU.zero w.n).upd _ (UB.one (by omega) (by omega))
def AZ3 (a:1000<=N){w:Sl Im}(hw:w.n<=32){rec:Part->Sl Im->Option (Nat->Int)}{m:Nat}(hm:m<=40){g:Nat->Part}
 (hc:∀i,i<m->∃f,rec (g i) w=some f/\TU w.n f):∃f,CO rec N ⟨⟨m,g⟩⟩ w=some f/\TU w.n f:=by
 unfold CO;obtain⟨y1,e1,h1⟩:=Kh (N:=N) hw a;refine B7 e1 ?_;refine X9 (fun i x1 x2=>x2=(i:Int)/\TU w.n x1) m _ (by omega) ⟨rfl,h1⟩ ?_;rintro b i x1 x2 l ⟨rfl,c⟩ hs;by_cases hl:i<m
 .refine Ag (ifT (by show (0:Int)<=i/\(i:Int)<m;omega) ?_);obtain⟨f,e2,d⟩:=hc i hl;obtain⟨s,e3,j⟩:=Ty hw a c d;exact B7 (by rw[Int.toNat_natCast];exact e2) (B7 e3 (hs hl _ _ ⟨Bm,j⟩))
 exact Bg ⟨x1,rfl,c⟩
def AZ4 (c:1000<=N){w:Sl Im}{rec:Part->Sl Im->Option (Nat->Int)}{m:Nat}(hm:m<=40){g:Nat->Part}
 (hc:∀i,i<m->∃f,rec (g i) w=some f/\TU w.n f):∃f,CP rec N ⟨⟨m,g⟩⟩ w=some f/\TU w.n f:=by
 unfold CP;refine X9 (fun i x1 x2=>x2=(i:Int)/\TU w.n x1) m _ (by omega) ⟨rfl,TU.zero _⟩ ?_;rintro a i x1 x2 l ⟨rfl,b⟩ hs;by_cases hl:i<m
 .refine Ag (ifT (by show (0:Int)<=i/\(i:Int)<m;omega) ?_);obtain⟨f,e2,d⟩:=hc i hl;obtain⟨s,e3,j⟩:=AZ1 c b d;exact B7 (by rw[Int.toNat_natCast];exact e2) (B7 e3 (hs hl _ _ ⟨Bm,j⟩))
 exact Bg ⟨x1,rfl,b⟩
def AZ5 (a:1000<=N){w:Sl Im}(hw:w.n<=32){rec:Part->Sl Im->Option (Nat->Int)}{pt:Part}{f:Nat->Int}(d:rec pt w=some f)(c:TU w.n f)
 {mn mx:Int}(i:0<=mn) (h1:mn<=32) (j:mx = -1 \/ (mn<=mx/\mx<=32)):∃s,CQ rec N ⟨pt,mn,mx⟩ w=some s/\TU w.n s:=by
 obtain⟨m,rfl⟩:∃m:Nat,mn=(m:Int):=⟨mn.toNat,by omega⟩;unfold CQ;refine B7 d ?_;obtain⟨y2,e2,t2⟩:=YZ hw a c (k:=m) (by omega);refine B7 e2 ?_;obtain⟨y3,e3,t3⟩:=Kh (N:=N) hw a;refine B7 e3 ?_;obtain⟨y4,e4,t4⟩:=AZ1 a c t3;refine B7 e4 ?_;have key:∀(K:Nat),K<=32->∃s,((G2 N y4 (K:Int) (w.n:Int)).bind fun y5=>(F2 N y2 y5).bind fun y6=>some y6)=some s/\TU w.n s:=by intro K g;obtain⟨y5,e5,t5⟩:=YZ hw a t4 (k:=K) g;obtain⟨y6,e6,t6⟩:=Ty hw a t2 t5;exact B7 e5 (B7 e6 ⟨y6,rfl,t6⟩)
 by_cases hx:mx<0
 .exact ifT (decide_eq_true hx) (key w.n hw)
 refine ifF (by simpa using hx) ?_;obtain⟨M,rfl⟩:∃M:Nat,mx=(M:Int):=⟨mx.toNat,by omega⟩;have b:IntKind.i64.wrap ((M:Int)-(m:Int))=((M-m:Nat):Int):=by rw[D9 (by omega) (by omega)];omega
 rw[show IntKind.i64.wrap ((⟨pt,(m:Int),(M:Int)⟩:AX9).max-(⟨pt,(m:Int),(M:Int)⟩:AX9).min)=((M-m:Nat):Int) from b];exact key (M-m) (by omega)
def okQ:Nat->Pat->Prop
 |0,_=>False
 |d+1,p=>Tv p/\p.L.n<=40/\∀i,i<p.L.n->okQ d (p.L.g i)
def Za:∀(d:Nat) (p:Pat),okQ d p->okQ (d+1) p
 |0,_,h=>h.elim
 |d+1,p,⟨h1,h2,h3⟩=>⟨h1,h2,fun i a=>Za d _ (h3 i a)⟩
def Tz:∀(k:Nat) (l:List Pat),k<=40->chk k l->∀p∈l,okQ k p
 |0,l,_,h,p,hp=>by rw[show l=[] from h]at hp;cases hp
 |k+1,[],_,_,p,hp=>by cases hp
 |k+1,q::l,hk,⟨hn,h⟩,p,hp=>by
  have ih:=Tz k _ (by omega) h;rcases Bf3.1 hp with rfl|hp
  .have hl:=Tw k _ h;rw[Bg1,Gz]at hl;exact⟨hn,by omega,fun i a=>ih _ (Bg0 _ (Ab6 a))⟩
  exact Za k p (ih p (Bf2 _ hp))
def vS.ok {s:Im}(h:vS s):okS s:=by obtain⟨p,m,e,_⟩:=h;exact⟨p,m,e⟩
def AA8 (K:Nat)(pt:Part):Prop:=∀(w:Sl Im),w.n<=32->∀M,K<=M->∃f,BP M pt w=some f/\TU w.n f
def RD {N:Nat}(q:1000<=N):∀(d:Nat),d<=40->∀(p:Pat),okQ d p->∀M,N+d<=M->∃pt,BO M p=some pt/\AA8 (N+d) pt
 |0,_,p,h,_,_=>h.elim
 |d+1,hd,p,⟨hn,hc,hch⟩,0,hM=>by omega
 |d+1,hd,p,⟨hn,hc,hch⟩,M+1,hM=>by
  show ∃pt,Y7 (BO M) M p=some pt/\_;unfold Y7;refine X9 (fun i x1 x2=>x2=(i:Int)/\x1.n=i/\∀j,j<i->AA8 (N+d) (x1.g j)) p.L.n _ (by omega) ⟨rfl,rfl,fun j c=>Er c (by omega)⟩ ?_;rintro l i x1 x2 o ⟨rfl,t,b⟩ hs;by_cases hl:i<p.L.n
  .refine Ag (Ab ?_);obtain⟨pt,e,s⟩:=RD q d (by omega) (p.L.g i) (hch i hl) M (by omega);refine B7 (by rw[Int.toNat_natCast];exact e) ?_;refine ifT (by show (x1.n+1)*16<=_/\x1.n+1<=_;omega) (hs hl _ _ ⟨Bm,by show x1.n+1=i+1;omega,fun j c=>?_⟩);show AA8 _ (if j<x1.n then x1.g j else pt);split
   .exact b j (by omega)
   exact s
  obtain rfl:i=p.L.n:=by omega
  have fin:∀(pt:Part),(∀(w:Sl Im),w.n<=32->∀M,N+d<=M->∃f,BP (M+1) pt w=some f/\TU w.n f)->∃r,some pt=some r/\AA8 (N+(d+1)) r:=by intro pt h;refine⟨pt,rfl,fun w hw M' a=>?_⟩;obtain⟨M'',rfl⟩:∃M'',M' = M'' + 1:=⟨M' - 1,by omega⟩;exact h w hw M'' (by omega)
  refine Bh ?_;by_cases k1:p.Kind=1
  .exact ifT (by simp[k1]) (fin _ fun w hw M' a=>AA7 (N:=M') (by omega) hw _ _)
  refine ifF (by simp[k1]) ?_;by_cases k2:p.Kind=2
  .exact ifT (by simp[k2]) (fin _ fun w hw M' a=>Am2 (N:=M') hw false)
  refine ifF (by simp[k2]) ?_;by_cases k6:p.Kind=6
  .exact ifT (by simp[k6]) (fin _ fun w hw M' a=>Am2 (N:=M') hw true)
  refine ifF (by simp[k6]) ?_;by_cases k4:p.Kind=4
  .exact ifT (by simp[k4]) (fin _ fun w hw M' a=>AZ4 (N:=M') (by omega) (rec:=BP M') (m:=x1.n) (g:=x1.g) (by omega) fun i o=>b i (by omega) w hw M' (by omega))
  refine ifF (by simp[k4]) ?_;by_cases k5:p.Kind=5
  .obtain⟨g1,g2,g3,g4⟩:=hn.2.2.2.2.1 k5;refine ifT (by simp[k5]) (Ab (fin _ fun w hw M' a=>?_));obtain⟨f,e,h⟩:=b 0 (by omega) w hw M' (by omega);exact AZ5 (N:=M') (by omega) hw (rec:=BP M') e h g2 g3 g4
  exact ifF (by simp[k5]) (fin _ fun w hw M' a=>AZ3 (N:=M') (by omega) hw (rec:=BP M') (m:=x1.n) (g:=x1.g) (by omega) fun i o=>b i (by omega) w hw M' (by omega))
end Go.AM
namespace Go.AM
variable {N:Nat}
open IntKind (wrap)
open Go.Proofs
def Ab7 {p:Pat}(hp:okS p.Is):∃e,BL N p=some e/\(e=0↔Tv p):=by
 obtain⟨a,b,i⟩:=hp;have m:=Al9 i;have V:Q7 N p.Is=some (vB a b):=by rw[i];exact VO a b
 have e0:((p.Is.Plus==0)&&(p.Is.Minus==0))=decide (p.Is.Plus=0/\p.Is.Minus=0):=by rw[Bo2];simp
 have fin:(Tv p↔vS p.Is)->∃e,((Q7 N p.Is).bind fun y1=>if (!y1) then some (14:Int)else some 0)=some e/\(e=0↔Tv p):=by
  intro c;rw[V];refine B7 rfl ?_;rw[c,m];cases vB a b
  .exact ifT rfl ⟨14,rfl,by simp⟩
  exact Bh ⟨0,rfl,by simp⟩
 have bad:∀{x:Int},x≠0->¬Tv p->∃e,some x=some e/\(e=0↔Tv p):=fun hx h=>⟨_,rfl,fun d=>Er d hx,fun d=>Er d h⟩;unfold BL;by_cases hk:p.Kind=0 \/ p.Kind=2 \/ p.Kind=6
 .refine ifT (by rcases hk with h|h|h<;>simp[h]) (ltX ?_);rw[e0];by_cases g1:p.Is.Plus=0/\p.Is.Minus=0
  case neg=>exact ifT (by simp[g1]) (ifT rfl (bad (by decide) fun h=>g1 (h.2.1 (by omega)).1))
  refine ifF (by simp[g1]) ?_;by_cases g2:p.Not=true
  .exact ifT g2 (ifT rfl (bad (by decide) fun h=>by have:=(h.2.1 (by omega)).2;rw[g2]at this;cases this))
  refine ifF g2 ?_;by_cases g3:p.Min=0
  case neg=>exact ifT (by simp[g3]) (ifT rfl (bad (by decide) fun h=>g3 (h.2.2.2.1 (by omega)).1))
  refine ifF (by simp[g3]) ?_;by_cases g4:p.Max=0
  case neg=>exact ifT (by simp[g4]) (ifT rfl (bad (by decide) fun h=>g4 (h.2.2.2.1 (by omega)).2))
  refine ifF (by simp[g4]) ?_;by_cases g5:p.L.n=0
  case neg=>exact Ag (bad (by decide) fun h=>g5 (h.2.2.1 (by omega) (by omega) (by omega)))
  refine Bg (fin ?_);exact⟨fun h=>h.2.2.2.2.2,fun h=>⟨by omega,fun _=>⟨g1,by simpa using g2⟩,fun _ _ _=>g5,fun _=>⟨g3,g4⟩,fun f=>by omega,h⟩⟩
 refine ifF (by simp only[not_or]at hk;simp[hk]) ?_;by_cases k1:p.Kind=1
 .refine ifT (by simp[k1]) (ltX ?_);refine Bh ?_;by_cases g3:p.Min=0
  case neg=>exact ifT (by simp[g3]) (ifT rfl (bad (by decide) fun h=>g3 (h.2.2.2.1 (by omega)).1))
  refine ifF (by simp[g3]) ?_;by_cases g4:p.Max=0
  case neg=>exact ifT (by simp[g4]) (ifT rfl (bad (by decide) fun h=>g4 (h.2.2.2.1 (by omega)).2))
  refine ifF (by simp[g4]) ?_;by_cases g5:p.L.n=0
  case neg=>exact Ag (bad (by decide) fun h=>g5 (h.2.2.1 (by omega) (by omega) (by omega)))
  refine Bg (fin ?_);exact⟨fun h=>h.2.2.2.2.2,fun h=>⟨by omega,fun h1=>Er k1 h1,fun _ _ _=>g5,fun _=>⟨g3,g4⟩,fun f=>by omega,h⟩⟩
 refine ifF (by simp[k1]) (ltX ?_);rw[e0];have tail:∀(x y:Int),(Tv p↔(p.Is.Plus=0/\p.Is.Minus=0)/\p.Not=false/\x=0/\y=0/\vS p.Is)->∃e,(if (((((decide (p.Is.Plus=0/\p.Is.Minus=0) != true)||p.Not)||(x != 0))||(y != 0))||(decide (0<0))) then some (2:Int)else
  (Q7 N p.Is).bind fun y3=>if (!y3) then some 14 else some 0)=some e/\(e=0↔Tv p):=by
  intro x y c;by_cases g:(p.Is.Plus=0/\p.Is.Minus=0)/\p.Not=false/\x=0/\y=0
  .obtain⟨g1,g2,g3,g4⟩:=g;exact ifF (by simp[g1,g2,g3,g4]) (fin (c.trans ⟨fun h=>h.2.2.2.2,fun h=>⟨g1,g2,g3,g4,h⟩⟩))
  refine ifT ?_ (bad (by decide) fun h=>g ⟨(c.1 h).1,(c.1 h).2.1,(c.1 h).2.2.1,(c.1 h).2.2.2.1⟩);simp only[Bi1,bne_iff_ne,ne_eq,Ev];by_cases g1:p.Is.Plus=0/\p.Is.Minus=0
  .by_cases g2:p.Not=true
   .simp[g2]
   by_cases g3:x=0
   .have:¬y=0:=fun g4=>g ⟨g1,by simpa using g2,g3,g4⟩
    simp[this]
   simp[g3]
  simp[g1]
 by_cases k34:p.Kind=3 \/ p.Kind=4
 .refine ifT (by rcases k34 with h|h<;>simp[h]) (tail _ _ ?_);constructor
  .exact fun h=>⟨(h.2.1 k1).1,(h.2.1 k1).2,(h.2.2.2.1 (by omega)).1,(h.2.2.2.1 (by omega)).2,h.2.2.2.2.2⟩
  rintro⟨h1,d,j,l,f⟩;exact⟨by omega,fun _=>⟨h1,d⟩,fun h h'=>by omega,fun _=>⟨j,l⟩,fun h=>by omega,f⟩
 refine ifF (by simp only[not_or]at k34;simp[k34]) ?_;by_cases k5:p.Kind=5
 .refine ifT (by simp[k5]) ?_;by_cases g:p.L.n=1/\0<=p.Min/\p.Min<=32/\(p.Max = -1 \/ (p.Min<=p.Max/\p.Max<=32))
  .refine ifF (by simp only[Bi1,Bd3,bne_iff_ne,ne_eq,Ev];omega) (tail 0 0 ?_);constructor
   .exact fun h=>⟨(h.2.1 k1).1,(h.2.1 k1).2,rfl,rfl,h.2.2.2.2.2⟩
   rintro⟨h1,d,j,l,f⟩;exact⟨by omega,fun _=>⟨h1,d⟩,fun _ _ h=>Er k5 h,fun h=>Er k5 h,fun _=>g,f⟩
  exact ifT (by simp only[Bi1,Bd3,bne_iff_ne,ne_eq,Ev];omega) (bad (by decide) fun h=>g (h.2.2.2.2.1 k5))
 exact ifF (by simp[k5]) (bad (by decide) fun h=>by have:=h.1;omega)
def Am3 {x:Sl Pat}{m:Nat}(h:x.n=m+1):x.toList.reverse=x.g m::(x.take m).toList.reverse:=by unfold Sl.toList;rw[h,Bo1,Bt3,Bq6];rfl
def AA9 (z:Sl Pat)(q:Pat):((z.push Pat.nil).upd z.n q).toList.reverse=q::z.toList.reverse:=by
 rw[Am3 (m:=z.n) rfl];have e1:((z.push Pat.nil).upd z.n q).g z.n=q:=by simp
 have e2:(((z.push Pat.nil).upd z.n q).take z.n).toList=z.toList:=by
  unfold Sl.toList;refine Bg2 fun i a=>?_
  have:i<z.n:=Bj5.1 a
  show (if i=z.n then q else if i<z.n then z.g i else Pat.nil)=z.g i;rw[Ej (by omega),Dn this]
 rw[e1,e2]
def XQ (q:Sl Pat)(c:q.n<N)(hs:q.n<1000000):E2 N q=some ((List.range q.n).reverse.map fun (i:Nat)=>((i:Int),q.g i)):=by
 unfold E2;have h:∀(m:Nat),m<=q.n->∀F,m<F->Y1 F (fun (a:Int->Option (List (Int×Pat))) (x1:Int)=>
  if (decide (0<=x1)) then
   if ((0:Int)<=x1/\x1<(q.n:Int))then
    Af (x1,q.g x1.toNat) (
     a (wrap .i64 (x1-1))
     )
   else none
  else
   some []) ((m:Int)-1)=some ((List.range m).reverse.map fun (i:Nat)=>((i:Int),q.g i)):=by
  intro m
  induction m with
  |zero=>
   intro _ F b
   match F,b with
   |F+1,_=>rfl
  |succ m ih=>
   intro hm F b
   match F,b with
   |F+1,b=>rw[I2];rw[show ((m+1:Nat):Int)-1=(m:Int) by omega,Dn (by simp),Cb,D9 (by omega) (by omega),ih (by omega) F (by omega),Int.toNat_natCast,Bo1,Bq6,Bs9,Bt4,Be8];rfl
 rw[D9 (by omega) (by omega)];exact h q.n (Bd8 _) N c
def AO6 {k:Nat}(hk:k<=40){c:Sl Pat}{l:List Pat}:chk k ((c.take (min 41 c.n)).toList++l)↔chk k (c.toList++l):=by
 by_cases h:c.n<=41
 .rw[Nat.min_eq_right h]
 constructor
 .intro a
  have:=Tw _ _ a
  rw[Bg1,Gz]at this
  have:(c.take (min 41 c.n)).n=41:=Bm5 (by omega)
  omega
 intro a
 have:=Tw _ _ a
 rw[Bg1,Gz]at this;omega
def TA (hN:2000<=N){p:Pat}(hp:okPS p):∃e,Aw N p=some e/\(e=0↔chk 40 [p]):=by
 unfold Aw;refine X9 (fun i x3 x4=>x4=(i:Int)/\x3.n<=1+41*i/\(∀q∈x3.toList.reverse,okPS q)/\(chk 40 [p]↔chk (40-i) x3.toList.reverse)) 40 _ (by omega)
  ⟨rfl,by show 1<=_;omega,fun q l=>by rw[show (Sl.of [p]:Sl Pat).toList.reverse=[p] from rfl]at l;rw[Bj4.1 l];exact hp,Bo6⟩ ?_
 rintro x i x3 x4 hi ⟨rfl,h1,c,f⟩ hs;rcases hn:x3.n with _|m
 .refine Bh ⟨0,rfl,fun _=>f.2 ?_,fun _=>rfl⟩
  have:x3.toList.reverse=[]:=by unfold Sl.toList;rw[hn];rfl
  rw[this];exact AO4 _
 rw[Am3 hn]at f c;refine ifT (decide_eq_true (by omega)) ?_;by_cases r:i=40
 .subst r;refine Ah ⟨12,rfl,fun h=>Er h (by decide),fun h=>?_⟩
  have:(x3.g m::(x3.take m).toList.reverse)=[]:=f.1 h
  cases this
 refine Bg ?_;have hw:IntKind.i64.wrap (((m+1:Nat):Int)-1)=(m:Int):=by rw[D9 (by omega) (by omega)];omega
 simp only[hw,Int.toNat_natCast];refine Ab (Ab ?_);obtain⟨e,y,a⟩:=Ab7 (N:=N) (c (x3.g m) (by simp)).is;refine B7 y ?_;rw[show 40-i=(39-i)+1 by omega]at f;by_cases o:e=0
 case neg=>exact ifT (by simp[o]) ⟨e,rfl,fun h=>Er h o,fun h=>Er (a.2 (f.1 h).1) o⟩
 refine ifF (by simp[o]) ?_;have hc:(if (41:Int)<((x3.g m).L.n:Int)then (41:Int)else ((x3.g m).L.n:Int))=((min 41 (x3.g m).L.n:Nat):Int):=by split<;>omega
 simp only[hc,Int.toNat_natCast];refine Ab (B7 rfl (B7 (XQ _ (by show min 41 _<N;omega) (by show min 41 _<1000000;omega)) ?_));generalize s:(x3.g m).L.take (min 41 (x3.g m).L.n)=C;have a0:C.n<=41:=by rw[<- s];exact Nat.min_le_left _ _
 refine Tx (fun L z=>∃j,j<=C.n/\L=((List.range j).reverse.map fun (i:Nat)=>((i:Int),C.g i))/\z.n=m+(C.n-j)/\z.toList.reverse=C.toList.drop j++(x3.take m).toList.reverse) ?_ ?_ _ _ ⟨C.n,Bd8 _,rfl,by show m=_;omega,by rw[PB];rfl⟩
 .rintro z ⟨j,hj,hL,hz,b⟩;have u:j=0:=by
   cases j with
   |zero=>rfl
   |succ j=>simp[Bo1]at hL
  subst u;rw[Br2]at b;refine hs (by omega) _ _ ⟨Bm,by omega,fun q l=>?_,?_⟩
  .rw[b]at l;rcases List.mem_append.1 l with h|h
   .obtain⟨i',d,rfl⟩:=Bk3.1 h;have d:=Bj5.1 d;rw[<- s]at d⊢;exact (c (x3.g m) (by simp)).L (Bf4 d (Nat.min_le_right _ _))
   exact c q (by simp[h])
  rw[b,f,show 40-(i+1)=39-i by omega,<- s,AO6 (by omega)];exact⟨fun h=>h.2,fun h=>⟨a.1 o,h⟩⟩
 rintro t L z v ⟨j,hj,hL,hz,b⟩ w;cases j with
 |zero=>simp at hL
 |succ j=>rw[Bo1,Bq6,Bs9,Bt4,Be8]at hL;obtain⟨rfl,rfl⟩:=Bv5 hL;have e1:(z.n:Int).toNat=z.n:=Int.toNat_natCast _;refine ifT ⟨⟨⟨by show (z.n+1)*64<=_;omega,by show z.n+1<=_;omega⟩,by show (0:Int)<=_/\(z.n:Int)<((z.n+1:Nat):Int);omega⟩,by show z.n<z.n+1;omega⟩ ?_;refine w _ ⟨j,by omega,rfl,by show z.n+1=_;omega,?_⟩;rw[AA9,b,XO C (i:=j) (by omega),Bf8]
end Go.AM
namespace Go.AM
open IntKind (wrap)
open Go.Proofs
def wOk (w:Sl Im):Prop:=w.n<=32/\∀i,i<w.n->vS (w.g i)
def MR {N:Nat}{w:Sl Im}(m:w.n<N)(hs:w.n<1000000){f:Im->Option Bool}{b:Nat->Bool}(o:∀i,i<w.n->f (w.g i)=some (b i)) :∃r,B6 N w f=some r/\(r=true ↔ ∃i,i<w.n/\b i=true):=by
 unfold B6 F1
 have:∃y,Y1 N (fun (a:Int->Option Int) (x1:Int)=>
  if (decide (x1<(w.n:Int))) then
   if ((0:Int)<=x1/\x1<(w.n:Int))then
    (f (w.g x1.toNat)).bind fun y3=>
    if y3 then
     some x1
    else
     a (wrap .i64 (x1+1))
   else none
  else
   some (-1)) 0=some y/\(0<=y ↔ ∃i,i<w.n/\b i=true):=by
  refine FY (fun i x1=>x1=(i:Int)/\∀j,j<i->b j=false) w.n _ m ⟨rfl,fun j c=>Er c (by omega)⟩ ?_;rintro l i x1 q ⟨rfl,h⟩ d;by_cases hl:i<w.n
  .refine Ag (Ab (B7 (by rw[Int.toNat_natCast];exact o i hl) ?_));cases hb:b i
   .refine Bh (d hl _ ⟨Bm,fun j c=>?_⟩);by_cases e:j=i
    .subst e;exact hb
    exact h j (by omega)
   exact ifT rfl ⟨i,rfl,fun _=>⟨i,hl,hb⟩,fun _=>by omega⟩
  refine Bg ⟨-1,rfl,fun h=>Er h (by decide),?_⟩;rintro⟨j,c,hb⟩;rw[h j (by omega)]at hb;cases hb
 obtain⟨y,e,hy⟩:=this;exact B7 e ⟨_,rfl,by rw[Ev];exact hy⟩
def VQ {N:Nat}(v:3000<=N){p:Pat}(hp:okPS p){w:Sl Im}(hs:w.n<1000000/\w.n+1000<N)(hw:∀i,i<w.n->okS (w.g i)) :∃r,AU N p w=some r/\(r.2=0->wOk w/\TU w.n r.1):=by
 unfold AU;obtain⟨e,d,hc⟩:=TA (N:=N) (by omega) hp;refine B7 d ?_;by_cases j:e=0
 case neg=>exact ifT (by simp[j]) ⟨_,rfl,fun h=>Er h j⟩
 refine ifF (by simp[j]) ?_;by_cases hn:32<w.n
 .exact Ag ⟨_,rfl,fun h=>Er h (by decide)⟩
 refine Bg ?_;have q:∀i,∃b:Bool,i<w.n->W1 N (w.g i)=some b/\(b=true ↔ ¬vS (w.g i)):=by
  intro i;by_cases a:i<w.n
  .obtain⟨x,y,d⟩:=hw i a;refine⟨!vB x y,fun _=>⟨?_,?_⟩⟩
   .unfold W1;rw[d,VO];rfl
   rw[Al9 d];cases vB x y<;>simp
  exact⟨false,fun h=>Er h a⟩
 obtain⟨b,hb⟩:=Bn5 q;obtain⟨r,s,l⟩:=MR (N:=N) (by omega) hs.1 (f:=fun u1=>W1 N u1) fun i a=>(hb i a).1;refine B7 s ?_;by_cases c:r=true
 .exact ifT c ⟨_,rfl,fun h=>Er h (by decide)⟩
 refine ifF c ?_;have m:wOk w:=⟨by omega,fun i a=>Bh0 fun o=>c (l.2 ⟨i,a,(hb i a).2.2 o⟩)⟩;obtain⟨pt,ep,t⟩:=RD (N:=1000) (by omega) 40 (Bd8 _) p (Tz 40 [p] (Bd8 _) (hc.1 j) p (by simp)) N (by omega);obtain⟨f,ef,u⟩:=t w (by omega) N (by omega);exact B7 ep (B7 ef ⟨_,rfl,fun _=>⟨m,u⟩⟩)
end Go.AM
namespace Go.AM
variable {N:Nat}
open Go.Proofs
def Am4 (f:3000<=N){p:Pat}(hp:okPS p){w:Sl Im}(hs:w.n<1000000/\w.n+1000<N)(hw:∀i,i<w.n->okS (w.g i))(k:Nat) :∃r,CR N p w (k:Int)=some r/\(r.1.n≠0->wOk w):=by
 unfold CR;obtain⟨y,e,h1⟩:=VQ f hp hs hw;refine B7 e (ltX ?_);by_cases c:y.2=0
 case neg=>exact ifF (by simp[c]) (ifT (by simp[c]) ⟨_,rfl,fun h=>Er rfl h⟩)
 refine ifT (by simp[c]) ?_;obtain⟨a,j⟩:=h1 c;have hn:=a.1;unfold AR;split
 .exact B7 rfl (Ap ⟨_,rfl,fun h=>Er rfl h⟩)
 refine B7 rfl (Bh ?_);rw[Bm];refine X9 (fun i x2 x3=>x3=(i:Int)/\x2.n<=i) (w.n+1) _ (by omega) ⟨rfl,Bd8 _⟩ ?_;rintro d i x2 x3 l ⟨rfl,g1⟩ b;by_cases hl:i<=w.n
 .refine Ag (Ab ?_);split
  .exact ifT (by show (x2.n+1)*8<=_/\x2.n+1<=_;omega) (b (by omega) _ _ ⟨Bm,by show x2.n+1<=_;omega⟩)
  exact b (by omega) _ _ ⟨Bm,by omega⟩
 exact Bg ⟨_,rfl,fun _=>a⟩
def XR (L:List Int)(hL:L.length<1000):∃s,O6 N L=some s/\s.n=L.length:=by
 unfold O6 J3
 have:∃s:Sl Int,U1 L (fun (a:Sl Int->Option (Sl Int)) (x1:Int) (z1:Sl Int)=>
  if ((z1.n+(Sl.of [x1]:Sl Int).n)*8<=140737488355328/\z1.n+(Sl.of [x1]:Sl Int).n<=140737488355328)then
   a (z1.push x1)
  else none
  ) (fun (z1:Sl Int)=>some z1) Ii=some s/\s.n=L.length:=by
  refine Tx (fun l z=>z.n+l.length=L.length) (fun z h=>⟨z,rfl,by simpa using h⟩) (fun t l z b h hs=>?_) L _ (by simp);simp only[Bf9]at h;exact ifT (by show (z.n+1)*8<=_/\z.n+1<=_;omega) (hs _ (by show z.n+1+l.length=_;omega))
 obtain⟨s,e,hn⟩:=this;exact B7 e ⟨s,rfl,hn⟩
def AO7 (c:3000<=N){p:Pat}(hp:okPS p){w:Sl Im}(hs:w.n<1000000/\w.n+1000<N)(hw:∀i,i<w.n->okS (w.g i))(k:Nat) :∃r,Fh N p w (k:Int)=some r/\(r.1.n≠0->k<=w.n):=by
 unfold Fh;obtain⟨y,e,h1⟩:=VQ c hp hs hw;refine B7 e (ltX ?_);by_cases a:y.2=0
 case neg=>exact ifF (by simp[a]) (ifT (by simp[a]) ⟨_,rfl,fun h=>Er rfl h⟩)
 refine ifT (by simp[a]) ?_;obtain⟨b,d⟩:=h1 a;have hn:=b.1;unfold AR;by_cases f:w.n<k
 .rw[Ce];exact B7 rfl (Ap ⟨_,rfl,fun h=>Er rfl h⟩)
 rw[Cg];refine B7 rfl (Bh (Ab ?_));obtain⟨u,e1,g1⟩:=d (0+(k:Int).toNat*1);refine B7 rfl (B7 (x:=Hi u 0) (by rw[e1];exact PC u (by omega)) ?_);obtain⟨s,es,_⟩:=XR (N:=N) (Hi u 0) (by unfold Hi;rw[Bh5];exact Bv4 (List.length_filter_le _ _) (by simp))
 exact B7 es ⟨_,rfl,fun _=>by omega⟩
end Go.AM
namespace Go.AM
open IntKind (wrap)
open Go.Proofs
def AZ6 (w:Sl Im)(e:Int):Prop:=(32<w.n/\e=11) \/ (w.n<=32/\(∃i,i<w.n/\¬vS (w.g i))/\e=14) \/ (wOk w/\e=0)
def AZ7 {w:Sl Im}{e e' : Int}(h:AZ6 w e)(h' : AZ6 w e'):e=e':=by
 rcases h with⟨h1,a⟩ | ⟨h1,⟨i,b,c⟩,a⟩ | ⟨h1,a⟩<;>rcases h' with⟨g1,g2⟩ | ⟨g1,⟨j,d,gv⟩,g2⟩ | ⟨g1,g2⟩
 .omega
 .omega
 .have:=g1.1;omega
 .omega
 .omega
 .exact Er (g1.2 i b) c
 .have:=h1.1;omega
 .exact Er (h1.2 j d) gv
 omega
def Lt {w:Sl Im}{e:Int}(h:AZ6 w e):e=0↔wOk w:=by
 rcases h with⟨h1,a⟩ | ⟨h1,⟨i,b,c⟩,a⟩ | ⟨h1,a⟩
 .exact⟨fun h=>by omega,fun h=>by have:=h.1;omega⟩
 .exact⟨fun h=>by omega,fun h=>Er (h.2 i b) c⟩
 exact⟨fun _=>h1,fun _=>a⟩
def Am5 {N:Nat}(o:1000<=N){w:Sl Im}(hw:∀i,i<w.n->okS (w.g i))(V:Im->Option Bool)(f:∀p m:BitVec 32,V (sOf p m)=some (vB p m)) :∃e,(if (decide (32<(w.n:Int))) then
 some (11:Int)
 else
  Y1 N (fun a (x1:Int)=>
   if (decide (x1<(w.n:Int))) then
    if ((0:Int)<=x1/\x1<(w.n:Int))then
     (V (w.g x1.toNat)).bind fun y3=>
     if (!y3) then
      some 14
     else
      a (wrap .i64 (x1+1))
    else none
   else
    some 0
   ) 0)=some e/\AZ6 w e:=by
 by_cases hn:32<w.n
 .exact Ag ⟨11,rfl,.inl ⟨hn,rfl⟩⟩
 refine Bg ?_;refine FY (fun i x1=>x1=(i:Int)/\∀j,j<i->vS (w.g j)) w.n _ (by omega) ⟨rfl,fun j b=>Er b (by omega)⟩ ?_;rintro d i x1 q ⟨rfl,h⟩ hs;by_cases hl:i<w.n
 .obtain⟨p,m,c⟩:=hw i hl;refine Ag (Ab (B7 (by rw[Int.toNat_natCast,c];exact f p m) ?_));cases hb:vB p m
  .refine ifT rfl ⟨14,rfl,.inr (.inl ⟨by omega,⟨i,hl,fun l=>?_⟩,rfl⟩)⟩
   have:=(Al9 c).1 l;rw[hb]at this;cases this
  refine Bh (hs hl _ ⟨Bm,fun j b=>?_⟩);by_cases e:j=i
  .subst e;exact (Al9 c).2 hb
  exact h j (by omega)
 exact Bg ⟨0,rfl,.inr (.inr ⟨⟨by omega,fun j b=>h j (by omega)⟩,rfl⟩)⟩
def Lu {N:Nat}(a:1000<=N){w:Sl Im}(hw:∀i,i<w.n->okS (w.g i)):∃e,W6 N w=some e/\AZ6 w e:=
 Am5 a hw (Cu N) fun p m=>VN p m
end Go.AM
namespace Go.AM
open Go.Proofs
def AO8 {N:Nat}{s c:Im}(hs:okS s)(hc:okS c):∃b,R6 N s c=some b:=by
 obtain⟨p,m,rfl⟩:=hs;obtain⟨a,b,rfl⟩:=hc;unfold R6;rw[Da];simp only[Option.bind_some,lt,Da]
 repeat' split
 all_goals exact⟨_,rfl⟩
def okL (l:Law):Prop:=okPS l.Left/\okPS l.Right/\∀i,i<l.If.n->okS (l.If.g i)
def okW (w:Sl Im):Prop:=w.n<1000/\∀i,i<w.n->okS (w.g i)
def Am6 {N:Nat}(a:3000<=N){l:Law}(hl:okL l)(hk:l.If.n<=4){w:Sl Im}(hw:okW w)(i:Nat)(f:i<2000) :∃b,Z6 N (i:Int) l w=some b/\(b=true->wOk w/\i+l.If.n<=w.n):=by
 unfold Z6;have hs:w.n<1000000/\w.n+1000<N:=⟨by have:=hw.1;omega,by have:=hw.1;omega⟩;obtain⟨y1,e1,h1⟩:=Am4 (N:=N) a hl.1 hs hw.2 i;refine B7 e1 ?_;by_cases c:y1.1.n=0
 .exact ifT (by simp[c]) ⟨false,rfl,by simp⟩
 refine Bg ?_;rw[QF (by omega)];obtain⟨y2,e2,d⟩:=AO7 (N:=N) a hl.2.1 hs hw.2 (i+l.If.n);refine B7 e2 ⟨_,rfl,fun h=>⟨h1 c,d ?_⟩⟩;rw[Ev]at h;omega
end Go.AM
namespace Go.AM
open IntKind (wrap)
open Go.Proofs
def hitL (l:Law)(w:Sl Im):Nat->List Int->Prop
 |_,[]=>True
 |i,t::L=>∃j:Nat,t=(j:Int)/\i<=j/\j+l.If.n<=w.n/\wOk w/\hitL l w (j+1) L
def hitL.le {l:Law}{w:Sl Im}{i j:Nat}(h:i<=j):∀{L:List Int},hitL l w j L->hitL l w i L
 |[],_=>trivial
 |t::L,⟨k,h1,h2,h3⟩=>⟨k,h1,by omega,h3⟩
def Am7 {N:Nat}(x:3000<=N){l:Law}(hl:okL l)(hk:l.If.n<=4){w:Sl Im}(hw:okW w)(i:Nat)(u:i<1500):∃L,Ay N l w (i:Int)=some L/\hitL l w i L:=by
 unfold Ay;show ∃L,(some (l,w)).bind _=some L/\_;rw[Option.bind_some];simp only[]
 suffices h:∀(k i:Nat),i<1501->w.n+1-i<=k->∀F,k<F->∃r,Y1 F (fun (a:Int->Option (List Int)) (x2:Int)=>
  if (decide ((wrap .i64 (x2+(l.If.n:Int)))<=(w.n:Int))) then
   Y1 N (fun (c:Int->Option (List Int)) (x4:Int)=>
    if (decide (x4<(l.If.n:Int))) then
     if ((0:Int)<=x4/\x4<(l.If.n:Int))then
      if ((0:Int)<=(wrap .i64 (x2+x4))/\(wrap .i64 (x2+x4))<(w.n:Int))then
       (R6 N (w.g (wrap .i64 (x2+x4)).toNat) (l.If.g x4.toNat)).bind fun q=>
       if (!q) then
        a (wrap .i64 (x2+1))
       else
        c (wrap .i64 (x4+1))
      else none
     else none
    else
     (Z6 N x2 l w).bind fun s=>
     if s then
      Af x2 (
       a (wrap .i64 (x2+1))
       )
     else
      a (wrap .i64 (x2+1))
    ) 0
  else
   some []
  ) (i:Int)=some r/\hitL l w i r from h (w.n+1-i) i (by omega) (Bd8 _) N (by have:=hw.1;omega)
 have y:=hw.1;intro k
 induction k with
 |zero=>
  intro i u t F m
  match F,m with
  |F+1,_=>rw[I2,QF (by omega)];exact Bg ⟨_,rfl,trivial⟩
 |succ k ih=>
  intro i u t F m
  match F,m with
  |F+1,m=>
   rw[I2,QF (by omega)];by_cases hn:i+l.If.n<=w.n
   case neg=>exact Bg ⟨_,rfl,trivial⟩
   refine Ag ?_;obtain⟨r,o,d⟩:=ih (i+1) (by omega) (by omega) F (by omega);rw[<- Bm]at o;refine FY (fun j x1=>x1=(j:Int)) l.If.n _ (by omega) rfl ?_;rintro v j x1 z rfl hs;by_cases f:j<l.If.n
   .rw[QF (by omega)];refine Ag (Ab (Ab ?_));obtain⟨b,eb⟩:=AO8 (N:=N) (hw.2 (i+j) (by omega)) (hl.2.2 j f);refine B7 (by rw[Int.toNat_natCast,Int.toNat_natCast];exact eb) ?_;cases b
    .exact ifT rfl ⟨r,o,d.le (by omega)⟩
    exact Bh (hs f _ (Bm))
   refine Bg ?_;obtain⟨b,eb,hb⟩:=Am6 x hl hk hw i (by omega);refine B7 eb ?_;cases b
   .exact Bh ⟨r,o,d.le (by omega)⟩
   exact ifT rfl ⟨(i:Int)::r,by rw[o];rfl,i,rfl,Bd8 _,hn,(hb rfl).1,d⟩
def AG2 {N:Nat}(a:3000<=N){l:Law}(hl:okL l)(hk:l.If.n<=4){w:Sl Im}(hw:okW w)(i:Nat)(c:i<1500) :∃b,DW N l w (i:Int)=some b/\(b=true->i+l.If.n<=w.n/\wOk w):=by
 unfold DW;obtain⟨L,h1,d⟩:=Am7 a hl hk hw i c;refine B7 (x:=(l,w,(i:Int))) rfl (B7 h1 ?_)
 match L,d with
 |[],_=>exact⟨false,rfl,by simp⟩
 |t::L,⟨j,h3,h4,h5,h6,_⟩=>exact⟨t==(i:Int),rfl,fun e=>⟨by have:=eq_of_beq e;omega,h6⟩⟩
end Go.AM
namespace Go.AM
variable {N:Nat}
open Go.Proofs
def okO (x:Ei):Prop:=okS x.Set/\(∃c:BitVec 32,x.Clear=(c.toNat:Int))/\∃t:BitVec 32,x.Take=(t.toNat:Int)
def AG3 {p m a b s:BitVec 32}(h1:vB p m=true)(d:vB a b=true):vB (Aq6 p a s) (Aq6 m b s)=true:=by rw[AG0]at *;intro i c;have g1:=h1 i c;have g2:=d i c;simp only[Aq6,Bp5,Bq8,Bv3];revert g1 g2;cases s.getLsbD i<;>cases p.getLsbD i<;>cases m.getLsbD i<;>cases a.getLsbD i<;>cases b.getLsbD i<;>simp[c]
def vS0:vS (⟨0,0⟩:Im):=⟨0#32,0#32,rfl,by decide +kernel⟩
def Am8 {s t:Im}{c:Int}(hs:okS s)(hc:∃b:BitVec 32,c=(b.toNat:Int))(ht:okS t):∃y,Z5 N s c t=some y/\vS y.1:=by
 obtain⟨p,m,rfl⟩:=hs;obtain⟨a,b,rfl⟩:=ht;obtain⟨d,rfl⟩:=hc;refine⟨_,Ab5 p m d a b,?_⟩;unfold chgE;split
 .rename_i h;split
  .exact⟨_,_,rfl,AG3 h.1 h.2⟩
  exact vS0
 exact vS0
def AO9 {s t:Im}{c:Int}(hs:okS s)(hc:∃b:BitVec 32,c=(b.toNat:Int))(ht:okS t):∃y,Ct N s t c=some y/\vS y.1:=by
 obtain⟨p,m,rfl⟩:=hs;obtain⟨a,b,rfl⟩:=ht;obtain⟨d,rfl⟩:=hc;refine⟨_,AA4 p m a b d,?_⟩;unfold takE;split
 .rename_i h;split
  .exact⟨_,_,rfl,AG3 h.1 h.2⟩
  exact vS0
 exact vS0
def AZ8 (l:Law):Prop:=l.Out.n<=6/\∀i,i<l.Out.n->okO (l.Out.g i)/\(l.Out.g i).From<l.If.n/\((l.Out.g i).Take≠0->0<=(l.Out.g i).Of/\(l.Out.g i).Of<l.If.n)
def AP0 (hN:1000<=N){l:Law}(o:AZ8 l){cut:Sl Im}(hn:cut.n=l.If.n)(hc:∀i,i<cut.n->okS (cut.g i)) :∃s,DV N l cut=some s/\s.n=l.Out.n/\∀i,i<s.n->vS (s.g i):=by
 have v:=o.1;unfold DV;refine X9 (fun i x1 x2=>x2=(i:Int)/\x1.n=i/\∀j,j<x1.n->vS (x1.g j)) l.Out.n _ (by omega) ⟨rfl,rfl,fun j q=>Er q (Be6 j)⟩ ?_;rintro r i x1 x2 hi ⟨rfl,h1,t⟩ hs;by_cases a:i<l.Out.n
 .obtain⟨⟨b,c,d⟩,w,f⟩:=o.2 i a;have x:okS (⟨(if (decide (0<=(l.Out.g i).From)) then (cut.g (l.Out.g i).From.toNat).Plus else 0),(if (decide (0<=(l.Out.g i).From)) then (cut.g (l.Out.g i).From.toNat).Minus else 0)⟩:Im):=by
   by_cases u:0<=(l.Out.g i).From
   .simp only[u,decide_true,Es];exact hc _ (by omega)
   simp only[u,decide_false,Bd6,Eu];exact⟨0#32,0#32,rfl⟩
  obtain⟨y,e1,hy⟩:=Am8 (N:=N) x c b;have nx:∀z,vS z->_:=fun z m=>hs a (x1.push z) _ ⟨Bm,by show x1.n+1=_;omega,fun j q=>by
   show vS (if j<x1.n then x1.g j else z);split
   .exact t j (by assumption)
   exact m⟩
  have sz:∀z:Im,(x1.n+(Sl.of [z]:Sl Im).n)*8<=140737488355328/\x1.n+(Sl.of [z]:Sl Im).n<=140737488355328:=fun z=>by show (x1.n+1)*8<=_/\x1.n+1<=_;omega
  refine Ag (Ab ?_);rw[Int.toNat_natCast];refine ifT (fun h=>by have:=of_decide_eq_true h;omega) (B7 e1 ?_);by_cases ht:(l.Out.g i).Take=0
  .exact ifF (by simp[ht]) (ifT (sz _) (nx _ hy))
  obtain⟨g1,g2⟩:=f ht;obtain⟨z,e3,m⟩:=AO9 (N:=N) hy.ok d (hc (l.Out.g i).Of.toNat (by omega));exact ifT (by simp[ht]) (Ab (B7 e3 (ifT (sz _) (nx _ m))))
 exact Bg ⟨_,rfl,by omega,t⟩
end Go.AM
namespace Go.AM
open Go.Proofs
def AB0 {N:Nat}{x:Ei}(hx:okO x)(k:Int):∃b,AW N x k=some b:=by
 obtain⟨⟨a,b,c⟩,_⟩:=hx;unfold AW;simp only[lt,c,Da,Option.bind_some]
 repeat' split
 all_goals exact⟨_,rfl⟩
end Go.AM
namespace Go.AM
open Go.Proofs
def Am9 {N:Nat}{s:Str}:∃b,Ds N s=some b:=by
 unfold Ds lt;dsimp only;split
 .split
  .unfold DI;rename_i h;have h:=of_decide_eq_true h;rw[Dn ⟨by omega,by decide,by decide⟩];exact⟨_,rfl⟩
  exact⟨_,rfl⟩
 exact⟨_,rfl⟩
end Go.AM
namespace Go.AM
variable {N:Nat}
open IntKind (wrap)
open Go.Proofs
def VR {s:Sl Ei}(m:s.n<N)(hs:s.n<1000000){f:Ei->Option Bool}{b:Nat->Bool}(o:∀i,i<s.n->f (s.g i)=some (b i)) :∃r,D3 N s f=some r/\(r=true ↔ ∃i,i<s.n/\b i=true):=by
 unfold D3 F8
 have:∃y,Y1 N (fun (a:Int->Option Int) (x1:Int)=>
  if (decide (x1<(s.n:Int))) then
   if ((0:Int)<=x1/\x1<(s.n:Int))then
    (f (s.g x1.toNat)).bind fun y3=>
    if y3 then
     some x1
    else
     a (wrap .i64 (x1+1))
   else none
  else
   some (-1)) 0=some y/\(0<=y ↔ ∃i,i<s.n/\b i=true):=by
  refine FY (fun i x1=>x1=(i:Int)/\∀j,j<i->b j=false) s.n _ m ⟨rfl,fun j c=>Er c (by omega)⟩ ?_;rintro l i x1 q ⟨rfl,h⟩ d;by_cases hl:i<s.n
  .refine Ag (Ab (B7 (by rw[Int.toNat_natCast];exact o i hl) ?_));cases hb:b i
   .refine Bh (d hl _ ⟨Bm,fun j c=>?_⟩);by_cases e:j=i
    .subst e;exact hb
    exact h j (by omega)
   exact ifT rfl ⟨i,rfl,fun _=>⟨i,hl,hb⟩,fun _=>by omega⟩
  refine Bg ⟨-1,rfl,fun h=>Er h (by decide),?_⟩;rintro⟨j,c,hb⟩;rw[h j (by omega)]at hb;cases hb
 obtain⟨y,e,hy⟩:=this;exact B7 e ⟨_,rfl,by rw[Ev];exact hy⟩
def Nq (l:Law):Prop:=okL l/\l.Name.length<1100000/\l.If.n<1100000/\l.Out.n<1100000/\∀i,i<l.Out.n->okO (l.Out.g i)
def Ab8 {s:Im}(hs:okS s):∃b,H4 N s=some b/\(b=true↔vS s):=by obtain⟨p,m,e⟩:=hs;exact⟨vB p m,by rw[e];exact Da p m,(Al9 e).symm⟩
def AB1 {x:Ei}(hx:okO x){k:Int}(h:AW N x k=some true):x.From<k/\(x.Take≠0->0<=x.Of/\x.Of<k):=by
 obtain⟨⟨a,b,c⟩,_,_⟩:=hx;unfold AW at h;simp only[lt,c,Da,Option.bind_some]at h;by_cases h1:x.From < -1
 .simp[h1]at h
 by_cases d:k<=x.From
 .simp[h1,d]at h
 refine⟨by omega,fun ht=>?_⟩;simp only[h1,d,decide_false,Bd6,Eu]at h;by_cases f:(!vB a b)=true
 .rw[Dn f]at h;cases h
 rw[Ej f]at h;split at h
 .cases h
 rw[Ej (by simp[ht])]at h;simpa using h
def chkAll (N:Nat)(l:Law):Prop:=Ds N l.Name=some true/\chk 40 [l.Left]/\chk 40 [l.Right]/\l.If.n<=4/\l.Out.n<=6/\l.If.n+l.Out.n≠0/\1<=l.Mode/\l.Mode<=3/\(∀i,i<l.If.n->vS (l.If.g i))/\∀i,i<l.Out.n->AW N (l.Out.g i) l.If.n=some true
def lawE (N:Nat)(l:Law)(e:Int):Prop:=(e=0/\chkAll N l) \/ (e=17/\¬chkAll N l)
def lawF (l:Law):Prop:=okL l/\chk 40 [l.Left]/\chk 40 [l.Right]/\l.If.n<=4/\AZ8 l/\l.If.n+l.Out.n≠0/\1<=l.Mode/\l.Mode<=3
def chkAll.f {N:Nat}{l:Law}(hl:Nq l)(h:chkAll N l):lawF l:=by obtain⟨_,h1,b,c,d,g,j,m,o,n⟩:=h;exact⟨hl.1,h1,b,c,⟨d,fun i a=>⟨hl.2.2.2.2 i a,AB1 (hl.2.2.2.2 i a) (n i a)⟩⟩,g,j,m⟩
def IP (hN:3000000<=N){l:Law}(hl:Nq l):∃e,Ax N l=some e/\lawE N l e:=by
 have u:=hl.2.1;have v:=hl.2.2.1;have x:=hl.2.2.2.1;unfold Ax;obtain⟨b0,e0⟩:=Am9 (N:=N) (s:=l.Name);refine B7 e0 ?_;cases b0
 .exact ifT rfl ⟨17,rfl,.inr ⟨rfl,fun h=>by have:=h.1;rw[e0]at this;cases this⟩⟩
 refine Bh ?_;obtain⟨y2,e2,o⟩:=TA (N:=N) (by omega) hl.1.1;refine B7 e2 ?_;by_cases c2:y2=0
 case neg=>exact ifT (by simpa using c2) ⟨17,rfl,.inr ⟨rfl,fun h=>c2 (o.2 h.2.1)⟩⟩
 refine ifF (by simp[c2]) ?_;obtain⟨y3,e3,q⟩:=TA (N:=N) (by omega) hl.1.2.1;refine B7 e3 ?_;by_cases c3:y3=0
 case neg=>exact ifT (by simpa using c3) ⟨17,rfl,.inr ⟨rfl,fun h=>c3 (q.2 h.2.2.1)⟩⟩
 refine ifF (by simp[c3]) ?_;by_cases c4:4<l.If.n
 .exact Ag ⟨17,rfl,.inr ⟨rfl,fun h=>by have:=h.2.2.2.1;omega⟩⟩
 refine Bg ?_;by_cases c5:6<l.Out.n
 .exact Ag ⟨17,rfl,.inr ⟨rfl,fun h=>by have:=h.2.2.2.2.1;omega⟩⟩
 refine Bg ?_;rw[QF (by omega)];by_cases c6:l.If.n+l.Out.n=0
 .exact ifT (by rw[c6];rfl) ⟨17,rfl,.inr ⟨rfl,fun h=>h.2.2.2.2.2.1 c6⟩⟩
 refine Bg ?_;by_cases c7:l.Mode<1 \/ 3<l.Mode
 .exact Ag ⟨17,rfl,.inr ⟨rfl,fun h=>by have g1:=h.2.2.2.2.2.2.1;have g2:=h.2.2.2.2.2.2.2.1;omega⟩⟩
 refine Bg ?_;have y:∀i,∃b,i<l.If.n->AY N (l.If.g i)=some b/\(b=true ↔ ¬vS (l.If.g i)):=by
  intro i;by_cases a:i<l.If.n
  .obtain⟨b,eb,hb⟩:=Ab8 (N:=N) (hl.1.2.2 i a);refine⟨!b,fun _=>⟨by unfold AY;rw[eb];rfl,?_⟩⟩;rw[<- hb];simp
  exact⟨false,fun h=>Er h a⟩
 obtain⟨f,j⟩:=Bn5 y;obtain⟨y4,e4,r⟩:=MR (N:=N) (w:=l.If) (by omega) (by omega) (f:=fun u1=>AY N u1) (fun i a=>(j i a).1);refine B7 e4 ?_;cases c:y4
 case true=>obtain⟨i,a,hb⟩:=r.1 c;exact ifT rfl ⟨17,rfl,.inr ⟨rfl,fun h=>(j i a).2.1 hb (h.2.2.2.2.2.2.2.2.1 i a)⟩⟩
 refine Bh ?_;have z:∀i,∃b,i<l.Out.n->AX N (l.Out.g i) (l.If.n:Int)=some b/\(b=true ↔ ¬AW N (l.Out.g i) l.If.n=some true):=by
  intro i;by_cases a:i<l.Out.n
  .obtain⟨b,eb⟩:=AB0 (N:=N) (hl.2.2.2.2 i a) (l.If.n:Int);refine⟨!b,fun _=>⟨by unfold AX;rw[eb];rfl,?_⟩⟩;rw[eb];simp
  exact⟨false,fun h=>Er h a⟩
 obtain⟨g,m⟩:=Bn5 z;obtain⟨y5,e5,t⟩:=VR (N:=N) (s:=l.Out) (by omega) (by omega) (f:=fun u2=>AX N u2 (l.If.n:Int)) (fun i a=>(m i a).1);refine B7 e5 ?_;cases d:y5
 case true=>obtain⟨i,a,hb⟩:=t.1 d;exact ifT rfl ⟨17,rfl,.inr ⟨rfl,fun h=>(m i a).2.1 hb (h.2.2.2.2.2.2.2.2.2 i a)⟩⟩
 refine Bh ⟨0,rfl,.inl ⟨rfl,e0,o.1 c2,q.1 c3,by omega,by omega,c6,by omega,by omega,fun i a=>?_,fun i a=>?_⟩⟩
 .refine Bh0 fun hn=>?_
  have:=r.2 ⟨i,a,(j i a).2.2 hn⟩
  rw[c]at this;cases this
 refine Bh0 fun hn=>?_
 have:=t.2 ⟨i,a,(m i a).2.2 hn⟩
 rw[d]at this;cases this
end Go.AM
namespace Go.AM
variable {N:Nat}
open IntKind (wrap)
open Go.Proofs
def nf:(!false)=true:=rfl
def app0 {α : Type}{s t:Sl α}(h:s.n=0):s.app t=t:=by cases t;simp[Sl.app,h]
def AG4 {α : Type}[Inhabited α](s:Sl (Sl α)):Nat->Sl α
 |0=>Sl.nil
 |k+1=>(AG4 s k).app (s.g k)
def AG5 {α : Type}[Inhabited α](s:Sl (Sl α)){B:Nat}:∀k,(∀i,i<k->(s.g i).n<=B)->(AG4 s k).n<=k*B
 |0,_=>by simp[AG4]
 |k+1,h=>by
  have:=AG5 s k fun i a=>h i (by omega)
  have:=h k (by omega)
  show (AG4 s k).n+(s.g k).n<=_;rw[Bp6];omega
def XS {s:Sl (Sl Im)}(hn:s.n<1000)(d:1000<=N)(hs:∀i,i<s.n->(s.g i).n<=3000000) :B0 N s=some (AG4 s s.n):=by
 suffices h:∃r,B0 N s=some r/\r=AG4 s s.n by obtain⟨r,h,rfl⟩:=h;exact h
 unfold B0;refine X9 (fun (i:Nat) (x1 x2:Int)=>x2=(i:Int)/\0<=x1/\x1<=(i:Int)*3000000) s.n _ (by omega) ⟨rfl,Int.le_refl 0,by simp⟩ ?_;rintro b i x1 x2 c ⟨rfl,f,h1⟩ a;by_cases hl:i<s.n
 .have:=hs i hl
  refine Ag (Ab ?_);rw[Int.toNat_natCast,D9 (by omega) (by omega)];exact Bg (a hl _ _ ⟨Bm,by omega,by omega⟩)
 refine Bg (B7 (x:=Sl.nil) ?_ ?_)
 .unfold J7;rw[Cb]
 refine X9 (fun i x1 x2=>x2=(i:Int)/\x1=AG4 s i) s.n _ (by omega) ⟨rfl,rfl⟩ ?_;rintro b i x1 x2 c ⟨rfl,rfl⟩ a;by_cases hl:i<s.n
 .have g1:=hs i hl;have g2:=AG5 s i (B:=3000000) fun j l=>hs j (by omega);refine Ag (ifT ⟨by omega,?_⟩ (a hl _ _ ⟨Bm,?_⟩))
  .rw[Int.toNat_natCast];omega
  rw[Int.toNat_natCast];rfl
 exact Bg ⟨_,rfl,by congr 1;omega⟩
def repl (w:Sl Im)(i k:Nat)(y:Sl Im):Sl Im:=((w.take i).app y).app (w.drop (i+k))
abbrev vW (s:Sl Im):Prop:=∀j,j<s.n->vS (s.g j)
def Zb {s t:Sl Im}(h:vW s)(h' : vW t):vW (s.app t):=fun j a=>by
 have a:j<s.n+t.n:=a;show vS (if j<s.n then s.g j else t.g (j-s.n));split
 .exact h j (by assumption)
 exact h' _ (by omega)
def An0 {s:Sl Im}(h:vW s)(k:Nat):vW (s.drop k):=fun j a=>h _ (by have a:j<s.n-k:=a;omega)
def An1 {s:Sl Im}(h:vW s){k:Nat}(hk:k<=s.n):vW (s.take k):=fun j a=>h _ (by have a:j<k:=a;omega)
def AG6 (a:1000<=N){l:Law}(b:AZ8 l){w:Sl Im}(hw:vW w){i:Nat}(d:i+l.If.n<=w.n) :∃s,DV N l (w.sub i (i+l.If.n))=some s/\s.n=l.Out.n/\vW s:=
 AP0 a b (cut:=w.sub i (i+l.If.n)) (by show i+l.If.n-i=_;omega) fun j c=>(hw (i+j) (by have:j<i+l.If.n-i:=c;omega)).ok
def cat3 (a b c:Sl Im):AG4 (Sl.of [a,b,c]:Sl (Sl Im)) 3=(a.app b).app c:=by show ((Il.app a).app b).app c=_;rw[app0 (s:=Il) rfl]
def An2 (d:1000<=N){a b c:Sl Im}(ha:a.n<=3000000)(hb:b.n<=3000000)(hc:c.n<=3000000):B0 N (Sl.of [a,b,c]:Sl (Sl Im))=some ((a.app b).app c):=by
 have h:=XS (N:=N) (s:=(Sl.of [a,b,c]:Sl (Sl Im))) (by show 3<1000;omega) d fun i f=>by
  match i,f with
  |0,_=>exact ha
  |1,_=>exact hb
  |2,_=>exact hc
 rw[h];exact congrArg some (cat3 a b c)
def RE (a:1000<=N){l:Law}(b:AZ8 l){w:Sl Im}(c:w.n<1000)(hw:vW w){i:Nat}(d:i+l.If.n<=w.n) :∃s,T7 N l w (i:Int)=some s/\s.n=w.n-l.If.n+l.Out.n/\vW s:=by
 obtain⟨y,h1,g,f⟩:=AG6 a b hw d;have j:=b.1;refine⟨repl w i l.If.n y,?_,by show i+y.n+(w.n-(i+l.If.n))=_;omega,Zb (Zb (An1 hw (by omega)) f) (An0 hw _)⟩;unfold T7;rw[QF (by omega),Cb,Int.toNat_natCast,Int.toNat_natCast,h1,Option.bind_some,Cb,
  An2 a (by show i<=_;omega) (by omega) (by show w.n-(i+l.If.n)<=_;omega)]
 rfl
abbrev Zc:=List (Int×Sl Im)
def vL (L:Zc):Prop:=∀x∈L,vW x.2
def VT:vL []:=fun x hx=>Er hx (by simp)
def XT {x:Int×Sl Im}{L:Zc}(h:vW x.2)(hL:vL L):vL (x::L):=fun y hy=>by
 rcases Bf3.1 hy with rfl|hy
 .exact h
 exact hL y hy
def An3 (N:Nat)(l:Law)(a:Sl Im->Int->Option Zc)(x5:Sl Im)(x6:Int):Option Zc:= if (decide ((wrap .i64 (x6+(l.If.n:Int)))<=(x5.n:Int))) then (DW N l x5 x6).bind fun c=>if (!c) then a x5 (wrap .i64 (x6+1)) else (T7 N l x5 x6).bind fun b=>Af (x6,b) (if ((l.If.n:Int)==0) then a b (wrap .i64 ((wrap .i64 (x6+(l.Out.n:Int)))+1)) else a b (wrap .i64 (x6+(l.Out.n:Int)))) else some []
def AB2 (g:3000<=N){l:Law}(o:lawF l):∀(m:Nat) (w:Sl Im) (i:Nat),w.n<=100->vW w->i<=200->w.n+1<=i+m->∀M,m<M->∃L,BD M (An3 N l) w i=some L/\vL L/\L.length<=m:=by
 obtain⟨hl,_,_,hk,d,q,_,_⟩:=o;have v:=d.1;intro m
 induction m with
 |zero=>intro w i hn a r hm M t;obtain⟨M,rfl⟩:∃K,M=K+1:=⟨M-1,by omega⟩;rw[CG,An3,QF (by omega),Cg];exact⟨[],rfl,VT,Bd8 _⟩
 |succ m ih=>
  intro w i hn a r hm M t;obtain⟨M,rfl⟩:∃K,M=K+1:=⟨M-1,by omega⟩;rw[CG,An3,QF (by omega)];by_cases hle:i+l.If.n<=w.n
  case neg=>rw[Cg];exact⟨[],rfl,VT,by simp⟩
  obtain⟨b,e1,h1⟩:=AG2 g hl hk (w:=w) ⟨by omega,fun j u=>(a j u).ok⟩ i (by omega);rw[Ce,e1,Option.bind_some];cases b
  .rw[Dn nf,Bm];obtain⟨L,g1,g2,g3⟩:=ih w (i+1) hn a (by omega) (by omega) M (by omega);exact⟨L,g1,g2,by omega⟩
  have f:=(h1 rfl).2.1;obtain⟨s,r1,r2,r3⟩:=RE (N:=N) (by omega) d (by omega) a hle;rw[Ej (by simp),r1,Option.bind_some,QF (by omega),Bm];obtain⟨L,g1,g2,g3⟩:=ih s (if l.If.n=0 then i+l.Out.n+1 else i+l.Out.n) (by omega) r3 (by split<;>omega) (by split<;>omega) M (by omega);refine⟨((i:Int),s)::L,?_,XT r3 g2,by simp;omega⟩;by_cases c:l.If.n=0
  .rw[Dn c]at g1;rw[Dn (by simp[c]),g1];rfl
  rw[Ej c]at g1;rw[Ej (by simp[c]),g1];rfl
def AP1 (N:Nat)(l:Law)(a:Sl Im->Int->Option Zc)(x7:Sl Im)(x8:Int):Option Zc:= if (decide (0<=x8)) then (DW N l x7 x8).bind fun c=>if (!c) then a x7 (wrap .i64 (x8-1)) else (T7 N l x7 x8).bind fun b=>Af (x8,b) (a b (wrap .i64 (x8-(if (l.If.n:Int)<1 then 1 else (l.If.n:Int))))) else some []
def AP2 (q:3000<=N){l:Law}(r:lawF l):∀(m:Nat) (w:Sl Im) (i:Int),w.n<=100->vW w -> -100<=i->i+1<=m->m<=200->∀M,m<M->∃L,BD M (AP1 N l) w i=some L/\vL L/\L.length<=m:=by
 obtain⟨hl,_,_,hk,f,t,_,_⟩:=r;have y:=f.1;intro m
 induction m with
 |zero=>intro w i hn a u hm c M v;obtain⟨M,rfl⟩:∃K,M=K+1:=⟨M-1,by omega⟩;rw[CG,AP1,Cg];exact⟨[],rfl,VT,Bd8 _⟩
 |succ m ih=>
  intro w i hn a u hm c M v;obtain⟨M,rfl⟩:∃K,M=K+1:=⟨M-1,by omega⟩;rw[CG,AP1];by_cases hle:0<=i
  case neg=>rw[Cg];exact⟨[],rfl,VT,by simp⟩
  obtain⟨k,rfl⟩:∃k:Nat,i=(k:Int):=⟨i.toNat,by omega⟩;obtain⟨b,e1,h1⟩:=AG2 q hl hk (w:=w) ⟨by omega,fun j x=>(a j x).ok⟩ k (by omega);rw[Dn (by simp),e1,Option.bind_some];cases b
  .rw[Dn nf,D9 (by omega) (by omega)];obtain⟨L,g1,g2,g3⟩:=ih w ((k:Int)-1) hn a (by omega) (by omega) (by omega) M (by omega);exact⟨L,g1,g2,by omega⟩
  obtain⟨hle,d⟩:=h1 rfl;have g:=d.1;obtain⟨s,r1,r2,r3⟩:=RE (N:=N) (by omega) f (by omega) a hle;rw[Ej (by simp),r1,Option.bind_some];obtain⟨L,g1,g2,g3⟩:=ih s (if l.If.n=0 then (k:Int)-1 else (k:Int)-l.If.n) (by omega) r3 (by split<;>omega) (by split<;>omega) (by omega) M (by omega);refine⟨((k:Int),s)::L,?_,XT r3 g2,by simp;omega⟩;by_cases o:l.If.n=0
  .rw[Dn o]at g1;rw[Cb,D9 (by omega) (by omega),g1];rfl
  rw[Ej o]at g1;rw[Ej (by omega),D9 (by omega) (by omega),g1];rfl
end Go.AM
namespace Go.AM
open IntKind (wrap)
open Go.Proofs
abbrev AllS:=Sl Im×Int×Int
def Ab9 (N:Nat)(l:Law)(q0:Sl Im)(a:AllS->Option Zc)(x1:Int)(z1:AllS):Option Zc:= if (decide (x1<z1.2.1)) then a (z1.1,z1.2.1,z1.2.2) else if (((0:Int)<=(wrap .i64 (x1+z1.2.2))/\(wrap .i64 (x1+z1.2.2))<=(z1.1.n:Int))/\((0:Int)<=x1/\x1<=(wrap .i64 (x1+(l.If.n:Int)))/\(wrap .i64 (x1+(l.If.n:Int)))<=(q0.n:Int)))then (DV N l (q0.sub x1.toNat (wrap .i64 (x1+(l.If.n:Int))).toNat)).bind fun y6=>if ((0:Int)<=(wrap .i64 (x1+(l.If.n:Int)))/\(wrap .i64 (x1+(l.If.n:Int)))<=(q0.n:Int))then (B0 N (Sl.of [z1.1.take (wrap .i64 (x1+z1.2.2)).toNat,y6,q0.drop (wrap .i64 (x1+(l.If.n:Int))).toNat]:Sl (Sl Im))).bind fun y7=>Af (x1,y7) (a (y7,wrap .i64 (x1+(if (l.If.n:Int)<1 then 1 else (l.If.n:Int))),wrap .i64 ((wrap .i64 (z1.2.2+(l.Out.n:Int)))-(l.If.n:Int)))) else none else none
def An4 {N:Nat}(f:3000<=N){l:Law}(a:AZ8 l)(hk:l.If.n<=4){w:Sl Im}(b:vW w):∀(L:List Int) (i:Nat) (acc:Sl Im) (next sh:Int),hitL l w i L->i<=33->vW acc->(acc.n:Int)=w.n+sh->0<=next->0<=next+sh->sh<=6*i ->
 ∃R,U1 L (Ab9 N l w) (fun _=>some []) (acc,next,sh)=some R/\vL R/\R.length<=L.length
 |[],i,acc,next,sh,_,_,_,_,_,_,_=>⟨[],rfl,VT,Bd8 _⟩
 |t::L,i,acc,next,sh,⟨j,et,h2,h3,h4,h5⟩,hi,ha,hn,h0,hs,h6=>by
  subst et;have m:=h4.1;have o:=a.1;show ∃R,Ab9 N l w (U1 L (Ab9 N l w) fun _=>some []) (j:Int) (acc,next,sh)=some R/\_;unfold Ab9;by_cases g:(j:Int)<next
  .obtain⟨R,r1,r2,r3⟩:=An4 f a hk b L (j+1) acc next sh h5 (by omega) ha hn h0 hs (by omega)
   exact ifT (by simpa using g) ⟨R,r1,r2,by simp;omega⟩
  obtain⟨y,p1,p3,p4⟩:=AG6 (N:=N) (by omega) a b h3;obtain⟨k,ek⟩:∃k:Nat,(j:Int)+sh=(k:Int):=⟨((j:Int)+sh).toNat,by omega⟩;have es:wrap .i64 ((j:Int)+sh)=(k:Int):=by rw[D9 (by omega) (by omega),ek]
  simp only[es];rw[QF (by omega)];simp only[Int.toNat_natCast];refine ifF (by simpa using g) (Ab (B7 p1 (Ab ?_)));refine B7 (An2 (by omega) (by show k<=_;omega) (by omega) (by show w.n-(j+l.If.n)<=_;omega)) ?_;have c:vW (((acc.take k).app y).app (w.drop (j+l.If.n))):=Zb (Zb (An1 ha (by omega)) p4) (An0 b _);have d:(((acc.take k).app y).app (w.drop (j+l.If.n))).n=k+y.n+(w.n-(j+l.If.n)):=rfl;generalize ((acc.take k).app y).app (w.drop (j+l.If.n))=z at c d;have en:wrap .i64 ((j:Int)+(if (l.If.n:Int)<1 then 1 else (l.If.n:Int)))=(j:Int)+(if (l.If.n:Int)<1 then 1 else (l.If.n:Int)):=D9 (by split<;>omega) (by split<;>omega);have eh:wrap .i64 ((wrap .i64 (sh+(l.Out.n:Int)))-(l.If.n:Int))=sh+l.Out.n-l.If.n:=by rw[D9 (n:=sh+(l.Out.n:Int)) (by omega) (by omega),D9 (by omega) (by omega)]
  rw[en,eh];obtain⟨R,r1,r2,r3⟩:=An4 f a hk b L (j+1) z ((j:Int)+(if (l.If.n:Int)<1 then 1 else (l.If.n:Int))) (sh+l.Out.n-l.If.n) h5 (by omega) c (by omega) (by split<;>omega) (by split<;>omega) (by omega);exact⟨((j:Int),z)::R,by show Af _ (U1 L (Ab9 N l w) (fun _=>some []) _)=_;rw[r1];rfl,XT c r2,by simp;omega⟩
abbrev DocS:=(Sl Int)×(Sl (Sl Im))×Int
def VU:∀(L:Zc) (x:Sl Int) (y:Sl (Sl Im)),x.n+L.length<=100000->y.n+L.length<=100000->vL L->(∀i,i<y.n->wOk (y.g i)) ->
 ∃r,U1 L (fun (a:Sl Int×Sl (Sl Im)->Option DocS) (x1:Int×(Sl Im)) (z1:(Sl Int)×(Sl (Sl Im)))=>
  if (decide (32<(x1.2.n:Int))) then
   some (Ii,(Sl.nil:Sl (Sl Im)),11)
  else
   if ((z1.1.n+(Sl.of [x1.1]:Sl Int).n)*8<=140737488355328/\z1.1.n+(Sl.of [x1.1]:Sl Int).n<=140737488355328)then
    if ((z1.2.n+(Sl.of [x1.2]:Sl (Sl Im)).n)*24<=140737488355328/\z1.2.n+(Sl.of [x1.2]:Sl (Sl Im)).n<=140737488355328)then
     a (z1.1.push x1.1,z1.2.push x1.2)
    else none
   else none
  ) (fun (z1:(Sl Int)×(Sl (Sl Im)))=>
   some (z1.1,z1.2,0)
  ) (x,y)=some r/\(r.2.2=11 \/ (r.2.2=0/\r.2.1.n<=100000/\∀i,i<r.2.1.n->wOk (r.2.1.g i)))
 |[],x,y,_,hy,_,h=>⟨_,rfl,.inr ⟨rfl,hy,h⟩⟩
 |(p,v)::L,x,y,hx,hy,hL,h=>by
  simp only[Bf9]at hx hy;by_cases b:32<v.n
  .exact⟨_,Dn (decide_eq_true (show (32:Int)<(v.n:Int) by omega)),.inl rfl⟩
  obtain⟨r,r1,r2⟩:=VU L (x.push p) (y.push v) (by show x.n+1+_<=_;omega) (by show y.n+1+_<=_;omega) (fun z c=>hL z (Be5 _ c)) fun i d=>by
   show wOk (if i<y.n then y.g i else v);split
   .exact h i (by assumption)
   exact⟨by omega,hL (p,v) (by simp)⟩
  refine⟨r,?_,r2⟩;rw[U1,Cg,Dn (by show (x.n+1)*8<=_/\x.n+1<=_;omega),Dn (by show (y.n+1)*24<=_/\y.n+1<=_;omega)];exact r1
def hitL.len {l:Law}{w:Sl Im}:∀{L:List Int}{i:Nat},hitL l w i L->L.length<=w.n+1-i
 |[],i,_=>Bl6 _
 |t::L,i,⟨j,_,h2,h3,_,h5⟩=>by have:=hitL.len h5;simp;omega
def vOk {w:Sl Im}(h:wOk w):okW w:=⟨by have:=h.1;omega,fun i a=>(h.2 i a).ok⟩
def AB3 (N:Nat)(l:Law):Prop:=Nq l/\chkAll N l
def AB4 {N:Nat}(o:3000000<=N){l:Law}(hl:AB3 N l){w:Sl Im}(a:wOk w) :∃r,Fj N l w=some r/\(r.2.2=11 \/ (r.2.2=0/\r.2.1.n<=100000/\∀i,i<r.2.1.n->wOk (r.2.1.g i))):=by
 obtain⟨e,e1,q⟩:=IP o hl.1;obtain⟨e',e3,b⟩:=Lu (N:=N) (by omega) fun i c=>(a.2 i c).ok;obtain rfl:e=0:=q.elim (·.1) fun h=>Er hl.2 h.2;obtain rfl:=(Lt b).2 a;obtain⟨d,_,_,hk,s,t,u,v⟩:=id (hl.2.f hl.1);have j:=hl.2.f hl.1;have hn:=a.1;have key:∃L,Dt N w l (l.If.n:Int) (l.Out.n:Int)=some L/\vL L/\L.length<=100:=by
  unfold Dt;by_cases c1:l.Mode=1
  .refine ifT (by simp[c1]) ?_;obtain⟨H,h1,m⟩:=Am7 (N:=N) (by omega) d hk (vOk a) 0 (by omega);obtain⟨R,r1,r2,r3⟩:=An4 (N:=N) (by omega) s hk a.2 H 0 w 0 0 m (by omega) a.2 (by omega) (by omega) (by omega) (by omega)
   have:=m.len
   show ∃R,(Ay N l w ((0:Nat):Int)).bind (fun L1=>U1 L1 (Ab9 N l w) (fun _=>some []) (w,0,0))=some R/\_;exact B7 h1 ⟨R,r1,r2,by omega⟩
  refine ifF (by simp[c1]) ?_;by_cases c2:l.Mode=2
  .obtain⟨L,g1,g2,g3⟩:=AB2 (N:=N) (by omega) j (w.n+1) w 0 (by omega) a.2 (by omega) (by omega) N (by omega);exact ifT (by simp[c2]) ⟨L,g1,g2,by omega⟩
  obtain⟨L,g1,g2,g3⟩:=AP2 (N:=N) (by omega) j (w.n+1) w ((w.n:Int)-(l.If.n:Int)) (by omega) a.2 (by omega) (by omega) (by omega) N (by omega);refine ifF (by simp[c2]) (Ag ⟨L,?_,g2,by omega⟩);rw[D9 (by omega) (by omega)];exact g1
 obtain⟨L,g1,g2,g3⟩:=key;have hc:Fi N l w=some 0:=by unfold Fi;rw[e1,Option.bind_some,Ej (by decide),e3];try rfl
 unfold Fj;rw[hc,Option.bind_some,Ej (by decide),Lk,Option.bind_some];show ∃r,(Dt N w l (l.If.n:Int) (l.Out.n:Int)).bind _=some r/\_;rw[g1,Option.bind_some];exact VU L _ _ (by show 0+_<=_;omega) (by show 0+_<=_;omega) g2 fun i c=>Er c (Be6 i)
def AP3 {N:Nat}(b:3000000<=N){l:Law}(hl:AB3 N l){w:Sl Im}(hw:wOk w):∃v e,Cj N l w=some (v,e)/\(e=11 \/ (e=0/\wOk v)):=by
 obtain⟨⟨x,y,e⟩,h1,h⟩:=AB4 b hl hw;have c:=hw.1;unfold Cj;rw[h1,Option.bind_some];rcases h with h|⟨h,a,d⟩
 .obtain rfl:e=11:=h;exact⟨_,_,Dn (show ((11:Int) != 0)=true by decide),.inl rfl⟩
 obtain rfl:e=0:=h;replace a:y.n<=100000:=a;rw[Ej (show ¬((0:Int) != 0)=true by decide)];by_cases hy:y.n=0
 .rw[Ej (by simp[hy])];unfold A6;rw[Cb];exact⟨w,0,rfl,.inr ⟨rfl,hw⟩⟩
 have e1:wrap .i64 ((y.n:Int)-1)=((y.n-1:Nat):Int):=AA2 (by omega) (by omega);dsimp only;rw[e1,Int.toNat_natCast,Ce,Cb];exact⟨_,_,rfl,.inr ⟨rfl,d (y.n-1) (show y.n-1<y.n by omega)⟩⟩
end Go.AM
namespace Go.AM
variable {N:Nat}
open IntKind (wrap)
open Go.Proofs
def VV {s:Sl Law}(m:s.n<N)(hs:s.n<1000000){f:Law->Option Bool}{b:Nat->Bool}(o:∀i,i<s.n->f (s.g i)=some (b i)) :∃r,D4 N s f=some r/\(r=true ↔ ∃i,i<s.n/\b i=true):=by
 unfold D4 F9
 have:∃y,Y1 N (fun (a:Int->Option Int) (x1:Int)=>
  if (decide (x1<(s.n:Int))) then
   if ((0:Int)<=x1/\x1<(s.n:Int))then
    (f (s.g x1.toNat)).bind fun y3=>
    if y3 then
     some x1
    else
     a (wrap .i64 (x1+1))
   else none
  else
   some (-1)) 0=some y/\(0<=y ↔ ∃i,i<s.n/\b i=true):=by
  refine FY (fun i x1=>x1=(i:Int)/\∀j,j<i->b j=false) s.n _ m ⟨rfl,fun j c=>Er c (by omega)⟩ ?_;rintro l i x1 q ⟨rfl,h⟩ d;by_cases hl:i<s.n
  .refine Ag (Ab (B7 (by rw[Int.toNat_natCast];exact o i hl) ?_));cases hb:b i
   .refine Bh (d hl _ ⟨Bm,fun j c=>?_⟩);by_cases e:j=i
    .subst e;exact hb
    exact h j (by omega)
   exact ifT rfl ⟨i,rfl,fun _=>⟨i,hl,hb⟩,fun _=>by omega⟩
  refine Bg ⟨-1,rfl,fun h=>Er h (by decide),?_⟩;rintro⟨j,c,hb⟩;rw[h j (by omega)]at hb;cases hb
 obtain⟨y,e,hy⟩:=this;exact B7 e ⟨_,rfl,by rw[Ev];exact hy⟩
def An5 (N:Nat)(laws:Sl Law):Prop:=laws.n<=64/\∀i,i<laws.n->chkAll N (laws.g i)
def CA (laws:Sl Law):Prop:=∀i,i<laws.n->Nq (laws.g i)
def An6 (d:3000000<=N){laws:Sl Law}(hl:CA laws):∃e,BR N laws=some e/\(e=0->An5 N laws):=by
 unfold BR;by_cases hn:64<laws.n
 .exact Ag ⟨12,rfl,fun h=>by cases h⟩
 refine Bg ?_;have j:∀i,∃b,i<laws.n->T2 N (laws.g i)=some b/\(b=true ↔ ¬chkAll N (laws.g i)):=by
  intro i;by_cases a:i<laws.n
  .obtain⟨e,e1,l⟩:=IP d (hl i a);refine⟨e != 0,fun _=>⟨by unfold T2;rw[e1];rfl,?_⟩⟩;rcases l with⟨rfl,h⟩ | ⟨rfl,h⟩
   .exact⟨fun h=>Er h (by decide),fun g=>Er h g⟩
   exact⟨fun _=>h,fun _=>by decide⟩
  exact⟨false,fun h=>Er h a⟩
 obtain⟨f,c⟩:=Bn5 j;obtain⟨r,e1,h1⟩:=VV (N:=N) (s:=laws) (by omega) (by omega) (f:=fun u1=>T2 N u1) (fun i a=>(c i a).1);refine B7 e1 ?_;cases m:r
 .refine Bh ⟨0,rfl,fun _=>⟨by omega,fun i a=>Bh0 fun hn=>?_⟩⟩
  have:=h1.2 ⟨i,a,(c i a).2.2 hn⟩
  rw[m]at this;cases this
 exact ifT rfl ⟨17,rfl,fun h=>by cases h⟩
def Ac0 (c:3000000<=N){laws:Sl Law}(hl:CA laws){w:Sl Im}(hw:∀i,i<w.n->okS (w.g i)) :∃e,BS N laws (Sl.of [w]:Sl (Sl Im))=some e/\(e=0->An5 N laws/\wOk w):=by
 unfold BS;obtain⟨e,e1,h1⟩:=An6 c hl;refine B7 e1 ?_;by_cases a:e=0
 case neg=>exact ifT (by simpa using a) ⟨e,rfl,fun h=>Er h a⟩
 refine ifF (by simp[a]) (ifF (by show ¬decide ((256:Int)<((1:Nat):Int))=true;decide) ?_);refine FY (fun i x1=>x1=(i:Int)/\(0<i->wOk w)) 1 _ (by omega) ⟨rfl,fun h=>Er h (by omega)⟩ ?_;rintro b i x1 j ⟨rfl,h⟩ hs;by_cases d:i<1
 .obtain rfl:i=0:=by omega
  obtain⟨e,e1,f⟩:=Lu (N:=N) (by omega) hw;refine ifT (by show decide (((0:Nat):Int)<((1:Nat):Int))=true;decide) (ifT (by show (0:Int)<=((0:Nat):Int)/\((0:Nat):Int)<((1:Nat):Int);omega) (B7 e1 ?_));by_cases a:e=0
  .exact ifF (by simp[a]) (hs (by omega) _ ⟨rfl,fun _=>(Lt f).1 a⟩)
  exact ifT (by simpa using a) ⟨e,rfl,fun h=>Er h a⟩
 exact ifF (by show ¬decide ((i:Int)<((1:Nat):Int))=true;simp;omega) ⟨0,rfl,fun _=>⟨h1 a,h (by omega)⟩⟩
def MS (N:Nat)(c:Int)(q1:Sl Law)(a:Sl Im->Int->Option Zc)(x1:Sl Im)(x2:Int):Option Zc:= if (decide (x2<(q1.n:Int))) then if ((0:Int)<=x2/\x2<(q1.n:Int))then (Cj N (q1.g x2.toNat) x1).bind fun y4=>if (y4.2 != 0) then if y4.2=c then some []else none else Af (wrap .i64 (x2+1),y4.1) (a y4.1 (wrap .i64 (x2+1))) else none else if c=0 then some []else none
def PD {c:Int}{laws:Sl Law}{a:Sl Im->Int->Option Zc}{w:Sl Im}{i:Nat}(d:i<laws.n)(b:laws.n<=64){y:Sl Im×Int}(h:Cj N (laws.g i) w=some y) :MS N c laws a w (i:Int)=if (y.2 != 0) then (if y.2=c then some []else none)else Af (((i+1:Nat):Int),y.1) (a y.1 ((i+1:Nat):Int)):=by unfold MS;rw[Dn (show decide ((i:Int)<(laws.n:Int))=true by simp;omega),Cb,Int.toNat_natCast,h,Option.bind_some,Bm]
def An7:Sl Im->Zc->Sl Im
 |w,[]=>w
 |_,(_,v)::L=>An7 v L
def TB:∀(L:Zc) (w:Sl Im),U1 L (fun (a:Sl Im->Option (Sl Im)) (x1:Int×(Sl Im)) (z1:Sl Im)=>a x1.2) (fun (z1:Sl Im)=>some z1) w=some (An7 w L)
 |[],w=>rfl
 |(p,v)::L,w=>TB L v
def An8 (d:3000000<=N){laws:Sl Law}(hl:CA laws)(b:An5 N laws):∀(m i:Nat) (w:Sl Im),wOk w->i<=laws.n->laws.n<=i+m->∀M,m<M ->
 (∃L,BD M (MS N 0 laws) w i=some L/\wOk (An7 w L)) \/ (∃L,BD M (MS N 0 laws) w i=none/\BD M (MS N 11 laws) w i=some L):=by
 have c:=b.1;intro m
 induction m with
 |zero=>intro i w hw f hm M g;obtain⟨M,rfl⟩:∃K,M=K+1:=⟨M-1,by omega⟩;exact .inl ⟨[],by rw[CG,MS,Cg,Dn rfl],hw⟩
 |succ m ih=>
  intro i w hw f hm M g;obtain⟨M,rfl⟩:∃K,M=K+1:=⟨M-1,by omega⟩;by_cases a:i<laws.n
  case neg=>exact .inl ⟨[],by rw[CG,MS,Cg,Dn rfl],hw⟩
  obtain⟨v,e,g1,g2⟩:=AP3 d ⟨hl i a,b.2 i a⟩ hw;rw[CG,CG,PD a c g1,PD a c g1];rcases g2 with rfl|⟨rfl,g2⟩
  .exact .inr ⟨[],rfl,rfl⟩
  rw[Ej (by simp),Ej (by simp)];rcases ih (i+1) v g2 (by omega) (by omega) M (by omega)with⟨L,a1,a2⟩ | ⟨L,a1,a2⟩
  .exact .inl ⟨((i+1:Nat),v)::L,by dsimp only;rw[a1];rfl,a2⟩
  exact .inr ⟨((i+1:Nat),v)::L,by dsimp only;rw[a1];rfl,by dsimp only;rw[a2];rfl⟩
def PE (l:3000000<=N){laws:Sl Law}(hl:CA laws){w:Sl Im}(hw:∀i,i<w.n->okS (w.g i)):∃r,S7 N laws w=some r/\(r.2=0->wOk r.1):=by
 obtain⟨e,e1,m⟩:=Ac0 l hl hw;unfold S7;rw[e1,Option.bind_some];by_cases j:e=0
 case neg=>exact⟨_,Dn (by simpa using j),fun h=>Er h j⟩
 rw[Ej (by simp[j])];obtain⟨d,f⟩:=m j;have o:=d.1;have q:=f.1;have b:∀c,K4 N c laws w=(Af (0,w) (BD N (MS N c laws) w ((0:Nat):Int))).bind fun L1=>U1 L1 (fun (a:Sl Im->Option (Sl Im)) (x1:Int×(Sl Im)) (z1:Sl Im)=>a x1.2) (fun (z1:Sl Im)=>some z1) Il:=by intro c;unfold K4 DJ BX A6;rw[Option.bind_some,Dn (by dsimp only;omega),Option.bind_some];rfl
 unfold BY;rw[b,b];rcases An8 l hl d laws.n 0 w f (by omega) (by omega) N (by omega)with⟨L,g1,g2⟩ | ⟨L,g1,g2⟩
 .rw[g1]
  have:(Af (0,w) (some L)).bind (fun L1=>U1 L1 (fun (a:Sl Im->Option (Sl Im)) (x1:Int×(Sl Im)) (z1:Sl Im)=>a x1.2) (fun (z1:Sl Im)=>some z1) Il)=some (An7 w L):=TB _ _
  rw[this];exact⟨_,rfl,fun _=>g2⟩
 rw[g1,g2]
 have:(Af (0,w) (some L)).bind (fun L1=>U1 L1 (fun (a:Sl Im->Option (Sl Im)) (x1:Int×(Sl Im)) (z1:Sl Im)=>a x1.2) (fun (z1:Sl Im)=>some z1) Il)=some (An7 w L):=TB _ _
 rw[this];exact⟨_,rfl,fun h=>by cases h⟩
end Go.AM
namespace Go.AM
open Go.Proofs
def AP4 {α : Type}(s:Sl α)(a : α):(s.push a).toList=s.toList++[a]:=by
 show (List.range (s.n+1)).map (fun i=>if i<s.n then s.g i else a)=_;rw[Bo1,Bt3];congr 1
 .exact Bg2 fun i b=>Dn (Bj5.1 b)
 simp
def AZ9 {α : Type}(s:Sl α):s.toList.length=s.n:=by simp[Sl.toList]
def AG7 {N:Nat}{x y:Sl Im}(d:x.n<N)(hs:x.n<10000000):∃b,Ar N x y=some b:=by
 have h:∃b,E5 N x y=some b/\True:=by
  unfold E5;by_cases hn:x.n=y.n
  case neg=>exact Ag ⟨false,rfl,trivial⟩
  refine ifF (by simp[hn]) ?_;refine FY (fun i x1=>x1=(i:Int)) x.n _ d rfl ?_;rintro c i x1 f rfl a;by_cases hl:i<x.n
  .refine Ag (Ab ?_);split
   .exact⟨false,rfl,trivial⟩
   exact a hl _ (Bm)
  exact Bg ⟨true,rfl,trivial⟩
 obtain⟨b,h,_⟩:=h;exact⟨b,by unfold Ar;rw[h];rfl⟩
abbrev okA (w:Sl Im):Prop:=∀i,i<w.n->okS (w.g i)
end Go.AM
namespace Go.AM
variable {N:Nat}
open IntKind (wrap)
open Go.Proofs
abbrev Ba0 (y:Int):Bool:=((((decide (97<=y))&&(decide (y<=122)))||((decide (65<=y))&&(decide (y<=90))))||((decide (48<=y))&&(decide (y<=57))))||(y==45)
def Nr (s:Str):Bool:=(decide (1<=s.length)&&decide (s.length<=24))&&s.all fun c=>Ba0 ((c.toNat:Nat):Int)
def An9 {α : Type}{o:Option α}{a : α}(h:∃r,o=some r/\r=a):o=some a:=by obtain⟨r,h,rfl⟩:=h;exact h
def Ao0 (l:1000<=N){s:Str}(hb:Nr s=true){let_:Int->Option Bool}(hl:∀y,let_ y=some (Ba0 y)){fin:Bool}(f:1<=s.length->s.length<=24->fin=true) :Y1 N (fun (a:Int->Option Bool) (x1:Int)=>
  if (decide (x1<(s.length:Int))) then
   if ((0:Int)<=x1/\x1<(s.length:Int))then
    (let_ (HS s x1)).bind fun y3=>
    if (!y3) then
     some false
    else
     a (wrap .i64 (x1+1))
   else none
  else
   some fin
 ) 0=some true:=by
 unfold Nr at hb;rw[Bd3,Bd3,Ev,Ev,Be0]at hb;obtain⟨⟨h1,g⟩,j⟩:=hb;refine An9 (FY (fun i x1=>x1=(i:Int)) s.length _ (by omega) rfl ?_);rintro d i x1 m rfl c;by_cases b:i<s.length
 .have eb:HS s (i:Int)=((s[i].toNat:Nat):Int):=by simp[HS,b]
  refine Ag (Ab (B7 (hl _) ?_));rw[eb,j s[i] (Bp8 b)];exact Bh (c b _ (Bm))
 exact Bg ⟨_,rfl,f h1 g⟩
def Ao1 (a:1000<=N){s:Str}(hb:Nr s=true):DX N s=some true:=by unfold DX;exact Ao0 a hb (fun y=>rfl) fun _ _=>by simp;omega
def AB5 (a:1000<=N){s:Str}(hb:Nr s=true):EH N s=some true:=by unfold EH;exact Ao0 a hb (fun y=>rfl) fun _ _=>by simp;omega
def Ba1 (t:Sl Node)(v:Nat):Prop:=(v=0->(t.g 0).Parent = -1)/\(0<v->0<=(t.g v).Parent/\(t.g v).Parent<v)/\Nr (t.g v).Name=true/\∀u,u<v->(t.g u).Name≠(t.g v).Name
def Fv (t:Sl Node):Prop:=1<=t.n/\t.n<=63/\∀v,v<t.n->Ba1 t v
def Mb {ν : Type}{k s:Str}{v : ν}:∀es:List (Str × ν),T0 eqS s (Eh eqS k v es)=if s=k then some v else T0 eqS s es
 |[]=>by simp only[Eh,T0];by_cases h:s=k<;>simp[eqS,h]
 |(a,x)::es=>by
  simp only[Eh];by_cases h:k=a
  .subst h;rw[Dn (by simp[eqS])];simp only[T0];by_cases b:s=k<;>simp[eqS,b]
  rw[Ej (by simp[eqS,h])];simp only[T0];rw[Mb es];by_cases b:s=k
  .subst b;simp[eqS,h]
  simp[b]
def AB6 (q:3000000<=N){t:Sl Node}(ht:Fv t):Du N t=some 0:=by
 obtain⟨s,o,hk⟩:=ht;unfold Du;refine An9 (ifT (fun _ _=>by omega) (ifF (by simp[(hk 0 (by omega)).1 rfl];omega) ?_));refine FY (fun i x1=>x1=(i:Int)) t.n _ (by omega) rfl ?_;rintro c i x1 u rfl hs;by_cases d:i<t.n
 case neg=>exact Bg ⟨0,rfl,rfl⟩
 obtain⟨k1,k2,k3,k4⟩:=hk i d;have a:=AB5 (N:=N) (by omega) k3;refine Ag (ltX ?_);dsimp only;rw[Int.toNat_natCast,a];have rest:∃r,(if (false:Bool) then some 16 else
  Y1 N (fun (b:Int->Option Int) (x7:Int)=>
   if (decide (x7<(i:Int))) then
    if (((0:Int)<=x7/\x7<(t.n:Int))/\((0:Int)<=(i:Int)/\(i:Int)<(t.n:Int)))then
     if (((t.g x7.toNat).Name==(t.g i).Name) != false) then
      some 16
     else
      b (wrap .i64 (x7+1))
    else none
   else
    c (wrap .i64 ((i:Int)+1))
   ) 0)=some r/\r=0:=by
  refine Bh ?_;refine FY (fun k x7=>x7=(k:Int)) i _ (by omega) rfl ?_;rintro l k x7 hk rfl m;by_cases f:k<i
  .refine Ag (Ab ?_);rw[Int.toNat_natCast];exact ifF (by simp[k4 k f]) (m f _ (Bm))
  exact Bg (hs d _ (Bm))
 by_cases j:0<i
 .have:=k2 j
  exact Ag (Ab (Bg (Ab (Bg (Ab (B7 rfl rest))))))
 exact Bg (Ab (B7 rfl rest))
def NE (d:3000000<=N){t:Sl Node}(ht:Fv t):W7 N t=some 0:=by
 obtain⟨f,c,hk⟩:=ht;unfold W7;refine An9 (Bg ?_);refine X9 (fun i (x2:List (Str×Bool)) x3=>x3=(i:Int)/\∀s,(∀u,u<i->(t.g u).Name≠s)->T0 eqS s x2=none) t.n _ (by omega) ⟨rfl,fun s _=>rfl⟩ ?_;rintro b i x2 x3 j ⟨rfl,hm⟩ hs;by_cases a:i<t.n
 case neg=>exact Bg ⟨0,rfl,rfl⟩
 obtain⟨k1,k2,k3,k4⟩:=hk i a;have e1:(if 0<wrap .i64 ((i:Int)-1)then (0:Int)else wrap .i64 ((i:Int)-1))=if i=0 then -1 else 0:=by rw[D9 (by omega) (by omega)];split<;>split<;>omega
 refine Ag (Ab (ltX ?_));dsimp only;rw[Int.toNat_natCast,e1,Ao1 (N:=N) (by omega) k3,hm _ k4];have hp:(t.g i).Parent<i/\(if i=0 then -1 else 0)<=(t.g i).Parent:=by
  by_cases e:i=0
  .subst e;have:=k1 rfl;rw[Dn rfl];omega
  have:=k2 (by omega);rw[Ej e];omega
 refine Bg (Bg (B7 rfl (Bh ?_)));rw[CH];refine Bh (hs a _ _ ⟨Bm,fun s h=>?_⟩);rw[Mb,Ej fun e=>h i (by omega) e.symm];exact hm s fun u l=>h u (by omega)
end Go.AM
namespace Go.AM
variable {N:Nat}
open IntKind (wrap)
open Go.Proofs
structure wkH (h:History):Prop where
 tree:Fv h.Tree
 ten:h.Tree.n<=10
 ln:h.Laws.n<=64
 laws:∀i,i<h.Laws.n->Nq (h.Laws.g i)
 on:h.On.n=h.Tree.n
 row:∀v,v<h.On.n->(h.On.g v).n<=5
 rng:∀v,v<h.On.n->∀k,k<(h.On.g v).n->0<=(h.On.g v).g k/\(h.On.g v).g k<h.Laws.n
structure okH (N:Nat) (h:History):Prop where
 tree:Fv h.Tree
 ten:h.Tree.n<=10
 ln:h.Laws.n<=64
 laws:∀i,i<h.Laws.n->AB3 N (h.Laws.g i)
 on:h.On.n=h.Tree.n
 row:∀v,v<h.On.n->(h.On.g v).n<=5
 rng:∀v,v<h.On.n->∀k,k<(h.On.g v).n->0<=(h.On.g v).g k/\(h.On.g v).g k<h.Laws.n
 chk:J9 N h=some 0
def IF {t:Sl Node}(ht:Fv t){v:Nat}(a:v<t.n):(v=0/\(t.g v).Parent = -1) \/ ∃p:Nat,p<v/\(t.g v).Parent=(p:Int):=by
 have hk:=ht.2.2 v a;by_cases b:v=0
 .subst b;exact .inl ⟨rfl,hk.1 rfl⟩
 obtain⟨g1,g2⟩:=hk.2.1 (by omega);exact .inr ⟨(t.g v).Parent.toNat,by omega,by omega⟩
def AB7 (hN:3000000<=N){h:History}(f:wkH h):Az N h=some 0:=by
 have x:=f.ten;have hn:=f.on;unfold Az;refine An9 (Ab ?_);refine Al7 (fun i (x4:Sl Int) (x5:Bool) x6=>x6=(i:Int)/\x4.n=h.On.n/\(∀v,v<i->0<=x4.g v/\x4.g v<=5*(v+1))/\x5=false) h.On.n _ (by omega) ⟨rfl,by show ((h.On.n:Nat):Int).toNat=_;omega,fun v m=>Er m (by omega),rfl⟩ ?_;rintro j i x4 x5 x6 hle ⟨rfl,hx,hp,rfl⟩ hs;by_cases c:i<h.On.n
 case neg=>exact Bg (Bh ⟨0,rfl,rfl⟩)
 have w:=f.row i c;refine Ag (ifT (by rw[Int.toNat_natCast];omega) (Ab (ltX ?_)));rw[Int.toNat_natCast];have rest:∀z:Sl Int,z.n=h.On.n->(∀v,v<i->z.g v=x4.g v)->0<=z.g i/\z.g i<=5*(i+1)->∃r,(if (((0:Int)<=(i:Int)/\(i:Int)<(z.n:Int))/\i<z.n)then
  if (decide (64<(z.g i))) then
   some 2
  else
   BD N (fun (d:Bool->Int->Option Int) (b:Bool) (a:Int)=>
    if (decide (a<((h.On.g i).n:Int))) then
     if ((0:Int)<=a/\a<((h.On.g i).n:Int))then
      d ((b||(decide (((h.On.g i).g a.toNat)<0)))||(decide ((h.Laws.n:Int)<=((h.On.g i).g a.toNat)))) (wrap .i64 (a+1))
     else none
    else
     j z b (wrap .i64 ((i:Int)+1))
    ) false 0
  else none)=some r/\r=0:=by
  intro z y o q;refine Ab (Bg ?_);refine X9 (fun k (b:Bool) a=>a=(k:Int)/\b=false) (h.On.g i).n _ (by omega) ⟨rfl,rfl⟩ ?_;rintro s k b a hk ⟨rfl,rfl⟩ t;by_cases l:k<(h.On.g i).n
  .have:=f.rng i c k l
   refine Ag (Ab (t l _ _ ⟨Bm,?_⟩));rw[Int.toNat_natCast,decide_eq_false (by omega),decide_eq_false (by omega)];rfl
  refine Bg (hs c _ _ _ ⟨Bm,y,fun v m=>?_,rfl⟩);by_cases e:v=i
  .subst e;exact q
  rw[o v (by omega)];exact hp v (by omega)
 rcases IF f.tree (v:=i) (by omega)with⟨_,e⟩ | ⟨p,u,e⟩
 .rw[e];refine Bk (rest _ hx (fun v m=>?_) ?_)
  .show (if v=i then _ else x4.g v)=_;rw[Ej (by omega)]
  show 0<=(if i=i then ((h.On.g i).n:Int)else _)/\(if i=i then ((h.On.g i).n:Int)else _)<=_;rw[Dn rfl];omega
 have a0:=hp p u;rw[e];refine Ah (ifT ?_ ?_)
 .show ((((((0:Int)<=(i:Int)/\(i:Int)<(x4.n:Int))/\i<x4.n)/\(0:Int)<=(p:Int)/\(p:Int)<(x4.n:Int))/\(p:Int).toNat<x4.n)/\(0:Int)<=(i:Int)/\(i:Int)<(x4.n:Int))/\i<x4.n;omega
 rw[Int.toNat_natCast];refine rest _ hx (fun v m=>?_) ?_
 .show (if v=i then _ else if v=i then _ else x4.g v)=_;rw[Ej (by omega),Ej (by omega)]
 have e:((x4.upd i ((h.On.g i).n:Int)).upd i (wrap .i64 (((x4.upd i ((h.On.g i).n:Int)).g i)+((x4.upd i ((h.On.g i).n:Int)).g p)))).g i=((h.On.g i).n:Int)+x4.g p:=by show (if i=i then wrap .i64 ((if i=i then ((h.On.g i).n:Int)else _)+(if p=i then _ else x4.g p))else _)=_;rw[Dn rfl,Dn rfl,Ej (by omega),D9 (by omega) (by omega)]
 rw[e];omega
def Zd {ν : Type}{k:Str}{v : ν}:∀{es:List (Str × ν)},T0 eqS k es=none->(Eh eqS k v es).length=es.length+1
 |[],_=>rfl
 |(a,x)::es,h=>by
  simp only[T0]at h;simp only[Eh];by_cases e:eqS k a=true
  .rw[Dn e]at h;cases h
  rw[Ej e]at h;rw[Ej e,Bf9,Zd h];rfl
def RF (d:3000000<=N){h:History}(c:wkH h):∃e,J9 N h=some e/\((e=0->∀i,i<h.Laws.n->chkAll N (h.Laws.g i))/\((∀i,i<h.Laws.n->chkAll N (h.Laws.g i))->(∀u v,u<v->v<h.Laws.n->(h.Laws.g u).Name≠(h.Laws.g v).Name)->e=0)):=by
 have o:=c.ln;unfold J9;refine B7 (NE d c.tree) (Bk (Bg ?_));refine X9 (fun i (x1:List (Str×Int)) x2=>x2=(i:Int)/\(∀j,j<i->chkAll N (h.Laws.g j))/\((∀u v,u<v->v<h.Laws.n->(h.Laws.g u).Name≠(h.Laws.g v).Name)->(∀s,(∀u,u<i->(h.Laws.g u).Name≠s)->T0 eqS s x1=none)/\x1.length=i)) h.Laws.n _ (by omega) ⟨rfl,fun j f=>Er f (by omega),fun _=>⟨fun s _=>rfl,rfl⟩⟩ ?_;rintro l i x1 x2 hle ⟨rfl,hc,hm⟩ hs;by_cases a:i<h.Laws.n
 .obtain⟨y,y1,hy⟩:=IP d (c.laws i a);refine Ag (Ab (B7 (by rw[Int.toNat_natCast];exact y1) ?_));rcases hy with⟨rfl,hy⟩ | ⟨rfl,hy⟩
  case inr=>exact Ap ⟨17,rfl,fun e=>(by cases e),fun g=>Er (g i a) hy⟩
  refine Bk ?_;have b : ∀j,j<i+1->chkAll N (h.Laws.g j):=fun j f=>by
   by_cases e:j=i
   .subst e;exact hy
   exact hc j (by omega)
  rw[Int.toNat_natCast];rcases g:T0 eqS (h.Laws.g i).Name x1 with _|v
  .rw[CH];refine hs a _ _ ⟨Bm,b,fun D=>⟨fun s hs=>?_,by rw[Zd g,(hm D).2]⟩⟩;rw[Mb,Ej fun e=>hs i (by omega) e.symm];exact (hm D).1 s fun u m=>hs u (by omega)
  rw[ES];exact hs a _ _ ⟨Bm,b,fun D=>by have:=(hm D).1 _ fun u m=>D u i m a;rw[g]at this;cases this⟩
 refine Bg ?_;rw[WU];have b : ∀i,i<h.Laws.n->chkAll N (h.Laws.g i):=fun j f=>hc j (by omega);by_cases hl:x1.length<h.Laws.n
 .exact Ag ⟨6,rfl,fun e=>(by cases e),fun _ D=>(by have:=(hm D).2;omega)⟩
 exact Bg (ifF (by simp[c.on]) (B7 (AB7 d c) ⟨0,rfl,fun _=>b,fun _ _=>rfl⟩))
def AG8 {h:History}(a:wkH h)(c:∀i,i<h.Laws.n->chkAll N (h.Laws.g i))(hc:J9 N h=some 0):okH N h:=⟨a.tree,a.ten,a.ln,fun i b=>⟨a.laws i b,c i b⟩,a.on,a.row,a.rng,hc⟩
end Go.AM
namespace Go.AM
variable {N:Nat}
open IntKind (wrap)
open Go.Proofs
def Ba2 {t:Sl Node}(ht:Fv t){u:Nat}(a:u<t.n) : -1<=(t.g u).Parent/\(t.g u).Parent<u:=by
 rcases IF ht a with⟨b,e⟩ | ⟨p,hp,e⟩
 .rw[e];omega
 rw[e];omega
def AG9 (o:3000000<=N){t:Sl Node}(ht:Fv t){v:Nat}(q:v<t.n):∃L,S8 N (v:Int) t=some L/\L.length<=64/\∀x∈L,∃u:Nat,x=(u:Int)/\u<t.n:=by
 have f:=ht.2.1;unfold S8;refine X9 (fun i (x1:Int) (x2:Sl Int)=>-1<=x1/\x1<t.n/\x1+i<=v/\x2.n=i/\∀j,j<x2.n->∃u:Nat,x2.g j=(u:Int)/\u<t.n) (v+1) _ (by omega) ⟨by omega,by omega,by omega,rfl,fun j b=>Er b (Be6 j)⟩ ?_;rintro c i x1 x2 r ⟨h1,s,y,z,d⟩ hs;by_cases hx:0<=x1
 .obtain⟨u,rfl⟩:∃u:Nat,x1=u:=⟨x1.toNat,by omega⟩;refine Ah (ifT ⟨by show (x2.n+1)*8<=_/\x2.n+1<=_;omega,by omega⟩ ?_);rw[Int.toNat_natCast];have hp:=Ba2 ht (u:=u) (by omega);refine hs (by omega) _ _ ⟨hp.1,by omega,by omega,by show x2.n+1=_;omega,fun j b=>?_⟩;show ∃w:Nat,(if j<x2.n then x2.g j else (u:Int))=w/\w<t.n;split
  .exact d j (by assumption)
  exact⟨u,rfl,by omega⟩
 refine Bg ?_;have hb:∀(m M:Nat),m<=x2.n->m<M->∃L,Y1 M (fun (a:Int->Option (List Int)) (x3:Int)=>
  if (decide (0<=x3)) then
   if (((0:Int)<=x3/\x3<(x2.n:Int))/\x3.toNat<x2.n)then
    Af (x2.g x3.toNat) (
     a (wrap .i64 (x3-1))
     )
   else none
  else
   some []
  ) ((m:Int)-1)=some L/\L.length<=m/\∀x∈L,∃u:Nat,x=(u:Int)/\u<t.n:=by
  intro m
  induction m with
  |zero=>intro M _ l;obtain⟨M,rfl⟩:∃K,M=K+1:=⟨M-1,by omega⟩;exact⟨[],by rw[I2,Ej (by decide)],Bd8 _,by simp⟩
  |succ m ih=>intro M hm l;obtain⟨M,rfl⟩:∃K,M=K+1:=⟨M-1,by omega⟩;obtain⟨L,l1,l2,l3⟩:=ih M (by omega) (by omega);refine⟨x2.g m::L,?_,by simp;omega,fun x hx=>(Bf3.1 hx).elim (fun e=>e ▸ d m (by omega)) (l3 x)⟩;rw[I2,show ((m+1:Nat):Int)-1=(m:Int) by omega,Dn (by simp),Cb,D9 (by omega) (by omega),l1,Int.toNat_natCast];rfl
 rw[D9 (by omega) (by omega)];obtain⟨L,l1,l2,l3⟩:=hb x2.n N (Bd8 _) (by omega);exact⟨L,l1,by omega,l3⟩
abbrev Bc7 (h:History)(s:Sl Int):Prop:=∀k,k<s.n->0<=s.g k/\s.g k<h.Laws.n
def AP5 (j:3000000<=N){h:History}(b:okH N h){v:Nat}(l:v<h.Tree.n):∃s,Z7 N h (v:Int)=some (s,0)/\s.n<=1000/\Bc7 h s:=by
 have m:=b.on;obtain⟨L,l1,l2,l3⟩:=AG9 j b.tree l;unfold Z7;rw[b.chk,Option.bind_some,Ej (by decide),U3,Option.bind_some,Cg,AZ,Option.bind_some];show ∃s,(S8 N (v:Int) h.Tree).bind _=_/\_;rw[l1,Option.bind_some];have key:∃r:Sl Int×Int,U1 L (fun (a:Sl Int->Option ((Sl Int)×Int)) (x1:Int) (z1:Sl Int)=>
  if (((0:Int)<=x1/\x1<(h.On.n:Int))/\((z1.n+(h.On.g x1.toNat).n)*8<=140737488355328/\z1.n+(h.On.g x1.toNat).n<=140737488355328))then
   a (z1.app (h.On.g x1.toNat))
  else none
  ) (fun (z1:Sl Int)=>
   some (z1,0)
  ) Ii=some r/\(r.2=0/\r.1.n<=1000/\Bc7 h r.1):=by
  refine Tx (fun (R:List Int) (z:Sl Int)=>z.n+5*R.length<=1000/\Bc7 h z/\∀x∈R,∃u:Nat,x=(u:Int)/\u<h.Tree.n) (fun z c=>⟨_,rfl,rfl,by have:=c.1;simp at this;omega,c.2.1⟩) ?_ L _ ⟨by show 0+_<=_;omega,fun k hk=>Er hk (Be6 k),l3⟩;rintro x R z d ⟨h1,o,f⟩ hs;obtain⟨u,rfl,q⟩:=f x (by simp);have i:=b.row u (by omega);simp only[Bf9]at h1;rw[Int.toNat_natCast];refine Ab (hs _ ⟨by show z.n+(h.On.g u).n+_<=_;omega,fun k hk=>?_,fun y hy=>f y (by simp[hy])⟩);have hk:k<z.n+(h.On.g u).n:=hk;show 0<=(if k<z.n then z.g k else (h.On.g u).g (k-z.n))/\(if k<z.n then z.g k else (h.On.g u).g (k-z.n))<_;split
  .exact o k (by assumption)
  exact b.rng u (by omega) _ (by omega)
 obtain⟨⟨s,e⟩,k1,k2,k3,k4⟩:=key;obtain rfl:e=0:=k2;exact⟨s,k1,k3,k4⟩
def Mc:∀(d:Nat) (p:Pat),okQ d p->okPS p->∀M,100+d<=M->∃q,R7 M p=some q/\okPS q
 |0,p,h,_,M,_=>h.elim
 |d+1,p,h,_,0,hM=>by omega
 |d+1,p,h,hp,M+1,hM=>by
  show ∃q,S9 (R7 M) M p=some q/\_;unfold S9;have hn:=h.2.1;refine X9 (fun i (x1:Sl Pat) x2=>x2=(i:Int)/\x1.n=i/\∀j,j<x1.n->okPS (x1.g j)) p.L.n _ (by omega) ⟨rfl,rfl,fun j a=>Er a (Be6 j)⟩ ?_;rintro b i x1 x2 f ⟨rfl,hx,a⟩ hs;by_cases hl:i<p.L.n
  .obtain⟨q,q1,q2⟩:=Mc d (p.L.g i) (h.2.2 i hl) (hp.L hl) M (by omega);refine Ag (Ab (B7 (by rw[Int.toNat_natCast];exact q1) (ifT (by show (x1.n+1)*64<=_/\x1.n+1<=_;omega) (hs hl _ _ ⟨Bm,by show x1.n+1=_;omega,fun j c=>?_⟩))));show okPS (if j<x1.n then x1.g j else q);split
   .exact a j (by assumption)
   exact q2
  exact Bg ⟨_,rfl,hp.is,a⟩
def VW (d:3000000<=N){l:Law}(hl:AB3 N l):∃l',T3 N l=some l' /\ Nq l':=by obtain⟨h1,a,b,c⟩:=hl.1;obtain⟨_,c1,c2,c3,c4,_⟩:=hl.2;obtain⟨q1,e1,g1⟩:=Mc 40 l.Left (Tz 40 _ (by omega) c1 _ (by simp)) h1.1 N (by omega);obtain⟨q2,e2,g2⟩:=Mc 40 l.Right (Tz 40 _ (by omega) c2 _ (by simp)) h1.2.1 N (by omega);unfold T3 A6 H3;rw[e1,e2,Option.bind_some,Option.bind_some,Cb,Option.bind_some,Cb];exact⟨_,rfl,⟨g1,g2,h1.2.2⟩,a,b,c⟩
def Ao2 (d:3000000<=N){h:History}(f:okH N h){l:Sl Int}(hn:l.n<=1000)(hl:Bc7 h l):∃s,Q8 N h l=some s/\s.n=l.n/\CA s:=by
 unfold Q8;refine X9 (fun i (x1:Sl Law) x2=>x2=(i:Int)/\x1.n=i/\CA x1) l.n _ (by omega) ⟨rfl,rfl,fun j b=>Er b (Be6 j)⟩ ?_;rintro c i x1 x2 hle ⟨rfl,hx,b⟩ hs;by_cases a:i<l.n
 .have m:=hl i a;obtain⟨q,q1,q2⟩:=VW d (f.laws (l.g i).toNat (by omega));refine Ag ?_;rw[Int.toNat_natCast];refine ifT ⟨by omega,m⟩ (B7 q1 (ifT (by show (x1.n+1)*200<=_/\x1.n+1<=_;omega) (hs a _ _ ⟨Bm,by show x1.n+1=_;omega,fun j o=>?_⟩)));show Nq (if j<x1.n then x1.g j else q);split
  .exact b j (by assumption)
  exact q2
 exact Bg ⟨_,rfl,by omega,b⟩
def AP6 (a:3000000<=N){h:History}(b:okH N h){v:Nat}(c:v<h.Tree.n):∃s,Q9 N h (v:Int)=some (s,0)/\CA s:=by obtain⟨l,l1,l2,l3⟩:=AP5 a b c;obtain⟨s,s1,s2,s3⟩:=Ao2 a b l2 l3;refine⟨s,?_,s3⟩;unfold Q9;rw[l1,Option.bind_some];show (Q8 N h l).bind _=_;rw[s1];rfl
def At_ok (d:3000000<=N){h:History}(a:okH N h){w:Sl Im}(hw:okA w)(v:Int):∃r,Cv N h w v=some r/\(r.2=0->wOk r.1):=by
 have o:=a.on;unfold Cv CT;rw[a.chk,Option.bind_some,Ej (by decide)];obtain⟨e,e1,q⟩:=Lu (N:=N) (by omega) hw;rw[e1];simp only[Option.bind_some];by_cases b:e=0
 case neg=>exact ifT (by simpa using b) ⟨_,rfl,fun e=>Er e b⟩
 have f:wOk w:=(Lt q).1 b;refine ifF (by simp[b]) ?_;rw[U3,Option.bind_some];by_cases hv:0<=v/\v<(h.Tree.n:Int)
 case neg=>exact Ag ⟨_,rfl,fun e=>Er e (by decide)⟩
 refine Bg ?_;rw[AZ,Option.bind_some];obtain⟨u,rfl⟩:∃u:Nat,v=(u:Int):=⟨v.toNat,by omega⟩;obtain⟨L,l1,l2,l3⟩:=AG9 d a.tree (v:=u) (by omega);refine B7 l1 ?_;refine Tx (fun (R:List Int) (z:Sl Im)=>wOk z/\∀x∈R,∃u:Nat,x=(u:Int)/\u<h.Tree.n) (fun z b=>⟨_,rfl,fun _=>b.1⟩) ?_ L _ ⟨f,l3⟩;rintro x R z j ⟨h1,m⟩ hs;obtain⟨u,rfl,hu⟩:=m x (by simp);obtain⟨s,s1,s2,s3⟩:=Ao2 d a (l:=h.On.g u) (by have:=a.row u (by omega);omega) (a.rng u (by omega));obtain⟨r,r1,r2⟩:=PE d s3 (w:=z) fun i t=>(h1.2 i t).ok;rw[Int.toNat_natCast];refine Ab (B7 s1 (B7 r1 ?_));by_cases c:r.2=0
 .exact ifF (by simp[c]) (hs _ ⟨r2 c,fun y hy=>m y (by simp[hy])⟩)
 exact ifT (by simpa using c) ⟨_,rfl,fun e=>Er e c⟩
end Go.AM
namespace Go.AM
variable {N:Nat}
open IntKind (wrap)
open Go.Proofs
def TC (t:Sl Node)(v:Nat):Prop:=∀u,0<u->u<t.n->(t.g u).Parent≠(v:Int)
open Classical in
noncomputable def U8 (t:Sl Node):Nat->Sl Int
 |0=>Ii
 |i+1=>if TC t i then (U8 t i).push (i:Int)else U8 t i
def PF {t:Sl Node}{i:Nat}(h:TC t i):U8 t (i+1)=(U8 t i).push (i:Int):=Dn h
def TD {t:Sl Node}{i:Nat}(h:¬TC t i):U8 t (i+1)=U8 t i:=Ej h
def XU (t:Sl Node):∀i,(U8 t i).n<=i
 |0=>Bd8 0
 |i+1=>by
  have:=XU t i
  by_cases h:TC t i
  .rw[PF h];show (U8 t i).n+1<=i+1;omega
  rw[TD h];omega
def TE (t:Sl Node):∀i k,k<(U8 t i).n->∃v:Nat,v<i/\(U8 t i).g k=(v:Int)
 |0,k,hk=>Er hk (Be6 k)
 |i+1,k,hk=>by
  by_cases h:TC t i
  .rw[PF h]at hk⊢;have hk:k<(U8 t i).n+1:=hk;show ∃v:Nat,v<i+1/\(if k<(U8 t i).n then (U8 t i).g k else (i:Int))=(v:Int);by_cases a:k<(U8 t i).n
   .rw[Dn a];obtain⟨v,h1,b⟩:=TE t i k a;exact⟨v,by omega,b⟩
   rw[Ej a];exact⟨i,by omega,rfl⟩
  rw[TD h]at hk⊢;obtain⟨v,h1,b⟩:=TE t i k hk;exact⟨v,by omega,b⟩
def AB8 (s:3000000<=N){t:Sl Node}(ht:Fv t):∃X,AA N t=some X/\(X.n=t.n/\∀v,v<t.n->((X.g v).n=0↔TC t v)):=by
 have o:=ht.2.1;unfold AA;refine Ab (X9 (fun i x (X:Sl (Sl Int))=>x=(i:Int)/\X.n=t.n/\∀v,v<t.n->(((X.g v).n=0 ↔ ∀u,0<u->u<i->(t.g u).Parent≠(v:Int))/\(X.g v).n<=i)) t.n _ (by omega)
  ⟨rfl,rfl,fun v b=>⟨⟨fun _ u h1 a=>Er a (Be6 u),fun _=>rfl⟩,Bd8 0⟩⟩ ?_)
 rintro l i x X hle ⟨rfl,c,f⟩ hs;by_cases hl:i<t.n
 case neg=>
  obtain rfl:i=t.n:=by omega
  exact Bh ⟨X,rfl,c,fun v b=>(f v b).1⟩
 refine ifT (by simpa using hl) (Ab ?_);rw[Int.toNat_natCast,Bm];rcases IF ht hl with⟨q,h1⟩ | ⟨p,hp,e⟩
 .subst q;rw[h1];refine ifT (by show Int.toNat (-1)<X.n;rw[c];exact hl) (ltX (Bh (hs hl _ _ ⟨rfl,c,fun v b=>?_⟩)));have e:(X.upd (Int.toNat (-1)) (X.g (Int.toNat (-1)))).g v=X.g v:=by
   show (if v=_ then X.g (Int.toNat (-1))else X.g v)=X.g v;split
   .rename_i e;rw[e]
   rfl
  rw[e];obtain⟨g1,g2⟩:=f v b;exact⟨g1.trans ⟨fun _ u h1 a=>Er a (by omega),fun _ u h1 a=>Er a (by omega)⟩,by omega⟩
 rw[e,Int.toNat_natCast];have j:p<t.n:=by omega
 have m:=(f p j).2;refine Ab (ltX (Ag (ifT ⟨⟨by omega,by rw[c];omega⟩,by omega,by omega⟩ (hs hl _ _ ⟨rfl,c,fun v b=>?_⟩))));show ((if v=p then (X.g p).push (i:Int)else X.g v).n=0↔_)/\(if v=p then (X.g p).push (i:Int)else X.g v).n<=i+1;by_cases d:v=p
 .subst d;rw[Dn rfl];refine⟨⟨fun h=>Er h (Nat.succ_ne_zero _),fun h=>Er e (h i (by omega) (by omega))⟩,?_⟩;show (X.g v).n+1<=i+1;omega
 rw[Ej d];obtain⟨g1,g2⟩:=f v b;refine⟨g1.trans ⟨fun h u h1 a=>?_,fun h u h1 a=>h u h1 (by omega)⟩,by omega⟩;by_cases r:u=i
 .subst r;rw[e];omega
 exact h u h1 (by omega)
def Ba3 {R:Type}{Q:R->Prop}{a:Sl Int->Int->Option R}{t:Sl Node}{i:Nat}(c:i<1000){b:Bool}(hb:b=true↔TC t i)(h:∃r,a (U8 t (i+1)) ((i+1:Nat):Int)=some r/\Q r) :∃r,(if b then
  if (((U8 t i).n+(Sl.of [(i:Int)]:Sl Int).n)*8<=140737488355328/\(U8 t i).n+(Sl.of [(i:Int)]:Sl Int).n<=140737488355328)then
   a ((U8 t i).push (i:Int)) (wrap .i64 ((i:Int)+1))
  else none
  else a (U8 t i) (wrap .i64 ((i:Int)+1)))=some r/\Q r:=by
 have hn:=XU t i;rw[Bm];by_cases hk:TC t i
 .rw[PF hk]at h;exact ifT (hb.2 hk) (ifT ⟨by show ((U8 t i).n+1)*8<=_;omega,by show (U8 t i).n+1<=_;omega⟩ h)
 rw[TD hk]at h;exact ifF (fun g=>hk (hb.1 g)) h
def XV (c:3000000<=N){t:Sl Node}(ht:Fv t):∃r,CU N t=some r/\r=U8 t t.n:=by
 have d:=ht.2.1;unfold CU;obtain⟨X,e,a,hk⟩:=AB8 c ht;refine B7 e (X9 (fun i x1 x2=>x2=(i:Int)/\x1=U8 t i) t.n _ (by omega) ⟨rfl,rfl⟩ ?_);rintro b i x1 x2 hle ⟨rfl,rfl⟩ hs;by_cases hl:i<t.n
 .refine ifT (by rw[a];simpa using hl) (Ab ?_);rw[Int.toNat_natCast];exact Ba3 (by omega) (by rw[<- hk i hl];simp) (hs hl _ _ ⟨rfl,rfl⟩)
 obtain rfl:i=t.n:=by omega
 exact ifF (by rw[a];simp) ⟨_,rfl,rfl⟩
def AB9 (l:3000000<=N){t:Sl Node}(ht:Fv t){v:Nat}(m:v<t.n):∃r,BU N t (v:Int)=some r/\(r.n=0↔TC t v):=by
 have f:=ht.2.1;unfold BU;refine X9 (fun i (x1:Sl Int) x2=>x2=(i:Int)/\x1.n<=i/\(x1.n=0 ↔ ∀u,0<u->u<i->(t.g u).Parent≠(v:Int))) t.n _ (by omega) ⟨rfl,Bd8 0,fun _ u h1 a=>Er a (Be6 u),fun _=>rfl⟩ ?_;rintro b i x1 x2 hle ⟨rfl,hn,c⟩ hs;by_cases hl:i<t.n
 .refine ifT (by simpa using hl) (Ab ?_);rw[Int.toNat_natCast,Bm];by_cases hp:(t.g i).Parent=(v:Int)
  .have d:0<i:=by
    rcases IF ht hl with⟨d,h1⟩ | ⟨p,hp,e⟩
    .rw[h1]at hp;omega
    omega
   refine ifT (by simpa using hp) (ifT ⟨by show (x1.n+1)*8<=_;omega,by show x1.n+1<=_;omega⟩ (hs hl _ _ ⟨rfl,by show x1.n+1<=i+1;omega,fun h=>Er h (Nat.succ_ne_zero _),fun h=>Er hp (h i d (by omega))⟩))
  refine ifF (by simpa using hp) (hs hl _ _ ⟨rfl,by omega,c.trans ⟨fun h u h1 a=>?_,fun h u h1 a=>h u h1 (by omega)⟩⟩);by_cases j:u=i
  .subst j;exact hp
  exact h u h1 (by omega)
 obtain rfl:i=t.n:=by omega
 exact Bh ⟨_,rfl,c⟩
def Lw (a:3000000<=N){t:Sl Node}(ht:Fv t):T8 N t=some (U8 t t.n,0)/\AB N t=some (U8 t t.n,0):=by
 have c:=ht.2.1;unfold T8 AB;rw[NE a ht,AB6 a ht,Option.bind_some,Option.bind_some,Ej (by decide),Ej (by decide)];obtain⟨r,g1,rfl⟩:=XV a ht;refine⟨by rw[g1];rfl,An9 (X9 (fun i x1 x2=>x2=(i:Int)/\x1=U8 t i) t.n _ (by omega) ⟨rfl,rfl⟩ ?_)⟩;rintro b i x1 x2 hle ⟨rfl,rfl⟩ hs;by_cases hl:i<t.n
 .refine ifT (by simpa using hl) ?_;obtain⟨r,k1,k2⟩:=AB9 a ht hl;exact B7 k1 (Ba3 (by omega) (by rw[<- k2];simp) (hs hl _ _ ⟨rfl,rfl⟩))
 obtain rfl:i=t.n:=by omega
 exact Bh ⟨_,rfl,rfl⟩
def Md {t:Sl Node}(ht:Fv t):(U8 t t.n).n<=63:=by have:=XU t t.n;have:=ht.2.1;omega
end Go.AM
namespace Go.AM
variable {N:Nat}
open Go.Proofs
abbrev inT (t:Sl Node)(x:Int):Prop:=∃u:Nat,u<t.n/\x=(u:Int)
def Ba4 {t:Sl Node}(ht:Fv t):∀(M v:Nat),v+2<=M->v<t.n->∃L,Y1 M (fun (a:Int->Option (List Int)) (x1:Int)=>
 if (decide (0<=x1)) then
  Af x1 (
   if ((0:Int)<=x1/\x1<(t.n:Int))then
    a (t.g x1.toNat).Parent
   else none
   )
 else
  some []) (v:Int)=some L/\L.length<=v+1/\∀x∈L,inT t x
 |0,v,hM,_=>by omega
 |M+1,v,hM,hv=>by
  rw[I2,Dn (by simp),Cb,Int.toNat_natCast];rcases IF ht hv with⟨_,e⟩ | ⟨p,hp,e⟩
  .obtain⟨M,rfl⟩:∃K,M=K+1:=⟨M-1,by omega⟩;rw[e,I2,Ej (by decide)];exact⟨[(v:Int)],rfl,by simp,fun x hx=>⟨v,hv,Bj4.1 hx⟩⟩
  obtain⟨L,l1,l2,l3⟩:=Ba4 ht M p (by omega) (by omega);rw[e,l1];exact⟨(v:Int)::L,rfl,by simp;omega,fun x hx=>(Bf3.1 hx).elim (fun e=>⟨v,hv,e⟩) (l3 x)⟩
def Ba5 {P:Int->Prop}{x:Sl Int}(hn:x.n<100000)(d:x.n<N)(f:∀j,j<x.n->P (x.g j)):∃s,I4 N x=some s/\(s.n=x.n/\∀j,j<s.n->P (s.g j)):=by
 unfold I4;refine Al7 (fun i (x1:Sl Int) x2 x3=>x2=(i:Int)/\x3=(x.n:Int)-1-(i:Int)/\x1.n=x.n/\∀j,j<x1.n->P (x1.g j)) x.n _ d ⟨rfl,(D9 (by omega) (by omega)).trans (by omega),rfl,f⟩ ?_;rintro c i x1 x2 x3 l ⟨rfl,rfl,hx,b⟩ hs;by_cases hl:(i:Int)<(x.n:Int)-1-(i:Int)
 .have e3:((x.n:Int)-1-(i:Int)).toNat=x.n-1-i:=by omega
  refine ifT (by simpa using hl) (ifT (by rw[Sl.upd];dsimp only;omega) ?_);rw[Int.toNat_natCast,e3];refine hs (by omega) _ _ _ ⟨Bm,by rw[D9 (by omega) (by omega)];omega,hx,fun j a=>?_⟩;have a:j<x1.n:=a;show P (if j=x.n-1-i then x1.g i else if j=i then x1.g (x.n-1-i)else x1.g j);split
  .exact b i (by omega)
  split
  .exact b _ (by omega)
  exact b j a
 exact ifF (by simpa using hl) ⟨_,rfl,hx,b⟩
def AP7 (f:3000000<=N){t:Sl Node}(ht:Fv t){v:Nat}(l:v<t.n):∃s,Fo N t (v:Int)=some (s,0)/\s.n<=64/\∀m,m<s.n->inT t (s.g m):=by
 have o:=ht.2.1;have hc:DY N t (Sl.of [(v:Int)]:Sl Int)=some 0:=by
  unfold DY;rw[NE f ht,Option.bind_some,Ej (by decide)];refine An9 (FY (fun i x=>x=(i:Int)) 1 _ (by omega) rfl ?_);rintro a i x r rfl hs;by_cases hl:i<1
  .obtain rfl:i=0:=by omega
   exact Ah (Ah (Bg (hs hl _ (Bm))))
  exact Bg ⟨_,rfl,rfl⟩
 obtain⟨L,l1,l2,l3⟩:=Ba4 ht N v (by omega) l;have b:∃z,G3 N L=some z/\(z.n=L.length/\∀j,j<z.n->inT t (z.g j)):=by
  unfold G3;refine Tx (fun R (z:Sl Int)=>z.n+R.length=L.length/\(∀j,j<z.n->inT t (z.g j))/\∀x∈R,inT t x) (fun z b=>⟨z,rfl,by simpa using b.1,b.2.1⟩) ?_ L _ ⟨by simp,fun j c=>Er c (Be6 j),l3⟩;rintro x R z a ⟨h1,q,d⟩ hs;simp only[Bf9]at h1;refine ifT (by show (z.n+1)*8<=_/\z.n+1<=_;omega) (hs _ ⟨by show z.n+1+_=_;omega,fun j c=>?_,fun y hy=>d y (by simp[hy])⟩);show inT t (if j<z.n then z.g j else x);split
  .exact q j (by assumption)
  exact d x (by simp)
 obtain⟨z,z1,z2,z3⟩:=b;obtain⟨s,s1,s2,s3⟩:=Ba5 (N:=N) (x:=z) (by omega) (by omega) z3;refine⟨s,?_,by omega,s3⟩;unfold Fo;rw[hc,Option.bind_some,Ej (by decide),Ln,Option.bind_some];show (Fm N (v:Int) t).bind _=_;unfold Fm;rw[l1,Option.bind_some];unfold T9;rw[z1,Option.bind_some,Option.bind_some,s1];rfl
def Ac1 (hN:3000000<=N){h:History}(d:okH N h)(x:Int):∃X,Z0 N h x=some X/\(X.n=(U8 h.Tree h.Tree.n).n/\∀k,CA (X.g k)):=by
 have a1:=Md d.tree;have hon:=d.on;have l:∀k,k<(U8 h.Tree h.Tree.n).n->∃u:Nat,u<h.Tree.n/\(U8 h.Tree h.Tree.n).g k=(u:Int):=fun k hk=>TE h.Tree h.Tree.n k hk;unfold Z0;refine B7 (Lw hN d.tree).1 ?_;generalize U8 h.Tree h.Tree.n=s at a1 l;refine ifT (by dsimp only;omega) (ifT (by dsimp only;omega) ?_);dsimp only;refine Al7 (fun i (K:Nat) (X:Sl (Sl Law)) y=>i=K/\y=(i:Int)/\X.n=s.n/\∀k,CA (X.g k)/\(X.g k).n<=320*i) s.n _ (by omega) ⟨rfl,rfl,rfl,fun k=>⟨fun j hj=>Er hj (Be6 j),Bd8 0⟩⟩ ?_;rintro self i K X y hle ⟨rfl,rfl,hX,o⟩ hs;by_cases hl:i<s.n
 case neg=>exact Bg (ifT ⟨by omega,hX⟩ ⟨_,rfl,hX,fun k=>(o k).1⟩)
 obtain⟨u,hu,hsu⟩:=l i hl;obtain⟨w,w1,w2,w3⟩:=AP7 hN d.tree hu;refine Ag (Ab ?_);rw[Int.toNat_natCast,hsu];refine B7 w1 ?_;dsimp only;refine X9 (fun m (X' : Sl (Sl Law)) z=>z=(m:Int)/\X'.n=s.n/\∀k,CA (X'.g k)/\(X'.g k).n<=320*i+5*m) w.n _ (by omega) ⟨rfl,hX,o⟩ ?_;rintro self2 m X' z hm ⟨rfl,r,b⟩ hs2;by_cases t:m<w.n
 case neg=>exact Bg (ifT ⟨rfl,hl⟩ (hs hl _ _ _ ⟨rfl,Bm,r,fun k=>⟨(b k).1,by have:=(b k).2;omega⟩⟩))
 obtain⟨v,hv,hwv⟩:=w3 m t;have hrow:=d.row v (by omega);refine Ag ?_;rw[Int.toNat_natCast,hwv,Int.toNat_natCast];refine Ab ?_;refine X9 (fun q (X'' : Sl (Sl Law)) z=>z=(q:Int)/\X''.n=s.n/\∀k,CA (X''.g k)/\(X''.g k).n<=320*i+5*m+q) (h.On.g v).n _ (by omega) ⟨rfl,r,b⟩ ?_;rintro self3 q X'' z hq ⟨rfl,c,a⟩ a0;by_cases f:q<(h.On.g v).n
 case neg=>exact Bg (hs2 t _ _ ⟨Bm,c,fun k=>⟨(a k).1,by have:=(a k).2;omega⟩⟩)
 have hvq:=d.rng v (by omega) q f;have hb:=(a i).2;refine Ag (Ab ?_);rw[Int.toNat_natCast];split
 .refine Ab (Ab (Ab (a0 f _ _ ⟨Bm,c,fun k=>?_⟩)));show CA (if k=i then (X''.g i).push _ else X''.g k)/\(if k=i then (X''.g i).push _ else X''.g k).n<=_;split
  .refine⟨fun j hj=>?_,by show (X''.g i).n+1<=_;omega⟩;show Nq (if j<(X''.g i).n then (X''.g i).g j else _);split
   .exact (a i).1 j (by assumption)
   exact (d.laws _ (by omega)).1
  exact⟨(a k).1,by have:=(a k).2;omega⟩
 exact a0 f _ _ ⟨Bm,c,fun k=>⟨(a k).1,by have:=(a k).2;omega⟩⟩
def Ba6 (c:3000000<=N){w:Sl Im}(b:w.n<=32):∃k,Cw N w=some k:=by
 have h:∃k,Cw N w=some k/\True:=by
  unfold Cw;refine X9 (fun m (x1:Sl Int) x2=>x2=(m:Int)/\x1.n=6*m) w.n _ (by omega) ⟨rfl,rfl⟩ ?_;rintro a m x1 x2 hm ⟨rfl,d⟩ hs;by_cases hl:m<w.n
  .exact Ag (Ab (ifT (by show (x1.n+3)*1<=_/\x1.n+3<=_;omega) (ifT (by show (x1.n+3+3)*1<=_/\x1.n+3+3<=_;omega) (hs hl _ _ ⟨Bm,by show x1.n+3+3=_;omega⟩))))
  exact Bg ⟨_,rfl,trivial⟩
 obtain⟨k,hk,_⟩:=h;exact⟨k,hk⟩
def Ao3 (n:Nat)(M:Sl (List (Str×H9))):Prop:=M.n=n/\∀k,∀a f,(a,f)∈M.g k->f.Has=true->wOk f.W
def VX {k:Str}{v:H9}:∀{es:List (Str×H9)},T0 eqS k es=some v->∃a,(a,v)∈es
 |[],h=>by cases h
 |(a,x)::es,h=>by
  unfold T0 at h;by_cases e:eqS k a=true
  .rw[Dn e]at h;obtain rfl:=Bi6 h;exact⟨a,by simp⟩
  rw[Ej e]at h;obtain⟨b,hb⟩:=VX h;exact⟨b,Be5 _ hb⟩
def Ze {k a:Str}{v f:H9}:∀{es:List (Str×H9)},(a,f)∈Eh eqS k v es->(a,f)∈es \/ f=v
 |[],h=>by simp only[Eh,Bj4,Bd7]at h;exact .inr h.2
 |(b,x)::es,h=>by
  unfold Eh at h;by_cases e:eqS k b=true
  .rw[Dn e]at h;rcases Bf3.1 h with h|h
   .simp only[Bd7]at h;exact .inr h.2
   exact .inl (Be5 _ h)
  rw[Ej e]at h;rcases Bf3.1 h with h|h
  .exact .inl (by rw[h];simp)
  exact (Ze h).imp (Be5 _) id
def AP8 (l:3000000<=N){n:Nat}{X:Sl (Sl Law)}(o:X.n=n)(s:∀k,CA (X.g k)){p:H9}(hp:p.Has=true->wOk p.W){k:Nat}(hk:k<n){M:Sl (List (Str×H9))}(b:Ao3 n M) :∃r,P2 N p (k:Int) M X=some r/\Ao3 n r.2.2/\(r.2.1=true->wOk r.1):=by
 have d:=b.1;unfold P2;by_cases j:p.Has=true
 case neg=>exact ifT (by simpa using j) ⟨_,rfl,b,fun e=>by cases e⟩
 have hw:=hp j;obtain⟨key,c⟩:=Ba6 l hw.1;refine ifF (by simp[j]) ?_;rw[Int.toNat_natCast];refine Ab (Ab (B7 c ?_));cases ha:T0 eqS key (M.g k)with
 |some v=>obtain⟨a,hm⟩:=VX ha;exact⟨_,rfl,b,b.2 k a v hm⟩
 |none=>
  obtain⟨r,r1,r2⟩:=PE l (s k) (w:=p.W) fun i t=>(hw.2 i t).ok;rw[CH];have m:(r.2==0)=true->wOk r.1:=fun e=>r2 (eq_of_beq e);refine Ab (B7 r1 ⟨_,rfl,⟨d,fun q a f hm=>?_⟩,m⟩);replace hm:(a,f)∈(if q=k then Eh eqS key (⟨r.2==0,r.1⟩:H9) (M.g k)else M.g q):=hm;by_cases e:q=k
  .rw[Dn e]at hm;rcases Ze hm with hm|rfl
   .exact b.2 k a f hm
   exact m
  rw[Ej e]at hm;exact b.2 q a f hm
end Go.AM
namespace Go.AM
variable {N:Nat}
open IntKind (wrap)
open Go.Proofs
abbrev okF (f:H9):Prop:=wOk f.W/\(f.Has=false->f.W.n=0)
structure okE (p:Sl H9) (l:Sl Entry) (F:Nat):Prop where
 n:l.n<=256
 pn:p.n=l.n
 pf:∀i,i<p.n->okF (p.g i)
 fn:∀i,i<l.n->(l.g i).Forms.n=F
 ff:∀i,i<l.n->∀k,k<(l.g i).Forms.n->okF ((l.g i).Forms.g k)
 nm:∀i,i<l.n->Nr (l.g i).Gloss=true
def Zf {l:Sl H9}(c:l.n<N)(hn:l.n<1000000)(hl:∀i,i<l.n->okF (l.g i)):Z8 N l=some true:=by
 have h:D8 N l (fun (u1:H9)=>BZ N u1)=some (-1):=by
  unfold D8;refine An9 (FY (fun i x1=>x1=(i:Int)) l.n _ c rfl ?_);rintro b i x1 j rfl hs;by_cases a:i<l.n
  .refine Ag (Ab (B7 rfl ?_));rw[Int.toNat_natCast];have d:=(hl i a).2;refine ifF ?_ (hs a _ (Bm));cases f:(l.g i).Has
   .rw[d f];simp
   simp
  exact Bg ⟨_,rfl,rfl⟩
 unfold Z8 E8;rw[h];rfl
def Zg (d:1000<=N){l:Sl H9}(hn:l.n<1000)(hl:∀i,i<l.n->okF (l.g i)):Z9 N l=some 0:=by
 unfold Z9;refine An9 (FY (fun i x1=>x1=(i:Int)) l.n _ (by omega) rfl ?_);rintro b i x1 f rfl hs;by_cases a:i<l.n
 .obtain⟨hw,_⟩:=hl i a;obtain⟨e,e1,c⟩:=Lu (N:=N) (by omega) fun k hk=>(hw.2 k hk).ok;obtain rfl:=(Lt c).2 hw;exact Ag (Ab (B7 (by rw[Int.toNat_natCast];exact e1) (Bk (hs a _ (Bm)))))
 exact Bg ⟨_,rfl,rfl⟩
def Ao4 (b:3000000<=N){s:Str}(hs:Nr s=true):BV N s=some true:=by
 unfold BV;rw[NE b (t:=Sl.of [⟨-1,s⟩]) ⟨Bd8 1,by show 1<=63;omega,fun v a=>?_⟩];rfl;obtain rfl:v=0:=by have a:v<1:=a;omega
 exact⟨fun _=>rfl,fun h=>Er h (by omega),hs,fun u c=>Er c (by omega)⟩
def VY (g:3000000<=N){h:History}(c:okH N h){p:Sl H9}{l:Sl Entry}(hl:okE p l (U8 h.Tree h.Tree.n).n):U4 N h p l=some 0:=by
 have o:=Md c.tree;have hn:=hl.n;have q:=hl.pn;have r:Y9 N l (((U8 h.Tree h.Tree.n).n:Nat):Int)=some 0:=by
  unfold Y9;refine An9 (FY (fun i x1=>x1=(i:Int)) l.n _ (by omega) rfl ?_);rintro b i x1 j rfl hs;by_cases a:i<l.n
  .have m:=hl.fn i a;refine Ag (Ab (ltX ?_));rw[Int.toNat_natCast];exact ifF (by simp[m]) (B7 (Zf (by omega) (by omega) (hl.ff i a)) (Bk (hs a _ (Bm))))
  refine Bg (FY (fun i x1=>x1=(i:Int)) l.n _ (by omega) rfl ?_);rintro d i x1 j rfl f;by_cases a:i<l.n
  .exact Ag (Ab (B7 (by rw[Int.toNat_natCast];exact Ao4 g (hl.nm i a)) (Bk (f a _ (Bm)))))
  exact Bg ⟨_,rfl,rfl⟩
 unfold U4;refine An9 (B7 (c.chk) (Bk (B7 (Lw g c.tree).1 (Bg (ltX ?_)))));refine Bg (B7 (Zf (by omega) (by omega) hl.pf) (Bk ?_));refine B7 r (Bk (B7 (Zg (by omega) (by omega) hl.pf) (Bk ?_)));refine FY (fun i x1=>x1=(i:Int)) l.n _ (by omega) rfl ?_;rintro b i x1 j rfl hs;by_cases a:i<l.n
 .have m:=hl.fn i a;exact Ag (Ab (B7 (by rw[Int.toNat_natCast];exact Zg (by omega) (by omega) (hl.ff i a)) (Bk (hs a _ (Bm)))))
 exact Bg ⟨_,rfl,rfl⟩
abbrev Ba7 (l:Sl Entry)(q:Db×Sl Im):Prop:=∃i k:Nat,q.1=⟨(i:Int),(k:Int)⟩/\i<l.n/\k<(l.g i).Forms.n
def AH0 {l:Sl Entry}{i:Nat}(b:i<l.n){R:List (Db×Sl Im)}{rest:Option (List (Db×Sl Im))}(c:rest=some R)(hR:∀q∈R,Ba7 l q)(hn:(l.g i).Forms.n<100000):∀(m M k:Nat),k+m=(l.g i).Forms.n->m<M->∃R',Y1 M (fun (a:Int->Option (List (Db×Sl Im))) (x4:Int)=>
 if (decide (x4<((l.g i).Forms.n:Int))) then
  if ((0:Int)<=x4/\x4<((l.g i).Forms.n:Int))then
   if ((l.g i).Forms.g x4.toNat).Has then
    Af ((⟨(i:Int),x4⟩:Db),((l.g i).Forms.g x4.toNat).W) (
     a (wrap .i64 (x4+1))
     )
   else
    a (wrap .i64 (x4+1))
  else none
 else
  rest) (k:Int)=some R' /\ (∀q∈R',Ba7 l q)/\R'.length<=m+R.length
 |0,M,k,hk,hM=>by obtain⟨M,rfl⟩:∃K,M=K+1:=⟨M-1,by omega⟩;rw[I2,Cg];exact⟨R,c,hR,by omega⟩
 |m+1,M,k,hk,hM=>by
  obtain⟨M,rfl⟩:∃K,M=K+1:=⟨M-1,by omega⟩;obtain⟨R',r1,r2,r3⟩:=AH0 b c hR hn m M (k+1) (by omega) (by omega);rw[I2,Ce,Cb,Int.toNat_natCast,Bm,r1];split
  .refine⟨_,rfl,fun q d=>(Bf3.1 d).elim (fun e=>⟨i,k,by rw[e],b,by omega⟩) (r2 q),by simp;omega⟩
  exact⟨R',rfl,r2,by omega⟩
def AP9 {l:Sl Entry}{F:Nat}(o:1000000<=N)(hn:l.n<=256)(r:F<=63)(c:∀i,i<l.n->(l.g i).Forms.n=F):∃R,X3 N l=some R/\(∀q∈R,Ba7 l q)/\R.length<=16128:=by
 have key:∀(m M i:Nat),i+m=l.n->m<M->∃R,Y1 M (fun (b:Int->Option (List (Db×Sl Im))) (x2:Int)=>
  if (decide (x2<(l.n:Int))) then
   if ((0:Int)<=x2/\x2<(l.n:Int))then
    Y1 N (fun a (x4:Int)=>
     if (decide (x4<((l.g x2.toNat).Forms.n:Int))) then
      if ((0:Int)<=x4/\x4<((l.g x2.toNat).Forms.n:Int))then
       if ((l.g x2.toNat).Forms.g x4.toNat).Has then
        Af ((⟨x2,x4⟩:Db),((l.g x2.toNat).Forms.g x4.toNat).W) (
         a (wrap .i64 (x4+1))
         )
       else
        a (wrap .i64 (x4+1))
      else none
     else
      b (wrap .i64 (x2+1))
     ) 0
   else none
  else
   some []) (i:Int)=some R/\(∀q∈R,Ba7 l q)/\R.length<=m*63:=by
  intro m
  induction m with
  |zero=>intro M i d f;obtain⟨M,rfl⟩:∃K,M=K+1:=⟨M-1,by omega⟩;exact⟨[],by rw[I2,Cg],by simp,by simp⟩
  |succ m ih=>intro M i d f;obtain⟨M,rfl⟩:∃K,M=K+1:=⟨M-1,by omega⟩;have j:=c i (by omega);obtain⟨R,r1,r2,r3⟩:=ih M (i+1) (by omega) (by omega);rw[I2,Ce,Cb,Int.toNat_natCast,Bm];obtain⟨R',q1,q2,q3⟩:=AH0 (l:=l) (i:=i) (by omega) r1 r2 (by omega) (l.g i).Forms.n N 0 (by omega) (by omega);exact⟨R',q1,q2,by omega⟩
 obtain⟨R,r1,r2,r3⟩:=key l.n N 0 (by omega) (by omega);exact⟨R,r1,r2,by omega⟩
def AQ0 (d:3000000<=N){h:History}(j:okH N h){p:Sl H9}{l:Sl Entry}(hl:okE p l (U8 h.Tree h.Tree.n).n){c:Int}(hc:0<=c/\c<=1073741824) :∃b,Cx N h p l c=some (b,0)/\b.n<=16128:=by
 suffices ∃r,Cx N h p l c=some r/\(r.2=0/\r.1.n<=16128) by obtain⟨⟨b,e⟩,r1,r2,r3⟩:=this;obtain rfl:e=0:=r2;exact⟨b,r1,r3⟩
 have t:=hl.pn;obtain⟨X,x1,x2,x3⟩:=Ac1 d j (-1);obtain⟨R,a1,a2,a3⟩:=AP9 (N:=N) (by omega) hl.n (Md j.tree) hl.fn;unfold Cx;refine B7 (VY d j hl) (Bk (Bg (B7 x1 (B7 rfl (B7 a1 ?_)))));refine Tx (fun R (a:Sl (List (Str×H9))×Sl Exception)=>Ao3 X.n a.1/\a.2.n+R.length<=16128/\∀q∈R,Ba7 l q) ?_ ?_ R _ ⟨⟨rfl,fun k a f hm=>by cases hm⟩,by show 0+_<=_;omega,a2⟩
 .exact fun a ha=>⟨_,rfl,rfl,by have:=ha.2.1;simp at this;exact this⟩
 rintro q R ⟨M,z⟩ m ⟨u,o,s⟩ hs;obtain⟨i,k,eq,v,hk⟩:=s q (by simp);have o:z.n+(R.length+1)<=16128:=o;have hk:k<X.n:=by rw[x2,<- hl.fn i v];exact hk
 obtain⟨r,r1,r2,r3⟩:=AP8 d rfl x3 (p:=p.g i) (fun _=>(hl.pf i (by omega)).1) hk u;rw[eq];refine ifT (by show (0:Int)<=(i:Int)/\(i:Int)<(p.n:Int);omega) ?_;show ∃y,(P2 N (p.g (i:Int).toNat) (k:Int) M X).bind _=some y/\_;rw[Int.toNat_natCast];refine B7 r1 ?_;have nx:∀z' : Sl Exception,z'.n<=z.n+1->_:=fun z' e=>hs (r.2.2,z') ⟨r2,by show z'.n+_<=_;omega,fun q w=>s q (by simp[w])⟩;by_cases hb:r.2.1=true
 case neg=>exact ifT (by simpa using hb) (ifT (by show (z.n+1)*32<=_/\z.n+1<=_;omega) (nx _ (Bd8 _)))
 have a0:=(r3 hb).1;obtain⟨e,e1⟩:=AG7 (N:=N) (x:=r.1) (y:=q.2) (by omega) (by omega);refine ifF (by simp[hb]) (B7 e1 ?_);cases e
 .exact ifT rfl (ifT (by show (z.n+1)*32<=_/\z.n+1<=_;omega) (nx _ (Bd8 _)))
 exact Bk (nx z (by omega))
end Go.AM
namespace Go.AM
open IntKind (wrap)
open Go.Proofs
def AC0 {N:Nat}(hN:3000000<=N){h:History}(a:okH N h){u k:Nat}(hu:u<h.Tree.n)(hk:k+1<(h.On.g u).n) :∃r,R0 N h (u:Int) (k:Int)=some r/\(r.1.Tree=h.Tree/\wkH r.1):=by
 have h63:=a.tree.2.1;have y:=a.ln;have hon:=a.on;have ho:=a.row u (by omega);unfold R0;have eP:wrap .i64 (((h.On.g u).n:Int)-1)=(((h.On.g u).n-1:Nat):Int):=AA2 (by omega) (by omega);refine B7 a.chk (Bk (B7 rfl ?_));rw[Int.toNat_natCast,Int.toNat_natCast,eP];have d:((decide (0<=(u:Int)))&&(decide ((u:Int)<(h.Tree.n:Int))))=true:=by simp;omega
 rw[d];refine ifT (fun _ _=>by omega) (Bg ?_);refine B7 (x:=h.Tree) (Cb) ?_;refine X9 (fun i (x1:Sl Law) x2=>x2=(i:Int)/\x1.n=i/\CA x1) h.Laws.n _ (by omega) ⟨rfl,rfl,fun j b=>Er b (Be6 j)⟩ ?_;rintro z i x1 x2 hle ⟨rfl,hx,b⟩ hs;by_cases f:i<h.Laws.n
 .obtain⟨q,q1,q2⟩:=VW hN (a.laws i f);refine Ag (Ab ?_);rw[Int.toNat_natCast];refine B7 q1 (ifT (by show (x1.n+1)*200<=_/\x1.n+1<=_;omega) (hs f _ _ ⟨Bm,by show x1.n+1=_;omega,fun j m=>?_⟩));show Nq (if j<x1.n then x1.g j else q);split
  .exact b j (by assumption)
  exact q2
 refine Bg ?_;clear hs;refine X9 (fun v (x3:Sl (Sl Int)) x4=>x4=(v:Int)/\x3.n=v/\∀j,j<v->x3.g j=h.On.g j) h.On.n _ (by omega) ⟨rfl,rfl,fun j b=>Er b (by omega)⟩ ?_;rintro o v x3 x4 hv ⟨rfl,hx3,c⟩ s;by_cases l:v<h.On.n
 .have a0:=a.row v l;refine Ag (Ab ?_);rw[Int.toNat_natCast];refine B7 (x:=h.On.g v) (Cb) (ifT (by show (x3.n+1)*24<=_/\x3.n+1<=_;omega) (s l _ _ ⟨Bm,by show x3.n+1=_;omega,fun j m=>?_⟩));show (if j<x3.n then x3.g j else h.On.g v)=_;by_cases e:j=v
  .subst e;rw[Ej (by omega)]
  rw[Cb];exact c j (by omega)
 have eK:wrap .i64 ((k:Int)+1)=((k+1:Nat):Int):=Bm;rw[eK,Int.toNat_natCast,c u (by omega)];refine Bg (Ab (Ab ⟨_,rfl,rfl,a.tree,a.ten,by show x1.n<=64;omega,b,by show x3.n=h.Tree.n;omega,fun w hw=>?_,fun w hw=>?_⟩))
 .have hw:w<x3.n:=hw;show (if w=u then _ else x3.g w).n<=5;split
  .exact ho
  rw[c w (by omega)];exact a.row w (by omega)
 have hw:w<x3.n:=hw;show ∀j,j<(if w=u then _ else x3.g w).n->0<=(if w=u then _ else x3.g w).g j/\(if w=u then _ else x3.g w).g j<(x1.n:Int);have t:x1.n=h.Laws.n:=by omega
 rw[t];split
 .intro j b;have b:j<(h.On.g u).n:=b;have r:=a.rng u (by omega);show 0<=(if j=k+1 then (h.On.g u).g k else if j=k then (h.On.g u).g (k+1)else (h.On.g u).g j)/\(if j=k+1 then (h.On.g u).g k else if j=k then (h.On.g u).g (k+1)else (h.On.g u).g j)<_;split
  .exact r k (by omega)
  split
  .exact r _ hk
  exact r j b
 rw[c w (by omega)];exact a.rng w (by omega)
def AC1 {N:Nat}(a:3000000<=N){h:History}(b:wkH h){v:Nat}(d:v<h.Tree.n):∃r,Q9 N h (v:Int)=some r/\CA r.1:=by
 obtain⟨e,e1,e2,_⟩:=RF a b;by_cases c:e=0
 .subst c;obtain⟨s,s1,s2⟩:=AP6 a (AG8 b (e2 rfl) e1) d;exact⟨_,s1,s2⟩
 unfold Q9 Z7 Q8;rw[e1,Option.bind_some,Dn (by simpa using c),Option.bind_some];obtain⟨M,rfl⟩:∃K,N=K+1:=⟨N-1,by omega⟩;rw[CG,Ej (by show ¬decide ((0:Int)<((0:Nat):Int))=true;decide)];exact⟨_,rfl,fun j f=>Er f (Be6 j)⟩
end Go.AM
namespace Go.AM
variable {N:Nat}
open IntKind (wrap)
open Go.Proofs
def AH1 (c:3000000<=N){laws:Sl Law}(hl:CA laws){p f:H9}(hp:wOk p.W):∃b,I6 N laws p f=some b:=by
 unfold I6;by_cases h:((!p.Has)||(!f.Has))=true
 .exact⟨false,Dn h⟩
 rw[Ej h];obtain⟨⟨v,e⟩,r1,r2⟩:=PE c hl (w:=p.W) fun i d=>(hp.2 i d).ok;rw[r1,Option.bind_some];by_cases a:e=0
 .subst a;have g:v.n<=32:=(r2 rfl).1;obtain⟨b,hb⟩:=AG7 (N:=N) (x:=v) (y:=f.W) (by omega) (by omega);exact⟨b,by show ((Ar N v f.W).bind fun y3=>some y3)=some b;rw[hb];rfl⟩
 exact⟨false,by dsimp only;rw[lt,Ej (by simpa using a)]⟩
def AC2 (L:Sl (Sl Law))(m:Nat):Prop:=L.n=m/\∀k,CA (L.g k)
def Zh (b:3000000<=N){h:History}(a:wkH h):∃L,Q5 N h=some L/\AC2 L (U8 h.Tree h.Tree.n).n:=by
 have f:=Md a.tree;unfold Q5;rw[(Lw b a.tree).1,Option.bind_some];refine X9 (fun i x1 x2=>x2=(i:Int)/\AC2 x1 i) (U8 h.Tree h.Tree.n).n _ (by omega) ⟨rfl,rfl,fun k j l=>Er l (Be6 j)⟩ ?_;rintro c i x1 x2 hle ⟨rfl,hn,d⟩ hs;by_cases hl:i<(U8 h.Tree h.Tree.n).n
 .obtain⟨v,m,e⟩:=TE h.Tree h.Tree.n i hl;obtain⟨s,s1,s2⟩:=AC1 b a m;refine ifT (by simpa using hl) (ifT (by dsimp only;omega) ?_);rw[Int.toNat_natCast];refine B7 (by show Q9 N h ((U8 h.Tree h.Tree.n).g i)=_;rw[e];exact s1) (ifT (by show (x1.n+1)*24<=_/\x1.n+1<=_;omega) (hs hl _ _ ⟨Bm,by show x1.n+1=_;omega,fun k=>?_⟩));show CA (if k<x1.n then x1.g k else s.1);split
  .exact d k
  exact s2
 obtain rfl:i=(U8 h.Tree h.Tree.n).n:=by omega
 exact Bh ⟨x1,rfl,hn,d⟩
def inR (l:Sl Entry)(q:B9):Prop:=∃i k:Nat,q=⟨(i:Int),(k:Int)⟩/\i<l.n/\k<(l.g i).Forms.n
def Zi {N:Nat}(o:3000000<=N){p:B8}{laws:Sl (Sl Law)}{i:Nat}(r:i<p.Entries.n)(j:p.Protos.n=p.Entries.n)(d:wOk (p.Protos.g i).W)(a:AC2 laws (p.Entries.g i).Forms.n)(u:(p.Entries.g i).Forms.n<100000)
 {rest:Option (List B9)}{R:List B9}(s:rest=some R) (hR:∀q∈R,inR p.Entries q):∀(m M k:Nat),k+m=(p.Entries.g i).Forms.n->m<M->∃R',Y1 M (fun (c:Int->Option (List B9)) (x4:Int)=>
  if (decide (x4<((p.Entries.g i).Forms.n:Int))) then
   if ((0:Int)<=x4/\x4<((p.Entries.g i).Forms.n:Int))then
    if (((0:Int)<=x4/\x4<(laws.n:Int))/\((0:Int)<=(i:Int)/\(i:Int)<(p.Protos.n:Int)))then
     (I6 N (laws.g x4.toNat) (p.Protos.g i) ((p.Entries.g i).Forms.g x4.toNat)).bind fun y9=>
     if y9 then
      Af (⟨(i:Int),x4⟩:B9) (
       c (wrap .i64 (x4+1))
       )
     else
      c (wrap .i64 (x4+1))
    else none
   else none
  else
   rest
  ) (k:Int)=some R' /\ (∀q∈R',inR p.Entries q)/\R'.length<=m+R.length
 |_,0,_,_,hM=>Er hM (Be6 _)
 |0,M+1,k,hk,_=>by rw[I2,Cg];exact⟨R,s,hR,by omega⟩
 |m+1,M+1,k,hk,hM=>by
  obtain⟨R',h1,t,w⟩:=Zi o r j d a u s hR m M (k+1) (by omega) (by omega);obtain⟨b,hb⟩:=AH1 (p:=p.Protos.g i) (f:=(p.Entries.g i).Forms.g k) o (a.2 k) d;have v:=a.1;rw[I2,Ce,Cb,Cb,Int.toNat_natCast,hb,Option.bind_some,Bm,h1];cases b
  .exact⟨R',by rw[Ej (by decide)],t,by omega⟩
  refine⟨⟨(i:Int),(k:Int)⟩::R',by rw[Dn rfl];rfl,fun q l=>?_,by simp;omega⟩;rcases Bf3.1 l with rfl|l
  .exact⟨i,k,rfl,r,by omega⟩
  exact t q l
def AC3 (o:3000000<=N){p:B8}{laws:Sl (Sl Law)}{F:Nat}(hn:p.Entries.n<=256)(v:F<=63)(d:p.Protos.n=p.Entries.n)(f:∀i,i<p.Protos.n->wOk (p.Protos.g i).W)(r:∀i,i<p.Entries.n->(p.Entries.g i).Forms.n=F)(c:AC2 laws F) :∃R,CZ N p laws=some R/\(∀q∈R,inR p.Entries q)/\R.length<=16128:=by
 have key:∀(m M i:Nat),i+m=p.Entries.n->m<M->∃R,Y1 M (fun (b:Int->Option (List B9)) (x2:Int)=>
  if (decide (x2<(p.Entries.n:Int))) then
   if ((0:Int)<=x2/\x2<(p.Entries.n:Int))then
    Y1 N (fun a (x4:Int)=>
     if (decide (x4<((p.Entries.g x2.toNat).Forms.n:Int))) then
      if ((0:Int)<=x4/\x4<((p.Entries.g x2.toNat).Forms.n:Int))then
       if (((0:Int)<=x4/\x4<(laws.n:Int))/\((0:Int)<=x2/\x2<(p.Protos.n:Int)))then
        (I6 N (laws.g x4.toNat) (p.Protos.g x2.toNat) ((p.Entries.g x2.toNat).Forms.g x4.toNat)).bind fun y9=>
        if y9 then
         Af (⟨x2,x4⟩:B9) (
          a (wrap .i64 (x4+1))
          )
        else
         a (wrap .i64 (x4+1))
       else none
      else none
     else
      b (wrap .i64 (x2+1))
     ) 0
   else none
  else
   some []) (i:Int)=some R/\(∀q∈R,inR p.Entries q)/\R.length<=m*63:=by
  intro m
  induction m with
  |zero=>intro M i hk s;obtain⟨M,rfl⟩:∃M',M=M' + 1:=⟨M-1,by omega⟩;rw[I2,Cg];exact⟨[],rfl,fun q t=>by simp at t,by simp⟩
  |succ m ih=>intro M i hk s;obtain⟨M,rfl⟩:∃M',M=M' + 1:=⟨M-1,by omega⟩;obtain⟨R,h1,j,u⟩:=ih M (i+1) (by omega) (by omega);have l:=r i (by omega);obtain⟨R',g1,g2,g3⟩:=Zi o (p:=p) (laws:=laws) (i:=i) (by omega) d (f i (by omega)) (by rw[l];exact c) (by omega) h1 j F N 0 (by omega) (by omega);rw[I2,Ce,Cb,Int.toNat_natCast,Bm];exact⟨R',g1,g2,by omega⟩
 obtain⟨R,h1,j,u⟩:=key p.Entries.n N 0 (by omega) (by omega);exact⟨R,h1,j,by omega⟩
def Ac2 {R:List B9}(h:R.length<=16128):∃s,N2 N R=some s/\s.toList=R:=by
 have key:∀(R:List B9) (z:Sl B9),z.n+R.length<=20000->∃s,U1 R (fun (a:Sl B9->Option (Sl B9)) (x1:B9) (z1:Sl B9)=>
  if ((z1.n+(Sl.of [x1]:Sl B9).n)*16<=140737488355328/\z1.n+(Sl.of [x1]:Sl B9).n<=140737488355328)then
   a (z1.push x1)
  else none
  ) (fun (z1:Sl B9)=>some z1) z=some s/\s.toList=z.toList++R:=by
  intro R
  induction R with
  |nil=>exact fun z _=>⟨z,rfl,by simp⟩
  |cons x R ih=>intro z c;have c:z.n+(R.length+1)<=20000:=c;obtain⟨s,h1,b⟩:=ih (z.push x) (by show z.n+1+R.length<=_;omega);refine⟨s,?_,by rw[b,AP4];simp⟩;show (if _ then _ else none)=_;rw[Dn (by show (z.n+1)*16<=_/\z.n+1<=_;omega)];exact h1
 obtain⟨s,h1,b⟩:=key R (Sl.nil:Sl B9) (by show 0+_<=_;omega);refine⟨s,?_,b⟩;unfold N2 H0;rw[h1];rfl
end Go.AM
namespace Go.AM
variable {N:Nat}
open IntKind (wrap)
open Go.Proofs
def exG (h g:History):Prop:=g.Tree=h.Tree/\wkH g
def Ao5 {N:Nat}(d:3000000<=N){h:History}(b:okH N h){v:Nat}(f:v<h.Tree.n){rest:Option (List (B9×History))}{R:List (B9×History)}(i:rest=some R)(hR:∀q∈R,exG h q.2) :∀(m M k:Nat),k+m=(h.On.g v).n-1->m<M->∃R',Y1 M (fun (a:Int->Option (List (B9×History))) (x4:Int)=>
  if (decide (x4<(wrap .i64 (((h.On.g v).n:Int)-1)))) then
   (R0 N h (v:Int) x4).bind fun y9=>
   Af ((⟨(v:Int),x4⟩:B9),y9.1) (
    a (wrap .i64 (x4+1))
    )
  else
   rest
  ) (k:Int)=some R' /\ (∀q∈R',exG h q.2)/\R'.length<=m+R.length
 |_,0,_,_,hM=>Er hM (Be6 _)
 |0,M+1,k,hk,_=>by have j:=b.row v (by have:=b.on;omega);rw[I2,D9 (n:=((h.On.g v).n:Int)-1) (by omega) (by omega),Cg];exact⟨R,i,hR,by omega⟩
 |m+1,M+1,k,hk,hM=>by
  have j:=b.row v (by have:=b.on;omega);obtain⟨R',h1,l,o⟩:=Ao5 d b f i hR m M (k+1) (by omega) (by omega);obtain⟨g,g1,g2⟩:=AC0 d b f (k:=k) (by omega);refine⟨(⟨(v:Int),(k:Int)⟩,g.1)::R', ?_,fun q c=>?_,by simp;omega⟩
  .rw[I2,Dn (by rw[D9 (n:=((h.On.g v).n:Int)-1) (by omega) (by omega)];simp;omega),g1,Option.bind_some,Bm,h1];rfl
  rcases Bf3.1 c with rfl|c
  .exact g2
  exact l q c
def AQ1 (f:3000000<=N){p:B8}(c:okH N p.History):∃R,X7 N p=some R/\(∀q∈R,exG p.History q.2)/\R.length<=4032:=by
 have j:=c.tree.2.1;have l:=c.on;have key:∀(m M i:Nat),i+m=p.History.On.n->m<M->∃R,Y1 M (fun (a:Int->Option (List (B9×History))) (x2:Int)=>
  if (decide (x2<(p.History.On.n:Int))) then
   if ((0:Int)<=x2/\x2<(p.History.On.n:Int))then
    Y1 N (fun b (x4:Int)=>
     if (decide (x4<(wrap .i64 (((p.History.On.g x2.toNat).n:Int)-1)))) then
      (R0 N p.History x2 x4).bind fun y9=>
      Af ((⟨x2,x4⟩:B9),y9.1) (
       b (wrap .i64 (x4+1))
       )
     else
      a (wrap .i64 (x2+1))
     ) 0
   else none
  else
   some []) (i:Int)=some R/\(∀q∈R,exG p.History q.2)/\R.length<=m*64:=by
  intro m
  induction m with
  |zero=>intro M i hk o;obtain⟨M,rfl⟩:∃M',M=M' + 1:=⟨M-1,by omega⟩;rw[I2,Cg];exact⟨[],rfl,fun q r=>by simp at r,by simp⟩
  |succ m ih=>intro M i hk o;obtain⟨M,rfl⟩:∃M',M=M' + 1:=⟨M-1,by omega⟩;obtain⟨R,h1,d,s⟩:=ih M (i+1) (by omega) (by omega);have t:=c.row i (by omega);obtain⟨R',g1,g2,g3⟩:=Ao5 f c (v:=i) (by omega) h1 d ((p.History.On.g i).n-1) N 0 (by omega) (by omega);rw[I2,Ce,Cb,Int.toNat_natCast,Bm];exact⟨R',g1,g2,by omega⟩
 obtain⟨R,h1,d,s⟩:=key p.History.On.n N 0 (by omega) (by omega);exact⟨R,h1,d,by omega⟩
structure Ao6 (N:Nat) (p:B8):Prop where
 chk:W8 N p=some 0
 hist:okH N p.History
 ents:okE p.Protos p.Entries (U8 p.History.Tree p.History.Tree.n).n
def Ba8 {h:History}(a:okH N h):wkH h:=⟨a.tree,a.ten,a.ln,fun i b=>(a.laws i b).1,a.on,a.row,a.rng⟩
def Ba9 {α : Type}{s:Sl α}{k:Nat}(h:k<s.n):s.g k∈s.toList:=Bk3.2 ⟨k,Bj5.2 h,rfl⟩
def AC4 (c:3000000<=N){p:B8}(hp:Ao6 N p):∃s,Bb N p=some (s,0)/\s.n<=10000:=by
 have ha:=hp.ents;have j:=hp.hist;have hn:=ha.n;have l:=ha.pn;have m:=Md j.tree
 suffices ∃r,Bb N p=some r/\(r.2=0/\r.1.n<=10000) by obtain⟨⟨s,e⟩,r1,r2,r3⟩:=this;obtain rfl:e=0:=r2;exact⟨s,r1,r3⟩
 unfold Bb;refine B7 hp.chk (Bk ?_);obtain⟨L,l1,l2⟩:=Zh c (Ba8 j);refine B7 l1 (B7 rfl ?_);obtain⟨R,f1,f2,f3⟩:=AC3 c (p:=p) (laws:=L) hn m l (fun i o=>(ha.pf i o).1) ha.fn l2;obtain⟨G,c1,c2⟩:=Ac2 (N:=N) f3;refine B7 f1 (B7 c1 (B7 rfl ?_));obtain⟨X,e1,e2,e3⟩:=AQ1 c j;refine B7 e1 ?_;have hG:∀i,i<G.n->inR p.Entries (G.g i):=fun i o=>f2 _ (by rw[<- c2];exact Ba9 o);have hGn:G.n<=16128:=by have:=congrArg List.length c2;rw[AZ9]at this;omega
 refine Tx (fun (L:List (B9×History)) (z:Sl Swap)=>(∀q∈L,exG p.History q.2)/\z.n+L.length<=4032) (fun z d=>⟨(z,0),rfl,rfl,by have:=d.2;simp at this;show z.n<=_;omega⟩) ?_ X (Sl.nil:Sl Swap) ⟨e2,by show 0+_<=_;omega⟩;rintro x Y z w ⟨hx,d⟩ hs;have d:z.n+(Y.length+1)<=4032:=d;obtain⟨g1,g2⟩:=hx x (by simp);obtain⟨L',m1,m2⟩:=Zh c g2;rw[g1]at m2;refine B7 m1 ?_;refine FY (fun i x5=>x5=(i:Int)) G.n _ (by omega) rfl ?_;rintro t i x5 hle rfl u;by_cases hl:i<G.n
 .obtain⟨a,b,ge,ga,gb⟩:=hG i hl;refine ifT (by simpa using hl) (Ab ?_);rw[Int.toNat_natCast,ge];have hF:=ha.fn a ga;have hL':=m2.1;obtain⟨y,hy⟩:=AH1 (p:=p.Protos.g a) (f:=(p.Entries.g a).Forms.g b) c (m2.2 b) (ha.pf a (by omega)).1;refine ifT (by dsimp only;rw[Int.toNat_natCast];omega) ?_;refine B7 (x:=y) (by simpa using hy) ?_;cases y
  .exact ifT rfl (ifT (by show (z.n+1)*32<=_/\z.n+1<=_;omega) (hs _ ⟨fun q v=>hx q (Be5 _ v),by show z.n+1+Y.length<=_;omega⟩))
  exact Bk (u hl _ (Bm))
 exact ifF (by simpa using hl) (hs z ⟨fun q v=>hx q (Be5 _ v),by omega⟩)
def AQ2 (a:3000000<=N){p:B8}(hp:Ao6 N p){c:Int}(hc:0<=c/\c<=1073741824) :∃x,O7 N p c=some (x,0)/\x.Bad.n<=16128/\x.Swaps.n<=10000:=by obtain⟨b,b1,b2⟩:=AQ0 a hp.hist hp.ents hc;obtain⟨s,s1,s2⟩:=AC4 a hp;refine⟨⟨b,s⟩,?_,b2,s2⟩;unfold O7 CW;rw[hp.chk,Option.bind_some,Ej (by decide),Cg,Option.bind_some,Ej (by decide),b1,Option.bind_some,s1,Option.bind_some]
end Go.AM
namespace Go.AM
open Go.Proofs
def dep:Nat->Pat->Prop
 |0,_=>False
 |d+1,p=>p.L.n<=40/\∀i,i<p.L.n->dep d (p.L.g i)
def AH2:∀(d:Nat) (p:Pat),dep d p->∀e,d<=e->dep e p
 |0,_,h,_,_=>h.elim
 |d+1,p,h,0,he=>by omega
 |d+1,p,h,e+1,he=>⟨h.1,fun i a=>AH2 d _ (h.2 i a) e (by omega)⟩
def VZ {N:Nat}(o:1000<=N):∀(d:Nat),d<=40->∀(p:Pat) (M:Nat),N+d+2<=M->∃r:Nat,Ci M p ((40-d:Nat):Int)=some (r:Int)/\40-d<r/\r<=41/\(r<=40->dep (d+1) p)
 |d,hd,p,0,hM=>by omega
 |d,hd,p,M+1,hM=>by
  have:∃x,Ci (M+1) p ((40-d:Nat):Int)=some x/\∃r:Nat,x=(r:Int)/\40-d<r/\r<=41/\(r<=40->dep (d+1) p):=by
   show ∃x,CN (Ci M) M p _=some x/\_;unfold CN;rw[Bm];refine X9 (fun i x1 x2=>x2=(i:Int)/\∃k:Nat,x1=(k:Int)/\40-d+1+i<=k/\k<=41/\i<=p.L.n/\(k<=40->∀j,j<i->dep d (p.L.g j))) 41 _ (by omega) ⟨rfl,40-d+1,rfl,by omega,by omega,by omega,fun _ j b=>Er b (by omega)⟩ ?_;rintro f i x1 x2 q ⟨rfl,k,rfl,h1,c,s,l⟩ hs;by_cases hc:i<p.L.n/\k<=40
   .refine ifT (by simp only[Bd3,Ev];omega) (Ab ?_);obtain⟨r,m,r1,r2,r3⟩:=VZ o (40-k) (by omega) (p.L.g i) M (by omega);rw[show ((40-(40-k):Nat):Int)=(k:Int) by omega]at m;refine B7 (by rw[Int.toNat_natCast];exact m) (hs (by omega) _ _ ⟨Bm,r,rfl,by omega,r2,by omega,fun a j b=>?_⟩);by_cases e:j=i
    .subst e;exact AH2 _ _ (r3 a) d (by omega)
    exact l hc.2 j (by omega)
   refine ifF (by simp only[Bd3,Ev];omega) ⟨_,rfl,k,rfl,by omega,c,fun hk=>⟨by omega,fun j b=>l hk j (by omega)⟩⟩
  obtain⟨x,h1,r,rfl,c⟩:=this;exact⟨r,h1,c⟩
def PG:∀(d:Nat) (p:Pat),dep d p->∀M,100+d<=M->∃r,AS M p=some r
 |0,p,h,M,_=>h.elim
 |d+1,p,h,0,hM=>by omega
 |d+1,p,h,M+1,hM=>by
  suffices ∃r,AS (M+1) p=some r/\True by obtain⟨r,h,_⟩:=this;exact⟨r,h⟩
  show ∃x,At (AS M) M p=some x/\_;unfold At;have hn:=h.1;refine X9 (fun i x1 x2=>x2=(i:Int)) p.L.n _ (by omega) rfl ?_;rintro a i x1 x2 c rfl hs;by_cases hl:i<p.L.n
  .obtain⟨r,b⟩:=PG d (p.L.g i) (h.2 i hl) M (by omega);exact Ag (Ab (B7 (by rw[Int.toNat_natCast];exact b) (hs hl _ _ (Bm))))
  exact Bg ⟨_,rfl,trivial⟩
def TF {N:Nat}(b:2000<=N)(p:Pat):∃r:Nat,Dr N p=some (r:Int)/\(r<=40->dep 41 p):=by obtain⟨r,h1,_,_,a⟩:=VZ (N:=1000) (by omega) 40 (by omega) p N (by omega);exact⟨r,by unfold Dr;rw[show Ci N p 0=some (r:Int) from h1];rfl,a⟩
def AC5 {N:Nat}(f:2000<=N)(laws:Sl Law):∃r,EG N laws=some r:=by
 suffices ∃r,EG N laws=some r/\True by obtain⟨r,h,_⟩:=this;exact⟨r,h⟩
 unfold EG;refine X9 (fun i x1 x2=>x2=(i:Int)) 301 _ (by omega) rfl ?_;rintro d i x1 x2 s rfl hs;by_cases hc:i<laws.n/\i<=300
 .refine ifT (by simp only[Bd3,Ev];omega) (Ab ?_);refine X9 (fun j x7 x8=>x8=(j:Int)) 2 _ (by omega) rfl ?_;rintro b j x7 x8 t rfl a;by_cases hl:j<2
  .refine ifT (by show decide ((j:Int)<((2:Nat):Int))=true;simp;omega) (ifT (by show (0:Int)<=(j:Int)/\(j:Int)<((2:Nat):Int);omega) ?_);obtain⟨r,l,m⟩:=TF f ((Sl.of [(laws.g (i:Int).toNat).Left,(laws.g (i:Int).toNat).Right]:Sl Pat).g (j:Int).toNat);refine B7 l ?_;by_cases c:r<=40
   .obtain⟨q,o⟩:=PG 41 _ (m c) N (by omega);exact Ag (B7 o (a hl _ _ (Bm)))
   exact Bg (a hl _ _ (Bm))
  exact ifF (by show ¬decide ((j:Int)<((2:Nat):Int))=true;simp;omega) (hs (by omega) _ _ (Bm))
 exact ifF (by simp only[Bd3,Ev];omega) ⟨_,rfl,trivial⟩
end Go.AM
namespace Go.AM
open IntKind (wrap)
open Go.Proofs
def Ao7 {N:Nat}(t:3000000<=N)(h:History):∃b,Ft N h=some b/\True:=by
 unfold Ft;by_cases hb:(((decide (70<(h.Tree.n:Int)))||(decide (70<(h.Laws.n:Int))))||(decide (70<(h.On.n:Int))))=true
 .exact ifT hb ⟨_,rfl,trivial⟩
 refine ifF hb ?_;have o : h.Laws.n<=70/\h.On.n<=70:=by simp at hb;omega
 refine FY (fun i x=>x=(i:Int)) h.On.n _ (by omega) rfl ?_;rintro l i x q rfl hs;by_cases d:i<h.On.n
 .refine Ag (Ab ?_);by_cases m:(decide (70<((h.On.g (i:Int).toNat).n:Int)))=true
  .exact ifT m ⟨_,rfl,trivial⟩
  exact ifF m (hs d _ (Bm))
 refine Bg ?_;refine FY (fun i x=>x=(i:Int)) h.Laws.n _ (by omega) rfl ?_;rintro f i x q rfl j;by_cases d:i<h.Laws.n
 .rw[Bm];refine Ag (Ab ?_);obtain⟨r,s⟩:=AC5 (N:=N) (by omega) (h.Laws.sub (i:Int).toNat ((i+1:Nat):Int).toNat);refine B7 s ?_;have last:∀z3:Bool,∃r,(if z3 then some false else f ((i+1:Nat):Int))=some r/\True:=fun z=>by
   cases z
   .exact Bh (j d _ rfl)
   exact ifT rfl ⟨_,rfl,trivial⟩
  refine ltX ?_;by_cases g1:(decide (4<r))=true
  .exact ifT g1 (last _)
  refine ifF g1 ?_;by_cases g2:(decide (20<((h.Laws.g (i:Int).toNat).If.n:Int)))=true
  .exact ifT g2 (last _)
  refine ifF g2 ?_;by_cases g3:(decide (20<((h.Laws.g (i:Int).toNat).Out.n:Int)))=true
  .exact ifT g3 (last _)
  refine ifF g3 ?_;obtain⟨a,ha,_⟩:=TF (N:=N) (by omega) (h.Laws.g (i:Int).toNat).Left;refine B7 ha ?_;by_cases g4:(decide (41<(a:Int)))=true
  .exact ifT g4 (last _)
  refine ifF g4 ?_;obtain⟨c,hc,_⟩:=TF (N:=N) (by omega) (h.Laws.g (i:Int).toNat).Right;exact B7 hc (last _)
 exact Bg ⟨_,rfl,trivial⟩
structure TG (x:Small):Prop where
 par:∀i,i<x.Parents.n->∃k:Nat,x.Parents.g i=(k:Int)/\k<256
 laws:CA x.Laws
 on:∀i,i<x.On.n->∃k:Nat,x.On.g i=(k:Int)/\k<65536
def Zj {n:Nat}(h:n<256):IntKind.u8.wrap (n:Int)=n:=by have h1:((n:Int) % (2 ^ 8:Int))=n:=Bk6 (by omega) (by omega);unfold wrap;simp only[IntKind.bits,IntKind.signed,h1,Bm3,Bd6,Eu]
def Ao8 (a j:Nat):Str:=[UInt8.ofNat (a+j)]
def Ao9 {a j:Nat}(h:a+j<256):[UInt8.ofNat (wrap .u8 ((a:Int)+(wrap .u8 (j:Int)))).toNat]=Ao8 a j:=by rw[Zj (by omega),<- Int.natCast_add,Zj h,Int.toNat_natCast];rfl
def Zk {a i j:Nat}(b:a+i<256)(c:a+j<256)(h:Ao8 a i=Ao8 a j):i=j:=by
 have:=congrArg UInt8.toNat (Bv5 h).1
 rw[Bq9,Bq9]at this;omega
def Ap0:∀j:Fin 10,Nr (Ao8 97 j.val)=true:=by decide +kernel
def AQ3 (x:Small):Nat->Node
 |0=>⟨-1,[114]⟩
 |j+1=>⟨(((x.Parents.g j).toNat % (j+1):Nat):Int),Ao8 97 (j+1)⟩
def AR6 (x:Small)(j:Nat):Law:=⟨Ao8 65 j,(x.Laws.g j).Left,(x.Laws.g j).Right,(x.Laws.g j).If,(x.Laws.g j).Out,(x.Laws.g j).Mode⟩
def Ap1 {x:Small}(hx:TG x){j:Nat}(d:j<x.Laws.n):Nq (AR6 x j):=by obtain⟨⟨a,b,c⟩,l,f,g,i⟩:=hx.laws j d;exact⟨⟨a,b,c⟩,by show 1<_;omega,f,g,i⟩
def AC6 {x:Small}{t:Sl Node}(hn:t.n<=10)(ht:∀j,j<t.n->t.g j=AQ3 x j){v:Nat}(c:v<t.n):Ba1 t v:=by
 have a:∀j,j<t.n->0<j->(AQ3 x j).Name=Ao8 97 j:=fun j _ d=>by obtain⟨k,rfl⟩:∃k,j=k+1:=⟨j-1,by omega⟩;rfl
 have b:∀j,j<10->([114]:Str)≠Ao8 97 j:=fun j f h=>by
  have:=congrArg UInt8.toNat (Bv5 h).1
  rw[Bq9]at this;have e:(114:UInt8).toNat=114:=rfl;omega
 refine⟨fun h=>by rw[ht 0 (by omega)];rfl,fun d=>?_,?_,fun u i=>?_⟩
 .obtain⟨k,rfl⟩:∃k,v=k+1:=⟨v-1,by omega⟩;rw[ht _ c];show 0<=(((x.Parents.g k).toNat % (k+1):Nat):Int)/\(((x.Parents.g k).toNat % (k+1):Nat):Int)<((k+1:Nat):Int)
  have:=Bm6 (x.Parents.g k).toNat (show 0<k+1 by omega)
  omega
 .rw[ht _ c];by_cases d:v=0
  .subst d;show Nr [114]=true;decide +kernel
  rw[a v c (by omega)];exact Ap0 ⟨v,by omega⟩
 rw[ht _ c,ht u (by omega),a v c (by omega)];by_cases d:u=0
 .subst d;exact b v (by omega)
 rw[a u (by omega) (by omega)];exact fun h=>by have:=Zk (by omega) (by omega) h;omega
def AC7 {N:Nat}(hN:3000000<=N){x:Small}(hx:TG x) :∃r:History×Bool,Z2 N x=some r/\((r.2=false/\r.1.Tree.n=0) \/ okH N r.1):=by
 unfold Z2;refine X9 (fun i (x1:Sl Node) x2=>x2=((i+1:Nat):Int)/\x1.n=i+1/\∀j,j<i+1->x1.g j=AQ3 x j) 9 _ (by omega) ⟨rfl,rfl,fun j s=>by obtain rfl:j=0:=(by omega);rfl⟩ ?_;rintro self i x1 x2 hi ⟨rfl,hn1,h1⟩ hs;by_cases hlt:i+1<=x.Parents.n/\i+1<10
 .obtain⟨k,hk,a0⟩:=hx.par i (by omega);have e1:wrap .i64 (((i+1:Nat):Int)-1)=(i:Int):=by rw[AA2 (by omega) (by omega)];rfl
  refine Ag ?_;rw[e1,Int.toNat_natCast,hk,D9 (n:=(k:Int)) (by omega) (by omega)];refine ifT ⟨⟨by omega,by omega⟩,by omega⟩ (ifT (by show (x1.n+1)*24<=_/\x1.n+1<=_;omega) (hs (by omega) _ _ ⟨Bm,by show x1.n+1=_;omega,fun j s=>?_⟩));show (if j<x1.n then x1.g j else _)=_;by_cases e:j<x1.n
  .rw[Dn e];exact h1 j (by omega)
  obtain rfl:j=i+1:=by omega
  rw[Ej e];have e2:[UInt8.ofNat (wrap .u8 (97+(wrap .u8 ((i+1:Nat):Int)))).toNat]=Ao8 97 (i+1):=Ao9 (a:=97) (by omega);rw[e2];show (⟨_,_⟩:Node)=⟨(((x.Parents.g i).toNat % (i+1):Nat):Int),Ao8 97 (i+1)⟩;rw[hk,Int.toNat_natCast];rfl
 refine Bg ?_;clear hs;refine X9 (fun i (x4:Sl Law) x5=>x5=(i:Int)/\x4.n=i/\∀j,j<i->x4.g j=AR6 x j/\j<x.Laws.n/\chkAll N (AR6 x j)) 6 _ (by omega) ⟨rfl,rfl,fun j s=>Er s (by omega)⟩ ?_;rintro self2 m x4 x5 hm ⟨rfl,hn4,z⟩ a1;by_cases a2:m<x.Laws.n/\m<6
 .obtain⟨a3,hm6⟩:=a2;have e2:[UInt8.ofNat (wrap .u8 (65+(wrap .u8 (m:Int)))).toNat]=Ao8 65 m:=Ao9 (a:=65) (by omega);have hin:=Ap1 hx a3;refine Ag (Ab ?_);rw[Int.toNat_natCast,e2];obtain⟨b,hb,_⟩:=Ao7 hN (⟨(Sl.nil:Sl Node),(Sl.of [AR6 x m]:Sl Law),(Sl.nil:Sl (Sl Int))⟩:History);have hl:Fu N (AR6 x m)=some b:=by unfold Fu;rw[hb];rfl
  refine B7 hl (ltX ?_);cases b
  .exact ifT rfl (ifT rfl ⟨_,rfl,.inl ⟨rfl,rfl⟩⟩)
  refine Bk ?_;obtain⟨e,he,hE⟩:=IP hN hin;refine B7 he ?_;rcases hE with⟨rfl,hc⟩ | ⟨rfl,_⟩
  .refine Bk (ifT (by show (x4.n+1)*200<=_/\x4.n+1<=_;omega) (a1 hm6 _ _ ⟨Bm,by show x4.n+1=_;omega,fun j s=>?_⟩));show (if j<x4.n then x4.g j else AR6 x m)=_/\_;by_cases e:j<x4.n
   .rw[Dn e];exact z j (by omega)
   obtain rfl:j=m:=by omega
   rw[Ej e];exact⟨rfl,a3,hc⟩
  exact Ap ⟨_,rfl,.inl ⟨rfl,rfl⟩⟩
 refine Bg ?_;clear a1;have hL1:wrap .i64 ((x4.n:Int)+1)=((x4.n+1:Nat):Int):=Bm;rw[hL1];refine X9 (fun v (f:Sl (Sl Int)) a4=>a4=(v:Int)/\f.n=v/\∀u,u<v->(f.g u).n<=5/\∀j,j<(f.g u).n->0<=(f.g u).g j/\(f.g u).g j<x4.n) x1.n _ (by omega) ⟨rfl,rfl,fun j s=>Er s (by omega)⟩ ?_;rintro self5 v f a4 o ⟨rfl,hn10,t⟩ hs5;by_cases hvl:v<x1.n
 .obtain⟨c,hc,hc2⟩:∃c:Nat,Ec N x.On (v:Int)=some (c:Int)/\c<65536:=by
   unfold Ec;by_cases h:v<x.On.n
   .obtain⟨k,hk,a0⟩:=hx.on v h;exact⟨k,by rw[Ce,Cb,Int.toNat_natCast,hk,D9 (by omega) (by omega)],a0⟩
   exact⟨0,by rw[Cg];rfl,by omega⟩
  refine Ag (B7 hc ?_);refine X9 (fun q (l:Sl Int) a5=>l.n=q/\(∃d:Nat,a5=(d:Int)/\d<65536)/\∀j,j<l.n->0<=l.g j/\l.g j<x4.n) 5 _ (by omega) ⟨rfl,⟨c,rfl,hc2⟩,fun j s=>Er s (Be6 j)⟩ ?_;rintro self6 q l a5 hq ⟨hn14,⟨d,rfl,hd⟩,a6⟩ hs6;refine Ab ?_;have em:(d:Int).tmod ((x4.n+1:Nat):Int)=((d % (x4.n+1):Nat):Int):=rfl;have ed:(d:Int).tdiv ((x4.n+1:Nat):Int)=((d / (x4.n+1):Nat):Int):=rfl;rw[em,ed];have a7:=Bm6 d (show 0<x4.n+1 by omega);have a8:=Nat.div_le_self d (x4.n+1);generalize d / (x4.n+1)=d1 at a8;generalize d % (x4.n+1)=m1 at a7;by_cases g:m1≠0/\q<5
  .rw[AA2 (by omega) (by omega),D9 (n:=(d1:Int)) (by omega) (by omega)];refine Ag (ifT ⟨⟨by omega,by show (l.n+1)*8<=_;omega,by show l.n+1<=_;omega⟩,by omega⟩ (hs6 (by omega) _ _ ⟨by show l.n+1=_;omega,⟨_,rfl,by omega⟩,fun j s=>?_⟩));show 0<=(if j<l.n then l.g j else _)/\(if j<l.n then l.g j else _)<_;by_cases e:j<l.n
   .rw[Dn e];exact a6 j e
   rw[Ej e];omega
  refine Bg (ifT (by show (f.n+1)*24<=_/\f.n+1<=_;omega) (hs5 hvl _ _ ⟨Bm,by show f.n+1=_;omega,fun u hu=>?_⟩));show (if u<f.n then f.g u else l).n<=5/\∀j,j<(if u<f.n then f.g u else l).n->0<=(if u<f.n then f.g u else l).g j/\(if u<f.n then f.g u else l).g j<_;by_cases e:u<f.n
  .rw[Dn e];exact t u (by omega)
  rw[Ej e];exact⟨by omega,a6⟩
 obtain rfl:v=x1.n:=by omega
 have w:Fv x1:=⟨by omega,by omega,fun v o=>AC6 (by omega) (fun j s=>h1 j (by omega)) o⟩;have hw:wkH (⟨x1,x4,f⟩:History):=⟨w,by show x1.n<=10;omega,by show x4.n<=64;omega,fun i y=>?_,by show f.n=x1.n;omega,fun v o=>(t v (by have o:v<f.n:=o;omega)).1,fun v o=>(t v (by have o:v<f.n:=o;omega)).2⟩
 .have hc:∀i,i<x4.n->chkAll N (x4.g i):=fun i y=>by rw[(z i (by omega)).1];exact (z i (by omega)).2.2
  obtain⟨e,e1,_,e2⟩:=RF hN hw;obtain rfl:=e2 hc fun u v huv o hn=>by
   have o:v<x4.n:=o;have hn:(x4.g u).Name=(x4.g v).Name:=hn;rw[(z u (by omega)).1,(z v (by omega)).1]at hn
   have:=Zk (a:=65) (by omega) (by omega) hn
   omega
  exact Bh ⟨_,rfl,.inr (AG8 hw hc e1)⟩
 have y:i<x4.n:=y;show Nq (x4.g i);obtain⟨e,hil,_⟩:=z i (by omega);rw[e];exact Ap1 hx hil
end Go.AM
namespace Go.AM
variable {N:Nat}
open IntKind (wrap)
open Go.Proofs
def Ap2 {n:Nat}(h:n<4294967296):IntKind.u32.wrap (n:Int)=n:=by have h1:((n:Int) % (2 ^ 32:Int))=n:=Bk6 (by omega) (by omega);unfold wrap;simp only[IntKind.bits,IntKind.signed,h1,Bm3,Bd6,Eu]
def Ap3 (l:1000<=N){s:Str}(hs:s.length<=32):∃w,R8 N s=some w/\wOk w:=by
 unfold R8;refine X9 (fun i (x1:Sl Im) x2=>x2=(i:Int)/\x1.n=i/\vW x1) s.length _ (by omega) ⟨rfl,rfl,fun j c=>Er c (Be6 j)⟩ ?_;rintro a i x1 x2 m ⟨rfl,h1,d⟩ b;by_cases hl:i<s.length
 .have nx:∀z:Im,vS z->∃r,(if ((x1.n+(Sl.of [z]:Sl Im).n)*8<=140737488355328/\x1.n+(Sl.of [z]:Sl Im).n<=140737488355328)then a (x1.push z) (wrap .i64 ((i:Int)+1))else none)=some r/\wOk r:=fun z f=>
   ifT (by show (x1.n+1)*8<=_/\x1.n+1<=_;omega) (b hl _ _ ⟨Bm,by show x1.n+1=_;omega,fun j c=>by
    show vS (if j<x1.n then x1.g j else z);split
    .exact d j (by assumption)
    exact f⟩)
  refine Ag (Ab ?_);split
  .exact nx _ ⟨2#32,5#32,rfl,by decide +kernel⟩
  split
  .exact nx _ ⟨3#32,4#32,rfl,by decide +kernel⟩
  exact nx _ ⟨5#32,2#32,rfl,by decide +kernel⟩
 exact Bg ⟨x1,rfl,by omega,d⟩
def ifC {R:Type}{Q:R->Prop}{p:Prop}[Decidable p]{a b:Option R}(h1:∃r,a=some r/\Q r)(c:∃r,b=some r/\Q r):∃r,(if p then a else b)=some r/\Q r:=by
 split
 .exact h1
 exact c
def XW:wOk Il:=⟨Bl6 _,fun i a=>Er a (Be6 i)⟩
def AQ4 (a:1000<=N){s:Str}(hs:s.length<=32):∃f,Bc N s=some f/\okF f:=by
 unfold Bc;obtain⟨w,w1,w2⟩:=Ap3 a hs;split
 .exact⟨_,rfl,XW,fun _=>rfl⟩
 exact B7 w1 ⟨_,rfl,w2,fun h=>by cases h⟩
def Wa (v:3000000<=N){h:History}(x:okH N h){lv:Sl Int}(hl:lv.n<=63){n:Int}{s:Str}(hs:s.length<=32){K:Sl H9->Option (B8×Bool)}{Q:B8×Bool->Prop}
 (y:∀fs:Sl H9,fs.n=lv.n->(∀k,k<fs.n->okF (fs.g k))->∃r,K fs=some r/\Q r) (p0:B8) (z:Q (p0,false)):∃r,BD N (fun (c:Sl H9->Int->Option (B8×Bool)) (a:Sl H9) (b:Int)=>
  if (decide (b<(lv.n:Int))) then
   (R8 N s).bind fun d=>
   if (0:Int)<=(wrap .i64 (10+(wrap .i64 (2*(b.tmod 8)))))then
    if (((shI .shr .u32 n (wrap .i64 (10+(wrap .i64 (2*(b.tmod 8)))))).tmod 4)==0) then
     if ((a.n+(Sl.of [(⟨false,Il⟩:H9)]:Sl H9).n)*32<=140737488355328/\a.n+(Sl.of [(⟨false,Il⟩:H9)]:Sl H9).n<=140737488355328)then
      c (a.push (⟨false,Il⟩:H9)) (wrap .i64 (b+1))
     else none
    else
     if (if (((shI .shr .u32 n (wrap .i64 (10+(wrap .i64 (2*(b.tmod 8)))))).tmod 4)==1) then ((shI .shr .u32 n (wrap .i64 (10+(wrap .i64 (2*(b.tmod 8)))))).tmod 4)==1 else ((shI .shr .u32 n (wrap .i64 (10+(wrap .i64 (2*(b.tmod 8)))))).tmod 4)==2) then
      if (((0:Int)<=b/\b<(lv.n:Int))/\b.toNat<lv.n)then
       (Cv N h d (lv.g b.toNat)).bind fun l=>
       if (l.2 != 0) then
        some (p0,false)
       else
        if ((a.n+(Sl.of [(⟨true,l.1⟩:H9)]:Sl H9).n)*32<=140737488355328/\a.n+(Sl.of [(⟨true,l.1⟩:H9)]:Sl H9).n<=140737488355328)then
         c (a.push (⟨true,l.1⟩:H9)) (wrap .i64 (b+1))
        else none
      else none
     else
      if ((a.n+(Sl.of [(⟨true,d⟩:H9)]:Sl H9).n)*32<=140737488355328/\a.n+(Sl.of [(⟨true,d⟩:H9)]:Sl H9).n<=140737488355328)then
       c (a.push (⟨true,d⟩:H9)) (wrap .i64 (b+1))
      else none
   else none
  else K a
  ) (Sl.nil:Sl H9) 0=some r/\Q r:=by
 obtain⟨w,w1,w2⟩:=Ap3 (N:=N) (by omega) hs;refine X9 (fun i (a:Sl H9) b=>b=(i:Int)/\a.n=i/\∀k,k<a.n->okF (a.g k)) lv.n _ (by omega) ⟨rfl,rfl,fun k hk=>Er hk (Be6 k)⟩ ?_;rintro m i a b hi ⟨rfl,h1,u⟩ o;by_cases q:i<lv.n
 case neg=>exact Bg (y _ (by omega) u)
 have nx:∀f:H9,okF f->∃r,(if ((a.n+(Sl.of [f]:Sl H9).n)*32<=140737488355328/\a.n+(Sl.of [f]:Sl H9).n<=140737488355328)then m (a.push f) (wrap .i64 ((i:Int)+1))else none)=some r/\Q r:=fun f hf=>
  ifT (by show (a.n+1)*32<=_/\a.n+1<=_;omega) (o q _ _ ⟨Bm,by show a.n+1=_;omega,fun k hk=>by
   show okF (if k<a.n then a.g k else f);split
   .exact u k (by assumption)
   exact hf⟩)
 have hm:(i:Int).tmod 8=((i % 8:Nat):Int):=rfl;have hm8:=Bm6 i (show 0<8 by omega);refine Ag (B7 w1 (ifT (by rw[hm,D9 (n:=2*_) (by omega) (by omega),D9 (by omega) (by omega)];omega) ?_));refine ifC (nx _ ⟨XW,fun _=>rfl⟩) (ifC ?_ (nx ⟨true,w⟩ ⟨w2,fun e=>by cases e⟩))
 obtain⟨r,r1,r2⟩:=At_ok v x (w:=w) (fun j hj=>(w2.2 j hj).ok) (lv.g (i:Int).toNat);refine Ab (B7 r1 ?_);by_cases t:r.2=0
 .exact ifF (by simp[t]) (nx ⟨true,r.1⟩ ⟨r2 t,fun e=>by cases e⟩)
 exact ifT (by simpa using t) ⟨_,rfl,z⟩
structure Ap4 (x:Ak3):Prop where
 H:TG x.H
 L:∀i,i<x.L.n->∃b:BitVec 32,x.L.g i=(b.toNat:Int)
def Ac3:(Dz 4194304).isSome=true:=by decide +kernel
def Wb:Sl Str:=(Dz 4194304).getD Sl.nil
def AC8:Dz 4194304=some Wb:=by obtain⟨v,a⟩:=Be4.1 Ac3;unfold Wb;rw[a];rfl
def AC9 (h:History)(p:Sl H9)(e:Sl Entry):Eb 4194304 ⟨Wb,Sl.nil,Sl.nil,h,p,e⟩=some 0:=by
 have:Eb 4194304 ⟨Wb,Sl.nil,Sl.nil,⟨Sl.nil,Sl.nil,Sl.nil⟩,Sl.nil,Sl.nil⟩=some 0:=by decide +kernel
 exact this
def AD0:∀i:Fin 4,Nr [103,UInt8.ofNat (wrap .u8 (48+(wrap .u8 ((i.val:Nat):Int)))).toNat]=true:=by decide +kernel
def AD1 {h:History}{p:Sl H9}{l:Sl Entry}(a:okH 4194304 h)(hl:okE p l (U8 h.Tree h.Tree.n).n):Ao6 4194304 ⟨Wb,Sl.nil,Sl.nil,h,p,l⟩:=⟨by unfold W8;rw[AC9,Option.bind_some,Ej (by decide)];show (U4 4194304 h p l).bind _=_;rw[VY (by omega) a hl];rfl,a,hl⟩
def AD2 {x:Ak3}(hx:Ap4 x):∃r,AG 4194304 x=some r/\(r.2=true->Ao6 4194304 r.1):=by
 have w:3000000<=4194304:=by omega
 unfold AG;obtain⟨⟨h,ok⟩,m1,m2⟩:=AC7 w hx.H;refine B7 m1 ?_;have bad:∀{e:Sl Int×Int},(ok=false \/ e.2≠0)->((!ok)||(e.2 != 0))=true:=fun {e} g=>by
  rcases g with g|g
  .simp[g]
  simp[g]
 rcases m2 with⟨g1,g2⟩ | c
 .obtain rfl:ok=false:=g1
  have:∃r,AB 4194304 h.Tree=some r:=by unfold AB Du;have g2:h.Tree.n=0:=g2;rw[g2];exact⟨_,rfl⟩
  obtain⟨r,hr⟩:=this;exact B7 hr (ifT (bad (.inl rfl)) ⟨_,rfl,fun e=>by cases e⟩)
 have c:okH 4194304 h:=c;refine B7 (Lw w c.tree).2 ?_;have d:=Md c.tree;have o:=@AD1 h;generalize U8 h.Tree h.Tree.n=lv at d o;by_cases hb:ok=true
 case neg=>exact ifT (bad (.inl (by simpa using hb))) ⟨_,rfl,fun e=>by cases e⟩
 subst hb;refine Bh (B7 AC8 ?_);refine Al7 (fun i (x7:Sl H9) (x8:Sl Entry) x9=>x9=(i:Int)/\x7.n=i/\x8.n=i/\(∀k,k<x7.n->okF (x7.g k))/\∀k,k<x8.n->(x8.g k).Forms.n=lv.n/\(∀j,j<(x8.g k).Forms.n->okF ((x8.g k).Forms.g j))/\Nr (x8.g k).Gloss=true) 4 _ (by omega) ⟨rfl,rfl,rfl,fun k hk=>Er hk (Be6 k),fun k hk=>Er hk (Be6 k)⟩ ?_;rintro t i x7 x8 x9 hi ⟨rfl,h7,h8,u,a⟩ hs;by_cases l:i<x.L.n/\i<4
 case neg=>exact Bg ⟨_,rfl,fun _=>o c ⟨by omega,by omega,u,fun k hk=>(a k hk).1,fun k hk=>(a k hk).2.1,fun k hk=>(a k hk).2.2⟩⟩
 obtain⟨b,hb⟩:=hx.L i l.1;refine Ag (Ab ?_);rw[Int.toNat_natCast,hb];refine X9 (fun k (m:Str) v=>v=(k:Int)/\m.length=k) 4 _ (by omega) ⟨rfl,rfl⟩ ?_;rintro y k m v hk ⟨rfl,h16⟩ z;have hm:((b.toNat:Nat):Int).tmod 4=((b.toNat % 4:Nat):Int):=rfl;have hm4:=Bm6 b.toNat (show 0<4 by omega);rw[hm,D9 (n:=((b.toNat % 4:Nat):Int)) (by omega) (by omega)];by_cases hkl:k<=b.toNat % 4
 .have e1:wrap .i64 (2+(wrap .i64 (2*(k:Int))))=((2+2*k:Nat):Int):=by rw[D9 (n:=2*_) (by omega) (by omega),D9 (by omega) (by omega)];omega
  have e2:(shI .shr .u32 (b.toNat:Int) ((2+2*k:Nat):Int)).tmod 4=(((b >>> (2+2*k)).toNat % 4:Nat):Int):=by rw[AE9];rfl
  have hq:=Bm6 (b >>> (2+2*k)).toNat (show 0<4 by omega);rw[e1,e2];generalize (b >>> (2+2*k)).toNat % 4=q at hq;have e3:wrap .u32 ((q:Int)+1)=((q+1:Nat):Int):=Ap2 (n:=q+1) (by omega);have h4:(([112,98,97,97]:Str).length:Int)=4:=rfl;rw[e3,h4,Int.toNat_natCast,Int.toNat_natCast];have hd:((([112,98,97,97]:Str).take (q+1)).drop q).length=1:=by rw[Be9,Bk0];show min (q+1) 4-q=1;omega
  exact Ag (ifT ⟨⟨⟨by omega,by omega⟩,by omega,by omega,by omega⟩,by rw[hd];omega⟩ (z (by omega) _ _ ⟨Bm,by rw[Bg1,hd];omega⟩))
 refine Bg ?_;obtain⟨f,f1,f2⟩:=AQ4 (N:=4194304) (by omega) (s:=m) (by omega);refine B7 f1 (ltX ?_);have a0:=AD0 ⟨i,l.2⟩;have K:∀z3:Bool×Sl Im,okF ⟨z3.1,z3.2⟩->∀fs:Sl H9,fs.n=lv.n->(∀k,k<fs.n->okF (fs.g k))->∃r,(if ((x7.n+(Sl.of [(⟨z3.1,z3.2⟩:H9)]:Sl H9).n)*32<=140737488355328/\x7.n+(Sl.of [(⟨z3.1,z3.2⟩:H9)]:Sl H9).n<=140737488355328)then
  if ((x8.n+(Sl.of [(⟨[103,UInt8.ofNat (wrap .u8 (48+(wrap .u8 (i:Int)))).toNat],fs⟩:Entry)]:Sl Entry).n)*40<=140737488355328/\x8.n+(Sl.of [(⟨[103,UInt8.ofNat (wrap .u8 (48+(wrap .u8 (i:Int)))).toNat],fs⟩:Entry)]:Sl Entry).n<=140737488355328)then
   t (x7.push (⟨z3.1,z3.2⟩:H9)) (x8.push (⟨[103,UInt8.ofNat (wrap .u8 (48+(wrap .u8 (i:Int)))).toNat],fs⟩:Entry)) (wrap .i64 ((i:Int)+1))
  else none
  else none)=some r/\(r.2=true->Ao6 4194304 r.1):=by
  intro z3 hz fs a1 a2;refine ifT (by show (x7.n+1)*32<=_/\x7.n+1<=_;omega) (ifT (by show (x8.n+1)*40<=_/\x8.n+1<=_;omega) (hs l.2 _ _ _ ⟨Bm,by show x7.n+1=_;omega,by show x8.n+1=_;omega,fun k hk=>?_,fun k hk=>?_⟩))
  .show okF (if k<x7.n then x7.g k else _);split
   .exact u k (by assumption)
   exact hz
  show (if k<x8.n then x8.g k else _).Forms.n=lv.n/\(∀j,j<(if k<x8.n then x8.g k else _).Forms.n->okF ((if k<x8.n then x8.g k else _).Forms.g j))/\Nr (if k<x8.n then x8.g k else _).Gloss=true;split
  .exact a k (by assumption)
  exact⟨a1,a2,a0⟩
 split
 .exact Wa w c d (by omega) (K (false,Sl.nil) ⟨XW,fun _=>rfl⟩) _ (fun e=>by cases e)
 exact Wa w c d (by omega) (K (f.Has,f.W) f2) _ (fun e=>by cases e)
end Go.AM
namespace Go.AM
set_option maxRecDepth 100000
def Me:Dy 4194304=some true:=by decide +kernel
end Go.AM
namespace Go.AM
variable {N:Nat}
open IntKind (wrap)
open Go.Proofs
def eqE {x y:Sl Exception}(o:x.n<N)(hs:x.n<10000000):∃b,C0 N x y=some b/\(b=true->x.n=y.n/\∀i,i<x.n->x.g i=y.g i):=by
 unfold C0;by_cases hn:x.n=y.n
 case neg=>exact Ag ⟨false,rfl,fun e=>by cases e⟩
 refine ifF (by simp[hn]) ?_;refine FY (fun i x1=>x1=(i:Int)/\∀j,j<i->x.g j=y.g j) x.n _ o ⟨rfl,fun j f=>Er f (by omega)⟩ ?_;rintro m i x1 q ⟨rfl,h⟩ l;by_cases hl:i<x.n
 .refine Ag (Ab ?_);rw[Int.toNat_natCast];by_cases e:x.g i=y.g i
  .refine ifF (by simp[e]) (l hl _ ⟨Bm,fun j f=>?_⟩);by_cases e2:j=i
   .subst e2;exact e
   exact h j (by omega)
  refine ifT ?_ ⟨false,rfl,fun e=>by cases e⟩;revert e;rcases x.g i with⟨a,b,c,d⟩;rcases y.g i with⟨a',b',c',d'⟩;simp;omega
 exact Bg ⟨true,rfl,fun _=>⟨hn,fun j f=>h j (by omega)⟩⟩
def eqW {x y:Sl Swap}(o:x.n<N)(hs:x.n<10000000):∃b,F0 N x y=some b/\(b=true->x.n=y.n/\∀i,i<x.n->x.g i=y.g i):=by
 unfold F0;by_cases hn:x.n=y.n
 case neg=>exact Ag ⟨false,rfl,fun e=>by cases e⟩
 refine ifF (by simp[hn]) ?_;refine FY (fun i x1=>x1=(i:Int)/\∀j,j<i->x.g j=y.g j) x.n _ o ⟨rfl,fun j f=>Er f (by omega)⟩ ?_;rintro m i x1 q ⟨rfl,h⟩ l;by_cases hl:i<x.n
 .refine Ag (Ab ?_);rw[Int.toNat_natCast];by_cases e:x.g i=y.g i
  .refine ifF (by simp[e]) (l hl _ ⟨Bm,fun j f=>?_⟩);by_cases e2:j=i
   .subst e2;exact e
   exact h j (by omega)
  refine ifT ?_ ⟨false,rfl,fun e=>by cases e⟩;revert e;rcases x.g i with⟨a,b,c,d⟩;rcases y.g i with⟨a',b',c',d'⟩;simp;omega
 exact Bg ⟨true,rfl,fun _=>⟨hn,fun j f=>h j (by omega)⟩⟩
abbrev Bb0 (x c:Gn):Prop:=(x.Bad.n=c.Bad.n/\∀i,i<x.Bad.n->x.Bad.g i=c.Bad.g i)/\x.Swaps.n=c.Swaps.n/\∀i,i<x.Swaps.n->x.Swaps.g i=c.Swaps.g i
def PH (d:3000000<=N){p:B8}{x:Gn}(hx:O7 N p 9=some (x,0))(h1:x.Bad.n<=16128)(f:x.Swaps.n<=10000){c:Gn}(hc:¬Bb0 x c):O2 N p 9 c=some (false,0):=by
 unfold O2;obtain⟨a,a1,a2⟩:=eqE (N:=N) (x:=x.Bad) (y:=c.Bad) (by omega) (by omega);obtain⟨b,b1,b2⟩:=eqW (N:=N) (x:=x.Swaps) (y:=c.Swaps) (by omega) (by omega);rw[hx,Option.bind_some,Ej (show ¬((0:Int) != 0)=true by decide)];dsimp only;rw[a1,Option.bind_some,b1];cases a
 .rfl
 cases b
 .rfl
 exact Er ⟨a2 rfl,b2 rfl⟩ hc
def Wc (a:Int){d:Int}(h1:1<=d)(b:d<=5):wI (a+d)≠a:=by
 unfold wI wrap;dsimp only;split
 .show (a+d) % 2 ^ 64-2 ^ 64≠a;omega
 show (a+d) % 2 ^ 64≠a;omega
def sE_ne {k:Nat}(e:Exception){d:Int}(h1:1<=d)(g:d<=5):sE k e d≠e:=by
 rcases e with⟨a,b,c,f⟩;unfold sE;split<;>intro h
 .exact Wc a h1 g (congrArg Exception.Entry h)
 .exact Wc b h1 g (congrArg Exception.Leaf h)
 .exact Wc c h1 g (congrArg Exception.Kind h)
 exact Wc f h1 g (congrArg Exception.Cost h)
def sW_ne {k:Nat}(e:Swap){d:Int}(h1:1<=d)(g:d<=5):sW k e d≠e:=by
 rcases e with⟨a,b,c,f⟩;unfold sW;split<;>intro h
 .exact Wc a h1 g (congrArg Swap.Node h)
 .exact Wc b h1 g (congrArg Swap.Place h)
 .exact Wc c h1 g (congrArg Swap.Entry h)
 exact Wc f h1 g (congrArg Swap.Leaf h)
def Wd {R:Type}{Q:R->Prop}{f:Int}{k:Nat->Option R}{n:Nat}{j:Int}(a:j.toNat<n)(hk:∀i,∃r,k i=some r/\Q r):∃r,YY f k n j=some r/\Q r:=by unfold YY;exact ifC (ifT ⟨a,a⟩ (hk 0)) (ifC (ifT ⟨a,a⟩ (hk 1)) (ifC (ifT ⟨a,a⟩ (hk 2)) (ifT ⟨a,a⟩ (hk 3))))
def Bb1 {w:Int}(hw:∃k:Nat,w=(k:Int)/\k<256){n:Nat}(hn:0<n):0<=sJ w n/\sJ w n<n:=by
 obtain⟨k,rfl,hk⟩:=hw;have e:sJ (k:Int) n=((k % n:Nat):Int):=by unfold sJ wI;rw[D9 (by omega) (by omega)];rfl
 have:=Bm6 k hn
 rw[e];omega
def sD_in {b:Int}(hb:∃k:Nat,b=(k:Int)/\k<256):1<=sD b/\sD b<=5:=by
 obtain⟨k,rfl,hk⟩:=hb;have e:(wI (k:Int)).tmod 5=((k % 5:Nat):Int):=by unfold wI;rw[D9 (by omega) (by omega)];rfl
 have:=Bm6 k (show 0<5 by omega)
 unfold sD;rw[e];unfold wI;rw[D9 (by omega) (by omega)];omega
def AH3 {p:B8}{x:Gn}(hx:O7 4194304 p 9=some (x,0))(h1:x.Bad.n<=16128)(a:x.Swaps.n<=10000){z:Sl Exception×Sl Swap}(hc:¬Bb0 x ⟨z.1,z.2⟩):Lr 4194304 p z=some true:=by unfold Lr;rw[PH (by omega) hx h1 a hc,Option.bind_some,lt,Dn (by decide),Dn (by decide),Me];rfl
def AH4 {p:B8}{x:Gn}(hx:O7 4194304 p 9=some (x,0))(h1:x.Bad.n<=16128)(d:x.Swaps.n<=10000){w f b:Int}(hw:∃k:Nat,w=(k:Int)/\k<256)(hb:∃k:Nat,b=(k:Int)/\k<256){z:Bool}(i:z=true->0<x.Bad.n):∃r,Ls 4194304 p x w f b z=some r/\r=true:=by
 obtain⟨d1,d2⟩:=sD_in hb;unfold Ls;refine ltX ?_;by_cases c:z=true
 .have a:=i c;obtain⟨j1,j2⟩:=Bb1 hw a;refine ifT c (ifT ⟨by omega,j1,j2⟩ (Wd (by omega) fun k=>⟨true,AH3 hx h1 d fun g=>?_,rfl⟩));have g:=g.1.2 (sJ w x.Bad.n).toNat (by omega);replace g:x.Bad.g (sJ w x.Bad.n).toNat=if (sJ w x.Bad.n).toNat=(sJ w x.Bad.n).toNat then sE k (x.Bad.g (sJ w x.Bad.n).toNat) (sD b)else _:=g
  rw[Dn rfl]at g;exact sE_ne _ d1 d2 g.symm
 refine ifF c ?_;by_cases a:0<x.Swaps.n
 .obtain⟨j1,j2⟩:=Bb1 hw a;refine ifT (by simpa using a) (ifT ⟨by omega,j1,j2⟩ (Wd (by omega) fun k=>⟨true,AH3 hx h1 d fun g=>?_,rfl⟩));have g:=g.2.2 (sJ w x.Swaps.n).toNat (by omega);replace g:x.Swaps.g (sJ w x.Swaps.n).toNat=if (sJ w x.Swaps.n).toNat=(sJ w x.Swaps.n).toNat then sW k (x.Swaps.g (sJ w x.Swaps.n).toNat) (sD b)else _:=g
  rw[Dn rfl]at g;exact sW_ne _ d1 d2 g.symm
 exact ifF (by simpa using a) ⟨true,Me,rfl⟩
def NH {x:Ak3}(hx:Ap4 x){w f b:Int}(hw:∃k:Nat,w=(k:Int)/\k<256)(hb:∃k:Nat,b=(k:Int)/\k<256):Be 4194304 x w f b=some true:=by
 refine An9 ?_;obtain⟨r,r1,r2⟩:=AD2 hx;unfold Be;refine B7 r1 ?_;by_cases a:r.2=true
 case neg=>exact ifT (by simpa using a) ⟨true,Me,rfl⟩
 refine ifF (by simp[a]) ?_;obtain⟨c,c1,c2,c3⟩:=AQ2 (by omega) (r2 a) (c:=9) (by omega);refine B7 c1 (ifF (show ¬((0:Int) != 0)=true by decide) ?_);dsimp only;have sz:∀n,n<=20000->szC n:=fun n hn=>⟨by omega,by omega⟩;refine ifT (sz _ (by omega)) (ifT (sz _ (by omega)) (B7 (PH (by omega) c1 c2 c3 fun g=>?_) (Bk ?_)))
 .have g:=g.1.1;replace g:c.Bad.n=c.Bad.n+1:=g;omega
 refine ifT (sz _ (by omega)) (ifT (sz _ (by omega)) (B7 (PH (by omega) c1 c2 c3 fun g=>?_) (Bk (ifT ⟨sz _ (by omega),sz _ (by omega)⟩ (ltX ?_)))))
 .have g:=g.2.1;replace g:c.Swaps.n=c.Swaps.n+1:=g;omega
 by_cases d:0<c.Bad.n
 .exact ifT (by simpa using d) (AH4 c1 c2 c3 hw hb fun _=>d)
 exact ifF (by simpa using d) (AH4 c1 c2 c3 hw hb fun e=>by cases e)
end Go.AM
