/- Part 6. -/
import Derived.Test.YthnfmkeomcncgaaGreatDoorME
set_option linter.defProp false
set_option linter.unusedSimpArgs false
set_option linter.unusedVariables false
set_option linter.unusedSectionVars false
namespace Go.AM
variable {N:Nat}
def Jh{c:Prop}{i:Decidable c}{α:Sort _}{a b:α}(h:¬c:=by decide):(ite c a b)=b:=Js h
def Iw{c:Prop}{i:Decidable c}{α:Sort _}{a b:α}(h:¬c:=by grind):(ite c a b)=b:=Js h
def Hh{c:Prop}{i:Decidable c}{α:Sort _}{a b:α}(h:¬c:=by simp):(ite c a b)=b:=Js h
def Gh{c:Prop}{i:Decidable c}{α:Sort _}{a b:α}(h:¬c:=by omega):(ite c a b)=b:=Js h
def Ge{c:Prop}{i:Decidable c}{α:Sort _}{a b:α}(h:c:=by grind):(ite c a b)=a:=Jk h
def Gd{c:Prop}{i:Decidable c}{α:Sort _}{a b:α}(h:c:=by simp):(ite c a b)=a:=Jk h
def Fp{c:Prop}{i:Decidable c}{α:Sort _}{a b:α}(h:c:=by omega):(ite c a b)=a:=Jk h
open IntKind (wrap)
def Cg3:=@BitVec.getLsbD_or
def Cg9:=@BitVec.getLsbD_and
def Ck3:=@BitVec.getLsbD_not
def Co2:=@Classical.axiomOfChoice
def Cq3:=@Nat.lt_of_le_of_lt
def Cq7:=@Bool.eq_false_iff
def Cr4:=@List.filterMap_cons
def Cs5:=@BitVec.eq_of_getLsbD_eq
def Cs6:=@Nat.testBit_two_pow_mul
def Cs7:=@List.filter_cons_of_pos
def Cs8:=@List.filter_cons_of_neg
def Cu0:=@List.filter_eq_nil_iff
def Cu5:=@Bool.and_eq_false_iff
def Cu6:=@List.filterMap_append
def Cv1:=@List.length_reverse
open Go.Proofs
def Ay8 {A R:Type}{body:(A->Option R)->A->Option R}(st:Nat->A)(p:Nat->Bool)(n:Nat)(An8:Option R)(bad:Nat->Option R)
 (hb:∀self i,i<=n->(∀j,j<i->p j=true)->body self (st i)=ite (i<n) (ite (p i) (self (st (i+1))) (bad i)) An8) :
 ∀(N i:Nat),i<=n->(∀j,j<i->p j=true)->n-i<N->N3 N body (st i)=match (List.range n).find? (λi=>!p i)with|some i=>bad i|none=>An8
 |0,_,_,_,h=>by omega
 |N+1,i,hi,hp,h=>by
  rw[U2,hb _ i hi hp];by_cases h1:i<n
  .rw[Jk h1];by_cases a:p i=true
   .rw[Jk a];exact Ay8 st p n An8 bad hb N (i+1) h1 (by grind) (by omega)
   rw[Js a]
   have:(List.range n).find? (λi=>!p i)=some i:=by
    rw[List.find?_range_eq_some]
    grind
   rw[this]
  grind
def Bx1 {R:Type}(p:Nat->Bool)(n:Nat)(An8 bad:Option R):(match (List.range n).find? (λi=>!p i)with|some i=>bad|none=>An8)=ite ((List.range n).all p) An8 bad:=by
 by_cases h:(List.range n).all p=true
 all_goals grind
def Ez {A R:Type}{body:(A->Option R)->A->Option R}(st:Nat->A)(p:Nat->Bool)(n:Nat)(An8 bad:Option R){N:Nat}(a:n<N)
 (hb:∀self i,i<=n->(∀j,j<i->p j=true)->body self (st i)=ite (i<n) (ite (p i) (self (st (i+1))) bad) An8) :
 N3 N body (st 0)=ite ((List.range n).all p) An8 bad:=by
 rw[Ay8 st p n An8 (λ_=>bad) hb N 0 (by omega) (λj b=>by omega) (by omega),Bx1]
def DM (c:Int):Bool:=decide (97<=c)&&decide (c<=122)||decide (48<=c)&&decide (c<=57)
def KF (s:Str):Bool:=decide (1<=s.length)&&decide (s.length<=16)&&decide (97<=E9 s 0)&&decide (E9 s 0<=122)&&(List.range s.length).all λi=>DM (E9 s i)
def Bg9 (s:Str)(hs:s.length<N)(b:s.length<1000000000):EV N s=some (KF s):=by
 unfold EV;rw[Ge];by_cases hc:((((decide (((s.length:Nat):Int)<1))||(decide (16<((s.length:Nat):Int))))||(decide ((E9 s 0)<97)))||(decide (122<(E9 s 0))))=true
 .rw[Jk hc];simp at hc;simp only[KF,Cd9]
  grind
 rw[Js hc];simp only[Cg6,Lq]at hc;refine (Ez (λi:Nat=>(i:Int)) (λi=>DM (E9 s i)) s.length (some true) (some false) hs λa i g _=>?_).trans ?_
 .simp only[Lq];by_cases h:i<s.length
  .rw[Fp,Fp,Jk h,Fl];simp only[Dh,Cd8];show (ite (!DM (E9 s i)) _ _)=_;cases DM (E9 s i)<;>simp
  grind
 have h1:decide (1<=s.length)=true:=by grind
 have c:decide (s.length<=16)=true:=by grind
 have d:decide (97<=E9 s 0)=true:=by grind
 have f:decide (E9 s 0<=122)=true:=by grind
 simp only[KF,h1,c,d,f,Cp3];cases (List.range s.length).all λi=>DM (E9 s i)<;>rfl
def QT (p:Int->Bool)(s:Str)(most:Int):Bool:=decide (1<=s.length)&&decide ((s.length:Int)<=most)&&(List.range s.length).all λi=>p (E9 s i)
def TI (s:Str)(most:Int)(p:Int->Bool)(f:Int->Option Bool)(b:∀i,i<s.length->f (E9 s i)=some (p (E9 s i)))(hs:s.length<N)(c:s.length<1000000000):J6 N s most f=some (QT p s most):=by
 unfold J6;by_cases hc:((decide (((s.length:Nat):Int)<1))||(decide (most<((s.length:Nat):Int))))=true
 .rw[Jk hc];simp at hc;simp only[QT,Cd9]
  grind
 rw[Js hc];simp only[Cg6,Lq]at hc;refine (Ez (λi:Nat=>(i:Int)) (λi=>p (E9 s i)) s.length (some true) (some false) hs λa i g _=>?_).trans ?_
 .simp only[Lq];by_cases h:i<s.length
  .rw[Fp,Fp,Jk h,Fl,b i h];simp only[Cd8];cases p (E9 s i)<;>simp
  grind
 have h1:decide (1<=s.length)=true:=by grind
 have d:decide ((s.length:Int)<=most)=true:=by grind
 simp only[QT,h1,d,Cp3];cases (List.range s.length).all λi=>p (E9 s i)<;>rfl
def Ay9 (s:Str)(most:Int)(p:Int->Bool)(f:Int->Option Bool)(b:∀c,f c=some (p c))(hs:s.length<N)(a:s.length<1000000000):J6 N s most f=some (QT p s most):=TI s most p f (λi _=>b _) hs a
def Az0 (s:Str):Bool:=QT DM s 16&&decide (57<E9 s 0)
def Bh0 (s:Str):Az0 s=KF s:=by
 rw[Cf7];simp only[Az0,KF,QT,Ce2,Lq,Ce8,Ch1];constructor
 .rintro⟨⟨⟨h1,c⟩,a⟩,d⟩;have b:=a 0 (by omega);have ez:((0:Nat):Int).toNat=(0:Int).toNat:=rfl;simp only[DM,Cg6,Ce2,Lq]at b
  grind
 grind
def Bh1 (s:Sl Str):Bool:=(List.range s.n).all λi=>(List.range i).all λj=>!(s.g i==s.g j)
def Az1 (s:Sl Str):Bool:=(List.range s.n).all λi=>KF (s.g i)
def YX (s:Sl Str):Int:=ite (24<s.n) 12 (ite (Az1 s) (ite (Bh1 s) 0 6) 15)
def BM6 (s:Sl Str)(d:1100000<=N)(hs:∀i,i<s.n->(s.g i).length<1100000) :Kx N s=some (ite (YX s=0) (some ⟨true,(Sl.of []:Sl Str).app s,Sl.nil⟩) none,YX s):=by
 unfold Kx YX;by_cases b:24<s.n
 .rw[Ge,Jk b];simp
 rw[Iw,Js b];refine (Ez (λi:Nat=>(i:Int)) (λi=>KF (s.g i)) s.n (ite (Bh1 s) (some (some ⟨true,(Sl.of []:Sl Str).app s,Sl.nil⟩,0)) (some (none,6))) (some (none,15)) (by omega) λa i c _=>?_).trans ?_
 .simp only[Lq];by_cases h:i<s.n
  .rw[Fp,Fp,Jk h,Fl];rw[show (i:Int).toNat=i from rfl,Bg9 _ (by have:=hs i h;omega) (by have:=hs i h;omega)]
   grind
  rw[Gh,Js h];refine (Ez (λi:Nat=>(i:Int)) (λi=>(List.range i).all λj=>!(s.g i==s.g j)) s.n (some (some ⟨true,(Sl.of []:Sl Str).app s,Sl.nil⟩,0)) (some (none,6)) (by omega) λa i c _=>?_).trans ?_
  .skip
   by_cases h:i<s.n
   .rw[Fp,Jk h];refine (Ez (λj:Nat=>(j:Int)) (λj=>!(s.g i==s.g j)) i (a ((i+1:Nat):Int)) (some (none,6)) (by omega) λself' j f _=>?_).trans ?_
    .skip
     by_cases h' : j<i
     .rw[Fp,Fp,Jk h',Fl]
      grind
     rw[Gh,Js h',Fl]
    rfl
   grind
  rfl
 grind[Az1,Bh1]
def WK {κ ν : Type}{eq : κ -> κ -> Bool}{k : κ}:∀{es:List (κ × ν)},(∀p,p∈es->eq k p.1=false)->M7 eq k es=none
 |[],_=>rfl
 |(a,v)::es,h=>by have h1:=h (a,v) (by simp);simp only[M7,h1,Ce4,Lp];exact WK (by grind)
def WL {κ ν : Type}{eq : κ -> κ -> Bool}{k : κ}:∀{es:List (κ × ν)}{p : κ × ν},p∈es->eq k p.1=true->∃v,M7 eq k es=some v
 |(a,v)::es,p,hp,h=>by
  by_cases e:eq k a=true
  .simp_all[M7]
  rcases Ci2.1 hp with rfl|hp
  .grind
  obtain⟨v',b⟩:=WL hp h
  grind[M7]
def Oo {κ ν : Type}{eq : κ -> κ -> Bool}{k : κ}{v : ν}:∀{es:List (κ × ν)},(∀p,p∈es->eq k p.1=false)->FZ eq k v es=es++[(k,v)]
 |[],_=>rfl
 |(a,x)::es,h=>by have h1:=h (a,x) (by simp);simp only[FZ,h1,Ce4,Lp,Ce9,Ck9,true_and];exact Oo (by grind)
def AU5 (s:Sl Str)(k:Nat):List (Str×Int):=(List.range k).map λi=>(s.g i,(i:Int))
def Bh2 (s:Sl Str)(k:Nat):AU5 s (k+1)=AU5 s k++[(s.g k,(k:Int))]:=by simp[AU5,Cl1]
def BM7 (s:Sl Str)(o:1100000<=N)(hs:∀i,i<s.n->(s.g i).length<1100000) :Bc N s=some (ite (YX s=0) (some ⟨s,AU5 s s.n,Sl.nil,[],[]⟩) none,YX s):=by
 unfold Bc YX;by_cases a:24<s.n
 .rw[Ge,Jk a];simp
 rw[Iw,Js a];refine (Ez (λi:Nat=>(i:Int)) (λi=>KF (s.g i)) s.n (ite (Bh1 s) (some (some ⟨s,AU5 s s.n,Sl.nil,[],[]⟩,0)) (some (none,6))) (some (none,15)) (by omega) λb i l _=>?_).trans ?_
 .simp only[Lq];by_cases h:i<s.n
  .rw[Fp,Fp,Jk h,Fl];rw[show (i:Int).toNat=i from rfl,Ay9 (s.g i) 16 DM (λ(u3:Int)=>U0 N u3) (λc=>rfl) (by have:=hs i h;omega) (by have:=hs i h;omega),<- Bh0];simp only[Cd8,Az0];by_cases hc:QT DM (s.g i) 16=true
   .have hl:1<=(s.g i).length:=by
     have hc:=hc
     simp_all[QT,Ce2,Lq]
    rw[Fp]
    grind
   grind
  rw[Gh,Js h];unfold U1;refine (Ez (λi:Nat=>(AU5 s i,(i:Int))) (λi=>(List.range i).all λj=>!(s.g i==s.g j)) s.n (some (some ⟨s,AU5 s s.n,Sl.nil,[],[]⟩,0)) (some (none,6)) (by omega) λb i l _=>?_).trans ?_
  .dsimp only;by_cases h:i<s.n
   .rw[Fp,Fp,Jk h,Fl,show (i:Int).toNat=i from rfl];by_cases d:((List.range i).all λj=>!(s.g i==s.g j))=true
    .have hk:∀p,p∈AU5 s i->eqS (s.g i) p.1=false:=by
      intro p hp;simp only[AU5,Cl0,Ch1]at hp;obtain⟨j,f,rfl⟩:=hp
      have:=Ce8.1 d j (Ch1.2 f)
      simpa using this
     rw[WK hk,K0,Oo hk,<- Bh2,Jk d]
    obtain⟨v,m⟩:∃v,M7 eqS (s.g i) (AU5 s i)=some v:=by
     rw[Ct5]at d;obtain⟨j,f,q⟩:=List.all_eq_false.1 d;refine WL (p:=(s.g j,(j:Int))) ?_ ?_
     .simp only[AU5,Cl0]
      grind
     grind
    rw[m,M2,Js d]
   rw[Gh,Js h]
   have:i=s.n:=by omega
   subst this;simp only[D1];rw[Fp];rfl
  rfl
 grind[Az1,Bh1]
def BZ7 (p m:BitVec 32)(i:Nat):Bool:=(p.getLsbD i&&m.getLsbD i)||((p.getLsbD i||m.getLsbD i)&&decide (24<=i))
def Qt (p m:BitVec 32):Bool:=(List.range 32).all λi=>!BZ7 p m i
def AH3 (p m:BitVec 32)(b:1000<=N):G6 N (sOf p m)=some (Qt p m):=by
 unfold G6;refine (Ez (λi:Nat=>(i:Int)) (λi=>!BZ7 p m i) 32 (some true) (some false) (by omega) λa i c _=>?_).trans ?_
 .dsimp only;by_cases h:i<32
  .rw[Ge,Fp,Jk h,Fl];simp only[WI];have e:decide ((24:Int)<=(i:Int))=decide (24<=i):=(by grind);rw[e]
   grind[BZ7]
  grind
 grind[Qt]
def BS1 (p m:BitVec 32)(f:Nat):Int:=ite (Qt p m=true/\f<24) (ite (p.getLsbD f) 1 (ite (m.getLsbD f) (-1) 0)) 0
def BM8 (p m:BitVec 32)(f:Nat)(a:1000<=N):W7 N (sOf p m) (f:Int)=some (BS1 p m f):=by
 unfold W7;rw[AH3 p m a];simp only[Cd8,lt,DH,WI,BS1];rw[Jk (by omega:(0:Int)<=(f:Int)),Jk (by omega:(0:Int)<=(f:Int))];have e:(decide ((0:Int)<=(f:Int))&&decide ((f:Int)<24))=decide (f<24):=by rw[Cf7];grind
 rw[e]
 grind
def BM9 (n:Nat)(p m:BitVec 32):Bool:=Qt p m&&(List.range (24-n)).all λi=>!(BS1 p m (n+i) != 0)
def Az2 (v:D7)(p m:BitVec 32)(hn:v.F.n<=24)(a:1000<=N):Y7 N v (sOf p m)=some (BM9 v.F.n p m):=by
 unfold Y7;rw[AH3 p m a];simp only[Cd8,BM9];by_cases c:Qt p m=true
 .rw[Iw];refine (Ez (λi:Nat=>((v.F.n+i:Nat):Int)) (λi=>!(BS1 p m (v.F.n+i) != 0)) (24-v.F.n) (some true) (some false) (by omega) λb i d _=>?_).trans ?_
  .by_cases h:i<24-v.F.n
   .rw[Ge,Jk h,BM8 p m _ a,Fl]
    grind
   grind
  grind
 grind
def belG (n:Nat)(p m:BitVec 32):Bool:=decide (p &&& m=0#32)&&decide ((p ||| m) &&& ~~~(BitVec.ofNat 32 (2 ^ n-1))=0#32)
def Az3 {n:Nat}(hn:n<=24):wrap .u32 ((shI .shl .u32 1 ((n:Nat):Int))-1)=((BitVec.ofNat 32 (2 ^ n-1)).toNat:Int):=by
 have hp:2 ^ n<=2 ^ 24:=Cm9 (by omega) hn;have a:0<2 ^ n:=(by grind);rw[show (1:Int)=((1#32).toNat:Int) from rfl,BC8,Cq5,Ct3];have e:(1#32).toNat*2 ^ n % 2 ^ 32=2 ^ n:=by
  grind
 rw[e,show ((2 ^ n:Nat):Int)-((1#32).toNat:Int)=((2 ^ n-1:Nat):Int) by
  grind,Nm (by omega),Cr8,Ck4 (by omega)]
def Az4 (v:A6)(p m:BitVec 32)(hn:v.feats.n<=24):N8 N v (sOf p m)=some (belG v.feats.n p m):=by unfold N8;rw[Fp,Az3 hn,IZ,Db,DV,eq0,eq0];rfl
def BZ8 {n:Nat}(hn:n<=24)(p m:BitVec 32):belG n p m=BM9 n p m:=by
 have a:∀i,i<32->(BitVec.ofNat 32 (2 ^ n-1)).getLsbD i=decide (i<n):=λi b=>by rw[BitVec.getLsbD_ofNat,Nat.testBit_two_pow_sub_one];grind
 have z:∀x:BitVec 32,x=0#32 ↔ ∀i,i<32->x.getLsbD i=false:=(by grind);rw[Cf7];simp only[belG,BM9,Qt,BZ7,Ce2,Lq,z,Ce8,Ch1,Cg9,Cg3,Ck3];constructor
 .rintro⟨h1,d⟩;have f : ∀i,i<32->n<=i->p.getLsbD i=false/\m.getLsbD i=false:=by grind
  grind[BS1]
 rintro⟨h1,d⟩;have g:Qt p m=true:=by grind[Qt,BZ7,List.all_eq_true]
 refine⟨λi b=>?_,λi b=>?_⟩
 .have h:=h1 i b;rw[Cf6]at h;cases hp:p.getLsbD i<;>cases hm:m.getLsbD i
  all_goals grind
 rw[a i b];by_cases j:i<n
 .grind
 by_cases c:i<24
 .have:=d (i-n) (by omega)
  rw[show n+(i-n)=i by omega]at this;simp only[BS1,g,c,and_self,Lo]at this;cases hp:p.getLsbD i<;>cases hm:m.getLsbD i<;>simp_all
 grind
abbrev fnd (n:Nat)(p:Nat->Bool):Option Nat:=(List.range n).find? p
def AH4 {n:Nat}{p:Nat->Bool}(h:fnd n p=none){i:Nat}(a:i<n):p i=false:=by
 have:=List.find?_eq_none.1 h i (Ch1.2 a)
 grind
def Pd {κ : Type}(eq : κ -> κ -> Bool)(f:Nat -> κ)(z : κ):∀l:List Nat,M7 eq z (l.map λi=>(f i,(i:Int)))=(l.find? λi=>eq z (f i)).map λi=>((i:Nat):Int)
 |[]=>rfl
 |a::l=>by
  simp only[Cf8,M7,List.find?_cons];cases h:eq z (f a)
  .simp;exact Pd eq f z l
  simp
def BN0 (s:Sl F9)(k:Nat):List (Str×Int):=(List.range k).map λi=>((s.g i).Yi,(i:Int))
def BN1 (s:Sl F9)(k:Nat):List (Up×Int):=(List.range k).map λi=>((s.g i).S,(i:Int))
def AU6 (s:Sl F9)(z:Str)(k:Nat):M7 eqS z (BN0 s k)=(fnd k λi=>z==(s.g i).Yi).map λi=>((i:Nat):Int):=Pd eqS _ z _
def AU7 (s:Sl F9)(z:Up)(k:Nat):M7 G2 z (BN1 s k)=(fnd k λi=>G2 z (s.g i).S).map λi=>((i:Nat):Int):=Pd G2 _ z _
structure IOk (v:A6):Prop where
 number:v.number=AU5 v.feats v.feats.n
 symbols:v.symbols=BN0 v.sounds v.sounds.n
 values:v.values=BN1 v.sounds v.sounds.n
 feats:v.feats.n<=24
 sounds:v.sounds.n<=256
 sym:∀i,i<v.sounds.n->1<=(v.sounds.g i).Yi.length/\(v.sounds.g i).Yi.length<=4
def BN2 (a b:Up):G2 a b=decide (a=b):=by
 rw[Cf7];cases a;cases b
 grind
def BE3:Str:=[64,63,33,38,42,36,37]
def BZ9 (c:Int):Bool:=(decide (65<=c)&&decide (c<=90))||decide (0<=Lib.indexByte BE3 (UInt8.ofNat c.toNat))
def Bx2 (c:Int):Bool:=DM c||BZ9 c
def Vg (z:Str):Bool:=QT Bx2 z 4
def TJ (s:Str)(i:Int):0<=E9 s i/\E9 s i<256:=by
 have:=UInt8.toNat_lt (s.getD i.toNat 0)
 grind
def BN3 (c:Int)(a:0<=c)(h1:c<256):M5 N c=some (Bx2 c):=by
 unfold M5;have hs:U0 N c=some (DM c):=rfl;have b:P1 N [64,63,33,38,42,36,37] c=some (Lib.indexByte BE3 (UInt8.ofNat c.toNat)):=by unfold P1;rw[Jk ⟨a,h1⟩];rfl
 rw[hs,b]
 grind[lt,Bx2,BZ9,DM]
def Bh3 (n:Nat)(s:Sl F9)(z:Str)(p m:BitVec 32):Int:= ite (Vg z) (ite (BM9 n p m) (ite ((fnd s.n λi=>z==(s.g i).Yi||decide (sOf p m=(s.g i).S)).isSome) 6 (ite (s.n=256) 4 0)) 14) 15
def BS2 (v:A6)(z:Str)(s:Up):A6:=⟨v.feats,v.number,v.sounds.push ⟨z,s⟩,BN0 (v.sounds.push ⟨z,s⟩) (v.sounds.n+1),BN1 (v.sounds.push ⟨z,s⟩) (v.sounds.n+1)⟩
def Bh4 (s:Sl F9)(x:F9):BN0 (s.push x) (s.n+1)=BN0 s s.n++[(x.Yi,(s.n:Int))]:=by
 grind[BN0,List.range_succ,List.map_congr_left]
def Bh5 (s:Sl F9)(x:F9):BN1 (s.push x) (s.n+1)=BN1 s s.n++[(x.S,(s.n:Int))]:=by
 grind[BN1,List.range_succ,List.map_congr_left]
def Ca0 (n:Nat)(p q:Nat->Bool):(fnd n λi=>p i||q i).isSome=((fnd n p).isSome||(fnd n q).isSome):=by
 rw[Cf7]
 grind
theorem Bx3 {z:Str}(h:Vg z=true):1<=z.length/\z.length<=4:=by simp only[Vg,QT,Ce2,Lq]at h;omega
def BN4 {v:A6}(h:IOk v)(z:Str)(p m:BitVec 32)(f:z.length<N)(d:z.length<1000000000) :P3 N v z (sOf p m)=some (Bh3 v.feats.n v.sounds z p m,ite (Bh3 v.feats.n v.sounds z p m=0) (BS2 v z (sOf p m)) v):=by
 unfold P3;rw[TI z 4 Bx2 (λu1=>M5 N u1) (λi c=>BN3 _ (TJ z i).1 (TJ z i).2) f d,Az4 v p m h.feats,BZ8 h.feats,h.symbols,h.values,AU6,AU7];simp only[J5,Cd8,BN2];rw[Hh];unfold Bh3;rw[Ca0];show (ite (!Vg z) _ _)=_;cases hs:Vg z
 .simp
 cases hb:BM9 v.feats.n p m
 .simp
 simp only[Cn8,Ce4,Lp,Lo];cases e1:fnd v.sounds.n λi=>z==(v.sounds.g i).Yi with
 |some i=>cases e2:fnd v.sounds.n λi=>decide (sOf p m=(v.sounds.g i).S)<;>simp[JD]
 |none=>
  cases e2:fnd v.sounds.n λi=>decide (sOf p m=(v.sounds.g i).S)with
  |some i=>simp[JD]
  |none=>
   have hn:=h.sounds;simp only[Cq1,K0,Option.isSome_none,Bool.or_false,Ce4,Lp];by_cases a:v.sounds.n=256
   .grind
   rw[Iw,Ge,Js a];simp only[Lo,Cd9,Cf2,true_and,BS2,Bh4,Bh5];congr 1
   .refine Oo λq b=>?_;simp only[BN0,Cl0,Ch1]at b;obtain⟨i,c,rfl⟩:=b;exact AH4 e1 c
   refine Oo λq b=>?_;simp only[BN1,Cl0,Ch1]at b;obtain⟨i,c,rfl⟩:=b;rw[BN2];exact AH4 e2 c
def BN5 {v:A6}(h:IOk v){z:Str}{p m:BitVec 32}(a:Bh3 v.feats.n v.sounds z p m=0):IOk (BS2 v z (sOf p m)):=by
 have hs:Vg z=true:=by
  grind[Bh3]
 have hn:v.sounds.n<256:=by
  have:=h.sounds
  unfold Bh3 at a;rw[Jk hs]at a;omega
 refine⟨h.number,rfl,rfl,h.feats,hn,λi b=>?_⟩;show 1<=(ite (i<v.sounds.n) (v.sounds.g i) (⟨z,_⟩)).Yi.length/\_;show 1<=(ite (i<v.sounds.n) (v.sounds.g i) (⟨z,_⟩)).Yi.length/\(ite (i<v.sounds.n) (v.sounds.g i) (⟨z,_⟩)).Yi.length<=4;split
 .rename_i h';exact h.sym i h'
 grind[Bx3]
def Cd1 (s:Up):Prop:=s=sOf (BitVec.ofInt 32 s.Plus) (BitVec.ofInt 32 s.Minus)
def Ca1 (n:Nat)(l:Sl F9)(z:Str)(s:Up):Int:=Bh3 n l z (BitVec.ofInt 32 s.Plus) (BitVec.ofInt 32 s.Minus)
def iAddS {v:A6}(h:IOk v)(z:Str){s:Up}(hs:Cd1 s)(b:z.length<N)(a:z.length<1000000000) :P3 N v z s=some (Ca1 v.feats.n v.sounds z s,ite (Ca1 v.feats.n v.sounds z s=0) (BS2 v z s) v):=by
 have:=BN4 h z (BitVec.ofInt 32 s.Plus) (BitVec.ofInt 32 s.Minus) b a
 rw[<- hs]at this;exact this
def Bx4 {v:A6}(h:IOk v){z:Str}{s:Up}(hs:Cd1 s)(a:Ca1 v.feats.n v.sounds z s=0):IOk (BS2 v z s):=by
 have:=BN5 h a
 rw[<- hs]at this;omega
def Ca2 (c:Int)(a:0<=c)(h1:c<256):Kv N c=some (BZ9 c):=by
 have h:∀k:Fin 256,Kv 0 ((k.val:Nat):Int)=some (BZ9 ((k.val:Nat):Int)):=by decide +kernel
 have:=h ⟨c.toNat,by omega⟩
 rw[show ((c.toNat:Nat):Int)=c by omega]at this;exact this
def Az5 (s:Str)(hs:s.length<N)(b:s.length<1000000000):Cu N s=some (Vg s):=by
 unfold Cu;by_cases hc:((decide (((s.length:Nat):Int)<1))||(decide (4<((s.length:Nat):Int))))=true
 .rw[Jk hc];simp at hc;simp only[Vg,QT,Cd9]
  grind
 rw[Js hc];simp only[Cg6,Lq]at hc;refine (Ez (λi:Nat=>(i:Int)) (λi=>Bx2 (E9 s i)) s.length (some true) (some false) hs λa i d _=>?_).trans ?_
 .by_cases h:i<s.length
  .have hb:=TJ s i;have hl:Dh N (E9 s i)=some (DM (E9 s i)):=rfl;rw[Ge,Fp,Jk h,Fl,hl,Ca2 _ hb.1 hb.2];simp only[Cd8,lt];by_cases e:DM (E9 s i)=true
   .rw[Iw,Jk (show Bx2 (E9 s i)=true by grind[Bx2])];simp
   rw[Ge,Fp];by_cases e2:BZ9 (E9 s i)=true
   all_goals simp_all[Js,Jk,Bx2,E9]
  grind
 have h1:decide (1<=s.length)=true:=by grind
 have c:decide ((s.length:Int)<=4)=true:=by grind
 simp only[Vg,QT,h1,c,Cp3];cases (List.range s.length).all λi=>Bx2 (E9 s i)<;>rfl
def Cd2 (v:D7)(z:Str)(s:Up):D7:=⟨v.Made,v.F,v.S.push ⟨z,s⟩⟩
def BN6 (v:D7)(hm:v.Made=true)(d:v.F.n<=24)(hS:v.S.n<=256)(z:Str)(p m:BitVec 32)(f:z.length<N)(b:z.length<1000000000)(l:1000<=N) :DI N v z (sOf p m)=some (Bh3 v.F.n v.S z p m,ite (Bh3 v.F.n v.S z p m=0) (Cd2 v z (sOf p m)) v):=by
 unfold DI;rw[Az5 z f b,Az2 v p m d l];simp only[N4,hm,Cd8];rw[Hh];unfold Bh3;cases hs:Vg z
 .simp
 cases hb:BM9 v.F.n p m
 .simp
 simp only[Cn8,Ce4,Lp,Lo];refine (Ay8 (λi:Nat=>(i:Int)) (λi=>!(z==(v.S.g i).Yi||decide (sOf p m=(v.S.g i).S))) v.S.n (some (ite (v.S.n=256) 4 0,ite (v.S.n=256) v (Cd2 v z (sOf p m)))) (λ_=>some (6,v)) (λc i o _=>?_) N 0 (by omega) (λj q=>by omega) (by omega)).trans ?_
 .by_cases h:i<v.S.n
  .rw[Ge,Fp,Jk h,show (i:Int).toNat=i from rfl,Fl];have e0:((((v.S.g i).S.Plus==(sOf p m).Plus)&&((v.S.g i).S.Minus==(sOf p m).Minus)) != false)=decide (sOf p m=(v.S.g i).S):=by
    have:=BN2 (sOf p m) (v.S.g i).S
    rw[<- this];grind
   grind
  rw[Iw,Js h];by_cases a:v.S.n=256
  .rw[Ge,Jk a,Jk a]
  rw[Iw,Js a,Js a,Ge]
  grind[Cd2]
 grind
structure Rel3 (v:A6) (r:D7):Prop where
 ok:IOk v
 made:r.Made=true
 feats:r.F=v.feats
 sounds:r.S=v.sounds
def BS3 (w:Sl Up)(e:Int):Prop:=(32<w.n/\e=11) \/ (w.n<=32/\(∃i,i<w.n/\¬vS (w.g i))/\e=14) \/ (wOk w/\e=0)
def Bh6 {w:Sl Up}{e e' : Int}(h:BS3 w e)(h' : BS3 w e'):e=e':=by
 rcases h with⟨h1,a⟩ | ⟨h1,⟨i,b,c⟩,a⟩ | ⟨h1,a⟩<;>rcases h' with⟨g1,g2⟩ | ⟨g1,⟨j,d,gv⟩,g2⟩ | ⟨g1,g2⟩
 .omega
 .omega
 .have:=g1.1;omega
 .omega
 .omega
 .exact Ke (g1.2 i b) c
 .have:=h1.1;omega
 .exact Ke (h1.2 j d) gv
 omega
def GH {w:Sl Up}{e:Int}(h:BS3 w e):e=0↔wOk w:=by
 rcases h with⟨h1,a⟩ | ⟨h1,⟨i,b,c⟩,a⟩ | ⟨h1,a⟩
 .exact⟨λh=>by omega,λh=>by have:=h.1;omega⟩
 .exact⟨λh=>by omega,λh=>Ke (h.2 i b) c⟩
 grind
def Ak1 (l:1000<=N){w:Sl Up}(hw:∀i,i<w.n->okS (w.g i))(V:Up->Option Bool)(d:∀p m:BitVec 32,V (sOf p m)=some (vB p m)) :∃e,(if (decide (32<(w.n:Int))) then
 some (11:Int)
 else
  N3 N (λa (x1:Int)=>
   if (decide (x1<(w.n:Int))) then
    if ((0:Int)<=x1/\x1<(w.n:Int))then
     (V (w.g x1.toNat)).bind λy3=>
     if (!y3) then
      some 14
     else
      a (wrap .i64 (x1+1))
    else none
   else
    some 0
   ) 0)=some e/\BS3 w e:=by
 by_cases hn:32<w.n
 .exact Br ⟨11,rfl,.inl ⟨hn,rfl⟩⟩
 refine Fe ?_;refine Z1 (λi x1=>x1=(i:Int)/\∀j,j<i->vS (w.g j)) w.n _ (by omega) (by grind) ?_;rintro b i x1 o ⟨rfl,h⟩ hs;by_cases hl:i<w.n
 .obtain⟨p,m,c⟩:=hw i hl;refine Br (Af (B2 (by rw[Us,c];exact d p m) ?_));cases hb:vB p m
  .refine ifT rfl ⟨14,rfl,.inr (.inl ⟨by omega,⟨i,hl,λf=>?_⟩,rfl⟩)⟩
   have:=(Ay6 c).1 f;rw[hb]at this;grind
  refine Dt (hs hl _ ⟨Fl,λj q=>?_⟩)
  grind[Ay6]
 exact Fe ⟨0,rfl,.inr (.inr ⟨⟨by omega,by grind⟩,rfl⟩)⟩
def Oq (a:1000<=N){w:Sl Up}(hw:∀i,i<w.n->okS (w.g i)):∃e,W3 N w=some e/\BS3 w e:=
 Ak1 a hw (De N) λp m=>Aj8 p m
def HW (a:1000<=N){w:Sl Up}(hw:∀i,i<w.n->okS (w.g i)):∃e,Ab N w=some e/\BS3 w e:=
 Ak1 a hw (X2 N) λp m=>WJ p m
def okL (l:Law):Prop:=okPS l.Left/\okPS l.Right/\∀i,i<l.If.n->okS (l.If.g i)
def okO (x:EE):Prop:=okS x.Set/\(∃c:BitVec 32,x.Clear=(c.toNat:Int))/\∃t:BitVec 32,x.Take=(t.toNat:Int)
def Cd3 (l:Law):Prop:=l.Out.n<=6/\∀i,i<l.Out.n->okO (l.Out.g i)/\(l.Out.g i).From<l.If.n/\((l.Out.g i).Take≠0->0<=(l.Out.g i).Of/\(l.Out.g i).Of<l.If.n)
def ne0 (x:BitVec 32):((x.toNat:Int) != 0)=decide (x≠0#32):=by rw[bne,eq0];simp
def or0 (x y:BitVec 32):x ||| y=0#32↔x=0#32/\y=0#32:=by
 grind
def Ca3 (x y z:BitVec 32):x &&& (y ||| z)=(x &&& y) ||| (x &&& z):=by
 grind
def BE4 (x y z:BitVec 32):(x ||| y) &&& z=(x &&& z) ||| (y &&& z):=by
 grind
def AH5 (g:1000<=N){x:EE}(hx:okO x)(k:Int):∃b,Au N x k=some b/\HK N x k=some b:=by
 obtain⟨⟨a,b,d⟩,⟨c,hc⟩,t,ht⟩:=hx;have f:(16777215:Int)=((16777215#32).toNat:Int):=rfl;unfold Au HK;simp only[lt,d,hc,ht,Cw,AA a b g,Cd8];rw[f];simp only[DV,IZ,Db,ne0];by_cases h1:x.From < -1
 .simp[h1]
 by_cases i:k<=x.From
 .simp_all
 by_cases j:vB a b=true
 case neg=>simp_all
 simp only[h1,i,j,decide_false,Ce4,Lp,Cn8];rw[BE4,Ca3 t];generalize ~~~16777215#32=M;by_cases g1:c &&& M=0#32
 case neg=>simp_all
 by_cases g2:t &&& M=0#32
 case neg=>simp_all
 by_cases g3:c &&& (a ||| b)=0#32
 case neg=>simp_all
 by_cases g4:t &&& (a ||| b)=0#32
 case neg=>simp_all
 by_cases g5:t &&& c=0#32
 case neg=>simp_all
 simp[g1,g2,g3,g4,g5];by_cases g6:t.toNat=0
 .simp only[g6,Lo];cases x.Of==0<;>simp
 simp only[g6,Lp];cases (decide (0<=x.Of)&&decide (x.Of<k))<;>simp
abbrev nameC:Str:=[97,98,99,100,101,102,103,104,105,106,107,108,109,110,111,112,113,114,115,116,117,118,119,120,121,122,65,66,67,68,69,70,71,72,73,74,75,76,77,78,79,80,81,82,83,84,85,86,87,88,89,90,48,49,50,51,52,53,54,55,56,57,45]
def Bh7 {p:UInt8->Bool}:∀{l:Str},l.dropWhile p=[] ↔ ∀x∈l,p x=true
 |[]=>by simp
 |a::l=>by
  rw[List.dropWhile_cons];by_cases h:p a=true
  .rw[Jk h,Bh7];grind
  grind
theorem YY (l cs:Str):Lib.trimS l cs=[] ↔ ∀b∈l,cs.contains b=true:=by
 unfold Lib.trimS Lib.trimLeftS Lib.trimRightS;rw[Bh7];constructor
 .intro h;have h:∀x∈l.reverse.dropWhile (cs.contains ·),cs.contains x=true:=(by grind);have a:l.reverse.dropWhile (cs.contains ·)=[]:=by
   rcases e:l.reverse.dropWhile (cs.contains ·)with _|⟨y,r⟩
   .rfl
   have c:=h y (by rw[e];simp);have d:¬cs.contains y=true:=by
    have:=List.head_dropWhile_not (cs.contains ·) (l:=l.reverse) (by rw[e];simp)
    grind
   grind
  rw[Bh7]at a
  grind
 grind[List.dropWhile_sublist]
abbrev YZ (y:Int):Bool:=((((decide (97<=y))&&(decide (y<=122)))||((decide (65<=y))&&(decide (y<=90))))||((decide (48<=y))&&(decide (y<=57))))||(y==45)
def Bh8:∀k:Fin 256,nameC.contains (UInt8.ofNat k.val)=YZ ((k.val:Nat):Int):=by decide +kernel
def Bh9 (b:UInt8):nameC.contains b=YZ ((b.toNat:Nat):Int):=by
 have:=Bh8 ⟨b.toNat,b.toNat_lt⟩
 rw[show UInt8.ofNat b.toNat=b by simp]at this;omega
def Ak2 {s:Str}(g:s.length<N)(hs:s.length<1000000000):∃b,Ec N s=some b/\Eh N s=some b:=by
 have l:∃b,Eh N s=some b/\(b=true↔(∀c∈s,nameC.contains c=true)/\1<=s.length/\s.length<=24):=by
  unfold Eh;refine Z1 (λi x1=>x1=(i:Int)/\∀j (h:j<s.length),j<i->nameC.contains s[j]=true) s.length _ g (by grind) ?_;rintro d i x1 o ⟨rfl,h⟩ a;by_cases hl:i<s.length
  .refine Br (Af ?_);have eb:E9 s (i:Int)=((s[i].toNat:Nat):Int):=by simp[E9,hl]
   by_cases hb:nameC.contains s[i]=true
   .refine ifF (by rw[eb];show ¬(!(YZ ((s[i].toNat:Nat):Int)))=true;rw[<- Bh9,hb];simp) (a hl _ ⟨Fl,λj m n=>?_⟩)
    grind
   refine ifT ?_ (by grind);rw[eb];show (!(YZ ((s[i].toNat:Nat):Int)))=true;rw[<- Bh9]
   grind
  refine Fe ⟨_,rfl,?_⟩;simp only[Ce2,Lq];constructor
  .rintro⟨g1,g2⟩;refine⟨λc hc=>?_,by omega,by omega⟩;obtain⟨j,m,rfl⟩:=Ck5 hc
   grind
  omega
 obtain⟨b,e,hb⟩:=l;refine⟨b,?_,e⟩
 suffices h:∃r,Ec N s=some r/\(r=true↔(∀c∈s,nameC.contains c=true)/\1<=s.length/\s.length<=24) by
  grind
 unfold Ec;refine ltX ?_;by_cases q:s=[]
 .grind
 refine Br ?_;have f:0<s.length:=(by grind);by_cases h1:s.length<=24
 .refine Br (B2 (x:=Lib.trimS s nameC) ?_ ⟨_,rfl,?_⟩)
  .unfold At;rw[Jk ⟨by omega,by decide,by decide⟩]
  grind[YY]
 grind
def Ak3 {s:Sl EE}(l:s.n<N)(hs:s.n<1000000){f:EE->Option Bool}{b:Nat->Bool}(m:∀i,i<s.n->f (s.g i)=some (b i)) :∃r,D3 N s f=some r/\(r=true ↔ ∃i,i<s.n/\b i=true):=by
 unfold D3 G4
 have:∃y,N3 N (λ(a:Int->Option Int) (x1:Int)=>
  if (decide (x1<(s.n:Int))) then
   if ((0:Int)<=x1/\x1<(s.n:Int))then
    (f (s.g x1.toNat)).bind λy3=>
    if y3 then
     some x1
    else
     a (wrap .i64 (x1+1))
   else none
  else
   some (-1)) 0=some y/\(0<=y ↔ ∃i,i<s.n/\b i=true):=by
  refine Z1 (λi x1=>x1=(i:Int)/\∀j,j<i->b j=false) s.n _ l (by grind) ?_;rintro d i x1 o ⟨rfl,h⟩ c;by_cases hl:i<s.n
  .refine Br (Af (B2 (by rw[Us];exact m i hl) ?_));cases hb:b i
   .refine Dt (c hl _ ⟨Fl,λj q=>?_⟩)
    grind
   grind
  refine Fe ⟨-1,rfl,λh=>Ke h (by decide),?_⟩
  grind
 grind
def Vh (l:Law):Prop:=okL l/\l.Name.length<1100000/\l.If.n<1100000/\l.Out.n<1100000/\∀i,i<l.Out.n->okO (l.Out.g i)
def AU8 {s:Up}(hs:okS s):∃b,H1 N s=some b/\(b=true↔vS s):=by obtain⟨p,m,e⟩:=hs;exact⟨vB p m,by rw[e];grind[Cw],(Ay6 e).symm⟩
def AU9 (a:1000<=N){s:Up}(hs:okS s):∃b,G6 N s=some b/\(b=true↔vS s):=by obtain⟨p,m,e⟩:=hs;exact⟨vB p m,by rw[e];grind[AA],(Ay6 e).symm⟩
def Bx5 {x:EE}(hx:okO x){k:Int}(h:Au N x k=some true):x.From<k/\(x.Take≠0->0<=x.Of/\x.Of<k):=by
 obtain⟨⟨a,b,c⟩,_,_⟩:=hx;unfold Au at h;simp only[lt,c,Cw,Cd8]at h
 grind
def chkAll (N:Nat)(l:Law):Prop:=Eh N l.Name=some true/\chk 40 [l.Left]/\chk 40 [l.Right]/\l.If.n<=4/\l.Out.n<=6/\l.If.n+l.Out.n≠0/\1<=l.Mode/\l.Mode<=3/\(∀i,i<l.If.n->vS (l.If.g i))/\∀i,i<l.Out.n->Au N (l.Out.g i) l.If.n=some true
def Ca4 (N:Nat)(l:Law)(e:Int):Prop:=(e=0/\chkAll N l) \/ (e=17/\¬chkAll N l)
def Cd4 (l:Law):Prop:=okL l/\chk 40 [l.Left]/\chk 40 [l.Right]/\l.If.n<=4/\Cd3 l/\l.If.n+l.Out.n≠0/\1<=l.Mode/\l.Mode<=3
def chkAll.f {N:Nat}{l:Law}(hl:Vh l)(h:chkAll N l):Cd4 l:=by obtain⟨_,h1,b,c,d,g,j,m,o,n⟩:=h;exact⟨hl.1,h1,b,c,⟨d,λi a=>⟨hl.2.2.2.2 i a,Bx5 (hl.2.2.2.2 i a) (n i a)⟩⟩,g,j,m⟩
def AV0 (hN:3000000<=N){l:Law}(hl:Vh l):∃e,Z9 N l=some e/\Ca4 N l e:=by
 have r:=hl.2.1;have t:=hl.2.2.1;have u:=hl.2.2.2.1;unfold Z9;obtain⟨b0,e0,e0'⟩:=Ak2 (N:=N) (s:=l.Name) (by omega) (by omega);refine B2 e0 ?_;cases b0
 .exact ifT rfl ⟨17,rfl,.inr ⟨rfl,λh=>by have:=h.1;rw[e0']at this;grind⟩⟩
 refine Dt ?_;obtain⟨y2,e2,j⟩:=YW (N:=N) (by omega) hl.1.1;refine B2 e2 ?_;by_cases c2:y2=0
 case neg=>exact Br ⟨17,rfl,.inr ⟨rfl,λh=>c2 (j.2 h.2.1)⟩⟩
 refine Fe ?_;obtain⟨y3,e3,m⟩:=YW (N:=N) (by omega) hl.1.2.1;refine B2 e3 ?_;by_cases c3:y3=0
 case neg=>exact Br ⟨17,rfl,.inr ⟨rfl,λh=>c3 (m.2 h.2.2.1)⟩⟩
 refine Fe ?_;by_cases c4:4<l.If.n
 .exact Br ⟨17,rfl,.inr ⟨rfl,λh=>by have:=h.2.2.2.1;omega⟩⟩
 refine Fe ?_;by_cases c5:6<l.Out.n
 .exact Br ⟨17,rfl,.inr ⟨rfl,λh=>by have:=h.2.2.2.2.1;omega⟩⟩
 refine Fe ?_;rw[GP (by omega)];by_cases c6:l.If.n+l.Out.n=0
 .exact ifT (by rw[c6];rfl) ⟨17,rfl,.inr ⟨rfl,λh=>h.2.2.2.2.2.1 c6⟩⟩
 refine Fe ?_;by_cases c7:l.Mode<1 \/ 3<l.Mode
 .exact Br ⟨17,rfl,.inr ⟨rfl,λh=>by have g1:=h.2.2.2.2.2.2.1;have g2:=h.2.2.2.2.2.2.2.1;omega⟩⟩
 refine Fe ?_;have v:∀i,∃b,i<l.If.n->By N (l.If.g i)=some b/\(b=true ↔ ¬vS (l.If.g i)):=by
  intro i;by_cases a:i<l.If.n
  .obtain⟨b,eb,hb⟩:=AU8 (N:=N) (hl.1.2.2 i a)
   grind[By]
  grind
 obtain⟨f,o⟩:=Co2 v;obtain⟨y4,e4,x⟩:=Qs (N:=N) (w:=l.If) (by omega) (by omega) (f:=λu1=>By N u1) (λi a=>(o i a).1);refine B2 e4 ?_;cases c:y4
 case true=>obtain⟨i,a,hb⟩:=x.1 c;exact ifT rfl ⟨17,rfl,.inr ⟨rfl,λh=>(o i a).2.1 hb (h.2.2.2.2.2.2.2.2.1 i a)⟩⟩
 refine Dt ?_;have y:∀i,∃b,i<l.Out.n->Bx N (l.Out.g i) (l.If.n:Int)=some b/\(b=true ↔ ¬Au N (l.Out.g i) l.If.n=some true):=by
  intro i;by_cases a:i<l.Out.n
  .obtain⟨b,eb,_⟩:=AH5 (N:=N) (by omega) (hl.2.2.2.2 i a) (l.If.n:Int)
   grind[Bx]
  grind
 obtain⟨g,q⟩:=Co2 y;obtain⟨y5,e5,z⟩:=Ak3 (N:=N) (s:=l.Out) (by omega) (by omega) (f:=λu2=>Bx N u2 (l.If.n:Int)) (λi a=>(q i a).1);refine B2 e5 ?_;cases d:y5
 case true=>obtain⟨i,a,hb⟩:=z.1 d;exact ifT rfl ⟨17,rfl,.inr ⟨rfl,λh=>(q i a).2.1 hb (h.2.2.2.2.2.2.2.2.2 i a)⟩⟩
 refine Dt ⟨0,rfl,.inl ⟨rfl,e0',j.1 c2,m.1 c3,by omega,by omega,c6,by omega,by omega,λi a=>?_,λi a=>?_⟩⟩
 all_goals grind
def AV1 (y:3000000<=N){l:Law}(hl:Vh l):∃e,Ac N l=some e/\Ca4 N l e:=by
 have t:=hl.2.1;have u:=hl.2.2.1;have v:=hl.2.2.2.1;unfold Ac;obtain⟨b0,e0,e0'⟩:=Ak2 (N:=N) (s:=l.Name) (by omega) (by omega);refine B2 e0' (ltX ?_);cases b0
 .exact ifT rfl (ifT rfl ⟨17,rfl,.inr ⟨rfl,λh=>by have:=h.1;rw[e0']at this;grind⟩⟩)
 refine Dt ?_;obtain⟨y2,e2,o⟩:=TH (N:=N) (by omega) hl.1.1;refine B2 e2 ?_;by_cases c2:y2=0
 case neg=>exact Br (ifT rfl ⟨17,rfl,.inr ⟨rfl,λh=>c2 (o.2 h.2.1)⟩⟩)
 refine Fe ?_;obtain⟨y3,e3,q⟩:=TH (N:=N) (by omega) hl.1.2.1;refine B2 e3 ?_;by_cases c3:y3=0
 case neg=>exact Br ⟨17,rfl,.inr ⟨rfl,λh=>c3 (q.2 h.2.2.1)⟩⟩
 refine Fe ?_;rw[GP (by omega)];by_cases a:l.If.n<=4/\l.Out.n<=6/\l.If.n+l.Out.n≠0/\1<=l.Mode/\l.Mode<=3
 case neg=>
  refine ifT ?_ ⟨17,rfl,.inr ⟨rfl,λh=>a ⟨h.2.2.2.1,h.2.2.2.2.1,h.2.2.2.2.2.1,h.2.2.2.2.2.2.1,h.2.2.2.2.2.2.2.1⟩⟩⟩
  grind
 refine Fe ?_;obtain⟨c4,c5,c6,c7,c8⟩:=a;refine Z1 (λi x1=>x1=(i:Int)/\∀j,j<i->vS (l.If.g j)) l.If.n _ (by omega) (by grind) ?_;rintro r i x1 z ⟨rfl,h⟩ hs;by_cases c:i<l.If.n
 .obtain⟨b,eb,hb⟩:=AU9 (N:=N) (by omega) (hl.1.2.2 i c);refine Br (Af (B2 (by rw[Us];exact eb) ?_));cases b
  .exact ifT rfl ⟨17,rfl,.inr ⟨rfl,λh=>by have:=hb.2 (h.2.2.2.2.2.2.2.2.1 i c);grind⟩⟩
  refine Dt (hs c _ ⟨Fl,λj w=>?_⟩)
  grind
 refine Fe ?_;have x:∀j,j<l.If.n->vS (l.If.g j):=(by grind);refine Z1 (λi x1=>x1=(i:Int)/\∀j,j<i->Au N (l.Out.g j) l.If.n=some true) l.Out.n _ (by omega) (by grind) ?_;rintro f k x2 hk ⟨rfl,h'⟩ m;by_cases d:k<l.Out.n
 .obtain⟨b,eb,eb'⟩:=AH5 (N:=N) (by omega) (hl.2.2.2.2 k d) (l.If.n:Int);refine Br (Af (B2 (by rw[Us];exact eb') ?_));cases b
  .exact ifT rfl ⟨17,rfl,.inr ⟨rfl,λh=>by have:=h.2.2.2.2.2.2.2.2.2 k d;rw[eb]at this;grind⟩⟩
  refine Dt (m d _ ⟨Fl,λj w=>?_⟩)
  grind
 exact Fe ⟨0,rfl,.inl ⟨rfl,e0',o.1 c2,q.1 c3,c4,c5,c6,c7,c8,x,by grind⟩⟩
def Bi0 {l:Law}{e e' : Int}(h:Ca4 N l e)(h' : Ca4 N l e'):e=e':=by
 rcases h with⟨rfl,h⟩ | ⟨rfl,h⟩<;>rcases h' with⟨rfl,h'⟩ | ⟨rfl,h'⟩
 all_goals grind
def Or (a:3000000<=N){l:Law}(hl:Vh l):∃e,Z9 N l=some e/\Ac N l=some e/\Ca4 N l e:=by
 obtain⟨e,h,c⟩:=AV0 a hl;obtain⟨e',h',c'⟩:=AV1 a hl;obtain rfl:=Bi0 c c'
 grind
def WM (laws:Sl Law):Prop:=∀i,i<laws.n->Vh (laws.g i)
def Qu (N:Nat)(laws:Sl Law):Prop:=laws.n<=64/\∀i,i<laws.n->chkAll N (laws.g i)
abbrev okA (w:Sl Up):Prop:=∀i,i<w.n->okS (w.g i)
def dep:Nat->Pat->Prop
 |0,_=>False
 |d+1,p=>p.L.n<=40/\∀i,i<p.L.n->dep d (p.L.g i)
theorem BE5:∀(d:Nat) (p:Pat),dep d p->∀e,d<=e->dep e p
 |0,_,h,_,_=>h.elim
 |d+1,p,h,0,he=>by omega
 |d+1,p,h,e+1,he=>⟨h.1,λi a=>BE5 d _ (h.2 i a) e (by omega)⟩
def Ak4 {N:Nat}(c:1000<=N):∀(d:Nat),d<=40->∀(p:Pat) (M:Nat),N+d+2<=M->∃r:Nat,CN M p ((40-d:Nat):Int)=some (r:Int)/\40-d<r/\r<=41/\(r<=40->dep (d+1) p)
 |d,hd,p,0,hM=>by omega
 |d,hd,p,M+1,hM=>by
  have:∃x,CN (M+1) p ((40-d:Nat):Int)=some x/\∃r:Nat,x=(r:Int)/\40-d<r/\r<=41/\(r<=40->dep (d+1) p):=by
   show ∃x,Dw (CN M) M p _=some x/\_;unfold Dw;rw[Fl];refine S9 (λi x1 x2=>x2=(i:Int)/\∃k:Nat,x1=(k:Int)/\40-d+1+i<=k/\k<=41/\i<=p.L.n/\(k<=40->∀j,j<i->dep d (p.L.g j))) 41 _ (by omega) ⟨rfl,40-d+1,rfl,by omega,by omega,by omega,by omega⟩ ?_;rintro a i x1 x2 m ⟨rfl,k,rfl,h1,f,o,q⟩ hs;by_cases hc:i<p.L.n/\k<=40
   .refine Br (Af ?_);obtain⟨r,l,r1,r2,r3⟩:=Ak4 c (40-k) (by omega) (p.L.g i) M (by omega);rw[show ((40-(40-k):Nat):Int)=(k:Int) by omega]at l;refine B2 (by rw[Us];omega) (hs (by omega) _ _ ⟨Fl,r,rfl,by omega,r2,by omega,λb j s=>?_⟩)
    grind[BE5]
   refine Fe ⟨_,rfl,k,rfl,by omega,f,λhk=>⟨by omega,by grind⟩⟩
  grind
def Za (a:2000<=N)(p:Pat):∃r:Nat,Eb N p=some (r:Int)/\(r<=40->dep 41 p):=by
 obtain⟨r,h1,_,_,b⟩:=Ak4 (N:=1000) (by omega) 40 (by omega) p N (by omega)
 grind[Eb,CN]
def Lr (s:Str):Bool:=(decide (1<=s.length)&&decide (s.length<=24))&&s.all λc=>YZ ((c.toNat:Nat):Int)
def Ak5 {s:Str}(m:s.length<N)(hs:s.length<1000000000){let_:Int->Option Bool}(hl:∀y,let_ y=some (YZ y)){fin:Bool}(n:fin=(decide (1<=s.length)&&decide (s.length<=24))) :N3 N (λ(a:Int->Option Bool) (x1:Int)=>
  if (decide (x1<(s.length:Int))) then
   if ((0:Int)<=x1/\x1<(s.length:Int))then
    (let_ (E9 s x1)).bind λy3=>
    if (!y3) then
     some false
    else
     a (wrap .i64 (x1+1))
   else none
  else
   some fin
 ) 0=some (Lr s):=by
 suffices h:∃b,N3 N (λ(a:Int->Option Bool) (x1:Int)=>
  if (decide (x1<(s.length:Int))) then
   if ((0:Int)<=x1/\x1<(s.length:Int))then
    (let_ (E9 s x1)).bind λy3=>
    if (!y3) then
     some false
    else
     a (wrap .i64 (x1+1))
   else none
  else
   some fin
  ) 0=some b/\b=Lr s by grind
 refine Z1 (λi x1=>x1=(i:Int)/\∀j (h:j<s.length),j<i->YZ ((s[j].toNat:Nat):Int)=true) s.length _ m (by grind) ?_;rintro l i x1 q ⟨rfl,h⟩ f;by_cases d:i<s.length
 .have eb:E9 s (i:Int)=((s[i].toNat:Nat):Int):=by simp[E9,d]
  refine Br (Af (B2 (hl _) ?_));rw[eb];cases hb:YZ ((s[i].toNat:Nat):Int)
  .refine ifT rfl ⟨false,rfl,?_⟩;symm;unfold Lr;rw[Cu5]
   right
   rw[List.all_eq_false]
   grind
  refine Dt (f d _ ⟨Fl,λj g o=>?_⟩);by_cases e:j=i
  .grind
  exact h j g (by omega)
 refine Fe ⟨_,rfl,?_⟩;unfold Lr;rw[n]
 have:(s.all λc=>YZ ((c.toNat:Nat):Int))=true:=Ce8.2 λc hc=>by obtain⟨j,g,rfl⟩:=Ck5 hc;exact h j g (by omega)
 rw[this,Cp4]
def Bi1 {s:Str}(a:s.length<N)(hs:s.length<1000000000):EO N s=some (Lr s):=by unfold EO;exact Ak5 a hs (λy=>rfl) (by rw[Cf7];grind)
def Zb {s:Str}(a:s.length<N)(hs:s.length<1000000000):Ee N s=some (Lr s):=by unfold Ee;exact Ak5 a hs (λy=>rfl) (by rw[Cf7];grind)
def BN7 (t:Sl Node)(v:Nat):Prop:=(v=0->(t.g 0).Ye = -1)/\(0<v->0<=(t.g v).Ye/\(t.g v).Ye<v)/\Lr (t.g v).Name=true/\∀u,u<v->(t.g u).Name≠(t.g v).Name
def Bl (t:Sl Node):Prop:=1<=t.n/\t.n<=63/\∀v,v<t.n->BN7 t v
def Az6 (t:Sl Node)(e:Int):Prop:=(e=0/\Bl t) \/ (e=16/\¬Bl t)
def AV2 {t:Sl Node}{e e' : Int}(h:Az6 t e)(h' : Az6 t e'):e=e':=by
 rcases h with⟨rfl,h⟩ | ⟨rfl,h⟩<;>rcases h' with⟨rfl,h'⟩ | ⟨rfl,h'⟩
 all_goals grind
def Pe (t:Sl Node):Prop:=∀v,v<t.n->(t.g v).Name.length<1100000
def Bi2 (v:3000000<=N){t:Sl Node}(ht:Pe t):∃e,AY N t=some e/\Az6 t e:=by
 unfold AY;by_cases w:t.n<1
 .exact Br (Br ⟨16,rfl,.inr ⟨rfl,λh=>by have:=h.1;omega⟩⟩)
 refine ifT (λ_ _=>by omega) ?_;by_cases h1:63<t.n
 .exact Br ⟨16,rfl,.inr ⟨rfl,λh=>by have:=h.2.1;omega⟩⟩
 by_cases q:(t.g 0).Ye = -1
 case neg=>exact Br ⟨16,rfl,.inr ⟨rfl,λh=>q ((h.2.2 0 (by omega)).1 rfl)⟩⟩
 refine Fe ?_;refine Z1 (λi x1=>x1=(i:Int)/\∀j,j<i->BN7 t j) t.n _ (by omega) (by grind) ?_;rintro d i x1 x ⟨rfl,h⟩ hs;by_cases a:i<t.n
 case neg=>exact Fe ⟨0,rfl,.inl ⟨rfl,by omega,by omega,by grind⟩⟩
 refine Br (ltX ?_);have l:=Zb (N:=N) (s:=(t.g i).Name) (by have:=ht i a;omega) (by have:=ht i a;omega);have rest:(0<i->0<=(t.g i).Ye/\(t.g i).Ye<i)->∃r,(if (!Lr (t.g i).Name) then some 16 else
  N3 N (λ(c:Int->Option Int) (x7:Int)=>
   if (decide (x7<(i:Int))) then
    if (((0:Int)<=x7/\x7<(t.n:Int))/\((0:Int)<=(i:Int)/\(i:Int)<(t.n:Int)))then
     if (((t.g x7.toNat).Name==(t.g (i:Int).toNat).Name) != false) then
      some 16
     else
      c (wrap .i64 (x7+1))
    else none
   else
    d (wrap .i64 ((i:Int)+1))
   ) 0)=some r/\Az6 t r:=by
  intro hp;cases hb:Lr (t.g i).Name
  .exact ifT rfl ⟨16,rfl,.inr ⟨rfl,λh=>by have:=(h.2.2 i a).2.2.1;rw[hb]at this;grind⟩⟩
  refine Dt ?_;refine Z1 (λk x7=>x7=(k:Int)/\∀u,u<k->(t.g u).Name≠(t.g i).Name) i _ (by omega) (by grind) ?_;rintro m k x7 hk ⟨rfl,h'⟩ o;by_cases f:k<i
  .refine Br (Af ?_);rw[Us,Us];by_cases e:(t.g k).Name=(t.g i).Name
   .exact Br ⟨16,rfl,.inr ⟨rfl,λh=>(h.2.2 i a).2.2.2 k f e⟩⟩
   refine Fe (o f _ ⟨Fl,λu y=>?_⟩)
   grind
  refine Fe (hs a _ ⟨Fl,λj z=>?_⟩);by_cases e:j=i
  .subst e;exact⟨by omega,hp,hb,by grind⟩
  grind
 by_cases b:0<i
 .refine Br (Af ?_);rw[Us];by_cases g1:(t.g i).Ye<0
  .exact Br (ifT rfl ⟨16,rfl,.inr ⟨rfl,λh=>by have:=((h.2.2 i a).2.1 b).1;omega⟩⟩)
  refine Fe (Af ?_);by_cases g2:(i:Int)<=(t.g i).Ye
  .exact Br (ifT rfl ⟨16,rfl,.inr ⟨rfl,λh=>by have:=((h.2.2 i a).2.1 b).2;omega⟩⟩)
  grind
 grind
def Pf {ν : Type}{k s:Str}{v : ν}:∀es:List (Str × ν),M7 eqS s (FZ eqS k v es)=if s=k then some v else M7 eqS s es
 |[]=>by
  simp_all[FZ,M7,eqS]
 |(a,x)::es=>by
  simp only[FZ];by_cases h:k=a
  .simp_all[Jk,eqS,M7]
  rw[Iw];simp only[M7];rw[Pf es]
  grind
def AH6 {ν : Type}{k:Str}{v : ν}:∀{es:List (Str × ν)},M7 eqS k es=none->(FZ eqS k v es).length=es.length+1
 |[],_=>rfl
 |(a,x)::es,h=>by
  simp only[M7]at h;simp only[FZ];by_cases e:eqS k a=true
  .rw[Jk e]at h;cases h
  rw[Js e]at h;rw[Js e,Ch8,AH6 h];rfl
def AH7 {ν : Type}{k:Str}{v x : ν}:∀{es:List (Str × ν)},M7 eqS k es=some x->(FZ eqS k v es).length=es.length
 |[],h=>by cases h
 |(a,y)::es,h=>by
  simp only[M7]at h;simp only[FZ];by_cases e:eqS k a=true
  .rw[Jk e];rfl
  rw[Js e]at h;rw[Js e,Ch8,AH7 h];rfl
def Bi3 (l:3000000<=N){t:Sl Node}(ht:Pe t):∃e,W4 N t=some e/\Az6 t e:=by
 unfold W4;by_cases m:t.n=0 \/ 63<t.n
 .exact Br ⟨16,rfl,.inr ⟨rfl,λh=>by have g1:=h.1;have g2:=h.2.1;omega⟩⟩
 refine Fe ?_;refine S9 (λi (x2:List (Str×Bool)) x3=>x3=(i:Int)/\(∀j,j<i->BN7 t j)/\∀s,(M7 eqS s x2=some true/\∃u,u<i/\(t.g u).Name=s) \/ (M7 eqS s x2=none/\∀u,u<i->(t.g u).Name≠s)) t.n _ (by omega) ⟨rfl,by omega,λs=>.inr ⟨rfl,by omega⟩⟩ ?_;rintro d i x2 x3 o ⟨rfl,h,hm⟩ hs;by_cases a:i<t.n
 case neg=>exact Fe ⟨0,rfl,.inl ⟨rfl,by omega,by omega,by grind⟩⟩
 refine Br (Af (ltX ?_));rw[Us];have b:=Bi1 (N:=N) (s:=(t.g i).Name) (by have:=ht i a;omega) (by have:=ht i a;omega);have e1:(ite (0<wrap .i64 ((i:Int)-1)) (0:Int) (wrap .i64 ((i:Int)-1)))=ite (i=0) (-1) 0:=by rw[Ut];split<;>split<;>omega
 rw[e1];by_cases g1:(i:Int)<=(t.g i).Ye
 .refine Br (ifT rfl ⟨16,rfl,.inr ⟨rfl,λh=>?_⟩⟩);have hk:=h.2.2 i a;by_cases c:i=0
  .subst c;have:=hk.1 rfl;omega
  have:=(hk.2.1 (by omega)).2;omega
 refine Fe ?_;by_cases g2:(t.g i).Ye<if i=0 then -1 else 0
 .refine Br (ifT rfl ⟨16,rfl,.inr ⟨rfl,λh=>?_⟩⟩);have hk:=h.2.2 i a;by_cases c:i=0
  .subst c;have:=hk.1 rfl;omega
  have:=(hk.2.1 (by omega)).1;omega
 refine Fe (B2 b ?_);cases hb:Lr (t.g i).Name
 .exact ifT rfl (ifT rfl ⟨16,rfl,.inr ⟨rfl,λh=>by have:=(h.2.2 i a).2.2.1;rw[hb]at this;grind⟩⟩)
 refine Dt ?_;rcases hm (t.g i).Name with⟨e,u,f,hn⟩ | ⟨e,hn⟩
 .rw[e];exact⟨16,rfl,.inr ⟨rfl,λh=>(h.2.2 i a).2.2.2 u f hn⟩⟩
 rw[e,K0];refine Fe (hs a _ _ ⟨Fl,λj q=>?_,λs=>?_⟩)
 .by_cases e:j=i
  .subst e;refine⟨λe=>?_,λhp=>?_,hb,hn⟩
   all_goals grind
  grind
 rw[Pf]
 grind
def Lf (a:3000000<=N){t:Sl Node}(ht:Pe t):∃e,W4 N t=some e/\AY N t=some e/\Az6 t e:=by
 obtain⟨e,h1,b⟩:=Bi3 a ht;obtain⟨e',d,c⟩:=Bi2 a ht;obtain rfl:=AV2 b c
 grind
structure Q6 (h:Yc):Prop where
 laws:WM h.Laws
 tree:Pe h.Tree
 on:h.On.n<1100000
 len:∀v,v<h.On.n->(h.On.g v).n<1100000
def N2 (h:Yc)(v:Nat):Sl Int:= if hp:0<=(h.Tree.g v).Ye/\(h.Tree.g v).Ye<v then (N2 h (h.Tree.g v).Ye.toNat).app (h.On.g v)else Te.app (h.On.g v)
termination_by v
decreasing_by omega
theorem AB {h:Yc}{v:Nat}(a:(h.Tree.g v).Ye<0):N2 h v=Te.app (h.On.g v):=by rw[N2,dif_neg (by omega)]
theorem EA {h:Yc}{v p:Nat}(a:(h.Tree.g v).Ye=(p:Int))(hp:p<v):N2 h v=(N2 h p).app (h.On.g v):=by rw[N2,dif_pos (by omega),a,Us]
theorem Ar {t:Sl Node}(ht:Bl t){v:Nat}(a:v<t.n):(v=0/\(t.g v).Ye = -1) \/ ∃p:Nat,p<v/\(t.g v).Ye=(p:Int):=by
 have hk:=ht.2.2 v a;by_cases b:v=0
 .subst b;exact .inl ⟨rfl,hk.1 rfl⟩
 obtain⟨g1,g2⟩:=hk.2.1 (by omega);exact .inr ⟨(t.g v).Ye.toNat,by omega,by omega⟩
def Az7 {h:Yc}(a:Q6 h)(ht:Bl h.Tree)(hn:h.On.n=h.Tree.n):∀(m v:Nat),v<=m->v<h.Tree.n->(N2 h v).n<=(v+1)*1100000
 |m,v,hm,hv=>by
  have hl:=a.len v (by omega);rcases Ar ht hv with⟨_,e⟩ | ⟨p,hp,e⟩
  .rw[AB (by omega)]
   grind
  rw[EA e hp]
  match m with
  |0=>omega
  |m+1=>
   have:=Az7 a ht hn m p (by omega) (by omega)
   grind
def TL {h:Yc}(a:Q6 h)(ht:Bl h.Tree)(hn:h.On.n=h.Tree.n):∀(M v:Nat),v+2<=M->v<h.Tree.n->Dg M h (v:Int)=some (N2 h v)
 |0,v,hM,_=>by omega
 |M+1,v,hM,hv=>by
  have b:=ht.2.1;show Df (Dg M) M h (v:Int)=_;unfold Df;rw[Hh,Fp,Us];have hl:=a.len v (by omega);rcases Ar ht hv with⟨c,e⟩ | ⟨p,hp,e⟩
  .rw[e,AB (by omega)]
   have:Dg M h (-1)=some Te:=by
    obtain⟨K,rfl⟩:∃K,M=K+1:=⟨M-1,by omega⟩
    simp_all[Df,Dg,Jk]
   rw[this,Cd8,Ge]
  have hb:=Az7 a ht hn p p (Ce5 _) (by omega);rw[e,TL a ht hn M p (by omega) (by omega),Cd8,EA e hp,Fp]
def Az8 (h:Yc):Prop:=∃v,v<h.On.n/\64<(N2 h v).n
def BN8 (h:Yc)(v:Nat):Prop:=∃k,k<(h.On.g v).n/\((h.On.g v).g k<0 \/ (h.Laws.n:Int)<=(h.On.g v).g k)
def Bi4 (h:Yc)(e:Int):Prop:=(Az8 h/\e=2) \/ (¬Az8 h/\(∃v,v<h.On.n/\BN8 h v)/\e=3) \/ (¬Az8 h/\(∀v,v<h.On.n->¬BN8 h v)/\e=0)
def Bi5 (hN:3000000<=N){h:Yc}(y:Q6 h)(ht:Bl h.Tree)(hn:h.On.n=h.Tree.n):∃e,AZ N h=some e/\Bi4 h e:=by
 have h63:=ht.2.1;unfold AZ;refine Af ?_;refine Aj7 (λi (x4:Sl Int) (x5:Bool) x6=>x6=(i:Int)/\x4.n=h.On.n/\(∀v,v<i->x4.g v=((N2 h v).n:Int)/\(N2 h v).n<=64)/\(x5=true ↔ ∃v,v<i/\BN8 h v)) h.On.n _ (by omega) (by grind) ?_;rintro f i x4 x5 x6 hle ⟨rfl,hx,hp,hb⟩ hs;by_cases l:i<h.On.n
 case neg=>
  refine Fe ?_;have hl:¬Az8 h:=fun⟨v,d,hl⟩=>by have:=(hp v (by omega)).2;omega
  cases x5
  .exact Dt ⟨0,rfl,.inr (by grind)⟩
  obtain⟨v,d,g⟩:=hb.1 rfl;exact ifT rfl ⟨3,rfl,.inr (by grind)⟩
 refine Br (ifT (by rw[Us];omega) (Af (ltX ?_)));rw[Us];have hl:=y.len i (by omega);have hlb:=Az7 y ht hn i i (Ce5 _) (by omega);have rest:∀z:Sl Int,z.n=h.On.n->(∀v,v<i->z.g v=x4.g v)->z.g i=((N2 h i).n:Int)->∃r,(if (((0:Int)<=(i:Int)/\(i:Int)<(z.n:Int))/\i<z.n)then
  if (decide (64<(z.g i))) then
   some 2
  else
   U1 N (λ(c:Bool->Int->Option Int) (b:Bool) (a:Int)=>
    if (decide (a<((h.On.g i).n:Int))) then
     if ((0:Int)<=a/\a<((h.On.g i).n:Int))then
      c ((b||(decide (((h.On.g i).g a.toNat)<0)))||(decide ((h.Laws.n:Int)<=((h.On.g i).g a.toNat)))) (wrap .i64 (a+1))
     else none
    else
     f z b (wrap .i64 ((i:Int)+1))
    ) x5 0
  else none)=some r/\Bi4 h r:=by
  intro z hz hz1 q;refine Af ?_;rw[q];by_cases s:64<(N2 h i).n
  .exact Br ⟨2,rfl,.inl ⟨⟨i,l,s⟩,rfl⟩⟩
  refine Fe ?_;refine S9 (λk (b:Bool) a=>a=(k:Int)/\(b=true↔(∃v,v<i/\BN8 h v) \/ ∃j,j<k/\j<(h.On.g i).n/\((h.On.g i).g j<0 \/ (h.Laws.n:Int)<=(h.On.g i).g j))) (h.On.g i).n _ (by omega) (by grind) ?_;rintro t k b a hk ⟨rfl,m⟩ u;by_cases w:k<(h.On.g i).n
  .refine Br (Af (u w _ _ ⟨Fl,?_⟩));rw[Us,Cg6,Cg6,m,Lq,Lq];constructor
   .grind
   grind
  refine Fe (hs l _ _ _ ⟨Fl,hz,λv d=>?_,m.trans ?_⟩)
  .grind
  constructor
  .rintro (⟨v,d,g⟩ | ⟨j,_,hj,g⟩)
   .grind
   exact⟨i,by omega,j,hj,g⟩
  rintro⟨v,d,g⟩;by_cases e:v=i
  .subst e;obtain⟨j,hj,g⟩:=g
   grind
  grind
 rcases Ar ht (v:=i) (by omega)with⟨_,e⟩ | ⟨p,o,e⟩
 .rw[e];refine Du (rest _ hx (λv d=>?_) ?_)
  .omega
  show (ite (i=i) ((h.On.g i).n:Int) _)=_;rw[Jk rfl,AB (by omega)]
  grind
 have x:=hp p o;rw[e];refine Ah (ifT ?_ ?_)
 .grind
 rw[Us];refine rest _ hx (λv d=>?_) ?_
 .grind
 show (ite (i=i) (wrap .i64 ((ite (i=i) ((h.On.g i).n:Int) _)+(ite (p=i) _ (x4.g p)))) _)=_;rw[Jk rfl,Jk rfl,Gh,x.1,EA e o,Ut]
 grind
def BS4 (h:Yc)(i:Nat):Prop:=∃u v,u<v/\v<i/\(h.Laws.g u).Name=(h.Laws.g v).Name
open Classical in
noncomputable def hres (N:Nat) (h:Yc):Int:= if ¬Bl h.Tree then 16 else if 64<h.Laws.n then 12 else if ∃i,i<h.Laws.n/\¬chkAll N (h.Laws.g i)then 17 else if BS4 h h.Laws.n then 6 else if h.On.n≠h.Tree.n then 2 else if Az8 h then 2 else if ∃v,v<h.On.n/\BN8 h v then 3 else 0
structure AF (N:Nat) (h:Yc):Prop where
 tree:Bl h.Tree
 laws:Qu N h.Laws
 dup:¬BS4 h h.Laws.n
 on:h.On.n=h.Tree.n
 long:¬Az8 h
 bad:∀v,v<h.On.n->¬BN8 h v
def hres_zero {h:Yc}:hres N h=0↔AF N h:=by
 unfold hres;constructor
 .intro g;split at g
  .cases g
  split at g
  .cases g
  split at g
  .cases g
  split at g
  .cases g
  split at g
  .cases g
  split at g
  .cases g
  split at g
  .cases g
  rename_i h1 j l a m b n;exact⟨by grind,⟨by omega,by grind⟩,a,by omega,b,by grind⟩
 intro g;have c:=g.laws.1;rw[Js (λk=>k g.tree),Gh,Js (fun⟨i,d,hn⟩=>hn (g.laws.2 i d)),Js g.dup,Js (λk=>k g.on),Js g.long,Js (fun⟨v,f,hb⟩=>g.bad v f hb)]
def HX {h:Yc}(h1:Bl h.Tree)(a:Qu N h.Laws)(b:¬BS4 h h.Laws.n)(c:h.On.n=h.Tree.n){e:Int}(d:Bi4 h e):e=hres N h:=by
 have f:=a.1;unfold hres;rw[Js (λk=>k h1),Gh,Js (fun⟨i,j,hn⟩=>hn (a.2 i j)),Js b,Js (λk=>k c)];rcases d with⟨g,rfl⟩ | ⟨g,g2,rfl⟩ | ⟨g,g2,rfl⟩
 all_goals simp_all
def Pg (q:3000000<=N){h:Yc}(t:Q6 h):Q4 N h=some (hres N h):=by
 suffices g:∃r,Q4 N h=some r/\r=hres N h by grind
 obtain⟨e,e1,_,x⟩:=Lf q t.tree;unfold Q4;refine B2 e1 ?_;rcases x with⟨rfl,ht⟩ | ⟨rfl,ht⟩
 case inr=>exact Bq ⟨16,rfl,by unfold hres;rw[Jk ht]⟩
 refine Du ?_;by_cases f:64<h.Laws.n
 .exact Br ⟨12,rfl,by simp_all[hres,Js,Jk]⟩
 refine Fe ?_;refine S9 (λi (x1:List (Str×Int)) x2=>x2=(i:Int)/\(∀j,j<i->chkAll N (h.Laws.g j))/\(∀s,(M7 eqS s x1=none/\∀u,u<i->(h.Laws.g u).Name≠s) \/ (∃v,M7 eqS s x1=some v)/\∃u,u<i/\(h.Laws.g u).Name=s)/\((BS4 h i/\x1.length<i) \/ (¬BS4 h i/\x1.length=i))) h.Laws.n _ (by omega)
  ⟨rfl,by omega,λs=>.inl ⟨rfl,by omega⟩,.inr ⟨fun⟨u,v,_,hv,_⟩=>Ke hv (by omega),rfl⟩⟩ ?_
 rintro a1 i x1 x2 hle ⟨rfl,hc,hm,hl⟩ hs;by_cases c:i<h.Laws.n
 .obtain⟨y,y1,_,hy⟩:=Or q (t.laws i c);refine Br (Af (B2 (by rw[Us];exact y1) ?_));rcases hy with⟨rfl,hy⟩ | ⟨rfl,hy⟩
  case inr=>exact Bq ⟨17,rfl,by unfold hres;rw[Js (λk=>k ht),Js f,Jk ⟨i,c,hy⟩]⟩
  refine Du ?_;rw[Us];have l : ∀j,j<i+1->chkAll N (h.Laws.g j):=(by grind);have look:∀(v:Int) (s:Str),(M7 eqS s (FZ eqS (h.Laws.g i).Name v x1)=none/\∀u,u<i+1->(h.Laws.g u).Name≠s) \/ (∃w,M7 eqS s (FZ eqS (h.Laws.g i).Name v x1)=some w)/\∃u,u<i+1/\(h.Laws.g u).Name=s:=by
   intro v s;rw[Pf]
   grind
  rcases hm (h.Laws.g i).Name with⟨g,g2⟩ | ⟨⟨v,g⟩,u,hu,g2⟩
  .rw[g,K0];refine hs c _ _ ⟨Fl,l,look _,?_⟩;rw[AH6 g];rcases hl with⟨⟨a,b,d,hb,hn⟩,hl⟩ | ⟨m,hl⟩
   .exact .inl ⟨⟨a,b,d,by omega,hn⟩,by omega⟩
   refine .inr ⟨fun⟨a,b,d,hb,hn⟩=>?_,by omega⟩;by_cases e:b=i
   .grind
   exact m ⟨a,b,d,by omega,hn⟩
  rw[g,M2];refine hs c _ _ ⟨Fl,l,look _,?_⟩;rw[AH7 g];refine .inl ⟨⟨u,i,hu,by omega,g2⟩,?_⟩;rcases hl with⟨_,hl⟩ | ⟨_,hl⟩<;>omega
 obtain rfl:i=h.Laws.n:=by omega
 have z:Qu N h.Laws:=⟨by omega,hc⟩;have a0:¬ ∃i,i<h.Laws.n/\¬chkAll N (h.Laws.g i):=(by grind);refine Dt ?_;rw[Aq9];rcases hl with⟨m,hl⟩ | ⟨m,hl⟩
 .exact Ag ⟨6,rfl,by unfold hres;rw[Js (λk=>k ht),Js f,Js a0,Jk m]⟩
 refine Fe ?_;by_cases o:h.On.n=h.Tree.n
 case neg=>exact Br ⟨2,rfl,by simp_all[hres,Js,Jk]⟩
 refine Fe ?_;obtain⟨e,e1,x⟩:=Bi5 q t ht o;exact B2 e1 ⟨e,rfl,HX ht z m o x⟩
def KH (hN:3000000<=N){h:Yc}(t:Q6 h):X3 N h=some (hres N h):=by
 suffices g:∃r,X3 N h=some r/\r=hres N h by grind
 obtain⟨e,_,e1,he⟩:=Lf hN t.tree;unfold X3;refine B2 e1 ?_;rcases he with⟨rfl,ht⟩ | ⟨rfl,ht⟩
 case inr=>exact Bq ⟨16,rfl,by unfold hres;rw[Jk ht]⟩
 refine Du ?_;by_cases l:64<h.Laws.n
 .exact Br ⟨12,rfl,by simp_all[hres,Js,Jk]⟩
 refine Fe ?_;refine Z1 (λi x1=>x1=(i:Int)/\∀j,j<i->chkAll N (h.Laws.g j)) h.Laws.n _ (by omega) (by grind) ?_;rintro self i x1 hle ⟨rfl,hc⟩ hs;by_cases a:i<h.Laws.n
 .obtain⟨y,_,y1,hy⟩:=Or hN (t.laws i a);refine Br (Af (B2 (by rw[Us];exact y1) ?_));rcases hy with⟨rfl,hy⟩ | ⟨rfl,hy⟩
  case inr=>exact Bq ⟨17,rfl,by unfold hres;rw[Js (λk=>k ht),Js l,Jk ⟨i,a,hy⟩]⟩
  refine Du (hs a _ ⟨Fl,λj hj=>?_⟩)
  grind
 obtain rfl:i=h.Laws.n:=by omega
 have d:Qu N h.Laws:=⟨by omega,hc⟩;have w:¬ ∃i,i<h.Laws.n/\¬chkAll N (h.Laws.g i):=(by grind);refine Dt ?_;refine Z1 (λi x1=>x1=(i:Int)/\¬BS4 h i) h.Laws.n _ (by omega) ⟨rfl,fun⟨u,v,_,m,_⟩=>Ke m (by omega)⟩ ?_;rintro x i x1 hle2 ⟨rfl,o⟩ z;by_cases a:i<h.Laws.n
 .refine Br ?_;refine Z1 (λk x5=>x5=(k:Int)/\∀u,u<k->(h.Laws.g u).Name≠(h.Laws.g i).Name) i _ (by omega) (by grind) ?_;rintro a0 k x5 hk ⟨rfl,hne⟩ a1;by_cases q:k<i
  .refine Br (Af ?_);rw[Us,Us];by_cases e:(h.Laws.g k).Name=(h.Laws.g i).Name
   .exact Br ⟨6,rfl,by unfold hres;rw[Js (λk=>k ht),Js l,Js w,Jk ⟨k,i,q,a,e⟩]⟩
   refine Fe (a1 q _ ⟨Fl,λu hu=>?_⟩)
   grind
  refine Fe (z a _ ⟨Fl,fun⟨u,v,a2,m,hn⟩=>?_⟩);by_cases e:v=i
  .grind
  exact o ⟨u,v,a2,by omega,hn⟩
 obtain rfl:i=h.Laws.n:=by omega
 refine Dt ?_;by_cases c:h.On.n=h.Tree.n
 case neg=>exact Br ⟨2,rfl,by simp_all[hres,Js,Jk]⟩
 refine Fe ?_;have h63:=ht.2.1;refine Z1 (λi x1=>x1=(i:Int)/\∀v,v<i->¬ 64<(N2 h v).n) h.On.n _ (by omega) (by grind) ?_;rintro a3 i x1 hle3 ⟨rfl,a4⟩ a5;by_cases a:i<h.On.n
 .refine Br (B2 (TL t ht c N i (by omega) (by omega)) ?_);by_cases hg:64<(N2 h i).n
  .exact Br ⟨2,rfl,HX ht d o c (.inl ⟨⟨i,a,hg⟩,rfl⟩)⟩
  refine Fe (a5 a _ ⟨Fl,λv m=>?_⟩)
  grind
 refine Fe ?_;have s:¬Az8 h:=fun⟨v,m,g⟩=>a4 v (by omega) g;refine Z1 (λi x1=>x1=(i:Int)/\∀v,v<i->¬BN8 h v) h.On.n _ (by omega) (by grind) ?_;rintro a6 i x1 hle4 ⟨rfl,hbd⟩ a7;by_cases b:i<h.On.n
 .have hl:=t.len i b;refine Br ?_;refine Z1 (λk x1=>x1=(k:Int)/\∀j,j<k->¬((h.On.g i).g j<0 \/ (h.Laws.n:Int)<=(h.On.g i).g j)) (h.On.g i).n _ (by omega) (by grind) ?_;rintro a8 k x1 hk ⟨rfl,a9⟩ b0;refine Af ?_;rw[Us,Us];by_cases f:k<(h.On.g i).n
  .refine Br (Af ?_);by_cases g1:(h.On.g i).g k<0
   .exact Br ⟨3,rfl,HX ht d o c (.inr (.inl ⟨s,⟨i,b,k,f,.inl g1⟩,rfl⟩))⟩
   refine Fe (Af ?_);by_cases g2:(h.Laws.n:Int)<=(h.On.g i).g k
   .exact Br ⟨3,rfl,HX ht d o c (.inr (.inl ⟨s,⟨i,b,k,f,.inr g2⟩,rfl⟩))⟩
   refine Fe (b0 f _ ⟨Fl,λj hj=>?_⟩)
   grind
  refine Fe (a7 b _ ⟨Fl,λv m=>?_⟩);by_cases e:v=i
  .subst e;exact fun⟨j,hj,g⟩=>a9 j (by omega) g
  grind
 exact Fe ⟨0,rfl,HX ht d o c (.inr (by grind))⟩
def eqR {R:Type}{x:Option R}{y:R}(h:∃r,x=some r/\r=y):x=some y:=by grind
def Zc (t:Sl Node)(v:Nat):Prop:=∀u,0<u->u<t.n->(t.g u).Ye≠(v:Int)
open Classical in
noncomputable def Q7 (t:Sl Node):Nat->Sl Int
 |0=>Te
 |i+1=>ite (Zc t i) ((Q7 t i).push (i:Int)) (Q7 t i)
theorem TM {t:Sl Node}{i:Nat}(h:Zc t i):Q7 t (i+1)=(Q7 t i).push (i:Int):=Jk h
theorem Zd {t:Sl Node}{i:Nat}(h:¬Zc t i):Q7 t (i+1)=Q7 t i:=Js h
def Az9 (t:Sl Node):∀i,(Q7 t i).n<=i
 |0=>Ce5 0
 |i+1=>by
  have:=Az9 t i
  grind[Zc,TM,Q7,Zd]
def MO (t:Sl Node):∀i k,k<(Q7 t i).n->∃v:Nat,v<i/\(Q7 t i).g k=(v:Int)
 |0,k,hk=>Ke hk (Cp2 k)
 |i+1,k,hk=>by
  by_cases h:Zc t i
  .rw[TM h]at hk⊢;have hk:k<(Q7 t i).n+1:=hk;show ∃v:Nat,v<i+1/\(ite (k<(Q7 t i).n) ((Q7 t i).g k) (i:Int))=(v:Int);by_cases a:k<(Q7 t i).n
   .rw[Jk a];obtain⟨v,h1,b⟩:=MO t i k a
    grind
   grind
  rw[Zd h]at hk⊢;obtain⟨v,h1,b⟩:=MO t i k hk
  grind
def Bx6 (q:3000000<=N){t:Sl Node}(ht:Bl t):∃X,Ba N t=some X/\(X.n=t.n/\∀v,v<t.n->((X.g v).n=0↔Zc t v)):=by
 have l:=ht.2.1;unfold Ba;refine Af (S9 (λi x (X:Sl (Sl Int))=>x=(i:Int)/\X.n=t.n/\∀v,v<t.n->(((X.g v).n=0 ↔ ∀u,0<u->u<i->(t.g u).Ye≠(v:Int))/\(X.g v).n<=i)) t.n _ (by omega)
  (by grind) ?_)
 rintro d i x X hle ⟨rfl,a,f⟩ hs;by_cases hl:i<t.n
 case neg=>
  obtain rfl:i=t.n:=by omega
  exact Dt ⟨X,rfl,a,λv b=>(f v b).1⟩
 refine Br (Af ?_);rw[Us,Fl];rcases Ar ht hl with⟨m,h1⟩ | ⟨p,hp,e⟩
 .subst m;rw[h1];refine Af (ltX (Dt (hs hl _ _ ⟨rfl,a,λv b=>?_⟩)));have e:(X.upd (Int.toNat (-1)) (X.g (Int.toNat (-1)))).g v=X.g v:=by
   grind
  rw[e]
  grind
 rw[e,Us];have c:p<t.n:=by omega
 have j:=(f p c).2;refine Af (ltX (Br (Af (hs hl _ _ ⟨rfl,a,λv b=>?_⟩))));show ((ite (v=p) ((X.g p).push (i:Int)) (X.g v)).n=0↔_)/\(ite (v=p) ((X.g p).push (i:Int)) (X.g v)).n<=i+1;by_cases o:v=p
 .grind
 grind
def Ca5 {R:Type}{Q:R->Prop}{a:Sl Int->Int->Option R}{t:Sl Node}{i:Nat}(c:i<1000){b:Bool}(hb:b=true↔Zc t i)(h:∃r,a (Q7 t (i+1)) ((i+1:Nat):Int)=some r/\Q r) :∃r,(if b then
  if (Uq 8 ((Q7 t i).n+(Sl.of [(i:Int)]:Sl Int).n))then
   a ((Q7 t i).push (i:Int)) (wrap .i64 ((i:Int)+1))
  else none
  else a (Q7 t i) (wrap .i64 ((i:Int)+1)))=some r/\Q r:=by
 have hn:=Az9 t i;rw[Fl];by_cases hk:Zc t i
 .rw[TM hk]at h
  grind
 simp_all[Zd,ifF]
def AA0 (b:3000000<=N){t:Sl Node}(ht:Bl t):∃r,DB N t=some r/\r=Q7 t t.n:=by
 have c:=ht.2.1;unfold DB;obtain⟨X,e,d,hk⟩:=Bx6 b ht;refine B2 e (S9 (λi x1 x2=>x2=(i:Int)/\x1=Q7 t i) t.n _ (by omega) ⟨rfl,rfl⟩ ?_);rintro a i x1 x2 hle ⟨rfl,rfl⟩ hs;by_cases hl:i<t.n
 .refine ifT (by rw[d];grind) (Af ?_);rw[Us];exact Ca5 (by omega) (by rw[<- hk i hl];simp) (hs hl _ _ ⟨rfl,rfl⟩)
 grind
def Bx7 (f:3000000<=N){t:Sl Node}(ht:Bl t){v:Nat}(j:v<t.n):∃r,Cr N t (v:Int)=some r/\(r.n=0↔Zc t v):=by
 have c:=ht.2.1;unfold Cr;refine S9 (λi (x1:Sl Int) x2=>x2=(i:Int)/\x1.n<=i/\(x1.n=0 ↔ ∀u,0<u->u<i->(t.g u).Ye≠(v:Int))) t.n _ (by omega) (by grind) ?_;rintro a i x1 x2 hle ⟨rfl,hn,b⟩ hs;by_cases hl:i<t.n
 .refine Br (Af ?_);rw[Us,Fl];by_cases hp:(t.g i).Ye=(v:Int)
  .have l:0<i:=by
    grind[Ar]
   refine Br (Br (hs hl _ _ (by grind)))
  refine Fe (hs hl _ _ ⟨rfl,by omega,b.trans ⟨λh u h1 d=>?_,λh u h1 d=>h u h1 (by omega)⟩⟩)
  grind
 obtain rfl:i=t.n:=by omega
 exact Dt ⟨_,rfl,b⟩
def AV3 (a:3000000<=N){t:Sl Node}(c:Pe t):∃s e,T3 N t=some (s,e)/\Z4 N t=some (s,e)/\((Bl t/\e=0/\s=Q7 t t.n) \/ (¬Bl t/\e=16/\s=Te)):=by
 obtain⟨e,e1,e2,d⟩:=Lf a c;unfold T3 Z4;rw[e1,e2,Cd8,Cd8];rcases d with⟨rfl,ht⟩ | ⟨rfl,ht⟩
 .have f:=ht.2.1;rw[Jh,Jh];obtain⟨r,g1,rfl⟩:=AA0 a ht;refine⟨_,0,by rw[g1];rfl,eqR (S9 (λi x1 x2=>x2=(i:Int)/\x1=Q7 t i) t.n _ (by omega) ⟨rfl,rfl⟩ ?_),by grind⟩;rintro b i x1 x2 hle ⟨rfl,rfl⟩ hs;by_cases hl:i<t.n
  .refine Br ?_;obtain⟨r,k1,k2⟩:=Bx7 a ht hl;exact B2 k1 (Ca5 (by omega) (by rw[<- k2];simp) (hs hl _ _ ⟨rfl,rfl⟩))
  grind
 grind
def Fh (f:Nat->Int):Nat->Int
 |0=>0
 |k+1=>ite (Fh f k≠0) (Fh f k) (f k)
theorem MP {f:Nat->Int}{k:Nat}(h:Fh f k=0):Fh f (k+1)=f k:=Js (λg=>g h)
theorem GI {f:Nat->Int}{i:Nat}(h:Fh f i≠0):∀n,i<=n->Fh f n=Fh f i
 |0,hn=>by rw[show i=0 by omega]
 |n+1,hn=>by
  by_cases e:i=n+1
  .rw[e]
  have hp:=GI h n (by omega)
  simp_all[Fh,Jk]
def DN {f:Nat->Int}:∀{n:Nat},Fh f n=0->∀i,i<n->f i=0
 |0,_,i,hi=>by omega
 |n+1,h,i,hi=>by
  have hp:Fh f n=0:=Ck7 λg=>g (by rw[<- GI g (n+1) (by omega)];exact h);by_cases e:i=n
  .grind[MP]
  exact DN hp i (by omega)
def orE (a b:Int):Int:=ite (a≠0) a b
theorem Vi {a b:Int}(h:a≠0):orE a b=a:=Jk h
theorem Ot {a b:Int}(h:a=0):orE a b=b:=Js (λg=>g h)
def Ze {a b:Int}(h:orE a b=0):a=0/\b=0:=by
 grind[Ot,Vi,Ke]
def Ca6 {N n:Nat}{f:Nat->Int}{body:(Int->Option Int)->Int->Option Int}{re:Int}(m:n<N)(b:∀a i,i<n->f i≠0->body a (i:Int)=some (f i))
 (d:∀a i,i<n->f i=0->body a (i:Int)=a ((i+1:Nat):Int)) (j:∀a,Fh f n=0->body a (n:Int)=some re):N3 N body 0=some (orE (Fh f n) re):=by
 refine eqR (Z1 (λi x=>x=(i:Int)/\Fh f i=0) n _ m ⟨rfl,rfl⟩ ?_);rintro a i x hle ⟨rfl,l⟩ hs;by_cases hl:i<n
 .by_cases g:f i=0
  .rw[d a i hl g];exact hs hl _ ⟨rfl,by rw[MP l];exact g⟩
  rw[b a i hl g];have e:Fh f (i+1)=f i:=MP l;have c:Fh f (i+1)≠0:=by rw[e];omega
  exact⟨_,rfl,by rw[GI c n hl,Vi c,e]⟩
 obtain rfl:i=n:=by omega
 grind[Ot]
def Bi6 {N n:Nat}{f:Nat->Int}{body:(Int->Option Int)->Int->Option Int}{re:Int}(d:n<N)(a:∀self i,i<n->f i≠0->body self (i:Int)=some (f i))
 (b:∀self i,i<n->f i=0->body self (i:Int)=self ((i+1:Nat):Int)) (c:∀self,body self (n:Int)=some re):N3 N body 0=some (orE (Fh f n) re):=Ca6 d a b (by grind)
def IQ (s:Sl M8):Prop:=∀i,i<s.n->okA (s.g i).W
def WN (l:Sl Yh):Prop:=∀i,i<l.n->IQ (l.g i).Yg/\(l.g i).Gloss.length<1100000
def emp (s:Sl M8):Prop:=∃i,i<s.n/\(s.g i).Has=false/\0<(s.g i).W.n
noncomputable def BN9 (s:Sl M8):Bool:=@decide (¬emp s) (Classical.propDecidable _)
theorem Ak6 {s:Sl M8}(h:¬emp s):BN9 s=true:=@decide_eq_true _ (Classical.propDecidable _) h
theorem Ak7 {s:Sl M8}(h:emp s):BN9 s=false:=@decide_eq_false _ (Classical.propDecidable _) (λg=>g h)
def Ca7 (f:M8):((!f.Has)&&(decide (0<(f.W.n:Int))))=true↔f.Has=false/\0<f.W.n:=by simp
def Ak8 (d:1000<=N){s:Sl M8}(hs:s.n<900):Ax N s=some (BN9 s):=by
 have h1:∃r,D8 N s (λ(u1:M8)=>CA N u1)=some r/\(0<=r↔emp s):=by
  unfold D8;refine Z1 (λi x=>x=(i:Int)/\∀j,j<i->¬((s.g j).Has=false/\0<(s.g j).W.n)) s.n _ (by omega) (by grind) ?_;rintro b i x hle ⟨rfl,h⟩ a;by_cases hl:i<s.n
  .refine Br (Af (B2 rfl ?_));rw[Us,Fl];by_cases hb:(s.g i).Has=false/\0<(s.g i).W.n
   .exact ifT ((Ca7 _).2 hb) ⟨_,rfl,λ_=>⟨i,hl,hb⟩,λ_=>by omega⟩
   refine Fe (a hl _ ⟨rfl,λj c=>?_⟩)
   grind
  exact Fe ⟨_,rfl,by omega,fun⟨j,c,hb⟩=>by grind⟩
 grind[Ax,F2,emp,Ak7,Ak6,Int.not_le]
def WO (d:1000<=N){s:Sl M8}(hs:s.n<900):CV N s=some (BN9 s):=by
 unfold CV;refine eqR (Z1 (λi x=>x=(i:Int)/\∀j,j<i->¬((s.g j).Has=false/\0<(s.g j).W.n)) s.n _ (by omega) (by grind) ?_);rintro b i x hle ⟨rfl,h⟩ a;by_cases hl:i<s.n
 .refine Br (Af (ifT (λ_=>by omega) ?_));rw[Us,Fl];by_cases hb:(s.g i).Has=false/\0<(s.g i).W.n
  .exact ifT ((Ca7 _).2 hb) ⟨_,rfl,(Ak7 ⟨i,hl,hb⟩).symm⟩
  refine Fe (a hl _ ⟨rfl,λj c=>?_⟩)
  grind
 exact Fe ⟨_,rfl,(Ak6 (fun⟨j,c,hb⟩=>h j (by omega) hb)).symm⟩
def wE (N:Nat)(w:Sl Up):Int:=(W3 N w).getD 0
def AH8 (a:1000<=N){w:Sl Up}(hw:okA w):W3 N w=some (wE N w)/\Ab N w=some (wE N w):=by
 obtain⟨e,h1,b⟩:=Oq a hw;obtain⟨e',g1,g2⟩:=HW a hw;obtain rfl:=Bh6 b g2
 have:wE N w=e:=by grind[wE]
 rw[this];grind
def wsE (N:Nat)(s:Sl M8):Int:=Fh (λi=>wE N (s.g i).W) s.n
def KI (b:1000<=N){s:Sl M8}(hs:s.n<900)(c:IQ s):T7 N s=some (wsE N s)/\Bh N s=some (wsE N s):=by
 have e0:wsE N s=orE (wsE N s) 0:=by
  grind[wsE,Ot,Vi]
 rw[e0];unfold T7 Bh;constructor<;>refine Bi6 (f:=λi=>wE N (s.g i).W) (by omega) ?_ ?_ ?_
 .intro a i hl d;rw[Ge,Fp,Us,(AH8 b (c i hl)).1,Cd8,Ge]
 .intro a i hl d;rw[Ge,Fp,Us,(AH8 b (c i hl)).1,Cd8,Iw,Fl]
 .grind
 .intro a i hl d;rw[Ge,Fp,Us,(AH8 b (c i hl)).2,Cd8,Ge]
 .intro a i hl d;rw[Ge,Fp,Us,(AH8 b (c i hl)).2,Cd8,Iw,Fl]
 grind
def WQ (b:3000000<=N){s:Str}(hs:s.length<1100000):Cs N s=some (Lr s):=by
 obtain⟨e,e1,_,c⟩:=Lf (t:=(Sl.of [(⟨-1,s⟩:Node)]:Sl Node)) b (λv a=>by
  have a:v<1:=a
  grind)
 unfold Cs;rw[e1,Cd8];have key:Bl (Sl.of [(⟨-1,s⟩:Node)]:Sl Node)↔Lr s=true:=by
  constructor
  .intro h;exact (h.2.2 0 (by grind)).2.2.1
  intro h;refine⟨by grind,by grind,λv a=>?_⟩;have a:v<1:=a;obtain rfl:v=0:=by omega
  exact⟨λ_=>rfl,by omega,h,by omega⟩
 congr 1;rcases c with⟨rfl,h⟩ | ⟨rfl,h⟩
 all_goals grind
open Classical in
noncomputable def e2 (l:Sl Yh) (k:Nat) (i:Nat):Int:=ite ((l.g i).Yg.n≠k \/ emp (l.g i).Yg) 2 0
def e15 (l:Sl Yh)(i:Nat):Int:=ite (Lr (l.g i).Gloss) 0 15
def Bx8 {l:Sl Yh}{k i:Nat}(h:e2 l k i=0):(l.g i).Yg.n=k/\¬emp (l.g i).Yg:=by
 simp_all[e2,Ck7]
def BE6 {l:Sl Yh}{k i:Nat}(h:(l.g i).Yg.n≠k \/ emp (l.g i).Yg):e2 l k i=2:=Jk h
def BE7 {l:Sl Yh}{k i:Nat}(h:¬((l.g i).Yg.n≠k \/ emp (l.g i).Yg)):e2 l k i=0:=Js h
def AH9 {l:Sl Yh}{k i:Nat}{E:Option Bool}(hk:k<900)(b:(l.g i).Yg.n=k->E=some (BN9 (l.g i).Yg))(a:Option Int) :(lt (λ(z3:Bool)=>ite z3 (some 2) a) λk3=>
  if (((l.g i).Yg.n:Int) != (k:Int)) then
   k3 true
  else
   E.bind λy6=>
   k3 (!y6))=ite (e2 l k i≠0) (some (e2 l k i)) a:=by
 by_cases h:(l.g i).Yg.n=k
 .rw[b h];have hc:¬(((l.g i).Yg.n:Int) != (k:Int))=true:=by grind
  by_cases hp:emp (l.g i).Yg
  .rw[BE6 (.inr hp)];show (ite (((l.g i).Yg.n:Int) != (k:Int)) _ (ite (!(BN9 (l.g i).Yg)) (some (2:Int)) a))=some 2;rw[Js hc,Jk (by rw[Ak7 hp];rfl)]
  rw[BE7 (by grind)];show (ite (((l.g i).Yg.n:Int) != (k:Int)) _ (ite (!(BN9 (l.g i).Yg)) (some (2:Int)) a))=a;rw[Js hc,Js (by rw[Ak6 hp];decide)]
 rw[BE6 (.inl h)];exact Ge
def AA1 (c:3000000<=N){l:Sl Yh}{k:Nat}(hk:k<900)(hn:l.n<900)(d:WN l):S1 N l (k:Int)=some (orE (Fh (e2 l k) l.n) (orE (Fh (e15 l) l.n) 0)):=by
 unfold S1;have step:=λ(a:Option Int) (i:Nat)=>AH9 (l:=l) (i:=i) hk (λh=>Ak8 (N:=N) (s:=(l.g i).Yg) (by omega) (by omega)) a;refine Bi6 (by omega) ?_ ?_ ?_
 .simp_all
 .intro a i hl b;rw[Ge,Fp,Us,step,Js (λg=>g b),Fl]
 intro a;rw[Hh];refine Bi6 (by omega) ?_ ?_ ?_
 .intro a i hl b;rw[Ge,Fp,Us,WQ c (d i hl).2,Cd8];unfold e15 at b⊢
  grind
 .intro a i hl b;rw[Ge,Fp,Us,WQ c (d i hl).2,Cd8];unfold e15 at b;by_cases h:Lr (l.g i).Gloss=true
  .rw[Iw,Fl]
  grind
 grind
noncomputable def Ca8 (N:Nat) (p:Sl M8) (l:Sl Yh) (k:Nat):Int:= orE (Fh (e2 l k) l.n) (orE (Fh (e15 l) l.n) (orE (wsE N p) (Fh (λi=>wsE N (l.g i).Yg) l.n)))
def Bx9 (j:3000000<=N){l:Sl Yh}(hn:l.n<900)(W:Nat->Int)(f:∀i,i<l.n->Bh N (l.g i).Yg=some (W i))(w0:Int) :U1 N (λ(a:Int->Int->Option Int) (x7:Int) (x8:Int)=>
  if ((decide (x8<(l.n:Int)))&&(x7==0)) then
   if ((0:Int)<=x8/\x8<(l.n:Int))then
    (Bh N (l.g x8.toNat).Yg).bind λb=>
    a b (wrap .i64 (x8+1))
   else none
  else
   some x7
  ) w0 0=some (orE w0 (Fh W l.n)):=by
 refine eqR (S9 (λi x7 x8=>x8=(i:Int)/\((x7=0/\w0=0/\Fh W i=0) \/ (x7≠0/\x7=orE w0 (Fh W l.n)))) l.n _ (by omega) ⟨rfl,?_⟩ ?_)
 .by_cases h:w0=0
  .exact .inl ⟨h,h,rfl⟩
  grind[Vi]
 rintro c i x7 x8 hle ⟨rfl,h⟩ hs;rcases h with⟨rfl,d,h1⟩ | ⟨d,h1⟩
 .by_cases hl:i<l.n
  .refine Br (Af ?_);rw[Us,Fl];refine B2 (f i hl) (hs hl _ _ ⟨rfl,?_⟩);have e:=MP h1
   grind[Ot,GI]
  obtain rfl:i=l.n:=by omega
  exact Dt ⟨_,rfl,by rw[Ot d,h1]⟩
 grind
def KJ {t:Sl Node}(ht:Bl t):(Q7 t t.n).n<=63:=by have:=Az9 t t.n;have:=ht.2.1;omega
def HY (a:3000000<=N){t:Sl Node}(b:Pe t)(ht:Bl t):T3 N t=some (Q7 t t.n,0)/\Z4 N t=some (Q7 t t.n,0):=by
 obtain⟨s,e,h1,c,d⟩:=AV3 a b
 grind
open Classical in
noncomputable def BO0 (N:Nat) (h:Yc) (p:Sl M8) (l:Sl Yh):Int:= ite (hres N h≠0) (hres N h) (ite (256<l.n) 12 (ite (p.n≠l.n \/ emp p) 2 (Ca8 N p l (Q7 h.Tree h.Tree.n).n)))
def WR (o:3000000<=N){h:Yc}(r:Q6 h){p:Sl M8}{l:Sl Yh}(hp:IQ p)(hl:WN l):Ay N h p l=some (BO0 N h p l):=by
 unfold Ay BO0;rw[Pg o r,Cd8];by_cases s:hres N h=0
 case neg=>rw[Ge,Jk s]
 rw[Iw,Gh];have j:=hres_zero.1 s;have t:=KJ j.tree;rw[(HY o r.tree j.tree).1,Cd8];by_cases c:256<l.n
 .rw[Ge,Jk c]
 rw[Iw,Js c];have rest:(lt (λ(z1:Bool)=>
  if z1 then
   some (2:Int)
  else
   (S1 N l (((Q7 h.Tree h.Tree.n).n:Nat):Int)).bind λy5=>
   if (y5 != 0) then
    some y5
   else
    (T7 N p).bind λy6=>
    if (y6 != 0) then
     some y6
    else
     N3 N (λd (x2:Int)=>
      if (decide (x2<(l.n:Int))) then
       if ((0:Int)<=x2/\x2<(l.n:Int))then
        (T7 N (l.g x2.toNat).Yg).bind λy9=>
        if (y9 != 0) then
         some y9
        else
         d (wrap .i64 (x2+1))
       else none
      else
       some 0
      ) 0
  ) λk1=>k1 false)=(ite (p.n=l.n) (some (Ca8 N p l (Q7 h.Tree h.Tree.n).n)) (some 0)) \/ p.n≠l.n:=by
  by_cases f:p.n=l.n
  case neg=>omega
  refine .inl ?_;rw[Jk f];show (S1 N l (((Q7 h.Tree h.Tree.n).n:Nat):Int)).bind _=_;rw[AA1 o (by omega) (by omega) hl,Cd8];unfold Ca8;by_cases g1:Fh (e2 l (Q7 h.Tree h.Tree.n).n) l.n=0
  case neg=>rw[Vi g1,Vi g1,Ge]
  rw[Ot g1,Ot g1];by_cases g2:Fh (e15 l) l.n=0
  case neg=>rw[Vi g2,Vi g2,Ge]
  rw[Ot g2,Ot g2,Jh,(KI (by omega) (by omega) hp).1,Cd8];by_cases g3:wsE N p=0
  case neg=>rw[Vi g3,Ge]
  rw[Ot g3,Iw];have e0:∀a:Int,a=orE a 0:=λa=>by
   grind[Ot,Vi]
  rw[e0 (Fh (λi=>wsE N (l.g i).Yg) l.n)];have hk:∀i,i<l.n->(l.g i).Yg.n<900:=λi b=>by
   have:=(Bx8 (DN g1 i b)).1;omega
  refine Bi6 (by omega) ?_ ?_ ?_
  .intro m i b u;rw[Ge,Fp,Us,(KI (by omega) (hk i b) (hl i b).1).1,Cd8,Ge]
  .intro m i b u;rw[Ge,Fp,Us,(KI (by omega) (hk i b) (hl i b).1).1,Cd8,Iw,Fl]
  grind
 by_cases f:p.n=l.n
 case neg=>rw[Jk (.inl f)];exact Ge
 have hc:¬((p.n:Int) != (l.n:Int))=true:=by grind
 rw[Ak8 (by omega) (by omega)];by_cases q:emp p
 .rw[Jk (.inr q),Ak7 q];exact Js hc
 rw[Iw,Ak6 q]
 grind
def TN (j:3000000<=N){h:Yc}(t:Q6 h){p:Sl M8}{l:Sl Yh}(hp:IQ p)(hl:WN l):Ej N h p l=some (BO0 N h p l):=by
 unfold Ej BO0;rw[KH j t,Cd8];by_cases m:hres N h=0
 case neg=>rw[Ge,Jk m]
 rw[Iw,Js (show ¬hres N h≠0 from λg=>g m)];have d:=hres_zero.1 m;have u:=KJ d.tree;by_cases c:256<l.n
 .rw[Ge,Jk c]
 rw[Iw,Js c,(HY j t.tree d.tree).2,Cd8];by_cases o:p.n=l.n
 case neg=>rw[Jk (.inl o)];exact Ge
 have hc:¬((p.n:Int) != (l.n:Int))=true:=by grind
 rw[WO (by omega) (by omega)];by_cases q:emp p
 .rw[Jk (.inr q),Ak7 q];exact Js hc
 rw[Iw,Ak6 q];refine (Js hc).trans ?_;rw[Cd8];refine (Jh).trans ?_;unfold Ca8;have step:=λ(a:Option Int) (i:Nat)=>AH9 (l:=l) (i:=i) (show (Q7 h.Tree h.Tree.n).n<900 by omega) (λh=>WO (N:=N) (s:=(l.g i).Yg) (by omega) (by omega)) a;have ent:∀(i:Nat) (a:Int->Option Int),i<l.n->(lt (λ(z4:Bool)=>
  if z4 then
   some (2:Int)
  else
   a (wrap .i64 ((i:Int)+1))
  ) λk4=>
  if (((l.g i).Yg.n:Int) != (((Q7 h.Tree h.Tree.n).n:Nat):Int)) then
   k4 true
  else
   if ((0:Int)<=(i:Int)/\(i:Int)<(l.n:Int))then
    (CV N (l.g i).Yg).bind λr=>
    k4 (!r)
   else none)=ite (e2 l (Q7 h.Tree h.Tree.n).n i≠0) (some (e2 l (Q7 h.Tree h.Tree.n).n i)) (a (wrap .i64 ((i:Int)+1))):=λi a b=>by
  rw[<- step]
  grind
 refine Ca6 (by omega) ?_ ?_ ?_
 .simp_all
 .intro a i b f;rw[Ge,Fp,Us,ent i a b,Js (λg=>g f),Fl]
 intro a g1;rw[Hh];refine Bi6 (by omega) ?_ ?_ ?_
 .intro a i b f;rw[Ge,Fp,Us,Zb (by have:=(hl i b).2;omega) (by have:=(hl i b).2;omega),Cd8];unfold e15 at f⊢
  grind
 .intro a i b f;rw[Ge,Fp,Us,Zb (by have:=(hl i b).2;omega) (by have:=(hl i b).2;omega),Cd8];unfold e15 at f;by_cases h:Lr (l.g i).Gloss=true
  .rw[Iw,Fl]
  grind
 intro a;rw[Hh,(KI (by omega) (by omega) hp).2,Cd8];exact Bx9 j (by omega) (λi=>wsE N (l.g i).Yg) (λi b=>(KI (by omega) (by have:=(Bx8 (DN g1 i b)).1;omega) (hl i b).1).2) (wsE N p)
structure Vj (N:Nat) (h:Yc) (p:Sl M8) (l:Sl Yh):Prop where
 hist:AF N h
 n:l.n<=256
 pn:p.n=l.n
 pe:¬emp p
 fn:∀i,i<l.n->(l.g i).Yg.n=(Q7 h.Tree h.Tree.n).n
 fe:∀i,i<l.n->¬emp (l.g i).Yg
 nm:∀i,i<l.n->Lr (l.g i).Gloss=true
 pw:∀i,i<p.n->wOk (p.g i).W
 fw:∀i,i<l.n->∀k,k<(l.g i).Yg.n->wOk ((l.g i).Yg.g k).W
def Zf (a:1000<=N){w:Sl Up}(hw:okA w):wE N w=0↔wOk w:=by
 obtain⟨e,h1,b⟩:=Oq a hw
 have:wE N w=e:=by grind[wE]
 rw[this];exact GH b
def Lg {f:Nat->Int}:∀{n:Nat},(∀i,i<n->f i=0)->Fh f n=0
 |0,_=>rfl
 |n+1,h=>by rw[MP (Lg (by grind))];grind
def Bi7 (b:1000<=N){h:Yc}{p:Sl M8}{l:Sl Yh}(hp:IQ p)(hl:WN l):BO0 N h p l=0↔Vj N h p l:=by
 unfold BO0;constructor
 .intro g;split at g
  .omega
  rename_i g1;split at g
  .cases g
  rename_i g2;split at g
  .cases g
  rename_i g3;obtain⟨d1,g⟩:=Ze g;obtain⟨d2,g⟩:=Ze g;obtain⟨d3,d4⟩:=Ze g;have d1:=DN d1;have d2:=DN d2;have d3:=DN d3;have d4:=DN d4;refine⟨hres_zero.1 (by omega),by omega,by omega,λe=>g3 (.inr e),λi a=>(Bx8 (d1 i a)).1,λi a=>(Bx8 (d1 i a)).2,λi a=>?_,λi a=>(Zf b (hp i a)).1 (d3 i a),λi a k hk=>(Zf b ((hl i a).1 k hk)).1 (DN (d4 i a) k hk)⟩
  have:=d2 i a
  unfold e15 at this
  grind
 rintro⟨a1,a2,a3,a4,a5,a6,a7,a8,a9⟩;rw[Js (λg=>g (hres_zero.2 a1)),Gh,Iw];unfold Ca8;have b1:Fh (e2 l (Q7 h.Tree h.Tree.n).n) l.n=0:=Lg λi a=>BE7 (by grind);have b2:Fh (e15 l) l.n=0:=Lg λi a=>Jk (a7 i a);have b3:wsE N p=0:=Lg λi a=>(Zf b (hp i a)).2 (a8 i a);rw[Ot b1,Ot b2,Ot b3];exact Lg λi a=>Lg λk hk=>(Zf b ((hl i a).1 k hk)).2 (a9 i a k hk)
def TO:∀(d:Nat) (p:Pat),dep d p->∀M,100+d<=M->∃r,Bu M p=some r
 |0,p,h,M,_=>h.elim
 |d+1,p,h,0,hM=>by omega
 |d+1,p,h,M+1,hM=>by
  suffices ∃r,Bu (M+1) p=some r/\True by grind
  show ∃x,AS (Bu M) M p=some x/\_;unfold AS;have hn:=h.1;refine S9 (λi x1 x2=>x2=(i:Int)) p.L.n _ (by omega) rfl ?_;rintro a i x1 x2 c rfl hs;by_cases hl:i<p.L.n
  .obtain⟨r,b⟩:=TO d (p.L.g i) (h.2 i hl) M (by omega);exact Br (Af (B2 (by rw[Us];exact b) (hs hl _ _ (Fl))))
  exact Fe ⟨_,rfl,trivial⟩
def By0 (f:2000<=N)(laws:Sl Law):∃r,FF N laws=some r:=by
 suffices ∃r,FF N laws=some r/\True by grind
 unfold FF;refine S9 (λi x1 x2=>x2=(i:Int)) 301 _ (by omega) rfl ?_;rintro d i x1 x2 s rfl hs;by_cases hc:i<laws.n/\i<=300
 .refine Br (Af ?_);refine S9 (λj x7 x8=>x8=(j:Int)) 2 _ (by omega) rfl ?_;rintro b j x7 x8 t rfl a;by_cases hl:j<2
  .refine Br (Br ?_);obtain⟨r,l,m⟩:=Za f ((Sl.of [(laws.g (i:Int).toNat).Left,(laws.g (i:Int).toNat).Right]:Sl Pat).g (j:Int).toNat);refine B2 l ?_;by_cases c:r<=40
   .obtain⟨q,o⟩:=TO 41 _ (m c) N (by omega);exact Br (B2 o (a hl _ _ (Fl)))
   exact Fe (a hl _ _ (Fl))
  exact Fe (hs (by omega) _ _ (Fl))
 exact Fe ⟨_,rfl,trivial⟩
def Bi8 (t:3000000<=N)(h:Yc):∃b,Gy N h=some b/\True:=by
 unfold Gy;by_cases hb:(((decide (70<(h.Tree.n:Int)))||(decide (70<(h.Laws.n:Int))))||(decide (70<(h.On.n:Int))))=true
 .simp_all
 refine ifF hb ?_;have l : h.Laws.n<=70/\h.On.n<=70:=by grind
 refine Z1 (λi x=>x=(i:Int)) h.On.n _ (by omega) rfl ?_;rintro j i x m rfl hs;by_cases f:i<h.On.n
 .refine Br (Af ?_);by_cases o:(decide (70<((h.On.g (i:Int).toNat).n:Int)))=true
  .simp_all
  exact ifF o (hs f _ (Fl))
 refine Fe ?_;refine Z1 (λi x=>x=(i:Int)) h.Laws.n _ (by omega) rfl ?_;rintro d i x m rfl q;by_cases f:i<h.Laws.n
 .rw[Fl];refine Br (Af ?_);obtain⟨r,s⟩:=By0 (N:=N) (by omega) (h.Laws.sub (i:Int).toNat ((i+1:Nat):Int).toNat);refine B2 s ?_;have last:∀z3:Bool,∃r,(ite z3 (some false) (d ((i+1:Nat):Int)))=some r/\True:=λz=>by
   cases z
   all_goals simp_all
  refine ltX ?_;by_cases g1:(decide (4<r))=true
  .simp_all
  refine ifF g1 ?_;by_cases g2:(decide (20<((h.Laws.g (i:Int).toNat).If.n:Int)))=true
  .simp_all
  refine ifF g2 ?_;by_cases g3:(decide (20<((h.Laws.g (i:Int).toNat).Out.n:Int)))=true
  .simp_all
  refine ifF g3 ?_;obtain⟨a,ha,_⟩:=Za (N:=N) (by omega) (h.Laws.g (i:Int).toNat).Left;refine B2 ha ?_;by_cases g4:(decide (41<(a:Int)))=true
  .simp_all
  refine ifF g4 ?_;obtain⟨c,hc,_⟩:=Za (N:=N) (by omega) (h.Laws.g (i:Int).toNat).Right;exact B2 hc (last _)
 exact Fe ⟨_,rfl,trivial⟩
abbrev signC:Str:=[58,39,34,126,94,95,61,96]
def mtB (s:Str):Prop:=1<=s.length/\s.length<=3/\∀b∈s,signC.contains b=true
def Bi9:∀k:Fin 256,HM 0 ((k.val:Nat):Int)=some (signC.contains (UInt8.ofNat k.val)):=by decide +kernel
def BO1 (b:UInt8):HM N ((b.toNat:Nat):Int)=some (signC.contains b):=by
 have:=Bi9 ⟨b.toNat,b.toNat_lt⟩
 rw[show UInt8.ofNat b.toNat=b by simp]at this;exact this
def Ak9 {s:Str}(d:s.length<N)(hs:s.length<1000000000):∃b,Cv N s=some b/\(b=true↔mtB s):=by
 unfold Cv;refine Z1 (λi x1=>x1=(i:Int)/\∀j (h:j<s.length),j<i->signC.contains s[j]=true) s.length _ d (by grind) ?_;rintro c i x1 n ⟨rfl,h⟩ a;by_cases hl:i<s.length
 .refine Br (Af ?_);have eb:E9 s (i:Int)=((s[i].toNat:Nat):Int):=by grind
  rw[eb];refine B2 (BO1 s[i]) ?_;by_cases hb:signC.contains s[i]=true
  .refine ifF (by rw[hb];decide) (a hl _ ⟨Fl,λj f g=>?_⟩)
   grind
  exact Br ⟨false,rfl,by simp,λl=>Ke (l.2.2 s[i] (Ct2 hl)) hb⟩
 refine Fe ⟨_,rfl,?_⟩;simp;constructor
 .rintro⟨h1,m⟩;refine⟨by omega,by omega,λb hb=>?_⟩;obtain⟨j,f,rfl⟩:=Ck5 hb
  grind
 rintro⟨h1,m,_⟩;omega
def BO2 (x y:BitVec 32):F3 .xor .u32 x.toNat y.toNat=((x ^^^ y).toNat:Int):=by
 grind[F3,IntKind.bits,DU,Nm]
def tV (n:Nat):BitVec 32:=BitVec.ofNat 32 (2 ^ n-1)
def mgB (n:Nat)(p m c:BitVec 32):Bool:=decide ((c ||| (p ||| m)) &&& ~~~ tV n=0#32)&&(decide (c &&& (p ||| m)=0#32)&&vB p m)
def Al0 (x:GO):Prop:=∃p m c:BitVec 32,x.Set=sOf p m/\x.Clear=c.toNat/\x.Text.length<1100000
def mgV (n:Nat)(x:GO):Bool:=mgB n (BitVec.ofInt 32 x.Set.Plus) (BitVec.ofInt 32 x.Set.Minus) (BitVec.ofInt 32 x.Clear)
def BE8 {n:Nat}{x:GO}{p m c:BitVec 32}(h1:x.Set=sOf p m)(a:x.Clear=c.toNat):mgV n x=mgB n p m c:=by
 simp_all[mgV,sOf,DU]
def ltG {R:Type}{Q:R->Prop}{K:Bool->Option R}{f:(Bool->Option R)->Option R}{b:Bool}(a:∀k,f k=k b)(h:∃r,K b=some r/\Q r):∃r,lt K f=some r/\Q r:=by
 grind[lt]
def mdup (l:Sl GO)(i:Nat):Prop:=∃k,k<i/\(l.g k).Text=(l.g i).Text
open Classical in
noncomputable def mkE (n:Nat) (l:Sl GO) (i:Nat):Int:=ite (mtB (l.g i).Text) (ite (mgV n (l.g i)) (ite (mdup l i) 6 0) 2) 15
noncomputable def BE9 (n:Nat) (l:Sl GO):Int:=ite (32<l.n) 12 (Fh (mkE n l) l.n)
def mtx {s:Str}(h:s.length<1100000):∃b,(∀{R:Type}(k:Bool->Option R),(ite ((s==[]) != false) (k true) (ite (decide (3<(s.length:Int))) (k true) ((At N s [58,39,34,126,94,95,61,96]).bind λy=>k ((y==[]) != true))))=k b)/\(b=true ↔ ¬mtB s):=by
 by_cases a:s=[]
 .subst a;exact⟨true,λ_=>rfl,λ_ g=>Ke g.1 (by decide),λ_=>rfl⟩
 have hp:0<s.length:=(by grind);by_cases c:3<s.length
 .exact⟨true,by grind,λ_ g=>Ke g.2.1 (by omega),λ_=>rfl⟩
 refine⟨(Lib.trimS s signC==[]) != true,λk=>?_,?_⟩
 .rw[Iw,Iw];unfold At;rw[Jk ⟨by omega,by decide,by decide⟩,Cd8]
 by_cases g:Lib.trimS s signC=[]
 .have:=(YY s signC).1 g
  simp only[g];exact⟨λq=>by grind,λq=>Ke ⟨hp,by omega,this⟩ q⟩
 refine⟨λ_ q=>g ((YY s signC).2 q.2.2),λ_=>by grind⟩
def By1 {n:Nat}(hn:n<=24):F3 .xor .u32 4294967295 (wrap .u32 ((shI .shl .u32 1 ((n:Nat):Int))-1))=((~~~ tV n).toNat:Int):=by
 rw[Az3 hn]
 have:=BO2 4294967295#32 (tV n)
 rw[show ((4294967295#32:BitVec 32).toNat:Int)=4294967295 from rfl]at this;refine this.trans ?_;rw[show (4294967295#32:BitVec 32)=BitVec.allOnes 32 from rfl,BitVec.allOnes_xor]
def mgx {N n:Nat}(hn:n<=24){x:GO}(hx:Al0 x){R:Type}{k:Bool->Option R}:(ite ((F3 .and .u32 (F3 .or .u32 x.Clear (F3 .or .u32 x.Set.Plus x.Set.Minus)) (F3 .xor .u32 4294967295 (wrap .u32 ((shI .shl .u32 1 (n:Int))-1)))) != 0) (k true) (ite ((F3 .and .u32 x.Clear (F3 .or .u32 x.Set.Plus x.Set.Minus)) != 0) (k true) ((H1 N x.Set).bind λy=>k (!y))))=k (!(mgV n x)):=by
 obtain⟨p,m,c,h1,d,_⟩:=hx;rw[BE8 h1 d,By1 hn,d,h1,Cw];show (ite ((F3 .and .u32 (F3 .or .u32 (c.toNat:Int) (F3 .or .u32 (p.toNat:Int) (m.toNat:Int))) ((~~~ tV n).toNat:Int)) != 0) (k true) (ite ((F3 .and .u32 (c.toNat:Int) (F3 .or .u32 (p.toNat:Int) (m.toNat:Int))) != 0) (k true) _))=_;rw[IZ,IZ,DV,DV,ne0,ne0];unfold mgB;by_cases a:(c ||| (p ||| m)) &&& ~~~ tV n=0#32
 .rw[Iw];by_cases b:c &&& (p ||| m)=0#32
  all_goals simp_all
 simp_all
def Bj0 {s:Sl GO}{q:GO}(c:s.n<N)(hs:s.n<1000000) :∃r,C9 N s (λu=>Ao N u q)=some r/\(r=true ↔ ∃i,i<s.n/\(s.g i).Text=q.Text):=by
 unfold C9
 have:∃y,D9 N s (λu=>Ao N u q)=some y/\(0<=y ↔ ∃i,i<s.n/\(s.g i).Text=q.Text):=by
  unfold D9;refine Z1 (λi x1=>x1=(i:Int)/\∀j,j<i->¬(s.g j).Text=q.Text) s.n _ c (by grind) ?_;rintro b i x1 d ⟨rfl,h⟩ a;by_cases hl:i<s.n
  .refine Br (Af (B2 rfl ?_));rw[Us];by_cases hb:(s.g i).Text=q.Text
   .exact Br (by grind)
   refine Fe (a hl _ ⟨Fl,λj f=>?_⟩)
   grind
  refine Fe ⟨-1,rfl,λh=>Ke h (by decide),?_⟩
  grind
 obtain⟨y,e,hy⟩:=this
 simp_all
def By2 (f:3000000<=N){v:A6}(h1:v.feats.n<=24)(g:v.sounds.n<=256):∃r,S8 N v=some r/\∃z,r=some z/\z.feats=v.feats:=by
 unfold S8;refine B2 (x:=true) rfl (Du (B2 (x:=v.feats) (Fp) (B2 (x:=v.sounds) (Fp) ?_)));refine S9 (λi x1 x2=>x2=(i:Int)) v.feats.n _ (by omega) rfl ?_;rintro d i x1 x2 j rfl hs;by_cases hl:i<v.feats.n
 .exact Br (Af (hs hl _ _ (Fl)))
 refine Fe ?_;refine Aj7 (λi x3 x4 x5=>x5=(i:Int)) v.sounds.n _ (by omega) rfl ?_;rintro a k x3 x4 x5 hk rfl b;by_cases c:k<v.sounds.n
 .exact Br (Af (b c _ _ _ (Fl)))
 grind
def Bj1 {n:Nat}{l:Sl GO}{i:Nat}(a:Fh (mkE n l) i=0)(c:i<l.n):(mkE n l i=0->Fh (mkE n l) (i+1)=0)/\∀{e:Int},mkE n l i=e->e≠0->e=Fh (mkE n l) l.n:=by
 have b:=MP a
 grind[GI]
def By3 (u:3000000<=N){v:A6}(h1:v.feats.n<=24)(w:v.sounds.n<=256){l:Sl GO}(hl:∀i,i<l.n->Al0 (l.g i)):Ct N v l=some (BE9 v.feats.n l):=by
 refine eqR ?_;unfold Ct BE9;obtain⟨_,e,z,rfl,ez⟩:=By2 u h1 w;refine B2 e ?_;rw[M2];by_cases f:32<l.n
 .grind
 rw[Js f];have y:Q5 N z=some v.feats:=by unfold Q5 J5 D1;rw[ez,Cd8,Jh,Fp];rfl
 refine Fe (B2 y (Af ?_));refine Z1 (λi x=>x=(i:Int)/\Fh (mkE v.feats.n l) i=0) l.n _ (by omega) ⟨rfl,rfl⟩ ?_;rintro m i x hi ⟨rfl,h0⟩ hs;by_cases c:i<l.n
 .obtain⟨j,a⟩:=Bj1 h0 c;refine Br (Af ?_);rw[Us];have d:(l.g i).Text.length<1100000:=by obtain⟨_,_,_,_,_,h⟩:=hl i c;exact h
  obtain⟨b,eb,hb⟩:=mtx (N:=N) d;refine ltG (λk=>eb k) ?_;by_cases ht:mtB (l.g i).Text
  case neg=>exact ifT (hb.2 ht) ⟨_,rfl,a (Js ht) (by decide)⟩
  refine ifF (λg=>hb.1 g ht) (ltG (λk=>mgx h1 (hl i c)) ?_);by_cases hg:mgV v.feats.n (l.g i)=true
  case neg=>exact Br ⟨_,rfl,a ((Jk ht).trans (Js hg)) (by decide)⟩
  refine Fe (Af ?_);obtain⟨r,er,o⟩:=Bj0 (N:=N) (s:=l.take i) (q:=l.g i) (by grind) (by grind);refine B2 er ?_;by_cases t:mdup l i
  .exact ifT (o.2 t) ⟨_,rfl,a ((Jk ht).trans (by grind)) (by decide)⟩
  exact ifF (λg=>t (o.1 g)) (hs c _ ⟨Fl,j ((Jk ht).trans (by grind))⟩)
 obtain rfl:i=l.n:=by omega
 refine Dt ?_;unfold H2;rw[Fp]
 grind
def rgx {N n:Nat}(d:1000<=N)(hn:n<=24){x:GO}(hx:Al0 x){R:Type}{k:Bool->Option R}:(ite ((F3 .andNot .u32 x.Clear (wrap .u32 ((shI .shl .u32 1 (n:Int))-1))) != 0) (k true) ((G6 N x.Set).bind λy=>ite (!y) (k true) (ite ((F3 .andNot .u32 (F3 .or .u32 x.Set.Plus x.Set.Minus) (wrap .u32 ((shI .shl .u32 1 (n:Int))-1))) != 0) (k true) (k ((F3 .and .u32 x.Clear (F3 .or .u32 x.Set.Plus x.Set.Minus)) != 0)))))=k (!(mgV n x)):=by
 obtain⟨p,m,c,h1,b,_⟩:=hx;rw[BE8 h1 b,Az3 hn,b,h1,AA p m d];show (ite ((F3 .andNot .u32 (c.toNat:Int) ((tV n).toNat:Int)) != 0) (k true) ((some (vB p m)).bind λy=>ite (!y) (k true) (ite ((F3 .andNot .u32 (F3 .or .u32 (p.toNat:Int) (m.toNat:Int)) ((tV n).toNat:Int)) != 0) (k true) (k ((F3 .and .u32 (c.toNat:Int) (F3 .or .u32 (p.toNat:Int) (m.toNat:Int))) != 0)))))=_;rw[IZ,DV,Db,Db,ne0,ne0,ne0,Cd8];have e:(c ||| (p ||| m)) &&& ~~~ tV n=0#32↔c &&& ~~~ tV n=0#32/\(p ||| m) &&& ~~~ tV n=0#32:=by rw[BE4,or0]
 unfold mgB;by_cases a:c &&& ~~~ tV n=0#32
 .rw[Iw];by_cases v:vB p m=true
  .rw[Iw];by_cases o:(p ||| m) &&& ~~~ tV n=0#32
   all_goals simp_all
  grind
 simp_all
def Bj2 {α : Type}[Inhabited α](s:Sl α):(Sl.of []:Sl α).app s=s:=by
 simp_all[Sl.of,Sl.app]
def By4 (hN:3000000<=N){r:D7}(hm:r.Made=true)(h1:r.F.n<=24)(h2:r.S.n<=256){l:Sl GO}(hl:∀i,i<l.n->Al0 (l.g i)):Ky N r l=some (BE9 r.F.n l):=by
 refine eqR ?_;unfold Ky BE9;refine Fe ?_;by_cases f:32<l.n
 .grind
 rw[Js f];have u:Y8 N r=some r.F:=by unfold Y8 N4;rw[hm,Cd8,Jh,Ge,Bj2]
 have hs:Aq N r=some r.S:=by unfold Aq N4;rw[hm,Cd8,Jh,Ge,Bj2]
 refine Fe (B2 u (Af ?_));refine Z1 (λi x=>x=(i:Int)/\Fh (mkE r.F.n l) i=0) l.n _ (by omega) ⟨rfl,rfl⟩ ?_;rintro v i x hi ⟨rfl,h0⟩ m;by_cases c:i<l.n
 .obtain⟨o,a⟩:=Bj1 h0 c;refine Br (Af ?_);rw[Us];have w:(l.g i).Text.length<1100000:=by obtain⟨_,_,_,_,_,h⟩:=hl i c;exact h
  obtain⟨b,eb,hb⟩:=Ak9 (N:=N) (s:=(l.g i).Text) (by omega) (by omega);refine B2 eb ?_;by_cases ht:mtB (l.g i).Text
  case neg=>exact ifT (by
   cases b
   .rfl
   exact Ke (hb.1 rfl) ht) ⟨_,rfl,a (Js ht) (by decide)⟩
  refine Fe (ltG (λk=>rgx (by omega) h1 (hl i c)) ?_);by_cases y:mgV r.F.n (l.g i)=true
  case neg=>exact Br ⟨_,rfl,a ((Jk ht).trans (Js y)) (by decide)⟩
  refine Fe ?_;refine Z1 (λk x=>x=(k:Int)/\∀j,j<k->¬(l.g j).Text=(l.g i).Text) i _ (by omega) (by grind) ?_;rintro q k x hk ⟨rfl,h⟩ t;by_cases d:k<i
  .refine Br (Af ?_);rw[Us];by_cases z:(l.g k).Text=(l.g i).Text
   .exact Br ⟨_,rfl,a ((Jk ht).trans ((Jk y).trans (Jk ⟨k,d,z⟩))) (by decide)⟩
   refine Fe (t d _ ⟨Fl,λj hj=>?_⟩)
   grind
  have z:¬mdup l i:=fun⟨k',hk',e⟩=>h k' (by omega) e;exact Fe (m c _ ⟨Fl,o ((Jk ht).trans (by grind))⟩)
 obtain rfl:i=l.n:=by omega
 refine Dt ?_;unfold Ex N4;rw[hm,u,hs];exact B2 rfl (by rw[M2];grind)
structure Ph (p:B0):Prop where
 feats:∀i,i<p.Feats.n->(p.Feats.g i).length<1100000
 snd:∀i,i<p.Sounds.n->okS (p.Sounds.g i).S/\(p.Sounds.g i).Yi.length<1100000
 sn:p.Sounds.n<1100000
 mrk:∀i,i<p.Marks.n->Al0 (p.Marks.g i)
 hist:Q6 p.Yc
 pro:IQ p.Yb
 ent:WN p.Yf
def gV (p:B0):Nat->A6
 |0=>⟨p.Feats,AU5 p.Feats p.Feats.n,Sl.nil,[],[]⟩
 |i+1=>BS2 (gV p i) (p.Sounds.g i).Yi (p.Sounds.g i).S
def gR (p:B0):Nat->D7
 |0=>⟨true,(Sl.of []:Sl Str).app p.Feats,Sl.nil⟩
 |i+1=>Cd2 (gR p i) (p.Sounds.g i).Yi (p.Sounds.g i).S
def sdE (p:B0)(i:Nat):Int:=Ca1 (gV p i).feats.n (gV p i).sounds (p.Sounds.g i).Yi (p.Sounds.g i).S
def gV_f (p:B0):∀i,(gV p i).feats=p.Feats
 |0=>rfl
 |i+1=>gV_f p i
def BO3 {s:Up}(h:okS s):Cd1 s:=by
 obtain⟨p,m,rfl⟩:=h
 simp_all[Cd1,sOf,DU]
def BO4 {s:Sl Str}(h:YX s=0):s.n<=24:=by
 grind[YX]
def Ca9 {p:B0}(hp:Ph p)(hn:YX p.Feats=0):∀i,i<=p.Sounds.n->Fh (sdE p) i=0->Rel3 (gV p i) (gR p i)
 |0,_,_=>⟨⟨rfl,rfl,rfl,BO4 hn,Cl6 _,λi a=>Ke a (Cp2 i)⟩,rfl,by show (Sl.of []:Sl Str).app p.Feats=p.Feats;exact Bj2 _,rfl⟩
 |i+1,a,h0=>by
  have h1:=DN h0;have ih:=Ca9 hp hn i (by omega) (by
   grind[Fh,sdE,GI])
  have b:=h1 i (by omega);exact⟨Bx4 ih.ok (BO3 (hp.snd i (by omega)).1) b,ih.made,ih.feats,by show (gR p i).S.push _=(gV p i).sounds.push _;rw[ih.sounds]⟩
def An7 (p:B0):Int:=ite (YX p.Feats≠0) (YX p.Feats) (Fh (sdE p) p.Sounds.n)
def loop6 {A B C D E F R:Type}{body:(A->B->C->D->E->F->Option R)->A->B->C->D->E->F->Option R}(I:Nat->A×B×C×D×E×F->Prop)(n:Nat)(M0:R->Prop){N:Nat}(l:n<N){a:A}{b:B}{c:C}{d:D}{e:E}{f:F}(m:I 0 (a,b,c,d,e,f))
 (j:∀g i x,i<=n->I i x->(i<n->∀y,I (i+1) y->∃r,g y.1 y.2.1 y.2.2.1 y.2.2.2.1 y.2.2.2.2.1 y.2.2.2.2.2=some r/\M0 r)->∃r,body g x.1 x.2.1 x.2.2.1 x.2.2.2.1 x.2.2.2.2.1 x.2.2.2.2.2=some r/\M0 r):∃r,fix6 N body a b c d e f=some r/\M0 r:=
 AU2 I n M0 (λg i x o q h=>j (λa b c d e f=>g (a,b,c,d,e,f)) i x o q (by omega)) N 0 (a,b,c,d,e,f) (Cl6 _) m l
def Bj3 {p:B0}{i:Nat}(a:Fh (sdE p) i=0)(c:i<p.Sounds.n):(sdE p i=0->Fh (sdE p) (i+1)=0)/\(sdE p i≠0->Fh (sdE p) p.Sounds.n=sdE p i):=by
 have b:=MP a
 grind[GI]
def pInv (l:3000000<=N){p:B0}(hp:Ph p):An N p=some (ite (An7 p=0) (some (gV p p.Sounds.n)) none,An7 p):=by
 refine eqR ?_;unfold An;have hs:=hp.sn;refine B2 (BM7 p.Feats (by omega) hp.feats) ?_;by_cases hn:YX p.Feats=0
 case neg=>
  have e:An7 p=YX p.Feats:=Jk hn;rw[Js hn,K0]
  grind
 have e:An7 p=Fh (sdE p) p.Sounds.n:=Js (λg=>g hn);rw[Jk hn,M2];refine Fe ?_;refine loop6 (λi x=>x=((gV p i).feats,(gV p i).number,(gV p i).sounds,(gV p i).symbols,(gV p i).values,(i:Int))/\Fh (sdE p) i=0) p.Sounds.n _ (by omega) ⟨rfl,rfl⟩ ?_;rintro c i x j ⟨rfl,d⟩ a;dsimp only;by_cases hl:i<p.Sounds.n
 .obtain⟨b,f⟩:=Bj3 d hl;have hR:=Ca9 hp hn i j d;obtain⟨o1,o2⟩:=hp.snd i hl;refine Br (Af ?_);rw[Us];refine B2 (iAddS hR.ok _ (BO3 o1) (by omega) (by omega)) ?_;have e3:Ca1 (gV p i).feats.n (gV p i).sounds (p.Sounds.g i).Yi (p.Sounds.g i).S=sdE p i:=rfl;rw[e3];by_cases g:sdE p i=0
  .refine Fe ?_;dsimp only;rw[Jk g,show IntKind.i64.wrap ((i:Int)+1)=((i+1:Nat):Int) from Fl];exact a hl (_,_,_,_,_,_) ⟨rfl,b g⟩
  grind
 obtain rfl:i=p.Sounds.n:=by omega
 simp_all
def rInv (r:3000000<=N){p:B0}(hp:Ph p):Bi N p=some (ite (An7 p=0) (some (gR p p.Sounds.n)) none,An7 p):=by
 refine eqR ?_;unfold Bi;have hs:=hp.sn;refine B2 (BM6 p.Feats (by omega) hp.feats) ?_;by_cases hn:YX p.Feats=0
 case neg=>
  have e:An7 p=YX p.Feats:=Jk hn;rw[Js hn,K0]
  grind
 have e:An7 p=Fh (sdE p) p.Sounds.n:=Js (λg=>g hn);rw[Jk hn,M2];refine Fe ?_;refine loop4 (λi a b c x=>(a=(gR p i).Made/\b=(gR p i).F/\c=(gR p i).S/\x=(i:Int))/\Fh (sdE p) i=0) p.Sounds.n _ (by omega) ⟨⟨rfl,rfl,rfl,rfl⟩,rfl⟩ ?_;rintro j i a b c x q ⟨⟨rfl,rfl,rfl,rfl⟩,l⟩ d;by_cases hl:i<p.Sounds.n
 .obtain⟨f,m⟩:=Bj3 l hl;have hR:=Ca9 hp hn i q l;obtain⟨o1,o2⟩:=hp.snd i hl;refine Br (Af ?_);rw[Us];have o:=BN6 (N:=N) (gR p i) hR.made (by rw[hR.feats];exact hR.ok.feats) (by rw[hR.sounds];exact hR.ok.sounds) (p.Sounds.g i).Yi (BitVec.ofInt 32 (p.Sounds.g i).S.Plus) (BitVec.ofInt 32 (p.Sounds.g i).S.Minus) (by omega) (by omega) (by omega);rw[<- BO3 o1,hR.feats,hR.sounds]at o;refine B2 o ?_;have e3:Bh3 (gV p i).feats.n (gV p i).sounds (p.Sounds.g i).Yi (BitVec.ofInt 32 (p.Sounds.g i).S.Plus) (BitVec.ofInt 32 (p.Sounds.g i).S.Minus)=sdE p i:=rfl;rw[e3];by_cases g:sdE p i=0
  .refine Fe ?_;dsimp only;rw[Jk g];exact d hl _ _ _ _ ⟨⟨rfl,rfl,rfl,Fl⟩,f g⟩
  grind
 obtain rfl:i=p.Sounds.n:=by omega
 simp_all
noncomputable def Pj (N:Nat) (p:B0):Int:=ite (An7 p≠0) (An7 p) (ite (BE9 p.Feats.n p.Marks≠0) (BE9 p.Feats.n p.Marks) (BO0 N p.Yc p.Yb p.Yf))
def pChk (b:3000000<=N){p:B0}(hp:Ph p):Z5 N p=some (Pj N p):=by
 refine eqR ?_;unfold Z5 GZ Pj;rw[pInv b hp,Cd8];by_cases a:An7 p=0
 case neg=>rw[Js a,K0,Jk a,Ge];grind
 rw[Jk a,M2,Iw,Js (λg=>g a)];have hn:YX p.Feats=0:=Ck7 λg=>g (by have e:An7 p=YX p.Feats:=Jk g;rw[<- e];omega)
 have c:Fh (sdE p) p.Sounds.n=0:=by have e:An7 p=Fh (sdE p) p.Sounds.n:=Js (λg=>g hn);rw[<- e];omega
 have hR:=Ca9 hp hn _ (Ce5 _) c;rw[By3 b hR.ok.feats hR.ok.sounds hp.mrk,Cd8,gV_f];by_cases hm:BE9 p.Feats.n p.Marks=0
 case neg=>rw[Ge,Jk hm];grind
 rw[Iw,Js (λg=>g hm)];exact B2 (x:=(0:Int)) rfl (Du (B2 (WR b hp.hist hp.pro hp.ent) ⟨_,rfl,rfl⟩))
def rChk (b:3000000<=N){p:B0}(hp:Ph p):Ek N p=some (Pj N p):=by
 refine eqR ?_;unfold Ek Ey Pj;rw[rInv b hp,Cd8];by_cases a:An7 p=0
 case neg=>rw[Js a,K0,Jk a,Ge];grind
 rw[Jk a,M2,Iw,Js (λg=>g a)];have hn:YX p.Feats=0:=Ck7 λg=>g (by have e:An7 p=YX p.Feats:=Jk g;rw[<- e];omega)
 have c:Fh (sdE p) p.Sounds.n=0:=by have e:An7 p=Fh (sdE p) p.Sounds.n:=Js (λg=>g hn);rw[<- e];omega
 have hR:=Ca9 hp hn _ (Ce5 _) c;rw[By4 b hR.made (by rw[hR.feats];exact hR.ok.feats) (by rw[hR.sounds];exact hR.ok.sounds) hp.mrk,Cd8,hR.feats,gV_f];by_cases hm:BE9 p.Feats.n p.Marks=0
 case neg=>rw[Jk hm];grind
 rw[Js (λg=>g hm)];exact Fe (B2 (TN b hp.hist hp.pro hp.ent) ⟨_,rfl,rfl⟩)
def Pk:∀(d:Nat) (p:Pat),okP d p->∀M,100+d<=M->T9 M p=some p
 |0,p,h,M,_=>h.elim
 |d+1,p,h,0,hM=>by omega
 |d+1,p,h,M+1,hM=>by
  show U9 (T9 M) M p=some p;unfold U9;have hn:=h.1;refine eqR (Z1 (λi x2=>x2=(i:Int)) p.L.n _ (by omega) rfl ?_);rintro a i x2 b rfl hs;by_cases hl:i<p.L.n
  .refine Br (Af ?_);rw[Us];exact B2 (Pk d (p.L.g i) (h.2.2 i hl) M (by omega)) (Af (hs hl _ (Fl)))
  grind
def Al1 {N:Nat}(c:3000000<=N){l:Law}(hl:Vh l)(hc:chkAll N l):V8 N l=some l:=by obtain⟨_,h1,a,d,b,_⟩:=hc.f hl;have g:=b.1;unfold V8 B1 H9;rw[Pk 40 l.Left (Ak0 40 _ (by omega) h1 _ (by simp)) N (by omega),Pk 40 l.Right (Ak0 40 _ (by omega) a _ (by simp)) N (by omega),Cd8,Cd8,Fp,Cd8,Fp];rfl
def Al2 {N:Nat}{h:Yc}(a:AF N h){x:Nat}(hx:x<h.Tree.n):(h.On.g x).n<=64/\∀i,i<(h.On.g x).n->0<=(h.On.g x).g i/\(h.On.g x).g i<h.Laws.n:=by
 have c:=a.on;refine⟨?_,λj b=>?_⟩
 .have hl:(N2 h x).n<=64:=Ct1 λg=>a.long ⟨x,by omega,g⟩
  grind[Ar,AB,EA,N2]
 have:=a.bad x (by omega)
 constructor
 .exact Int.not_lt.1 λg=>this ⟨j,b,.inl g⟩
 exact Int.not_le.1 λg=>this ⟨j,b,.inr g⟩
def AI0 {N n:Nat}(hn:n<=32)(f:1000<=N):∃s,FJ N (n:Int)=some s/\s.n=n+1/\TabR n (λa b=>a=b) s.g:=by
 unfold FJ;rw[Fl];refine Af ?_;refine S9 (λi x1 x2=>x2=(i:Int)/\x1.n=n+1/\∀a,a<i->x1.g a=U (1#64 <<< a)) (n+1) _ (by omega) (by grind) ?_;rintro c i x1 x2 j ⟨rfl,h1,d⟩ hs;by_cases hl:i<=n
 .refine Br (Af (hs (by omega) _ _ ⟨Fl,h1,λa ha=>?_⟩));show (ite (a=(i:Int).toNat) (shI .shl .u64 1 (i:Int)) (x1.g a))=_;by_cases e:a=i
  .subst e;rw[Fp,Ah2 _ (by omega)]
  grind
 refine Fe ⟨x1,rfl,h1,λa ha=>⟨1#64 <<< a,d a (by omega),λb hb=>?_⟩⟩;rw[Yz (by omega) hb,Lq];omega
def By5 {n:Nat}{f:Nat->Int}(h:∀a,a<=n->f a=0):TabR n (λ_ _=>False) f:=λa ha=>⟨0#64,h a ha,λb hb=>by simp⟩
def AI1 {N n:Nat}{R S:Nat->Nat->Prop}{x y:Sl Int}(hn:n<=32)(f:1000<=N)(hx:x.n=n+1)(hy:y.n=n+1)(hR:TabR n R x.g)(hS:TabR n S y.g) :∃s,FK N x y=some s/\s.n=n+1/\TabR n (λa b=>R a b \/ S a b) s.g:=by
 unfold FK;refine Af ?_;refine S9 (λi x1 x2=>x2=(i:Int)/\x1.n=n+1/\∀a,a<i->x1.g a=F3 .or .u64 (x.g a) (y.g a)) (n+1) _ (by omega) (by grind) ?_;rintro c i x1 x2 j ⟨rfl,h1,d⟩ hs;by_cases hl:i<=n
 .refine Br (Af (hs (by omega) _ _ ⟨Fl,h1,λa ha=>?_⟩))
  grind
 refine Fe ⟨x1,rfl,h1,λa ha=>?_⟩;obtain⟨u,e1,g1⟩:=hR a ha;obtain⟨v,e2,g2⟩:=hS a ha;refine⟨u ||| v,by rw[d a (by omega),e1,e2,Cc9],λb hb=>?_⟩;rw[Cg3,Cg6,g1 b hb,g2 b hb]
 grind
def Bj4 {N n:Nat}{x y:Sl Int}(hn:n<=32)(d:1000<=N)(hx:x.n=n+1)(hy:y.n=n+1) :∃b,GB N x y=some b/\(b=true ↔ ∀a,a<=n->x.g a=y.g a):=by
 unfold GB;refine Z1 (λi x1=>x1=(i:Int)/\∀a,a<i->x.g a=y.g a) (n+1) _ (by omega) (by grind) ?_;rintro c i x1 f ⟨rfl,j⟩ hs;by_cases hl:i<=n
 .refine Br (Af ?_);rw[Us];by_cases e:x.g i=y.g i
  .refine Fe (hs (by omega) _ ⟨Fl,λa ha=>?_⟩)
   grind
  refine Br (by grind)
 exact Fe (by grind)
def WS {N n:Nat}{R S:Nat->Nat->Prop}{x y:Sl Int}(hn:n<=32)(u:1000<=N)(hx:x.n=n+1)(hy:y.n=n+1)(hR:TabR n R x.g)(hS:TabR n S y.g) :∃s,Bj N x y=some s/\s.n=n+1/\TabR n (λa b=>∃c,c<=n/\R a c/\S c b) s.g:=by
 unfold Bj;refine Af ?_
 let Row (z:BitVec 64) (a j:Nat):Prop:=∀b,b<64->(z.getLsbD b=true↔b<=n/\∃c,c<j/\c<=n/\R a c/\S c b)
 refine S9 (λi x1 x2=>x2=(i:Int)/\x1.n=n+1/\(∀a,a<i->∃z,x1.g a=U z/\Row z a (n+1))/\∀a,i<=a->x1.g a=0) (n+1) _ (by omega) (by grind) ?_;rintro o i x1 x2 w ⟨rfl,h1,q,r⟩ hs;by_cases hl:i<=n
 .refine Br ?_;refine S9 (λj x7 x8=>x8=(j:Int)/\x7.n=n+1/\(∀a,a<i->∃z,x7.g a=U z/\Row z a (n+1))/\(∃z,x7.g i=U z/\Row z i j)/\∀a,i<a->x7.g a=0) (n+1) _ (by omega)
   ⟨rfl,h1,q,⟨0#64,r i (Ce5 _),λb hb=>by simp⟩,by grind⟩ ?_
  rintro m j x7 x8 hj ⟨rfl,g1,g2,⟨z,g3,g4⟩,g5⟩ d;by_cases f:j<=n
  .refine Br (Af ?_);rw[Us,Us];have l:=hR.bit hl (b:=j) (by omega);by_cases hc:R i j
   .refine ifT (l.2 ⟨f,hc⟩) (Af (d (by omega) _ _ ⟨Fl,g1,λa ha=>?_,?_,λa ha=>?_⟩))
    .grind
    .obtain⟨v,e,t⟩:=hS j f;refine⟨z ||| v,by show (ite (i=i) _ _)=_;rw[Jk rfl,g3,e,Cc9],λb hb=>?_⟩;rw[Cg3,Cg6,g4 b hb,t b hb]
     grind
    grind
   refine Fe (d (by omega) _ _ ⟨Fl,g1,g2,⟨z,g3,λb hb=>?_⟩,g5⟩);rw[g4 b hb]
   grind
  refine Fe (hs (by omega) _ _ ⟨Fl,g1,λa ha=>?_,by grind⟩);by_cases e:a=i
  .grind
  exact g2 a (by omega)
 refine Fe ⟨x1,rfl,h1,λa ha=>?_⟩;obtain⟨z,e,hz⟩:=q a (by omega)
 grind
def Vk (w:Sl Up)(p:Pat)(a b:Nat):PR w p a b↔(if p.Kind=0 then a=b
 else if p.Kind=1 then a<w.n/\b=a+1/\(AX1 (w.g a) p.Is != p.Not)=true
 else if p.Kind=2 then a=0/\b=0
 else if p.Kind=6 then a=w.n/\b=w.n
 else if p.Kind=3 then BD9 w.n (λi=>PR w (p.L.g i)) p.L.n a b
 else if p.Kind=4 then ∃i,i<p.L.n/\PR w (p.L.g i) a b
 else if p.Kind=5 then ∃k:Nat,p.Min<=k/\(p.Max = -1 \/ (k:Int)<=p.Max)/\Mc w.n (PR w (p.L.g 0)) k a b
 else False):=by
 cases p with
 |nil=>simp[PR,Pat.Kind]
 |mk kind is no mn mx m g=>exact Cp5
def R0 (w:Sl Up)(p:Pat)(a b:Nat):Prop:=ite (p.Kind=0) (a=b) (ite (p.Kind=1) (a<w.n/\b=a+1/\(AX1 (w.g a) p.Is != p.Not)=true) (ite (p.Kind=2) (a=0/\b=0) (ite (p.Kind=6) (a=w.n/\b=w.n) False)))
def BF0 {n:Nat}{R:Nat->Nat->Prop}(hR:Fwd n R){mn k:Nat}(hk:mn<k)(h:∀a b,a<=n->b<=n->Mc n R k a b->∃j,mn<=j/\j<k/\Mc n R j a b){a:Nat}(ha:a<=n) :∀m b,mn<=m->Mc n R m a b->∃j,mn<=j/\j<k/\Mc n R j a b
 |0,b,hm,hp=>by grind
 |m+1,b,hm,hp=>by
  by_cases f:m+1<k
  .grind
  obtain⟨c,hc,h1,d⟩:=hp;have hb:=(hR c b hc d).2;obtain⟨j,g1,g2,g3⟩:=BF0 hR hk h ha m c (by omega) h1;by_cases e:j+1<k
  .exact⟨j+1,by omega,e,c,hc,g3,d⟩
  obtain rfl:k=j+1:=by omega
  exact h a b ha hb ⟨c,hc,g3,d⟩
def TP {N:Nat}(hN:1000<=N){w:Sl Up}(hw:w.n<=32):∀(d:Nat) (p:Pat),okP d p->∀M,N+d<=M->∃t,El M p w=some t/\t.n=w.n+1/\TabR w.n (PR w p) t.g
 |0,p,h,M,hM=>h.elim
 |d+1,p,⟨hc,h5,hch⟩,0,hM=>by omega
 |d+1,p,⟨hc,h5,hch⟩,M+1,hM=>by
  have ih:=λi hi=>TP hN hw d (p.L.g i) (hch i hi) M (by omega);show ∃t,DJ (El M) M p w=some t/\_;unfold DJ;rw[Fl];refine Af ?_;refine S9 (λi x1 x2=>x2=(i:Int)/\x1.n=w.n+1/\(∀a,a<i->∃z:BitVec 64,x1.g a=U z/\∀b,b<64->(z.getLsbD b=true↔b<=w.n/\R0 w p a b))/\∀a,i<=a->x1.g a=0) (w.n+1) _ (by omega)
   (by grind) ?_
  rintro self i x1 x2 hi ⟨rfl,h1,h2,h3⟩ hs;have keep:(∀b,b<=w.n->¬R0 w p i b)->(∀a,a<i+1->∃z:BitVec 64,x1.g a=U z/\∀b,b<64->(z.getLsbD b=true↔b<=w.n/\R0 w p a b)):=by
   intro h a ha;by_cases e:a=i
   .subst e;exact⟨0#64,h3 a (Ce5 _),by grind⟩
   exact h2 a (by omega)
  have put:∀(z:BitVec 64) (v:Int),v=U z->(∀b,b<64->(z.getLsbD b=true↔b<=w.n/\R0 w p i b)) ->
   (∀a,a<i+1->∃z:BitVec 64,(x1.upd (i:Int).toNat v).g a=U z/\∀b,b<64->(z.getLsbD b=true↔b<=w.n/\R0 w p a b))/\∀a,i+1<=a->(x1.upd (i:Int).toNat v).g a=0:=by
   intro z v hv hz;refine⟨λa ha=>?_,λa ha=>?_⟩
   .by_cases e:a=i
    .grind
    obtain⟨z',e1,e2⟩:=h2 a (by omega)
    grind
   grind
  by_cases hl:i<=w.n
  .refine Br ?_;by_cases k0:p.Kind=0
   .refine Br (Af ?_);obtain⟨p1,p2⟩:=put (1#64 <<< i) _ (Ah2 i (by omega)) (λb hb=>by rw[Yz (by omega) hb,Lq];simp only[R0,k0,Lo];omega);exact hs (by omega) _ _ ⟨Fl,h1,p1,p2⟩
   refine Fe ?_;by_cases k1:p.Kind=1
   .refine Br ?_;have e0:∀b,R0 w p i b↔i<w.n/\b=i+1/\(AX1 (w.g i) p.Is != p.Not)=true:=λb=>by grind[R0]
    by_cases hlt:i<w.n
    .refine Br (Af ?_);refine B2 (x:=AX1 (w.g i) p.Is) (by rw[Us];rfl) ?_;by_cases hb:AX1 (w.g i) p.Is=p.Not
     .refine Fe (hs (by omega) _ _ ⟨Fl,h1,keep λb _=>?_,by grind⟩);rw[e0];grind
     refine Br ?_;rw[Fl];refine Af ?_;obtain⟨p1,p2⟩:=put (1#64 <<< (i+1)) _ (Ah2 (i+1) (by omega)) (by grind);exact hs (by omega) _ _ ⟨rfl,h1,p1,p2⟩
    refine Fe (hs (by omega) _ _ ⟨Fl,h1,keep λb _=>?_,by grind⟩);rw[e0];omega
   refine Fe ?_;by_cases k2:p.Kind=2
   .refine Br ?_;have e0:∀b,R0 w p i b↔i=0/\b=0:=λb=>by grind[R0]
    by_cases hz:i=0
    .refine Br (Af ?_);obtain⟨p1,p2⟩:=put 1#64 _ BY6 (by grind);exact hs (by omega) _ _ ⟨Fl,h1,p1,p2⟩
    refine Fe (hs (by omega) _ _ ⟨Fl,h1,keep λb _=>?_,by grind⟩);rw[e0];omega
   refine Fe ?_;by_cases k6:p.Kind=6
   .refine Br ?_;have e0:∀b,R0 w p i b↔i=w.n/\b=w.n:=λb=>by grind[R0]
    by_cases hz:i=w.n
    .refine Br (Af ?_);obtain⟨p1,p2⟩:=put (1#64 <<< i) _ (Ah2 i (by omega)) (by grind);exact hs (by omega) _ _ ⟨Fl,h1,p1,p2⟩
    refine Fe (hs (by omega) _ _ ⟨Fl,h1,keep λb _=>?_,by grind⟩);rw[e0];omega
   refine Fe (hs (by omega) _ _ ⟨Fl,h1,keep λb _=>?_,by grind⟩)
   grind[R0]
  refine Fe ?_;have t0:TabR w.n (R0 w p) x1.g:=λa ha=>h2 a (by omega);by_cases k3:p.Kind=3
  .refine Br ?_;obtain⟨s,es,a3,a4⟩:=AI0 (N:=M) hw (by omega);refine B2 es ?_;refine S9 (λi (x3:Sl Int) x4=>x4=(i:Int)/\x3.n=w.n+1/\TabR w.n (BD9 w.n (λi=>PR w (p.L.g i)) i) x3.g) p.L.n _ (by omega) ⟨rfl,a3,a4.congr λa b _ _=>Cp5⟩ ?_;rintro o j x3 x4 hj ⟨rfl,g1,g2⟩ c;by_cases u:j<p.L.n
   .obtain⟨t,et,a5,a6⟩:=ih j u;refine Br (Af (B2 (by rw[Us];exact et) ?_));obtain⟨f,ef,l,a1⟩:=WS (N:=M) hw (by omega) g1 a5 g2 a6;exact B2 ef (c u _ _ ⟨Fl,l,a1⟩)
   obtain rfl:j=p.L.n:=by omega
   exact Dt ⟨x3,rfl,g1,g2.congr λa b _ _=>by rw[Vk];grind⟩
  refine Fe ?_;by_cases k4:p.Kind=4
  .refine Br ?_;refine S9 (λi x3 x4=>x4=(i:Int)/\x3.n=w.n+1/\TabR w.n (λa b=>∃q,q<i/\PR w (p.L.g q) a b) x3.g) p.L.n _ (by omega) ⟨rfl,h1,t0.congr λa b _ _=>by grind[R0]⟩ ?_;rintro o j x3 x4 hj ⟨rfl,g1,g2⟩ c;by_cases u:j<p.L.n
   .obtain⟨t,et,a5,a6⟩:=ih j u;refine Br (Af (B2 (by rw[Us];exact et) ?_));obtain⟨f,ef,l,a1⟩:=AI1 (N:=M) hw (by omega) g1 a5 g2 a6;refine B2 ef (c u _ _ ⟨Fl,l,by grind⟩)
    all_goals grind
   obtain rfl:j=p.L.n:=by omega
   exact Dt ⟨x3,rfl,g1,g2.congr λa b _ _=>by rw[Vk];grind⟩
  refine Fe ?_;by_cases k5:p.Kind=5
  .obtain⟨hn1,hm0,hm1,hmx⟩:=h5 k5;refine Br (Af ?_);obtain⟨one,eo,ho1,ho2⟩:=ih 0 (by omega);obtain⟨s,es,a3,a4⟩:=AI0 (N:=M) hw (by omega);refine B2 eo (B2 es ?_);have hF:=Ah5 w (p.L.g 0);have fin:∀(t:Sl Int) (k:Nat),t.n=w.n+1->TabR w.n (λa b=>∃j:Nat,p.Min<=j/\j<k/\Mc w.n (PR w (p.L.g 0)) j a b) t.g ->
    (∀a b,a<=w.n->b<=w.n->((∃j:Nat,p.Min<=j/\j<k/\Mc w.n (PR w (p.L.g 0)) j a b) ↔ ∃j:Nat,p.Min<=j/\(p.Max = -1 \/ (j:Int)<=p.Max)/\Mc w.n (PR w (p.L.g 0)) j a b)) ->
    ∃r,some t=some r/\r.n=w.n+1/\TabR w.n (PR w p) r.g:=by
    intro t k e1 e2 e3;exact⟨t,rfl,e1,e2.congr λa b ha hb=>(e3 a b ha hb).trans (by rw[Vk];simp[k5])⟩
   refine Aj7 (λk (x8 x9:Sl Int) x10=>x10=(k:Int)/\x8.n=w.n+1/\x9.n=w.n+1/\TabR w.n (λa b=>∃j:Nat,p.Min<=j/\j<k/\Mc w.n (PR w (p.L.g 0)) j a b) x8.g/\TabR w.n (Mc w.n (PR w (p.L.g 0)) k) x9.g/\(p.Max = -1 \/ (k:Int)<=p.Max)) 33 _ (by omega)
    ⟨rfl,h1,a3,t0.congr λa b _ _=>by grind[R0],a4.congr λa b _ _=>Cp5,by omega⟩ ?_
   rintro o k x8 x9 x10 hk ⟨rfl,g1,g2,g3,g4,g5⟩ c;obtain⟨f,ef,l,a1⟩:=WS (N:=M) hw (by omega) g2 ho1 g4 ho2;have next:TabR w.n (Mc w.n (PR w (p.L.g 0)) (k+1)) f.g:=a1
   by_cases hmin:p.Min<=(k:Int)
   .refine Br ?_;obtain⟨j,ej,a0,hj2⟩:=AI1 (N:=M) hw (by omega) g1 g2 g3 g4;have m:TabR w.n (λa b=>∃j:Nat,p.Min<=j/\j<k+1/\Mc w.n (PR w (p.L.g 0)) j a b) j.g:=hj2.congr λa b _ _=>by
     grind
    refine B2 ej (ltX ?_);by_cases hmaxk:(k:Int)=p.Max
    .refine Br (ifT rfl (fin j (k+1) a0 m (by grind)))
     all_goals grind
    refine Fe ?_;by_cases hgt:p.Min<(k:Int)
    .refine Br ?_;obtain⟨b,eb,hb⟩:=Bj4 (N:=M) (x:=x8) (y:=j) hw (by omega) g1 a0;refine B2 eb ?_;by_cases a2:b=true
     .refine ifT a2 (fin j (k+1) a0 m λa b ha hb'=>⟨?_,?_⟩)
      .grind
      rintro⟨q,h1,h2,h3⟩;have heq:=hb.1 a2;obtain⟨q',k1,k2,k3⟩:=BF0 hF (mn:=p.Min.toNat) (k:=k) (by omega) (λa b ha hb' hp=>by
       have e1:=m.bit ha (b:=b) (by omega);have e2:=g3.bit ha (b:=b) (by omega);rw[<- heq a ha]at e1
       grind) ha q b (by omega) h3
      grind
     refine ifF a2 (B2 ef ?_);have hk33:k<33:=by
      refine Nat.lt_of_le_of_ne hk λe=>a2 (hb.2 λa ha=>?_);subst e;refine g3.uniq (m.congr λa b ha hb'=>⟨?_,?_⟩) ha
      .rintro⟨q,h1,h2,h3⟩;by_cases e:q=33
       .subst e;exact⟨32,by omega,by omega,Ah3 hF ha hw h3⟩
       grind
      grind
     exact c hk33 _ _ _ ⟨Fl,a0,l,m,next,by omega⟩
    refine Fe (Dt (B2 ef (c (by omega) _ _ _ ⟨Fl,a0,l,m,next,by omega⟩)))
   refine Fe (B2 ef (c (by omega) _ _ _ ⟨Fl,g1,l,by grind,next,by omega⟩))
   all_goals omega
  refine Fe ⟨x1,rfl,h1,t0.congr λa b _ _=>?_⟩;rw[Vk]
  grind[R0]
def Ou {x y:BitVec 32}(h:∀b,b<32->x.getLsbD b=y.getLsbD b):x=y:=Cs5 h
def BO5 (i:Nat):shI .shl .u32 1 (i:Int)=((1#32 <<< i).toNat:Int):=by rw[show (1:Int)=((1#32).toNat:Int) from rfl,BC8]
def Bj5 {i j:Nat}(a:j<32):(1#32 <<< i).getLsbD j=decide (j=i):=by
 rw[Cs3,Cv6];by_cases h:j=i
 .simp_all
 by_cases b:j<i
 .simp_all
 have:j-i≠0:=by omega
 simp_all
def gB (p m:BitVec 32)(f:Nat):Int:=ite (p.getLsbD f) 1 (ite (m.getLsbD f) (-1) 0)
def AI2 (p m:BitVec 32)(a:vB p m=true)(f:Nat)(c:f<24)(b:1000<=N):W7 N (sOf p m) (f:Int)=some (gB p m f):=by
 unfold W7;rw[AA p m b];simp only[Cd8,lt,DH,WI,gB,a];rw[Jk (by omega:(0:Int)<=(f:Int)),Jk (by omega:(0:Int)<=(f:Int))];have e:(decide ((0:Int)<=(f:Int))&&decide ((f:Int)<24))=true:=by simp;omega
 rw[e];cases h1:p.getLsbD f<;>cases d:m.getLsbD f<;>simp
def gB_eq {p m a b:BitVec 32}(g:vB p m=true)(c : vB a b=true)(f:Nat)(d:f<32):(gB a b f≠0->gB p m f=gB a b f)↔((a.getLsbD f=true->p.getLsbD f=true)/\(b.getLsbD f=true->m.getLsbD f=true)):=by have h1:=((Jo p m).1 g f d).1;have i:=((Jo a b).1 c f d).1;revert h1 i;simp only[gB];cases a.getLsbD f<;>cases b.getLsbD f<;>cases p.getLsbD f<;>cases m.getLsbD f<;>simp
def AX3 (p m a b:BitVec 32):Bool:=vB p m&&(vB a b&&decide (∀i:Fin 32,(a.getLsbD i=true->p.getLsbD i=true)/\(b.getLsbD i=true->m.getLsbD i=true)))
def BO6 (a p:BitVec 32):a &&& ~~~ p=0#32 ↔ ∀i,i<32->(a.getLsbD i=true->p.getLsbD i=true):=by
 rw[z32]
 simp_all
def BO7 (p m a b:BitVec 32):P0 N (sOf p m) (sOf a b)=some (AX3 p m a b):=by
 unfold P0;rw[Cw];simp only[Cd8,lt,Cw,Db,eq0,AX3];cases h1:vB p m
 .simp
 cases d:vB a b
 .simp
 simp only[Lo,Cp3];have key:(decide (∀i:Fin 32,(a.getLsbD i=true->p.getLsbD i=true)/\(b.getLsbD i=true->m.getLsbD i=true)))=(decide (a &&& ~~~ p=0#32)&&decide (b &&& ~~~ m=0#32)):=by rw[Cf7];simp only[Ce2,Lq,BO6];exact⟨λh=>⟨λi c=>(h ⟨i,c⟩).1,λi c=>(h ⟨i,c⟩).2⟩,λh i=>⟨h.1 i.1 i.2,h.2 i.1 i.2⟩⟩
 rw[key];by_cases h:a &&& ~~~ p=0#32
 all_goals simp_all
def BO8 (p m a b:BitVec 32)(f:1000<=N):V6 N (sOf p m) (sOf a b)=some (AX3 p m a b):=by
 suffices h:∃r,V6 N (sOf p m) (sOf a b)=some r/\r=AX3 p m a b by simp_all
 unfold V6;rw[AA p m f];refine B2 rfl (ltX ?_);cases h1:vB p m
 .exact Ah (ifT rfl ⟨false,rfl,by simp[AX3,h1]⟩)
 refine Dt ?_;rw[AA a b f];refine B2 rfl ?_;cases c:vB a b
 .exact Ah ⟨false,rfl,by simp[AX3,c]⟩
 refine Dt ?_;refine Z1 (λi x3=>x3=(i:Int)/\∀j,j<i->((a.getLsbD j=true->p.getLsbD j=true)/\(b.getLsbD j=true->m.getLsbD j=true))) 24 _ (by omega) (by simp) ?_;rintro d i x3 o ⟨rfl,g⟩ hs;by_cases hl:i<24
 .refine Ag (B2 (AI2 a b c i hl f) (ltX ?_));have key:=gB_eq h1 c i (by omega);have fin:(¬(gB a b i≠0->gB p m i=gB a b i))->false=AX3 p m a b:=λhn=>by symm;simp only[AX3,h1,c,Cp3];rw[<- Ct5,Lq];intro h;exact hn (key.2 (h ⟨i,by omega⟩))
  have go:(gB a b i≠0->gB p m i=gB a b i)->∃r,d (wrap .i64 ((i:Int)+1))=some r/\r=AX3 p m a b:=λhp=>hs hl _ ⟨Fl,λj l=>by
   by_cases e:j=i
   .simp_all
   exact g j (by omega)⟩
  by_cases n:gB a b i=0
  .simp_all
  refine ifT (by simp[n]) (B2 (AI2 p m h1 i hl f) ?_);by_cases q:gB p m i=gB a b i
  all_goals simp_all
 refine Cc ⟨true,rfl,?_⟩;symm;simp only[AX3,h1,c,Cp3,Lq];intro j;by_cases l:j.1<24
 .exact g j.1 (by omega)
 simp_all[Jo,Ke]
def Zw (x y s:BitVec 32):BitVec 32:=(x &&& ~~~ s) ||| (y &&& s)
def BF1 (p m a b s:BitVec 32):Ea N (sOf p m) (sOf a b) (s.toNat:Int)=some (sOf (Zw p a s) (Zw m b s)):=by unfold Ea;simp only[Db,DV,IZ,Zw]
def Cb0 (x:BitVec 32)(f:Nat)(on:Bool):BitVec 32:=if on then (x &&& ~~~ (1#32 <<< f)) ||| (1#32 <<< f)else x &&& ~~~ (1#32 <<< f)
def Lh (x:BitVec 32)(f:Nat)(on:Bool){j:Nat}(a:j<32):(Cb0 x f on).getLsbD j=ite (j=f) on (x.getLsbD j):=by
 unfold Cb0;cases on
 .rw[Hh,Cg9,Ck3,Bj5 a];by_cases e:j=f<;>simp[e,a]
 rw[Jk rfl,Cg3,Cg9,Ck3,Bj5 a];by_cases e:j=f<;>simp[e,a]
def Bj6 (p m:BitVec 32)(f:Nat)(v:Int):EW N (sOf p m) (f:Int) v=some (sOf (Cb0 p f (v==1)) (Cb0 m f (v == -1))):=by unfold EW;rw[Fp];simp only[BO5,Db,IZ];cases h1:v==1<;>cases a:v == -1<;>simp[Cb0]
def By6 (p m c a b:BitVec 32):Up×Int:=ite (vB p m=true/\vB a b) (ite (c.toNat<16777216/\c &&& (a ||| b)=0#32) (sOf (Zw p a (c ||| (a ||| b))) (Zw m b (c ||| (a ||| b))),0) (⟨0,0⟩,2)) (⟨0,0⟩,14)
def AV4 (p m c a b:BitVec 32):T5 N (sOf p m) (c.toNat:Int) (sOf a b)=some (By6 p m c a b):=by
 unfold T5 By6;rw[Cw];simp only[Cd8,lt,Cw,Gk,IZ,DV,BF1];cases h1:vB p m
 .simp
 cases g:vB a b
 .simp
 by_cases d:c.toNat<16777216
 .have e:((c &&& (a ||| b)).toNat:Int) != 0 ↔ ¬(c &&& (a ||| b)=0#32):=by
   have:=eq0 (c &&& (a ||| b))
   simp only[bne_iff_ne,ne_eq];rw[<- Lq (p:=c &&& (a ||| b)=0#32),<- this];simp
  by_cases f:c &&& (a ||| b)=0#32
  .simp[d,f];omega
  simp_all
 simp[d];omega
def AV5 (p m c a b:BitVec 32)(t:1000<=N):W8 N (sOf p m) (c.toNat:Int) (sOf a b)=some (By6 p m c a b):=by
 suffices h:∃r,W8 N (sOf p m) (c.toNat:Int) (sOf a b)=some r/\r=By6 p m c a b by simp_all
 unfold W8;rw[AA p m t];refine B2 rfl (ltX ?_);cases h1:vB p m
 .exact Ah (ifT rfl ⟨_,rfl,by simp[By6,h1]⟩)
 refine Dt ?_;rw[AA a b t];refine B2 rfl ?_;cases o:vB a b
 .exact Ah ⟨_,rfl,by simp[By6,o]⟩
 refine Dt ?_;rw[IZ,DV];by_cases hc:c.toNat<16777216/\c &&& (a ||| b)=0#32
 .obtain⟨q,l⟩:=hc;refine ifF (by rw[l];simp;omega) ?_;have y:∀j,j<32->¬(c.getLsbD j=true/\(a.getLsbD j=true \/ b.getLsbD j=true)):=λj d=>by
   have:=(z32 _).1 l j d
   rw[Cg9,Cg3]at this
   simp_all
  refine Aj7 (λi x2 x3 x4=>x4=(i:Int)/\∃P M:BitVec 32,x2=(P.toNat:Int)/\x3=(M.toNat:Int)/\∀j,j<32 ->
   P.getLsbD j=(ite (j<i/\(c.getLsbD j=true \/ a.getLsbD j=true \/ b.getLsbD j=true)) (a.getLsbD j) (p.getLsbD j))/\M.getLsbD j=(ite (j<i/\(c.getLsbD j=true \/ a.getLsbD j=true \/ b.getLsbD j=true)) (b.getLsbD j) (m.getLsbD j))) 24 _ (by omega)
   ⟨rfl,p,m,rfl,rfl,λj d=>by simp⟩ ?_
  rintro w i x2 x3 x4 hi ⟨rfl,P,M,rfl,rfl,f⟩ hs;by_cases hl:i<24
  .refine Ag (Af ?_);rw[WI];have u:=AI2 (N:=N) a b o i hl t;have v:=((Jo a b).1 o i (by omega)).1;have z:=y i (by omega);by_cases g:c.getLsbD i=true
   .refine ifT g (B2 (Bj6 P M i 0) (B2 u ?_));have ea:a.getLsbD i=false:=by cases e:a.getLsbD i<;>simp_all
    have eb:b.getLsbD i=false:=by cases e:b.getLsbD i<;>simp_all
    refine ifF (by simp[gB,ea,eb]) (hs hl _ _ _ ⟨Fl,_,_,rfl,rfl,λj d=>?_⟩);rw[Lh _ _ _ d,Lh _ _ _ d];by_cases e:j=i
    .subst e;simp[g,ea,eb]
    have:=f j d
    have e2:j<i+1↔j<i:=by omega
    simp only[e,Lp,e2];omega
   refine ifF g (B2 u ?_);by_cases s:gB a b i=0
   .have ea:a.getLsbD i=false:=by revert s;simp only[gB];cases a.getLsbD i<;>simp
    have eb:b.getLsbD i=false:=by revert s;simp only[gB,ea];cases b.getLsbD i<;>simp
    refine ifF (by simp[s]) (hs hl _ _ _ ⟨Fl,P,M,rfl,rfl,λj d=>?_⟩);by_cases e:j=i
    .subst e;have:=f j d;simpa[g,ea,eb]using this
    have:=f j d
    have e2:j<i+1↔j<i:=by omega
    simp only[e2];omega
   refine ifT (by simp[s]) (B2 u (B2 (Bj6 P M i _) (hs hl _ _ _ ⟨Fl,_,_,rfl,rfl,λj d=>?_⟩)));rw[Lh _ _ _ d,Lh _ _ _ d];by_cases e:j=i
   .subst e;revert s v;simp only[gB];cases a.getLsbD j<;>cases b.getLsbD j<;>simp
   have:=f j d
   have e2:j<i+1↔j<i:=by omega
   simp only[e,Lp,e2];omega
  obtain rfl:i=24:=by omega
  refine Dt ⟨_,rfl,?_⟩;simp only[By6,h1,o,q,l,and_self,Lo];have hp:=(Jo p m).1 h1;have x:=(Jo a b).1 o;have a0:=(KD c).1 q;have eP:P=Zw p a (c ||| (a ||| b)):=Ou λj d=>by
   rw[(f j d).1,Zw,Cg3,Cg9,Cg9,Ck3,Cg3,Cg3];by_cases n:j<24
   .cases c.getLsbD j<;>cases a.getLsbD j<;>cases b.getLsbD j<;>cases p.getLsbD j<;>simp[n,d]
   have g1:=(hp j d).2 (by omega);have g2:=(x j d).2 (by omega);simp[g1.1,g2.1]
  have eM:M=Zw m b (c ||| (a ||| b)):=Ou λj d=>by
   rw[(f j d).2,Zw,Cg3,Cg9,Cg9,Ck3,Cg3,Cg3];by_cases n:j<24
   .cases c.getLsbD j<;>cases a.getLsbD j<;>cases b.getLsbD j<;>cases m.getLsbD j<;>simp[n,d]
   have g1:=(hp j d).2 (by omega);have g2:=(x j d).2 (by omega);simp[g1.2,g2.2]
  rw[eP,eM]
 refine ifT ?_ ⟨_,rfl,?_⟩
 .rw[Cg6,Lq,bne_iff_ne];by_cases h:c.toNat<16777216
  .right
   intro h0;exact hc ⟨h,Cg7 (by simp_all)⟩
  omega
 simp_all[By6,and_self,Lo,Js]
def By7 (p m a b s:BitVec 32):Up×Int:=ite (vB p m=true/\vB a b) (ite (s.toNat<16777216) (sOf (Zw p a s) (Zw m b s),0) (⟨0,0⟩,2)) (⟨0,0⟩,14)
def By8 (p m a b s:BitVec 32):Z2 N (sOf p m) (sOf a b) (s.toNat:Int)=some (By7 p m a b s):=by
 unfold Z2 By7;rw[Cw];simp only[Cd8,lt,Cw,BF1];cases h1:vB p m
 .simp
 cases d:vB a b
 .simp
 by_cases c:s.toNat<16777216
 .simp[c];omega
 simp[c];omega
def By9 (p m a b s:BitVec 32)(n:1000<=N):BF N (sOf p m) (sOf a b) (s.toNat:Int)=some (By7 p m a b s):=by
 suffices h:∃r,BF N (sOf p m) (sOf a b) (s.toNat:Int)=some r/\r=By7 p m a b s by simp_all
 unfold BF;rw[AA p m n];refine B2 rfl (ltX ?_);cases h1:vB p m
 .exact Ah (ifT rfl ⟨_,rfl,by simp[By7,h1]⟩)
 refine Dt ?_;rw[AA a b n];refine B2 rfl ?_;cases l:vB a b
 .exact Ah ⟨_,rfl,by simp[By7,l]⟩
 refine Dt ?_;by_cases hc:s.toNat<16777216
 .refine Cc ?_;refine Aj7 (λi x2 x3 x4=>x4=(i:Int)/\∃P M:BitVec 32,x2=(P.toNat:Int)/\x3=(M.toNat:Int)/\∀j,j<32 ->
   P.getLsbD j=(ite (j<i/\s.getLsbD j) (a.getLsbD j) (p.getLsbD j))/\M.getLsbD j=(ite (j<i/\s.getLsbD j) (b.getLsbD j) (m.getLsbD j))) 24 _ (by omega)
   ⟨rfl,p,m,rfl,rfl,λj c=>by simp⟩ ?_
  rintro q i x2 x3 x4 u ⟨rfl,P,M,rfl,rfl,d⟩ hs;by_cases hl:i<24
  .refine Ag (Af ?_);rw[WI];have o:=((Jo a b).1 l i (by omega)).1;by_cases f:s.getLsbD i=true
   .refine ifT f (B2 (AI2 (N:=N) a b l i hl n) (B2 (Bj6 P M i _) (hs hl _ _ _ ⟨Fl,_,_,rfl,rfl,λj c=>?_⟩)));rw[Lh _ _ _ c,Lh _ _ _ c];by_cases e:j=i
    .subst e;revert o;simp only[gB,f];cases a.getLsbD j<;>cases b.getLsbD j<;>simp
    have:=d j c
    have e2:j<i+1↔j<i:=by omega
    simp only[e,Lp,e2];omega
   refine ifF f (hs hl _ _ _ ⟨Fl,P,M,rfl,rfl,λj c=>?_⟩);by_cases e:j=i
   .subst e;have:=d j c;simpa[f]using this
   have:=d j c
   have e2:j<i+1↔j<i:=by omega
   simp only[e2];omega
  obtain rfl:i=24:=by omega
  refine Dt ⟨_,rfl,?_⟩;simp only[By7,h1,l,hc,and_self,Lo];have t:=(KD s).1 hc;have eP:P=Zw p a s:=Ou λj c=>by
   rw[(d j c).1,Zw,Cg3,Cg9,Cg9,Ck3];by_cases g:j<24
   .cases s.getLsbD j<;>cases a.getLsbD j<;>cases p.getLsbD j<;>simp[g,c]
   simp_all
  have eM:M=Zw m b s:=Ou λj c=>by
   rw[(d j c).2,Zw,Cg3,Cg9,Cg9,Ck3];by_cases g:j<24
   .cases s.getLsbD j<;>cases b.getLsbD j<;>cases m.getLsbD j<;>simp[g,c]
   simp_all
  rw[eP,eM]
 exact Ag ⟨_,rfl,by simp_all[By7]⟩
def Bj7 (x:BitVec 64)(h:x≠0#64):Lib.ctz 64 x.toNat<64/\x.getLsbD (Lib.ctz 64 x.toNat)=true/\∀j,j<Lib.ctz 64 x.toNat->x.getLsbD j=false:=by
 have b:x.toNat≠0:=λe=>h (Cg7 (by grind));obtain⟨m,hm,a⟩:=Lib.ctzFrom_spec 64 x.toNat (by omega) x.isLt;have e:Lib.ctz 64 x.toNat=Lib.ctzFrom 64 x.toNat:=by unfold Lib.ctz;rw[Js b]
 rw[e];refine⟨a,?_,λj c=>?_⟩
 .show x.toNat.testBit _=true;rw[hm,Cs6]
  grind
 show x.toNat.testBit _=false;rw[hm,Cs6]
 grind
def IR (x:BitVec 64)(i:Nat):List Int:=((List.range' i (64-i)).filter λj=>x.getLsbD j).map λ(j:Nat)=>(j:Int)
theorem Pl {x:BitVec 64}{i:Nat}(h:∀j,j<64->x.getLsbD j=false):IR x i=[]:=by
 grind[IR,List.filter_eq_nil_iff,List.mem_range']
def WT {x:BitVec 64}{t:Nat}:∀(k i:Nat),t=i+k->t<64->x.getLsbD t=true->(∀j,j<t->x.getLsbD j=false)->IR x i=(t:Int)::IR x (t+1)
 |0,i,h,ht,hb,hl=>by
  obtain rfl:t=i:=by omega
  unfold IR;rw[show 64-t=(64-(t+1))+1 by omega,Co4,Cs7 hb];rfl
 |k+1,i,h,ht,hb,hl=>by rw[<- WT k (i+1) (by omega) ht hb hl];unfold IR;rw[show 64-i=(64-(i+1))+1 by omega,Co4,Cs8 (by grind)]
def AA2 {x y:BitVec 64}{i:Nat}(h:∀j,i<=j->x.getLsbD j=y.getLsbD j):IR x i=IR y i:=by
 grind[IR,List.filter_congr,List.mem_range']
def Cd5 (M:Nat)(a:Int->Option (List Int))(x1:Int):Option (List Int):= ite (x1 != 0) ((I7 M x1).bind λy3=>ite ((0:Int)<=y3) (BI y3 (a (F3 .andNot .u64 x1 (shI .shl .u64 1 y3)))) none) (some [])
def Bj8 {x:BitVec 64}{M:Nat}{a:Int->Option (List Int)}(hx:x≠0#64):Cd5 M a (U x)=BI ((Lib.ctz 64 x.toNat:Nat):Int) (a (U (x &&& ~~~(1#64 <<< Lib.ctz 64 x.toNat)))):=by
 have c:x.toNat≠0:=λe=>hx (Cg7 (by grind));have b:=x.isLt;unfold Cd5;rw[Ge]
 have:I7 M (U x)=some ((Lib.ctz 64 x.toNat:Nat):Int):=by unfold I7;rw[Ge];rfl
 rw[this,Cd8,Fp,Ah2 _ (Bj7 x hx).1,Bv8]
theorem Al3 {M:Nat}{a:Int->Option (List Int)}:Cd5 M a (U 0#64)=some []:=rfl
def BO9 (M:Nat):∀(k i:Nat) (x:BitVec 64),64-i<=k->(∀j,j<i->x.getLsbD j=false)->∀N,k<N->N3 N (Cd5 M) (U x)=some (IR x i):=by
 intro k
 induction k with
 |zero=>
  intro i x hk hl N a;have d:x=0#64:=Cs5 (by grind);subst d
  match N,a with
  |N+1,_=>rw[Pl λj g=>by simp,U2,Al3]
 |succ k ih=>
  intro i x hk hl N a
  match N,a with
  |N+1,a=>
   by_cases hx:x=0#64
   .grind[Pl,U2,Al3]
   obtain⟨h1,b,c⟩:=Bj7 x hx;have f:i<=Lib.ctz 64 x.toNat:=by
    grind
   rw[WT (Lib.ctz 64 x.toNat-i) i (by omega) h1 b c,U2,Bj8 hx];generalize Lib.ctz 64 x.toNat=t at h1 b c f;have hb:∀j,j<64->(x &&& ~~~(1#64 <<< t)).getLsbD j=(x.getLsbD j && !decide (j=t)):=(by grind);have hc:IR x (t+1)=IR (x &&& ~~~(1#64 <<< t)) (t+1):=AA2 (by grind);rw[ih (t+1) (x &&& ~~~(1#64 <<< t)) (by omega) (by grind) N (by omega),<- hc];rfl
theorem MQ (x:BitVec 64){N:Nat}(a:100<=N):V7 N (U x)=some (IR x 0):=
 BO9 N 64 0 x (by omega) (by omega) N (by omega)
def mem_bitsF {x:BitVec 64}{i:Nat}{y:Int}:y∈IR x i ↔ ∃j:Nat,y=(j:Int)/\i<=j/\j<64/\x.getLsbD j=true:=by
 unfold IR
 grind
def TabA (n:Nat)(R:Nat->Nat->Prop)(f:Nat->Int):Prop:=TabR n R f/\∀a,n<a->f a=0
def TabA.congr {n:Nat}{R R' : Nat->Nat->Prop}{f:Nat->Int}(h:TabA n R f)(c:∀a b,a<=n->b<=n->(R a b↔R' a b)):TabA n R' f:=⟨h.1.congr c,h.2⟩
def zeroA (n:Nat):TabA n (λ_ _=>False) (λ_=>0):=⟨By5 λ_ _=>rfl,λ_ _=>rfl⟩
def IS (f:Nat->Int)(i:Nat)(v:Int)(a:Nat):Zv f i v a=ite (a=i) v (f a):=rfl
def BF2 {N n:Nat}{R S:Nat->Nat->Prop}{x y:Nat->Int}(hn:n<=32)(f:1000<=N)(hR:TabA n R x)(hS:TabA n S y) :∃s,R5 N x y=some s/\TabA n (λa b=>R a b \/ S a b) s:=by
 unfold R5;refine S9 (λi x1 x2=>x2=(i:Int)/\∀a,x1 a=ite (a<i) (F3 .or .u64 (x a) (y a)) (x a)) 33 _ (by omega) (by grind) ?_;rintro c i x1 x2 g ⟨rfl,d⟩ hs;by_cases hl:i<33
 .refine Br (Af (Af (hs (by omega) _ _ ⟨Fl,λa=>?_⟩)));rw[IS,Us,Ch0,Ci3]
  grind
 refine Fe ⟨x1,rfl,λa ha=>?_,λa ha=>?_⟩
 .obtain⟨u,e1,g1⟩:=hR.1 a ha;obtain⟨v,e2,g2⟩:=hS.1 a ha;refine⟨u ||| v,by rw[d a,Fp,e1,e2,Cc9],λb hb=>?_⟩;rw[Cg3,Cg6,g1 b hb,g2 b hb]
  grind
 rw[d a];split
 .rw[hR.2 a ha,hS.2 a ha];rfl
 exact hR.2 a ha
def KK {N n:Nat}(hn:n<=32)(f:1000<=N):∃s,U8 N (n:Int)=some s/\TabA n (λa b=>a=b) s:=by
 unfold U8;rw[Fl];refine S9 (λi x1 x2=>x2=(i:Int)/\∀a,x1 a=ite (a<i) (U (1#64 <<< a)) 0) (n+1) _ (by omega) (by grind) ?_;rintro c i x1 x2 g ⟨rfl,d⟩ hs;by_cases hl:i<=n
 .refine Br (Af (hs (by omega) _ _ ⟨Fl,λa=>?_⟩));rw[IS,Us,Ch0,Ci3];by_cases e:a=i
  .subst e;rw[Jk rfl,Fp,Ah2 _ (by omega)]
  grind
 refine Fe ⟨x1,rfl,λa ha=>⟨1#64 <<< a,by rw[d a,Fp],λb hb=>?_⟩,by grind⟩;rw[Yz (by omega) hb,Lq];omega
def Rh {N n:Nat}{R S:Nat->Nat->Prop}{x y:Nat->Int}(hn:n<=32)(hN:1000<=N)(hR:TabA n R x)(hS:TabA n S y) :∃s,F7 N x y=some s/\TabA n (λa b=>∃c,c<=n/\R a c/\S c b) s:=by
 unfold F7;refine S9 (λi x3 x4=>x4=(i:Int)/\(∀a,a<i->a<=n->∃z:BitVec 64,x3 a=U z/\∀b,b<64->(z.getLsbD b=true↔b<=n/\∃c,c<=n/\R a c/\S c b))/\∀a,i<=a \/ n<a->x3 a=0) 33 _ (by omega)
  (by grind) ?_
 rintro o i x3 x4 hi ⟨rfl,q,h3⟩ hs;by_cases hl:i<33
 .refine Br (Af ?_);rw[Us,Ch0,Ci3];refine B2 (x:=x i) rfl ?_;by_cases f:i<=n
  .obtain⟨u,e1,g1⟩:=hR.1 i f;refine B2 (x:=IR u 0) (by rw[e1];grind[MQ]) ?_;refine AU3 (λL z=>(∀a,a≠i->z a=x3 a)/\(∀t∈L,∃c:Nat,t=(c:Int)/\c<=n/\R i c)/\∃v:BitVec 64,z i=U v/\∀b,b<64->((v.getLsbD b=true \/ ∃c:Nat,(c:Int)∈L/\b<=n/\S c b)↔(b<=n/\∃c,c<=n/\R i c/\S c b))) ?_ ?_ _ _ ?_
   .rintro z ⟨k1,k2,v,k3,k4⟩;refine hs (by omega) _ _ ⟨Fl,λa ha g=>?_,λa ha=>?_⟩
    .by_cases e:a=i
     .subst e;exact⟨v,k3,λb hb=>by rw[<- k4 b hb];simp⟩
     obtain⟨z',p1,p2⟩:=q a (by omega) g
     grind
    grind
   .rintro t L z l ⟨k1,k2,v,k3,k4⟩ m;obtain⟨c,rfl,hc,w⟩:=k2 t (by simp);refine Af (m _ ⟨λa ha=>?_,λt ht=>k2 t (by grind),?_⟩)
    .rw[IS,Gh];grind
    obtain⟨yc,e2,g2⟩:=hS.1 c hc;refine⟨v ||| yc,?_,λb hb=>?_⟩
    .rw[IS,Fp];simp;rw[k3,e2,Cc9]
    rw[<- k4 b hb,Cg3,Cg6,g2 b hb];constructor
    .grind
    rintro (h|⟨c',h,h',d⟩)
    .grind
    rcases Ci2.1 h with h|h
    .have:c' = c:=by omega
     grind
    grind
   refine⟨λ_ _=>rfl,λt ht=>?_,0#64,by grind,λb hb=>?_⟩
   .obtain⟨j,rfl,_,r,hb⟩:=mem_bitsF.1 ht
    grind
   simp;constructor
   .rintro⟨c,hc,h,h'⟩;obtain⟨j,r,_,a0,a1⟩:=mem_bitsF.1 hc
    grind
   rintro⟨h,c,hc,h',d⟩;exact⟨c,mem_bitsF.2 (by grind),h,d⟩
  refine B2 (x:=[]) (by rw[hR.2 i (by omega)];exact (MQ 0#64 (by omega)).trans (by rw[Pl λj r=>by simp])) ?_;exact hs (by omega) _ _ ⟨Fl,by grind,by grind⟩
 exact Fe ⟨x3,rfl,λa ha=>q a (by omega) ha,by grind⟩
def Bz0 (N:Nat)(x:Nat->Int):M4 N x=F7 N x x:=rfl
def Cb1:∀m:Fin 33,(F3 .and .i64 ((m.val:Nat):Int) 1==1)=decide (m.val % 2=1)/\shI .shr .i64 ((m.val:Nat):Int) 1=((m.val / 2:Nat):Int):=by decide +kernel
def Al4 {N n:Nat}{R:Nat->Nat->Prop}{x:Nat->Int}(hn:n<=32)(j:1000<=N)(v:Fwd n R)(hR:TabA n R x){k:Nat}(hk:k<=32) :∃s,G8 N x (k:Int) (n:Int)=some s/\TabA n (Mc n R k) s:=by
 unfold G8;obtain⟨y1,e1,h1⟩:=KK (N:=N) hn j;refine B2 e1 ?_;refine Aj7 (λi x1 x2 x3=>x1=((k / 2 ^ i:Nat):Int)/\TabA n (Mc n R (2 ^ i)) x2/\TabA n (Mc n R (k % 2 ^ i)) x3) 6 _ (by omega) ⟨by simp,?_,?_⟩ ?_
 .exact hR.congr λa b ha hb=>⟨λh=>⟨a,ha,rfl,h⟩,fun⟨c,hc,(h:a=c),h'⟩=>h ▸ h'⟩
 .rw[Nat.pow_zero,Nat.mod_one];exact h1
 rintro o i x1 x2 x3 w ⟨rfl,l,q⟩ hs;have hm:k / 2 ^ i<=32:=Ch9 (Nat.div_le_self _ _) hk;obtain⟨b1,b2⟩:=Cb1 ⟨k / 2 ^ i,by omega⟩;simp only at b1 b2;have f:k / 2 ^ i / 2=k / 2 ^ (i+1):=by rw[Nat.div_div_eq_div_mul,Nat.pow_succ]
 have g:k % 2 ^ (i+1)=k % 2 ^ i+2 ^ i*(k / 2 ^ i % 2):=Nat.mod_pow_succ;have d:∃s,M4 N x2=some s/\TabA n (Mc n R (2 ^ (i+1))) s:=by
  obtain⟨s,e,h⟩:=Rh hn j l l;refine⟨s,(Bz0 N x2).trans e,h.congr λa b ha hb=>?_⟩;rw[show 2 ^ (i+1)=2 ^ i+2 ^ i by rw[Nat.pow_succ];omega]
  simp_all[GU]
 obtain⟨sq,esq,d⟩:=d;by_cases r:k / 2 ^ i=0
 .refine Fe ⟨x3,rfl,?_⟩
  have:k % 2 ^ i=k:=Ck4 (by
   have:=Cv0.1 r
   omega)
  rw[this]at q;omega
 have m:i<6:=by
  grind
 refine Br ?_;by_cases u:k / 2 ^ i % 2=1
 .refine ifT (by rw[b1];grind) ?_;obtain⟨t,et,ht⟩:=Rh hn j q l;refine B2 et (B2 esq (hs m _ _ _ ⟨by rw[b2,f],d,ht.congr λa b ha hb=>?_⟩));rw[g,u,Ci3]
  grind[GU]
 simp_all
def BP0 {s c:Up}(hs:okS s)(hc:okS c):((F3 .or .u32 (F3 .andNot .u32 c.Plus s.Plus) (F3 .andNot .u32 c.Minus s.Minus))==0)=AX1 s c:=by
 obtain⟨p,m,rfl⟩:=hs;obtain⟨a,b,rfl⟩:=hc;have e:∀x y:BitVec 32,((F3 .and .u32 (x.toNat:Int) (y.toNat:Int))==(y.toNat:Int))=decide (y &&& ~~~ x=0#32):=by
  intro x y;rw[DV,Cf7];simp only[beq_iff_eq,Lq];constructor
  .intro h;have h:x &&& y=y:=Cg7 (by omega)
   grind
  intro h
  have:x &&& y=y:=Ou λi d=>by
   have:=(z32 _).1 h i d
   grind
  rw[this]
 unfold AX1;simp only[e,Db,IZ,eq0];rw[Cf7]
 grind
def Bj9 (o:1000<=N){w:Sl Up}(hw:w.n<=32)(d:∀i,i<w.n->okS (w.g i)){c:Up}(hc:okS c)(no:Bool) :∃f,AU N ⟨c,no⟩ w=some f/\TabA w.n (λa b=>a<w.n/\b=a+1/\(AX1 (w.g a) c != no)=true) f:=by
 unfold AU;refine S9 (λi x1 x2=>x2=(i:Int)/\∀a,x1 a=ite (a<i/\(AX1 (w.g a) c != no)) (U (1#64 <<< (a+1))) 0) w.n _ (by omega) (by grind) ?_;rintro j i x1 x2 q ⟨rfl,l⟩ hs;by_cases hl:i<w.n
 .refine Br (Af ?_);rw[Us,BP0 (d i hl) hc];by_cases hb:(AX1 (w.g i) c != no)=true
  .refine Br ?_;rw[Fl];refine Af (hs hl _ _ ⟨rfl,λa=>?_⟩);rw[IS,Ch0,Ci3,Ah2 _ (by omega)]
   grind
  refine Fe (hs hl _ _ ⟨Fl,λa=>?_⟩);rw[l a]
  grind
 refine Fe ⟨x1,rfl,λa ha=>?_,by grind⟩;by_cases hb:a<w.n/\(AX1 (w.g a) c != no)=true
 .grind
 refine⟨0#64,by rw[l a,Iw];rfl,λb m=>?_⟩
 grind
def Bk0 {n a0 b0:Nat}(ha:a0<=n)(hb:b0<=n)(hn:n<=32):TabA n (λa b=>a=a0/\b=b0) (Zv (λ_=>0) a0 (U (1#64 <<< b0))):=by
 refine⟨λa d=>?_,by grind⟩;by_cases e:a=a0
 .refine⟨1#64 <<< b0,by rw[IS,Jk e],λb c=>?_⟩;rw[Yz (by omega) c,Lq];omega
 refine⟨0#64,by rw[IS,Js e];rfl,λb c=>?_⟩
 grind
def AI3 {w:Sl Up}(hw:w.n<=32)(e:Bool):∃f,Ci N ⟨e⟩ w=some f/\TabA w.n (λa b=>a=(ite e w.n 0)/\b=(ite e w.n 0)) f:=by
 unfold Ci;cases e
 .refine Dt (Bq ⟨_,rfl,?_⟩);exact Bk0 (n:=w.n) (a0:=0) (b0:=0) (by omega) (by omega) hw
 refine ifT rfl (Af ⟨_,rfl,?_⟩);rw[Us,Ch0,Ci3,Ah2 _ (by omega)]
 simp_all[Bk0,Ce5]
def BP1 (a:1000<=N){w:Sl Up}(hw:w.n<=32){rec:Part->Sl Up->Option (Nat->Int)}{m:Nat}(hm:m<=40){g:Nat->Part}{Q:Nat->Nat->Nat->Prop}
 (hc:∀i,i<m->∃f,rec (g i) w=some f/\TabA w.n (Q i) f):∃f,Dx rec N ⟨⟨m,g⟩⟩ w=some f/\TabA w.n (BD9 w.n Q m) f:=by
 unfold Dx;obtain⟨y1,e1,h1⟩:=KK (N:=N) hw a;refine B2 e1 ?_;refine S9 (λi x1 x2=>x2=(i:Int)/\i<=m/\TabA w.n (BD9 w.n Q i) x1) m _ (by omega) ⟨rfl,by omega,h1⟩ ?_;rintro b i x1 x2 o ⟨rfl,c,d⟩ hs;by_cases hl:i<m
 .refine Br (Br ?_);obtain⟨f,e2,j⟩:=hc i hl;refine B2 (by rw[Us];exact e2) ?_;obtain⟨s,e3,l⟩:=Rh hw a d j;exact B2 e3 (hs hl _ _ ⟨Fl,hl,l⟩)
 grind
def BP2 (d:1000<=N){w:Sl Up}(hw:w.n<=32){rec:Part->Sl Up->Option (Nat->Int)}{m:Nat}(hm:m<=40){g:Nat->Part}{Q:Nat->Nat->Nat->Prop}
 (hc:∀i,i<m->∃f,rec (g i) w=some f/\TabA w.n (Q i) f):∃f,Dy rec N ⟨⟨m,g⟩⟩ w=some f/\TabA w.n (λa b=>∃i,i<m/\Q i a b) f:=by
 unfold Dy;refine S9 (λi x1 x2=>x2=(i:Int)/\i<=m/\TabA w.n (λa b=>∃j,j<i/\Q j a b) x1) m _ (by omega) ⟨rfl,by omega,(zeroA _).congr (by grind)⟩ ?_;rintro c i x1 x2 t ⟨rfl,l,o⟩ hs;by_cases hl:i<m
 .refine Br (Br ?_);obtain⟨f,e2,q⟩:=hc i hl;refine B2 (by rw[Us];exact e2) ?_;obtain⟨s,e3,r⟩:=BF2 hw d o q;refine B2 e3 (hs hl _ _ ⟨Fl,hl,r.congr (by grind)⟩)
  all_goals grind
 obtain rfl:i=m:=by omega
 grind
def BP3 (i:1000<=N){w:Sl Up}(hw:w.n<=32){rec:Part->Sl Up->Option (Nat->Int)}{pt:Part}{Q:Nat->Nat->Prop}(d:Fwd w.n Q){f:Nat->Int}(u:rec pt w=some f)(r:TabA w.n Q f)
 {mn mx:Int}(y:0<=mn) (h1:mn<=32) (z:mx = -1 \/ (mn<=mx/\mx<=32)) :
 ∃s,Dz rec N ⟨pt,mn,mx⟩ w=some s/\TabA w.n (λa b=>∃k:Nat,mn<=k/\(mx = -1 \/ (k:Int)<=mx)/\Mc w.n Q k a b) s:=by
 obtain⟨m,rfl⟩:∃m:Nat,mn=(m:Int):=⟨mn.toNat,by omega⟩;unfold Dz;refine B2 u ?_;obtain⟨y2,e2,t2⟩:=Al4 hw i d r (k:=m) (by omega);refine B2 e2 ?_;obtain⟨y3,e3,t3⟩:=KK (N:=N) hw i;refine B2 e3 ?_;obtain⟨y4,e4,t4⟩:=BF2 hw i r t3;refine B2 e4 ?_;have l : Fwd w.n (λa b=>Q a b \/ a=b):=λa b ha h=>by
  rcases h with h|h
  .exact d a b ha h
  omega
 have key:∀(K:Nat),K<=32->∃s,((G8 N y4 (K:Int) (w.n:Int)).bind λy5=>(F7 N y2 y5).bind λy6=>some y6)=some s/\TabA w.n (λa b=>∃j,j<=K/\Mc w.n Q (m+j) a b) s:=by
  intro K v;obtain⟨y5,e5,t5⟩:=Al4 hw i l t4 (k:=K) v;refine B2 e5 ?_;obtain⟨y6,e6,t6⟩:=Rh hw i t2 t5;refine B2 e6 ⟨y6,rfl,t6.congr λa b ha hb=>?_⟩;constructor
  .rintro⟨c,hc,g1,g2⟩;obtain⟨j,o,g3⟩:=(Tf d hc K b).1 g2;exact⟨j,o,(GU d m ha j b).2 ⟨c,hc,g1,g3⟩⟩
  grind[GU,Tf]
 by_cases hx:mx<0
 .refine ifT (decide_eq_true hx) ?_;obtain⟨s,e,t⟩:=key w.n hw;refine⟨s,e,t.congr λa b ha hb=>?_⟩;constructor
  .grind
  rintro⟨k,hk,_,g⟩;obtain⟨c,hc,g1,g3⟩:=(GU d m ha (k-m) b).1 (by rw[show m+(k-m)=k by omega];exact g);obtain⟨j,o,g4⟩:=Ah4 d hc (k-m) g3;exact⟨j,o,(GU d m ha j b).2 ⟨c,hc,g1,g4⟩⟩
 refine Fe ?_;obtain⟨M,rfl⟩:∃M:Nat,mx=(M:Int):=⟨mx.toNat,by omega⟩;have q:IntKind.i64.wrap ((M:Int)-(m:Int))=((M-m:Nat):Int):=by rw[Ut];omega
 rw[show IntKind.i64.wrap ((⟨pt,(m:Int),(M:Int)⟩:BY3).max-(⟨pt,(m:Int),(M:Int)⟩:BY3).min)=((M-m:Nat):Int) from q];obtain⟨s,e,t⟩:=key (M-m) (by omega);refine⟨s,e,t.congr λa b ha hb=>?_⟩;constructor
 .grind
 rintro⟨k,hk,x,g⟩;exact⟨k-m,by omega,by rw[show m+(k-m)=k by omega];exact g⟩
def okQ:Nat->Pat->Prop
 |0,_=>False
 |d+1,p=>TF p/\p.L.n<=40/\∀i,i<p.L.n->okQ d (p.L.g i)
theorem AI4:∀(d:Nat) (p:Pat),okQ d p->okQ (d+1) p
 |0,_,h=>h.elim
 |d+1,p,⟨h1,h2,h3⟩=>⟨h1,h2,λi a=>AI4 d _ (h3 i a)⟩
def Bk1:∀(k:Nat) (l:List Pat),k<=40->chk k l->∀p∈l,okQ k p
 |0,l,_,h,p,hp=>by rw[show l=[] from h]at hp;grind
 |k+1,[],_,_,p,hp=>by grind
 |k+1,q::l,hk,⟨hn,h⟩,p,hp=>by
  have ih:=Bk1 k _ (by omega) h;rcases Ci2.1 hp with rfl|hp
  .have hl:=TG k _ h;rw[Cg1,Y9]at hl;exact⟨hn,by omega,λi a=>ih _ (Ch7 _ (Pc a))⟩
  grind[AI4,List.mem_append_right]
def vS.ok {s:Up}(h:vS s):okS s:=by obtain⟨p,m,e,_⟩:=h;exact⟨p,m,e⟩
def BP4 (K:Nat)(p:Pat)(pt:Part):Prop:=∀(w:Sl Up),w.n<=32->(∀i,i<w.n->okS (w.g i))->∀M,K<=M->∃f,Ck M pt w=some f/\TabA w.n (PR w p) f
def TQ {N:Nat}(v:1000<=N):∀(d:Nat),d<=40->∀(p:Pat),okQ d p->∀M,N+d<=M->∃pt,Cj M p=some pt/\BP4 (N+d) p pt
 |0,_,p,h,_,_=>h.elim
 |d+1,hd,p,⟨hn,hc,hch⟩,0,hM=>by omega
 |d+1,hd,p,⟨hn,hc,hch⟩,M+1,hM=>by
  show ∃pt,Aj (Cj M) M p=some pt/\_;unfold Aj;refine S9 (λi x1 x2=>x2=(i:Int)/\i<=p.L.n/\x1.n=i/\∀j,j<i->BP4 (N+d) (p.L.g j) (x1.g j)) p.L.n _ (by omega) (by grind) ?_;rintro q i x1 x2 t ⟨rfl,h1,u,o⟩ hs;by_cases hl:i<p.L.n
  .refine Br (Af ?_);obtain⟨pt,e,y⟩:=TQ v d (by omega) (p.L.g i) (hch i hl) M (by omega);refine B2 (by rw[Us];exact e) ?_;refine Br (hs hl _ _ ⟨Fl,hl,by grind,λj z=>?_⟩)
   grind
  obtain rfl:i=p.L.n:=by omega
  have fin:∀(pt:Part),(∀(w:Sl Up),w.n<=32->(∀i,i<w.n->okS (w.g i))->∀M,N+d<=M->∃f,Ck (M+1) pt w=some f/\TabA w.n (PR w p) f)->∃r,some pt=some r/\BP4 (N+(d+1)) p r:=by
   intro pt h;refine⟨pt,rfl,λw hw c M' l=>?_⟩;obtain⟨M'',rfl⟩:∃M'',M' = M'' + 1:=⟨M' - 1,by omega⟩
   grind
  refine Dt ?_;obtain⟨⟨k0,k6⟩,n1,n2,n3,n4,n5⟩:=hn;by_cases k1:p.Kind=1
  .refine Br (fin _ λw hw c M' l=>?_);obtain⟨f,e,h⟩:=Bj9 (N:=M') (by omega) hw c n5.ok p.Not;refine⟨f,e,h.congr λa b _ _=>?_⟩;rw[Vk];grind
  refine Fe ?_;by_cases k2:p.Kind=2
  .refine Br (fin _ λw hw c M' l=>?_);obtain⟨f,e,h⟩:=AI3 (N:=M') hw false;refine⟨f,e,h.congr λa b _ _=>?_⟩;rw[Vk];grind
  refine Fe ?_;by_cases k6:p.Kind=6
  .refine Br (fin _ λw hw c M' l=>?_);obtain⟨f,e,h⟩:=AI3 (N:=M') hw true;refine⟨f,e,h.congr λa b _ _=>?_⟩;rw[Vk];grind
  refine Fe ?_;by_cases k4:p.Kind=4
  .refine Br (fin _ λw hw c M' l=>?_);obtain⟨f,e,h⟩:=BP2 (N:=M') (by omega) hw (rec:=Ck M') (m:=x1.n) (g:=x1.g) (Q:=λi=>PR w (p.L.g i)) (by omega) λi t=>o i (by omega) w hw c M' (by omega);refine⟨f,e,h.congr λa b _ _=>?_⟩;rw[Vk,u];grind
  refine Fe ?_;by_cases k5:p.Kind=5
  .obtain⟨g1,g2,g3,g4⟩:=n4 k5;refine Br (Af (fin _ λw hw c M' l=>?_));obtain⟨f,e,h⟩:=o 0 (by omega) w hw c M' (by omega);obtain⟨s,e2,x⟩:=BP3 (N:=M') (by omega) hw (rec:=Ck M') (Ah5 w (p.L.g 0)) e h g2 g3 g4;refine⟨s,e2,x.congr λa b _ _=>?_⟩;rw[Vk];grind
  refine Fe (fin _ λw hw c M' l=>?_);obtain⟨f,e,h⟩:=BP1 (N:=M') (by omega) hw (rec:=Ck M') (m:=x1.n) (g:=x1.g) (Q:=λi=>PR w (p.L.g i)) (by omega) λi t=>o i (by omega) w hw c M' (by omega);refine⟨f,e,h.congr λa b _ _=>?_⟩;rw[Vk,u];by_cases k3:p.Kind=3
  .grind
  have k0' : p.Kind=0:=by omega
  rw[n2 k3 k4 k5];simp[k0',BD9]
def WU (u:3000<=N){p:Pat}(hp:okPS p){w:Sl Up}(hs:w.n<1000000/\w.n+1000<N)(hw:∀i,i<w.n->okS (w.g i)) :∃r,Bw N p w=some r/\(r.2=0↔chk 40 [p]/\wOk w)/\(r.2=0->TabA w.n (PR w p) r.1):=by
 unfold Bw;obtain⟨e,l,hc⟩:=YW (N:=N) (by omega) hp;refine B2 l ?_;by_cases m:e=0
 case neg=>simp_all
 refine Fe ?_;by_cases hn:32<w.n
 .exact Br ⟨_,rfl,⟨by omega,λh=>by have:=h.2.1;omega⟩,by omega⟩
 refine Fe ?_;have o:∀i,∃b:Bool,i<w.n->Y4 N (w.g i)=some b/\(b=true ↔ ¬vS (w.g i)):=by
  intro i;by_cases a:i<w.n
  .obtain⟨x,y,l⟩:=hw i a;refine⟨!vB x y,λ_=>⟨?_,?_⟩⟩
   all_goals grind[Y4,Aj9,Ay6,vB]
  exact⟨false,λh=>Ke h a⟩
 obtain⟨b,hb⟩:=Co2 o;obtain⟨r,q,d⟩:=Qs (N:=N) (by omega) hs.1 (f:=λu1=>Y4 N u1) λi a=>(hb i a).1;refine B2 q ?_;by_cases c:r=true
 .refine ifT c ⟨_,rfl,⟨by omega,λh=>?_⟩,by omega⟩;obtain⟨i,a,j⟩:=d.1 c;exact Ke (h.2.2 i a) ((hb i a).2.1 j)
 refine ifF c ?_;have s:wOk w:=⟨by omega,by grind⟩;obtain⟨pt,ep,t⟩:=TQ (N:=1000) (by omega) 40 (Ce5 _) p (Bk1 40 [p] (Ce5 _) (hc.1 m) p (by simp)) N (by omega);refine B2 ep ?_;obtain⟨f,ef,v⟩:=t w (by omega) hw N (by omega)
 simp_all
def AV6 (l:3000<=N){p:Pat}(hp:okPS p){w:Sl Up}(hs:w.n<1000000/\w.n+1000<N)(hw:∀i,i<w.n->okS (w.g i))(at_:Int) :∃r,DA N p w at_=some r/\(0<r.1.n↔chk 40 [p]/\wOk w/\0<=at_/\at_<=w.n/\∃a,a<=w.n/\PR w p a at_.toNat):=by
 unfold DA;obtain⟨y,e,h1,m⟩:=WU l hp hs hw;refine B2 e (ltX ?_);by_cases f:y.2=0
 case neg=>
  simp_all
 refine Br ?_;obtain⟨hc,d⟩:=h1.1 f;have o:=m f;have hn:=d.1;unfold Bt;by_cases q:at_<0 \/ (w.n:Int)<at_
 .rw[Ge];refine B2 rfl (by grind)
 rw[Iw];refine B2 rfl (Dt ?_);obtain⟨k,rfl⟩:∃k:Nat,at_=(k:Int):=⟨at_.toNat,by omega⟩;rw[Fl,Us];refine S9 (λi x2 x3=>x3=(i:Int)/\x2.n<=i/\(0<x2.n ↔ ∃a,a<i/\PR w p a k)) (w.n+1) _ (by omega) (by grind) ?_;rintro j i x2 x3 s ⟨rfl,g1,g2⟩ c;by_cases hl:i<=w.n
 .refine Br (Af ?_);rw[Us,Ch0,Ci3];have hb:=o.1.bit hl (b:=k) (by omega);by_cases t:PR w p i k
  .refine Br (Br (c (by omega) _ _ ⟨Fl,by grind,by grind,by grind⟩))
  refine Fe (c (by omega) _ _ ⟨Fl,by omega,λh=>?_,by grind⟩)
  all_goals grind
 refine Fe (by grind)
 all_goals grind
def AA3 (L:List Int)(hL:L.length<1000):∃s,Q3 N L=some s/\s.n=L.length:=by
 unfold Q3 J8
 have:∃s:Sl Int,T1 L (λ(a:Sl Int->Option (Sl Int)) (x1:Int) (z1:Sl Int)=>
  if (Uq 8 (z1.n+(Sl.of [x1]:Sl Int).n))then
   a (z1.push x1)
  else none
  ) (λ(z1:Sl Int)=>some z1) Te=some s/\s.n=L.length:=by
  refine AU3 (λl z=>z.n+l.length=L.length) (by grind) (λt l z b h hs=>?_) L _ (by simp);simp at h;exact Br (hs _ (by grind))
 grind
def Bz1 (j:3000<=N){p:Pat}(hp:okPS p){w:Sl Up}(hs:w.n<1000000/\w.n+1000<N)(hw:∀i,i<w.n->okS (w.g i))(at_:Int) :∃r,Gm N p w at_=some r/\(0<r.1.n↔chk 40 [p]/\wOk w/\0<=at_/\at_<=w.n/\∃b,b<=w.n/\PR w p at_.toNat b):=by
 unfold Gm;obtain⟨y,e,h1,l⟩:=WU j hp hs hw;refine B2 e (ltX ?_);by_cases d:y.2=0
 case neg=>
  simp_all
 refine Br ?_;obtain⟨hc,a⟩:=h1.1 d;have m:=l d;have hn:=a.1;unfold Bt;by_cases o:at_<0 \/ (w.n:Int)<at_
 .rw[Ge];refine B2 rfl (by grind)
 rw[Iw];refine B2 rfl (Dt ?_);obtain⟨k,rfl⟩:∃k:Nat,at_=(k:Int):=⟨at_.toNat,by omega⟩;refine Af ?_;rw[Us,Ch0,Ci3];obtain⟨u,e1,g1⟩:=m.1 k (by omega);refine B2 (x:=y.1 k) rfl (B2 (x:=IR u 0) (by rw[e1];grind[MQ]) ?_);obtain⟨s,es,c⟩:=AA3 (N:=N) (IR u 0) (by
  grind[IR,List.length_map,Nat.lt_of_le_of_lt,List.length_filter_le])
 refine B2 es ⟨_,rfl,?_⟩;show 0<s.n↔_;rw[c,List.length_pos_iff_exists_mem];constructor
 .rintro⟨t,ht⟩;obtain⟨b,rfl,_,hb,f⟩:=mem_bitsF.1 ht
  grind
 rintro⟨_,_,_,_,b,hb,h⟩;exact⟨(b:Int),mem_bitsF.2 (by grind)⟩
def AI5 (c:2000<=N){p:Pat}(hp:okPS p){w:Sl Up}(hw:∀i,i<w.n->okS (w.g i)):∃e,FL N p w=some e/\(e=0↔chk 40 [p]/\wOk w):=by
 unfold FL;obtain⟨e,d,hc⟩:=TH c hp;refine B2 d ?_;by_cases f:e=0
 .obtain⟨e2,a,b⟩:=HW (N:=N) (by omega) hw;exact Br (B2 a ⟨e2,rfl,(GH b).trans (by grind)⟩)
 grind
def AA4 (q:3000<=N){p:Pat}(hp:okPS p){w:Sl Up}(hw:∀i,i<w.n->okS (w.g i))(at_:Int) :∃r,EX N p w at_=some r/\(0<r.1.n↔chk 40 [p]/\wOk w/\0<=at_/\at_<=w.n/\∃a,a<=w.n/\PR w p a at_.toNat):=by
 unfold EX;obtain⟨e,j,h1⟩:=AI5 (N:=N) (by omega) hp hw;refine B2 j ?_;by_cases l:e=0
 case neg=>simp_all
 refine Fe ?_;obtain⟨hc,d⟩:=h1.1 l;have hn:=d.1;by_cases m:at_<0 \/ (w.n:Int)<at_
 .exact Br (by grind)
 refine Fe ?_;obtain⟨k,rfl⟩:∃k:Nat,at_=(k:Int):=⟨at_.toNat,by omega⟩;obtain⟨t,et,tn,o⟩:=TP (N:=1000) (by omega) hn 40 p (Ak0 40 [p] (Ce5 _) hc p (by simp)) N (by omega);refine B2 et ?_;rw[Us];refine S9 (λi x2 x3=>x3=(i:Int)/\x2.n<=i/\(0<x2.n ↔ ∃a,a<i/\PR w p a k)) (w.n+1) _ (by omega) (by grind) ?_;rintro f i x2 x3 s ⟨rfl,g1,g2⟩ c;by_cases hl:i<=w.n
 .refine Br (Af ?_);rw[Us];have hb:=o.bit hl (b:=k) (by omega);by_cases u:PR w p i k
  .refine Br (Br (c (by omega) _ _ ⟨Fl,by grind,by grind,by grind⟩))
  refine Fe (c (by omega) _ _ ⟨Fl,by omega,λh=>?_,by grind⟩)
  all_goals grind
 refine Fe (by grind)
 all_goals grind
def Bk2 (q:3000<=N){p:Pat}(hp:okPS p){w:Sl Up}(hw:∀i,i<w.n->okS (w.g i))(at_:Int) :∃r,HN N p w at_=some r/\(0<r.1.n↔chk 40 [p]/\wOk w/\0<=at_/\at_<=w.n/\∃b,b<=w.n/\PR w p at_.toNat b):=by
 unfold HN;obtain⟨e,j,h1⟩:=AI5 (N:=N) (by omega) hp hw;refine B2 j ?_;by_cases l:e=0
 case neg=>simp_all
 refine Fe ?_;obtain⟨hc,d⟩:=h1.1 l;have hn:=d.1;by_cases m:at_<0 \/ (w.n:Int)<at_
 .exact Br (by grind)
 refine Fe ?_;obtain⟨k,rfl⟩:∃k:Nat,at_=(k:Int):=⟨at_.toNat,by omega⟩;obtain⟨t,et,tn,o⟩:=TP (N:=1000) (by omega) hn 40 p (Ak0 40 [p] (Ce5 _) hc p (by simp)) N (by omega);refine B2 et ?_;rw[Us];refine S9 (λi x2 x3=>x3=(i:Int)/\x2.n<=i/\(0<x2.n ↔ ∃b,b<i/\PR w p k b)) (w.n+1) _ (by omega) (by grind) ?_;rintro f i x2 x3 s ⟨rfl,g1,g2⟩ c;by_cases hl:i<=w.n
 .refine Br (Af ?_);have hb:=o.bit (a:=k) (by omega) (b:=i) (by omega);by_cases u:PR w p k i
  .refine Br (Br (c (by omega) _ _ ⟨Fl,by grind,by grind,by grind⟩))
  refine Fe (c (by omega) _ _ ⟨Fl,by omega,λh=>?_,by grind⟩)
  all_goals grind
 refine Fe (by grind)
 all_goals grind
def BS5 (s c:Up):Prop:=∃p m a b:BitVec 32,s=sOf p m/\c=sOf a b/\AX3 p m a b=true
def Bk3 {p m a b:BitVec 32}(h:sOf p m=sOf a b):p=a/\m=b:=by
 have e1:(p.toNat:Int)=a.toNat:=congrArg Up.Plus h;have e2:(m.toNat:Int)=b.toNat:=by grind
 grind[BitVec.eq_of_toNat_eq]
def satS_of {p m a b:BitVec 32}:BS5 (sOf p m) (sOf a b)↔AX3 p m a b=true:=by
 constructor
 .rintro⟨p',m',a',b',h1,c,d⟩;obtain⟨rfl,rfl⟩:=Bk3 h1;obtain⟨rfl,rfl⟩:=Bk3 c;omega
 exact λh=>⟨_,_,_,_,rfl,rfl,h⟩
def Bz2 {s c:Up}(hs:okS s)(hc:okS c):∃b,P0 N s c=some b/\(b=true↔BS5 s c):=by obtain⟨p,m,rfl⟩:=hs;obtain⟨a,b,rfl⟩:=hc;exact⟨_,BO7 p m a b,satS_of.symm⟩
def Bz3 (d:1000<=N){s c:Up}(hs:okS s)(hc:okS c):∃b,V6 N s c=some b/\(b=true↔BS5 s c):=by obtain⟨p,m,rfl⟩:=hs;obtain⟨a,b,rfl⟩:=hc;exact⟨_,BO8 p m a b d,satS_of.symm⟩
def arP (l:Law)(w:Sl Up)(i:Nat):Prop:=chk 40 [l.Left]/\chk 40 [l.Right]/\wOk w/\i+l.If.n<=w.n/\(∃a,a<=w.n/\PR w l.Left a i)/\∃b,b<=w.n/\PR w l.Right (i+l.If.n) b
def AI6 (l:Law)(w:Sl Up)(i:Nat):Prop:=i+l.If.n<=w.n/\(∀j,j<l.If.n->BS5 (w.g (i+j)) (l.If.g j))/\arP l w i
def okW (w:Sl Up):Prop:=w.n<1000/\∀i,i<w.n->okS (w.g i)
def AV7 (c:3000<=N){l:Law}(hl:okL l)(hk:l.If.n<=4){w:Sl Up}(hw:okW w)(i:Nat)(d:i<2000) :∃b,Av N (i:Int) l w=some b/\(b=true↔arP l w i):=by
 unfold Av;obtain⟨y1,e1,h1⟩:=AV6 (N:=N) c hl.1 (w:=w) ⟨by have:=hw.1;omega,by have:=hw.1;omega⟩ hw.2 (i:Int);refine B2 e1 ?_;rw[Us]at h1;by_cases f:y1.1.n=0
 .refine Br ⟨false,rfl,by simp,λh=>?_⟩
  have:=h1.2 ⟨h.1,h.2.2.1,by omega,by have:=h.2.2.2.1;omega,h.2.2.2.2.1⟩
  omega
 refine Fe ?_;rw[GP (by omega)];obtain⟨y2,e2,a⟩:=Bz1 (N:=N) c hl.2.1 (w:=w) ⟨by have:=hw.1;omega,by have:=hw.1;omega⟩ hw.2 ((i+l.If.n:Nat):Int);rw[Us]at a;refine B2 e2 ⟨_,rfl,?_⟩;have h1:=h1.1 (by omega);rw[Lq];constructor
 .intro h;have a:=a.1 (by omega);exact⟨h1.1,a.1,h1.2.1,by omega,h1.2.2.2.2,a.2.2.2.2⟩
 intro h
 have:=a.2 ⟨h.2.1,h.2.2.1,by omega,by have:=h.2.2.2.1;omega,h.2.2.2.2.2⟩
 omega
def Zg (d:3000<=N){l:Law}(hl:okL l)(hk:l.If.n<=4){w:Sl Up}(hw:okW w)(i:Nat)(o:i<2000) :∃b,GC N l w (i:Int)=some b/\(b=true↔AI6 l w i):=by
 unfold GC;rw[GP (by omega)];by_cases hn:w.n<i+l.If.n
 .exact Br ⟨false,rfl,by simp,λh=>by have:=h.1;omega⟩
 refine Fe ?_;refine Z1 (λj x1=>x1=(j:Int)/\∀k,k<j->BS5 (w.g (i+k)) (l.If.g k)) l.If.n _ (by omega) (by grind) ?_;rintro f j x1 q ⟨rfl,h⟩ hs;by_cases c:j<l.If.n
 .rw[GP (by omega)];refine Br (Af ?_);obtain⟨b,eb,hb⟩:=Bz3 (N:=N) (by omega) (hw.2 (i+j) (by omega)) (hl.2.2 j c);refine B2 (by rw[Us,Us];exact eb) ?_;cases b
  .refine ifT rfl ⟨false,rfl,by simp,λa=>?_⟩
   have:=hb.2 (a.2.1 j c);omega
  refine Dt (hs c _ ⟨Fl,λk m=>?_⟩)
  grind
 refine Fe ?_;obtain⟨y1,e1,h1⟩:=AA4 (N:=N) d hl.1 (w:=w) hw.2 (i:Int);obtain⟨y2,e2,a⟩:=Bk2 (N:=N) d hl.2.1 (w:=w) hw.2 ((i+l.If.n:Nat):Int);rw[Us]at h1 a;refine B2 e1 (B2 e2 ⟨_,rfl,?_⟩);simp only[Ce2,Lq];constructor
 .rintro⟨g1,g2⟩;have h1:=h1.1 (by omega);have a:=a.1 (by omega);exact⟨by omega,by grind,h1.1,a.1,h1.2.1,by omega,h1.2.2.2.2,a.2.2.2.2⟩
 intro g;have a1:=h1.2 ⟨g.2.2.1,g.2.2.2.2.1,by omega,by omega,g.2.2.2.2.2.2.1⟩;have a2:=a.2 ⟨g.2.2.2.1,g.2.2.2.2.1,by omega,by omega,g.2.2.2.2.2.2.2⟩;omega
open Classical in
noncomputable def hitB (l:Law) (w:Sl Up) (i:Nat):Bool:=decide (AI6 l w i)
def hitB_iff {l:Law}{w:Sl Up}{i:Nat}:hitB l w i=true↔AI6 l w i:=by simp[hitB]
noncomputable def Hm (l:Law) (w:Sl Up) (i:Nat):List Int:=((List.range' i (w.n+1-i)).filter (hitB l w)).map λ(j:Nat)=>(j:Int)
def Pm {l:Law}{w:Sl Up}{i:Nat}(h:w.n<i+l.If.n):Hm l w i=[]:=by
 unfold Hm;rw[Cu0.2 λj a hb=>by
  have:=List.mem_range'_1.1 a
  have:=(hitB_iff.1 hb).1
  omega]
 rfl
def Ov {l:Law}{w:Sl Up}{i:Nat}(a:i<=w.n)(h:AI6 l w i):Hm l w i=(i:Int)::Hm l w (i+1):=by unfold Hm;rw[show w.n+1-i=(w.n+1-(i+1))+1 by omega,Co4,Cs7 (hitB_iff.2 h)];rfl
theorem Ow {l:Law}{w:Sl Up}{i:Nat}(h:¬AI6 l w i):Hm l w i=Hm l w (i+1):=by
 unfold Hm;by_cases a:i<=w.n
 .rw[show w.n+1-i=(w.n+1-(i+1))+1 by omega,Co4,Cs8 λhb=>h (hitB_iff.1 hb)]
 grind
def Bz4 {l:Law}{w:Sl Up}{i:Nat}{y:Int}(h:y∈Hm l w i):(i:Int)<=y:=by
 obtain⟨j,a,rfl⟩:=Cl0.1 h
 have:=List.mem_range'_1.1 (Cq2.1 a).1
 omega
def AI7 (z:3000<=N){l:Law}(hl:okL l)(hk:l.If.n<=4){w:Sl Up}(hw:okW w)(i:Nat)(v:i<1500):AX N l w (i:Int)=some (Hm l w i):=by
 unfold AX;show (some (l,w)).bind _=_;rw[Cd8];simp only[]
 suffices h:∀(k i:Nat),i<1501->w.n+1-i<=k->∀F,k<F->∃r,N3 F (λ(a:Int->Option (List Int)) (x2:Int)=>
  if (decide ((wrap .i64 (x2+(l.If.n:Int)))<=(w.n:Int))) then
   N3 N (λ(d:Int->Option (List Int)) (x4:Int)=>
    if (decide (x4<(l.If.n:Int))) then
     if ((0:Int)<=x4/\x4<(l.If.n:Int))then
      if ((0:Int)<=(wrap .i64 (x2+x4))/\(wrap .i64 (x2+x4))<(w.n:Int))then
       (P0 N (w.g (wrap .i64 (x2+x4)).toNat) (l.If.g x4.toNat)).bind λs=>
       if (!s) then
        a (wrap .i64 (x2+1))
       else
        d (wrap .i64 (x4+1))
      else none
     else none
    else
     (Av N x2 l w).bind λt=>
     if t then
      BI x2 (
       a (wrap .i64 (x2+1))
       )
     else
      a (wrap .i64 (x2+1))
    ) 0
  else
   some []
  ) (i:Int)=some r/\r=Hm l w i by
  obtain⟨r,h1,rfl⟩:=h (w.n+1-i) i (by omega) (Ce5 _) N (by have:=hw.1;omega);omega
 intro k
 induction k with
 |zero=>
  intro i v m F q
  match F,q with
  |F+1,_=>rw[U2,GP (by omega)];exact Fe ⟨_,rfl,(Pm (by omega)).symm⟩
 |succ k ih=>
  intro i v m F q
  match F,q with
  |F+1,q=>
   rw[U2,GP (by omega)];by_cases hn:i+l.If.n<=w.n
   case neg=>exact Fe ⟨_,rfl,(Pm (by omega)).symm⟩
   refine Br ?_;have a0:=hw.1;obtain⟨r,x,o⟩:=ih (i+1) (by omega) (by omega) F (by omega);have c:∀(Q:List Int->Prop),Q (Hm l w (i+1))->∃r,N3 F _ (IntKind.i64.wrap ((i:Int)+1))=some r/\Q r:=λQ hQ=>⟨r,by rw[Fl];exact x,by rw[o];omega⟩;refine Z1 (λj x1=>x1=(j:Int)/\∀k,k<j->BS5 (w.g (i+k)) (l.If.g k)) l.If.n _ (by omega) (by grind) ?_;rintro y j x1 hj ⟨rfl,h⟩ hs;by_cases f:j<l.If.n
   .rw[GP (by omega)];refine Br (Af (Af ?_));obtain⟨b,eb,hb⟩:=Bz2 (N:=N) (hw.2 (i+j) (by omega)) (hl.2.2 j f);refine B2 (by rw[Us,Us];exact eb) ?_;cases b
    .refine ifT rfl (c _ ?_);exact (Ow λu=>by have:=hb.2 (u.2.1 j f);grind).symm
    refine Dt (hs f _ ⟨Fl,λk m=>?_⟩)
    grind
   refine Fe ?_;obtain⟨b,eb,hb⟩:=AV7 z hl hk hw i (by omega);refine B2 eb ?_;cases b
   .refine Dt (c _ ?_);exact (Ow λu=>by have:=hb.2 u.2.2;grind).symm
   refine ifT rfl ?_;have hh:AI6 l w i:=⟨hn,by grind,hb.1 rfl⟩;refine⟨(i:Int)::Hm l w (i+1),?_,(Ov (by omega) hh).symm⟩;rw[Fl,x,o];rfl
def Bk4 (a:3000<=N){l:Law}(hl:okL l)(hk:l.If.n<=4){w:Sl Up}(hw:okW w)(i:Nat)(c:i<1500) :∃b,HG N l w (i:Int)=some b/\(b=true↔AI6 l w i):=by
 unfold HG;refine B2 (x:=(l,w,(i:Int))) rfl (B2 (AI7 a hl hk hw i c) ?_);by_cases h:AI6 l w i
 .rw[Ov (by have:=h.1;omega) h]
  simp_all[T1]
 rw[Ow h];rcases hL:Hm l w (i+1)with _|⟨t,L⟩
 .exact⟨false,rfl,by grind⟩
 have:((i+1:Nat):Int)<=t:=Bz4 (l:=l) (w:=w) (by rw[hL];simp)
 exact⟨false,by show some (t==(i:Int))=some false;congr 1;grind,by grind⟩
def BF3 {p m a b s:BitVec 32}(h1:vB p m=true)(c:vB a b=true):vB (Zw p a s) (Zw m b s)=true:=by
 rw[Jo]at *
 grind[Zw]
def vS0:vS (⟨0,0⟩:Up):=⟨0#32,0#32,rfl,by decide +kernel⟩
def AA5 (f:1000<=N){s t:Up}{c:Int}(hs:okS s)(hc:∃b:BitVec 32,c=(b.toNat:Int))(ht:okS t):∃y,T5 N s c t=some y/\W8 N s c t=some y/\vS y.1:=by
 obtain⟨p,m,rfl⟩:=hs;obtain⟨a,b,rfl⟩:=ht;obtain⟨d,rfl⟩:=hc;refine⟨_,AV4 p m d a b,AV5 p m d a b f,?_⟩;unfold By6;split
 .rename_i h;split
  .exact⟨_,_,rfl,BF3 h.1 h.2⟩
  exact vS0
 exact vS0
def Bk5 (f:1000<=N){s t:Up}{c:Int}(hs:okS s)(hc:∃b:BitVec 32,c=(b.toNat:Int))(ht:okS t):∃y,Z2 N s t c=some y/\BF N s t c=some y/\vS y.1:=by
 obtain⟨p,m,rfl⟩:=hs;obtain⟨a,b,rfl⟩:=ht;obtain⟨d,rfl⟩:=hc;refine⟨_,By8 p m a b d,By9 p m a b d f,?_⟩;unfold By7;split
 .rename_i h;split
  .exact⟨_,_,rfl,BF3 h.1 h.2⟩
  exact vS0
 exact vS0
def eqX {R:Type}{Q:R->Prop}{o o' : Option R}(h:o=o')(a:∃r,o' = some r/\Q r):∃r,o=some r/\Q r:=by rw[h];omega
def FA (f:Nat->Up):Nat->Sl Up
 |0=>Sl.nil
 |m+1=>(FA f m).push (f m)
theorem Pn (f:Nat->Up):∀m,(FA f m).n=m
 |0=>rfl
 |m+1=>by show (FA f m).n+1=_;rw[Pn f m]
theorem AA6 (f:Nat->Up):∀{m i:Nat},i<m->(FA f m).g i=f i
 |0,i,h=>by omega
 |m+1,i,h=>by
  show (ite (i<(FA f m).n) ((FA f m).g i) (f m))=f i;rw[Pn];by_cases e:i<m
  .rw[Jk e,AA6 f e]
  grind
abbrev srcS (l:Law)(cut:Sl Up)(i:Nat):Up:=⟨(ite (decide (0<=(l.Out.g i).From)) ((cut.g (l.Out.g i).From.toNat).Plus) 0),(ite (decide (0<=(l.Out.g i).From)) ((cut.g (l.Out.g i).From.toNat).Minus) 0)⟩
def BP5 (t:1000<=N){l:Law}(u:Cd3 l){cut:Sl Up}(hn:cut.n=l.If.n)(hc:∀i,i<cut.n->okS (cut.g i)) :∃s,Ak N l cut=some s/\EY N l cut=some s/\s.n=l.Out.n/\∀i,i<s.n->vS (s.g i):=by
 have one:∀i,∃y:Up,i<l.Out.n->vS y/\∀(R:Type) (k:Up->Option R),
  (∀(Ch:Nat->Up->Int->Up->Option (Up×Int)) (Ta:Nat->Up->Up->Int->Option (Up×Int)),(Ch=T5/\Ta=Z2) \/ (Ch=W8/\Ta=BF) ->
  (if ((decide (0<=(l.Out.g i).From))=true->((0:Int)<=(l.Out.g i).From/\(l.Out.g i).From<(cut.n:Int)))then
   (Ch N (⟨(ite (decide (0<=(l.Out.g i).From)) ((cut.g (l.Out.g i).From.toNat).Plus) 0),(ite (decide (0<=(l.Out.g i).From)) ((cut.g (l.Out.g i).From.toNat).Minus) 0)⟩:Up) (l.Out.g i).Clear (l.Out.g i).Set).bind λy5=>
   if ((l.Out.g i).Take != 0) then
    if ((0:Int)<=(l.Out.g i).Of/\(l.Out.g i).Of<(cut.n:Int))then
     (Ta N y5.1 (cut.g (l.Out.g i).Of.toNat) (l.Out.g i).Take).bind λy6=>k y6.1
    else none
   else k y5.1
   else none)=k y):=by
  intro i;by_cases d:i<l.Out.n
  case neg=>exact⟨default,λh=>Ke h d⟩
  obtain⟨⟨f,m,o⟩,v,q⟩:=u.2 i d;have hs:okS (⟨(ite (decide (0<=(l.Out.g i).From)) ((cut.g (l.Out.g i).From.toNat).Plus) 0),(ite (decide (0<=(l.Out.g i).From)) ((cut.g (l.Out.g i).From.toNat).Minus) 0)⟩:Up):=by
   by_cases w:0<=(l.Out.g i).From
   .simp_all
   simp only[w,decide_false,Ce4,Lp];exact⟨0#32,0#32,rfl⟩
  obtain⟨y,e1,e2,hy⟩:=AA5 t hs m f;by_cases ht:(l.Out.g i).Take=0
  .refine⟨y.1,λ_=>⟨hy,λR k Ch Ta h=>?_⟩⟩;rw[Ge]
   have:Ch N (srcS l cut i) (l.Out.g i).Clear (l.Out.g i).Set=some y:=by
    rcases h with⟨rfl,rfl⟩ | ⟨rfl,rfl⟩
    all_goals omega
   rw[this,Cd8,Iw]
  obtain⟨g1,g2⟩:=q ht;obtain⟨z,e3,e4,x⟩:=Bk5 t hy.ok o (hc (l.Out.g i).Of.toNat (by omega));refine⟨z.1,λ_=>⟨x,λR k Ch Ta h=>?_⟩⟩;rw[Ge]
  have:Ch N (srcS l cut i) (l.Out.g i).Clear (l.Out.g i).Set=some y:=by
   rcases h with⟨rfl,rfl⟩ | ⟨rfl,rfl⟩
   all_goals omega
  rw[this,Cd8,Ge,Fp]
  have:Ta N y.1 (cut.g (l.Out.g i).Of.toNat) (l.Out.g i).Take=some z:=by
   rcases h with⟨rfl,rfl⟩ | ⟨rfl,rfl⟩
   all_goals omega
  rw[this,Cd8]
 obtain⟨out,j⟩:=Co2 one;have a0:=u.1;have b:∀(Ch:Nat->Up->Int->Up->Option (Up×Int)) (Ta:Nat->Up->Up->Int->Option (Up×Int)),(Ch=T5/\Ta=Z2) \/ (Ch=W8/\Ta=BF) ->
  ∀(a:Sl Up->Int->Option (Sl Up)) (i:Nat),i<l.Out.n->(∃r,a ((FA out i).push (out i)) (wrap .i64 ((i:Int)+1))=some r/\r=FA out l.Out.n) ->
  ∃r,(if ((decide (0<=(l.Out.g i).From))=true->((0:Int)<=(l.Out.g i).From/\(l.Out.g i).From<(cut.n:Int)))then
   (Ch N (srcS l cut i) (l.Out.g i).Clear (l.Out.g i).Set).bind λy5=>
   if ((l.Out.g i).Take != 0) then
    if ((0:Int)<=(l.Out.g i).Of/\(l.Out.g i).Of<(cut.n:Int))then
     (Ta N y5.1 (cut.g (l.Out.g i).Of.toNat) (l.Out.g i).Take).bind λy6=>
     if (Uq 8 ((FA out i).n+(Sl.of [y6.1]:Sl Up).n))then
      a ((FA out i).push y6.1) (wrap .i64 ((i:Int)+1))
     else none
    else none
   else
    if (Uq 8 ((FA out i).n+(Sl.of [y5.1]:Sl Up).n))then
     a ((FA out i).push y5.1) (wrap .i64 ((i:Int)+1))
    else none
   else none)=some r/\r=FA out l.Out.n:=by
  intro Ch Ta h a i d hr;have e:=(j i d).2 (Sl Up) (λy=>ite (Uq 8 ((FA out i).n+(Sl.of [y]:Sl Up).n)) (a ((FA out i).push y) (wrap .i64 ((i:Int)+1))) none) Ch Ta h;refine eqX e (ifT ?_ hr)
  have:=Pn out i
  grind
 have h1:∃r,Ak N l cut=some r/\r=FA out l.Out.n:=by
  unfold Ak;refine S9 (λi x1 x2=>x2=(i:Int)/\x1=FA out i) l.Out.n _ (by omega) ⟨rfl,rfl⟩ ?_;rintro a i x1 x2 d ⟨rfl,rfl⟩ hs;by_cases c:i<l.Out.n
  .refine Br (Af ?_);rw[Us];exact b _ _ (.inl ⟨rfl,rfl⟩) a i c (hs c _ _ ⟨Fl,rfl⟩)
  grind
 have h2:∃r,EY N l cut=some r/\r=FA out l.Out.n:=by
  unfold EY;refine S9 (λi x1 x2=>x2=(i:Int)/\x1=FA out i) l.Out.n _ (by omega) ⟨rfl,rfl⟩ ?_;rintro a i x1 x2 d ⟨rfl,rfl⟩ hs;by_cases c:i<l.Out.n
  .refine Br (Af ?_);rw[Us];exact b _ _ (.inr ⟨rfl,rfl⟩) a i c (hs c _ _ ⟨Fl,rfl⟩)
  grind
 obtain⟨r,e1,rfl⟩:=h1;obtain⟨r,e2,rfl⟩:=h2
 grind[Pn,AA6]
def nf:(!false)=true:=rfl
def BS6 {α : Type}{s t:Sl α}(h:s.n=0):s.app t=t:=by
 simp_all[Sl.app]
def BF4 {α : Type}[Inhabited α](s:Sl (Sl α)):Nat->Sl α
 |0=>Sl.nil
 |k+1=>(BF4 s k).app (s.g k)
def BF5 {α : Type}[Inhabited α](s:Sl (Sl α)){B:Nat}:∀k,(∀i,i<k->(s.g i).n<=B)->(BF4 s k).n<=k*B
 |0,_=>by simp[BF4]
 |k+1,h=>by
  have:=BF5 s k λi a=>h i (by omega)
  have:=h k (by omega)
  grind[BF4,Nat.succ_mul]
def AA7 {s:Sl (Sl Up)}(hn:s.n<1000)(d:1000<=N)(hs:∀i,i<s.n->(s.g i).n<=3000000) :B9 N s=some (BF4 s s.n):=by
 suffices h:∃r,B9 N s=some r/\r=BF4 s s.n by grind
 unfold B9;refine S9 (λ(i:Nat) (x1 x2:Int)=>x2=(i:Int)/\0<=x1/\x1<=(i:Int)*3000000) s.n _ (by omega) (by omega) ?_;rintro b i x1 x2 c ⟨rfl,f,h1⟩ a;by_cases hl:i<s.n
 .have:=hs i hl
  refine Br (Af ?_);rw[Us,Ut];exact Fe (a hl _ _ ⟨Fl,by omega,by omega⟩)
 refine Fe (B2 (x:=Sl.nil) ?_ ?_)
 .unfold K5;rw[Fp]
 refine S9 (λi x1 x2=>x2=(i:Int)/\x1=BF4 s i) s.n _ (by omega) ⟨rfl,rfl⟩ ?_;rintro b i x1 x2 c ⟨rfl,rfl⟩ a;by_cases hl:i<s.n
 .have g1:=hs i hl;have g2:=BF5 s i (B:=3000000) (by grind);refine Br (ifT ⟨by omega,?_⟩ (a hl _ _ ⟨Fl,?_⟩))
  .rw[Us];omega
  rw[Us];rfl
 grind
def BS7 (w:Sl Up)(i k:Nat)(y:Sl Up):Sl Up:=((w.take i).app y).app (w.drop (i+k))
def Bk6 {w y:Sl Up}{i k:Nat}(b:i+k<=w.n)(hw:∀j,j<w.n->vS (w.g j))(hy:∀j,j<y.n->vS (y.g j)):(BS7 w i k y).n=w.n-k+y.n/\∀j,j<(BS7 w i k y).n->vS ((BS7 w i k y).g j):=by
 have hn:(BS7 w i k y).n=w.n-k+y.n:=by show i+y.n+(w.n-(i+k))=_;omega
 refine⟨hn,λj a=>?_⟩;rw[hn]at a;show vS (ite (j<i+y.n) (ite (j<i) (w.g j) (y.g (j-i))) (w.g (i+k+(j-(i+y.n)))))
 grind
def QU (N:Nat)(l:Law)(w:Sl Up)(i:Nat):Sl Up:=(Ak N l (w.sub i (i+l.If.n))).getD Sl.nil
def Bm (N:Nat)(l:Law)(w:Sl Up)(i:Nat):Sl Up:=BS7 w i l.If.n (QU N l w i)
def vOk {w:Sl Up}(h:wOk w):okW w:=⟨by have:=h.1;omega,λi a=>(h.2 i a).ok⟩
def KL (a:1000<=N){l:Law}(b:Cd3 l){w:Sl Up}(hw:∀j,j<w.n->vS (w.g j)){i:Nat}(d:i+l.If.n<=w.n) :Ak N l (w.sub i (i+l.If.n))=some (QU N l w i)/\EY N l (w.sub i (i+l.If.n))=some (QU N l w i)/\(QU N l w i).n=l.Out.n/\∀j,j<(QU N l w i).n->vS ((QU N l w i).g j):=by
 obtain⟨s,h1,f,m,o⟩:=BP5 a b (cut:=w.sub i (i+l.If.n)) (by grind) λj c=>(hw (i+j) (by have:j<i+l.If.n-i:=c;omega)).ok;have e:QU N l w i=s:=by grind[QU]
 rw[e];grind
def cat3 (a b c:Sl Up):BF4 (Sl.of [a,b,c]:Sl (Sl Up)) 3=(a.app b).app c:=by show ((Um.app a).app b).app c=_;rw[BS6 (s:=Um) rfl]
def Bk7 (d:1000<=N){a b c:Sl Up}(ha:a.n<=3000000)(hb:b.n<=3000000)(hc:c.n<=3000000):B9 N (Sl.of [a,b,c]:Sl (Sl Up))=some ((a.app b).app c):=by
 have h:=AA7 (N:=N) (s:=(Sl.of [a,b,c]:Sl (Sl Up))) (by grind) d (by grind);rw[h]
 simp_all[congrArg,cat3]
def IT (a:1000<=N){l:Law}(b:Cd3 l){w:Sl Up}(c:w.n<1000)(hw:∀j,j<w.n->vS (w.g j)){i:Nat}(d:i+l.If.n<=w.n) :Bz N l w i=some (Bm N l w i)/\BG N l w i=some (Bm N l w i):=by
 obtain⟨h1,f,m,o⟩:=KL a b hw d;have q:=b.1;constructor
 .unfold Bz;rw[GP (by omega),Fp,Us,Us,h1,Cd8,Fp,
   Bk7 a (by grind) (by omega) (by grind)]
  rfl
 unfold BG;rw[GP (by omega),Us,Us,BS6 (s:=Un) rfl,Ge,Fp,f,Cd8,
  Ge,Ge]
 rfl
def SE {α : Type}(s t:Sl α):Prop:=s.n=t.n/\∀i,i<s.n->s.g i=t.g i
def SE.refl {α : Type}(s:Sl α):SE s s:=⟨rfl,λ_ _=>rfl⟩
def SE.symm {α : Type}{s t:Sl α}(h:SE s t):SE t s:=⟨h.1.symm,λi a=>(h.2 i (by rw[h.1];omega)).symm⟩
def SE.trans {α : Type}{s t u:Sl α}(h:SE s t)(h' : SE t u):SE s u:=⟨h.1.trans h'.1,λi a=>(h.2 i a).trans (h'.2 i (by rw[<- h.1];omega))⟩
def SE.app {α : Type}{s t u v:Sl α}(h:SE s t)(h' : SE u v):SE (s.app u) (t.app v):=⟨by show s.n+u.n=t.n+v.n;rw[h.1,h'.1],λi a=>by
 show (ite (i<s.n) (s.g i) (u.g (i-s.n)))=if i<t.n then t.g i else v.g (i-t.n)
 have a:i<s.n+u.n:=a;rw[<- h.1];split
 .exact h.2 i (by omega)
 exact h'.2 _ (by omega)⟩
def SE.drop {α : Type}{s t:Sl α}(h:SE s t)(k:Nat):SE (s.drop k) (t.drop k):=⟨by show s.n-k=t.n-k;rw[h.1],λi a=>by have a:i<s.n-k:=a;exact h.2 _ (by omega)⟩
def SE.take {α : Type}{s t:Sl α}(h:SE s t){k:Nat}(hk:k<=s.n):SE (s.take k) (t.take k):=⟨rfl,λi a=>h.2 i (by have a:i<k:=a;omega)⟩
def SE.sub {α : Type}{s t:Sl α}(h:SE s t){a b:Nat}(hk:b<=s.n):SE (s.sub a b) (t.sub a b):=⟨rfl,λi c=>h.2 _ (by have c:i<b-a:=c;omega)⟩
def SE.v {s t:Sl Up}(h:SE s t)(a:∀j,j<s.n->vS (s.g j)):∀j,j<t.n->vS (t.g j):=λj b=>by rw[<- h.2 j (by rw[h.1];omega)];exact a j (by rw[h.1];omega)
def SE.wOk {s t:Sl Up}(h:SE s t)(a:wOk s):wOk t:=⟨by rw[<- h.1];exact a.1,h.v a.2⟩
def Zh {w w' : Sl Up}(h:SE w w'):∀p:Pat,PR w p=PR w' p
 |.nil=>rfl
 |.mk kind is no mn mx m g=>by
  have ih:(λi=>PR w (g i))=λi=>PR w' (g i):=funext λi=>Zh h (g i);have ih1:∀i,PR w (g i)=PR w' (g i):=λi=>congrFun ih i;have e1:∀a,(a<w.n↔a<w'.n):=λa=>by rw[h.1]
  funext a b;unfold PR;rw[ih];simp only[ih1,<- h.1];by_cases ha:a<w.n
  .rw[h.2 a ha]
  grind
def Po {l:Law}{w w' : Sl Up}(h:SE w w'){i:Nat}:AI6 l w i↔AI6 l w' i:=by
 suffices H:∀{w w' : Sl Up},SE w w' -> AI6 l w i->AI6 l w' i by exact⟨H h,H h.symm⟩
 intro w w' h;rintro⟨h1,n,c,d,f,o,⟨a,ha,g⟩,b,hb,m⟩;have hn:=h.1;refine⟨by omega,λj q=>?_,c,d,h.wOk f,by omega,⟨a,by omega,?_⟩,b,by omega,?_⟩
 .rw[<- h.2 (i+j) (by omega)];grind
 .rw[<- Zh h];omega
 rw[<- Zh h];omega
def Bk8 {l:Law}{c c' : Sl Up}(h:SE c c'):Ak N l c=Ak N l c':=by
 unfold Ak;congr 1;funext self x1 x2;by_cases h1:(decide (x2<(l.Out.n:Int)))=true
 case neg=>rw[Js h1,Js h1]
 rw[Jk h1,Jk h1,<- h.1];have e1:∀y:Int,(0:Int)<=y->y<(c.n:Int)->c.g y.toNat=c'.g y.toNat:=λy b h1=>h.2 _ (by omega);by_cases a:(0:Int)<=x2/\x2<(l.Out.n:Int)
 case neg=>rw[Js a,Js a]
 rw[Jk a,Jk a];split
 .rename_i d;have e2:(⟨(ite (decide (0<=(l.Out.g x2.toNat).From)) ((c.g (l.Out.g x2.toNat).From.toNat).Plus) 0),(ite (decide (0<=(l.Out.g x2.toNat).From)) ((c.g (l.Out.g x2.toNat).From.toNat).Minus) 0)⟩:Up) =
   ⟨(ite (decide (0<=(l.Out.g x2.toNat).From)) ((c'.g (l.Out.g x2.toNat).From.toNat).Plus) 0),(ite (decide (0<=(l.Out.g x2.toNat).From)) ((c'.g (l.Out.g x2.toNat).From.toNat).Minus) 0)⟩:=by
   grind
  rw[e2]
  grind
 rfl
def TR {l:Law}{w w' : Sl Up}(h:SE w w'){i:Nat}(a:i+l.If.n<=w.n):QU N l w i=QU N l w' i:=by unfold QU;rw[Bk8 (h.sub a)]
def Qv {l:Law}{w w' : Sl Up}(h:SE w w'){i:Nat}(a:i+l.If.n<=w.n):SE (Bm N l w i) (Bm N l w' i):=by unfold Bm BS7;rw[TR h a];exact ((h.take (by omega)).app (SE.refl _)).app (h.drop _)
def RL:List (Int×Sl Up)->List (Int×Sl Up)->Prop
 |[],[]=>True
 |(p,v)::L,(q,u)::M=>p=q/\SE v u/\RL L M
 |_,_=>False
def Ox:Sl Int->Sl (Sl Up)->List (Int×Sl Up)->Sl Int×Sl (Sl Up)×Int
 |x,y,[]=>(x,y,0)
 |x,y,(p,v)::L=>ite (32<v.n) (Sl.nil,Sl.nil,11) (Ox (x.push p) (y.push v) L)
def vL (L:Ai2):Prop:=∀x∈L,∀j,j<x.2.n->vS (x.2.g j)
def AI8:vL []:=λx hx=>Ke hx (by simp)
def AA8 {x:Int×Sl Up}{L:Ai2}(h:∀j,j<x.2.n->vS (x.2.g j))(hL:vL L):vL (x::L):=λy hy=>by
 rcases Ci2.1 hy with rfl|hy
 .exact h
 exact hL y hy
abbrev Al5 (N:Nat)(l:Law):=BS0 N l (l.If.n:Int) (l.Out.n:Int)
def Bk9 (y:3000<=N){l:Law}(hf:Cd4 l):∀(m:Nat) (w w' : Sl Up) (i:Nat),SE w w' -> w.n<=100->(∀j,j<w.n->vS (w.g j))->i<=200->w.n+1<=i+m ->
 ∃L L',(∀M,m<M->U1 M (Al5 N l) w i=some L)/\vL L/\L.length<=m/\RL L L' /\ ∀M x2 x3,m<M->x2.n+m<=1000->x3.n+m<=1000->AW9 M (WH N l) w' x2 x3 i=some (Ox x2 x3 L'):=by
 obtain⟨hl,_,_,hk,r,hko,_,_⟩:=hf;have h6:=r.1;intro m
 induction m with
 |zero=>
  intro w w' i a hn c hi hm;have s:=a.1;refine⟨[],[],λM d=>?_,AI8,Ce5 _,trivial,λM x2 x3 d _ _=>?_⟩
  .obtain⟨M,rfl⟩:∃K,M=K+1:=⟨M-1,by omega⟩;rw[H4,Al5,BS0,GP (by omega),Iw]
  obtain⟨M,rfl⟩:∃K,M=K+1:=⟨M-1,by omega⟩;rw[AO,WH,GP (by omega),Iw,Ox]
 |succ m ih=>
  intro w w' i a hn c hi hm;have s:=a.1;by_cases hle:i+l.If.n<=w.n
  case neg=>
   refine⟨[],[],λM d=>?_,AI8,by simp,trivial,λM x2 x3 d _ _=>?_⟩
   .obtain⟨M,rfl⟩:∃K,M=K+1:=⟨M-1,by omega⟩;rw[H4,Al5,BS0,GP (by omega),Iw]
   obtain⟨M,rfl⟩:∃K,M=K+1:=⟨M-1,by omega⟩;rw[AO,WH,GP (by omega),Iw,Ox]
  have hw:okW w:=⟨by omega,λj t=>(c j t).ok⟩;have o:=a.v c;have u : okW w':=⟨by omega,λj t=>(o j t).ok⟩;obtain⟨b,e1,h1⟩:=Bk4 y hl hk hw i (by omega);obtain⟨b',e2,h2⟩:=Zg y hl hk u i (by omega);obtain rfl:b' = b:=by rw[Cf7,h1,h2,Po a]
  cases b'
  .obtain⟨L,L',g1,g2,g3,g5,g4⟩:=ih w w' (i+1) a hn c (by omega) (by omega);refine⟨L,L',λM d=>?_,g2,by omega,g5,λM x2 x3 d hx hy=>?_⟩
   .obtain⟨M,rfl⟩:∃K,M=K+1:=⟨M-1,by omega⟩;rw[H4,Al5,BS0,GP (by omega),Ge,e1,Cd8,Jk nf,Fl]
    grind
   obtain⟨M,rfl⟩:∃K,M=K+1:=⟨M-1,by omega⟩;rw[AO,WH,GP (by omega),Ge,e2,Cd8,Jk nf,Fl]
   grind
  have x:=h1.1 rfl;have z:=x.2.2.2.2.1.1;have r1:=(IT (N:=N) (by omega) r (by omega) c hle).1;have r2:=(IT (N:=N) (w:=w') (i:=i) (by omega) r (by omega) o (by omega)).2;have f:=Qv (N:=N) a hle;have hrn:=f.1;obtain⟨_,_,p3,p4⟩:=KL (N:=N) (by omega) r c hle;obtain⟨q1,q2⟩:=Bk6 hle c p4;have q1:(Bm N l w i).n=w.n-l.If.n+l.Out.n:=by rw[<- p3];exact q1
  have q2:∀j,j<(Bm N l w i).n->vS ((Bm N l w i).g j):=q2;obtain⟨L,L',g1,g2,g3,g5,g4⟩:=ih (Bm N l w i) (Bm N l w' i) (ite (l.If.n=0) (i+l.Out.n+1) (i+l.Out.n)) f (by omega) q2 (by split<;>omega) (by split<;>omega);refine⟨((i:Int),Bm N l w i)::L,((i:Int),Bm N l w' i)::L',λM d=>?_,AA8 q2 g2,by grind,⟨rfl,f,g5⟩,λM x2 x3 d hx hy=>?_⟩
  .obtain⟨M,rfl⟩:∃K,M=K+1:=⟨M-1,by omega⟩;rw[H4,Al5,BS0,GP (by omega),Ge,e1,Cd8,Hh,r1,Cd8,GP (by omega),Fl];have g1:=g1 M (by omega);by_cases h0:l.If.n=0
   .rw[Jk h0]at g1;rw[Ge,g1];rfl
   rw[Js h0]at g1;rw[Iw,g1];rfl
  obtain⟨M,rfl⟩:∃K,M=K+1:=⟨M-1,by omega⟩;rw[AO,WH,GP (by omega),Ge,e2,Cd8,Hh,r2,Cd8,GP (by omega),Fl,Ox];by_cases q:32<(Bm N l w' i).n
  .rw[Ge,Jk q]
  rw[Iw,Js q,Ge];have g4:=g4 M (x2.push (i:Int)) (x3.push (Bm N l w' i)) (by omega) (by show x2.n+1+m<=_;omega) (by show x3.n+1+m<=_;omega)
  grind
abbrev Bz5 (N:Nat)(l:Law):=BY8 N l (l.If.n:Int)
def Bz6 (hN:3000<=N){l:Law}(hf:Cd4 l):∀(m:Nat) (w w' : Sl Up) (i:Int),SE w w' -> w.n<=100->(∀j,j<w.n->vS (w.g j)) -> -100<=i->i+1<=m->m<=200 ->
 ∃L L',(∀M,m<M->U1 M (Bz5 N l) w i=some L)/\vL L/\L.length<=m/\RL L L' /\ ∀M x2 x3,m<M->x2.n+m<=1000->x3.n+m<=1000->AW9 M (Bg3 N l) w' x2 x3 i=some (Ox x2 x3 L'):=by
 obtain⟨hl,_,_,hk,s,hko,_,_⟩:=hf;have h6:=s.1;intro m
 induction m with
 |zero=>
  intro w w' i a hn c hi hm u;have x:=a.1;refine⟨[],[],λM f=>?_,AI8,Ce5 _,trivial,λM x2 x3 f _ _=>?_⟩
  .obtain⟨M,rfl⟩:∃K,M=K+1:=⟨M-1,by omega⟩;rw[H4,Bz5,BY8,Iw]
  obtain⟨M,rfl⟩:∃K,M=K+1:=⟨M-1,by omega⟩;rw[AO,Bg3,Iw,Ox]
 |succ m ih=>
  intro w w' i a hn c hi hm u;have x:=a.1;by_cases hle:0<=i
  case neg=>
   grind
  obtain⟨k,rfl⟩:∃k:Nat,i=(k:Int):=⟨i.toNat,by omega⟩;have hw:okW w:=⟨by omega,λj y=>(c j y).ok⟩;have o:=a.v c;have z : okW w':=⟨by omega,λj y=>(o j y).ok⟩;obtain⟨b,e1,h1⟩:=Bk4 hN hl hk hw k (by omega);obtain⟨b',e2,h2⟩:=Zg hN hl hk z k (by omega);obtain rfl:b' = b:=by rw[Cf7,h1,h2,Po a]
  cases b'
  .obtain⟨L,L',g1,g2,g3,g5,g4⟩:=ih w w' ((k:Int)-1) a hn c (by omega) (by omega) (by omega);refine⟨L,L',λM f=>?_,g2,by omega,g5,λM x2 x3 f hx hy=>?_⟩
   .obtain⟨M,rfl⟩:∃K,M=K+1:=⟨M-1,by omega⟩;rw[H4,Bz5,BY8,Gd,e1,Cd8,Jk nf,Ut]
    grind
   obtain⟨M,rfl⟩:∃K,M=K+1:=⟨M-1,by omega⟩;rw[AO,Bg3,Gd,e2,Cd8,Jk nf,Ut]
   grind
  have q:=h1.1 rfl;have hle:=q.1;have hw32:=q.2.2.2.2.1.1;have r1:=(IT (N:=N) (by omega) s (by omega) c hle).1;have r2:=(IT (N:=N) (w:=w') (i:=k) (by omega) s (by omega) o (by omega)).2;have d:=Qv (N:=N) a hle;have hrn:=d.1;obtain⟨_,_,p3,p4⟩:=KL (N:=N) (by omega) s c hle;obtain⟨q1,q2⟩:=Bk6 hle c p4;have q1:(Bm N l w k).n=w.n-l.If.n+l.Out.n:=by rw[<- p3];exact q1
  have q2:∀j,j<(Bm N l w k).n->vS ((Bm N l w k).g j):=q2;obtain⟨L,L',g1,g2,g3,g5,g4⟩:=ih (Bm N l w k) (Bm N l w' k) (ite (l.If.n=0) ((k:Int)-1) ((k:Int)-l.If.n)) d (by omega) q2 (by split<;>omega) (by split<;>omega) (by omega);refine⟨((k:Int),Bm N l w k)::L,((k:Int),Bm N l w' k)::L',λM f=>?_,AA8 q2 g2,by grind,⟨rfl,d,g5⟩,λM x2 x3 f hx hy=>?_⟩
  .obtain⟨M,rfl⟩:∃K,M=K+1:=⟨M-1,by omega⟩;rw[H4,Bz5,BY8,Gd,e1,Cd8,Hh,r1,Cd8];have g1:=g1 M (by omega);by_cases t:l.If.n=0
   .rw[Jk t]at g1;rw[Fp,Ut,g1];rfl
   rw[Js t]at g1;rw[Gh,Ut,g1];rfl
  obtain⟨M,rfl⟩:∃K,M=K+1:=⟨M-1,by omega⟩;rw[AO,Bg3,Gd,e2,Cd8,Hh,r2,Cd8,Ox];by_cases r:32<(Bm N l w' k).n
  .rw[Ge,Jk r]
  rw[Iw,Js r,Ge];have g4:=g4 M (x2.push (k:Int)) (x3.push (Bm N l w' k)) (by omega) (by show x2.n+1+m<=_;omega) (by show x3.n+1+m<=_;omega);rw[Ut (n:=(k:Int)-(l.If.n:Int))];by_cases t:l.If.n=0
  .rw[Jk t]at g4;rw[Ge,Ut,show (k:Int)-(l.If.n:Int)-1=(k:Int)-1 by omega,g4]
  grind
abbrev QV (N:Nat)(l:Law)(q0:Sl Up):=Cd0 N l (l.If.n:Int) (l.Out.n:Int) q0
abbrev vW (s:Sl Up):Prop:=∀j,j<s.n->vS (s.g j)
def Al6 {x s:Sl Up}{i:Nat}(a:i<s.n):SE (x.app (s.drop i)) ((x.push (s.g i)).app (s.drop (i+1))):=⟨by grind,λj _=>by
 grind⟩
def Bz7 {a x t:Sl Up}(h:SE a (x.app t)):SE (a.take x.n) x:=⟨rfl,λj b=>by
 have b:j<x.n:=b;have hn:a.n=x.n+t.n:=h.1;have e:a.g j=ite (j<x.n) (x.g j) (t.g (j-x.n)):=h.2 j (by omega)
 rw[Jk b]at e;exact e⟩
def AI9 {N:Nat}{l:Law}{w:Sl Up}{K:AllS->Option Ai2}{acc:Sl Up}{next sh:Int}:∀(d i:Nat),((i+d:Nat):Int)<=next->T1 (Hm l w i) (QV N l w) K (acc,next,sh)=T1 (Hm l w (i+d)) (QV N l w) K (acc,next,sh)
 |0,i,_=>rfl
 |d+1,i,h=>by
  have ih:=AI9 (N:=N) (l:=l) (w:=w) (K:=K) (acc:=acc) (next:=next) (sh:=sh) d (i+1) (by omega);rw[show i+(d+1)=i+1+d by omega,<- ih];by_cases a:AI6 l w i
  .rw[Ov (by have:=a.1;omega) a];show QV N l w (T1 (Hm l w (i+1)) (QV N l w) K) (i:Int) (acc,next,sh)=_;unfold QV Cd0;rw[Ge]
  grind[Ow]
def BP6 {N:Nat}(hN:3000<=N){l:Law}(hf:Cd4 l){w w' : Sl Up}(b:SE w w')(hn:w.n<=32)(hv:vW w):∀(m i:Nat) (x4 acc:Sl Up) (sh next:Int),i<=w.n+1->w.n+1<=i+m ->
 (i<=w.n->SE acc (x4.app (w'.drop i))/\(x4.n:Int)=i+sh)->next<=i->x4.n<=7*i->vW acc -> -1000<=sh->sh<=1000 ->
 ∃L L',T1 (Hm l w i) (QV N l w) (λ_=>some []) (acc,next,sh)=some L/\vL L/\L.length<=m/\RL L L' /\ ∀M x2 x3,m<M->x2.n+m<=1000->x3.n+m<=1000->AW9 M (BM3 N l w') x2 x3 x4 i=some (Ox x2 x3 L'):=by
 obtain⟨hl,_,_,hk,ho,hko,_,_⟩:=hf;have h6:=ho.1;have hn':=b.1;have hw:okW w:=⟨by omega,λj hj=>(hv j hj).ok⟩;have o : vW w':=b.v hv;have hw' : okW w':=⟨by omega,λj hj=>(o j hj).ok⟩;have fin:∀(m i:Nat) (x4 acc:Sl Up) (sh next:Int),w.n<i->∃L L',T1 (Hm l w i) (QV N l w) (λ_=>some []) (acc,next,sh)=some L/\vL L/\L.length<=m/\RL L L' /\ ∀M x2 x3,m<M->x2.n+m<=1000->x3.n+m<=1000->AW9 M (BM3 N l w') x2 x3 x4 i=some (Ox x2 x3 L'):=by
  intro m i x4 acc sh next hi
  refine⟨[],[],by rw[Pm (by omega)];rfl,AI8,by simp,trivial,λM x2 x3 hM _ _=>?_⟩;obtain⟨M,rfl⟩:∃K,M=K+1:=⟨M-1,by omega⟩;rw[AO,BM3,Iw,Ox]
 intro m
 induction m with
 |zero=>exact λi x4 acc sh next h1 h2 _ _ _ _ _ _=>fin 0 i x4 acc sh next (by omega)
 |succ m ih=>
  intro i x4 acc sh next hi hm hx hnx h7 q r t
  by_cases hle:i<=w.n
  case neg=>grind
  obtain⟨d,hnn⟩:=hx hle;have han:acc.n=x4.n+(w.n-i):=by rw[d.1];grind
  obtain⟨b',e2,h2⟩:=Zg hN hl hk hw' i (by omega);have h2:=h2.trans (Po b).symm;cases b'
  .have hno:¬AI6 l w i:=(by grind);rw[Ow hno];by_cases u:i<w.n
   .obtain⟨L,L',g1,g2,g3,g5,g4⟩:=ih (i+1) (x4.push (w'.g i)) acc sh next (by omega) (by omega) (λ_=>⟨d.trans (Al6 (by omega)),by grind⟩) (by omega) (by grind) q r t
    refine⟨L,L',g1,g2,by omega,g5,λM x2 x3 hM hx hy=>?_⟩;obtain⟨M,rfl⟩:∃K,M=K+1:=⟨M-1,by omega⟩;rw[AO,BM3,Ge,e2,Cd8,Jk nf,lt,Ge,Ge,Fl,Us]
    grind
   obtain⟨L,L',g1,g2,g3,g5,g4⟩:=ih (i+1) x4 acc sh next (by omega) (by omega) (λh=>by omega) (by omega) (by omega) q r t
   refine⟨L,L',g1,g2,by omega,g5,λM x2 x3 hM hx hy=>?_⟩;obtain⟨M,rfl⟩:∃K,M=K+1:=⟨M-1,by omega⟩;rw[AO,BM3,Ge,e2,Cd8,Jk nf,lt,Iw,Fl]
   grind
  have x:=h2.1 rfl;have y:=x.1;rw[Ov hle x];obtain⟨p1,_,p3,p4⟩:=KL (N:=N) (by omega) ho hv y;obtain⟨_,p2,_,_⟩:=KL (N:=N) (w:=w') (i:=i) (by omega) ho o (by omega);rw[<- TR b y]at p2;generalize hY:QU N l w i=Y at p1 p2 p3 p4;have c:SE (((acc.take x4.n).app Y).app (w.drop (i+l.If.n))) ((x4.app Y).app (w'.drop (i+l.If.n))):=((Bz7 d).app (SE.refl _)).app (b.drop _);have f:vW (((acc.take x4.n).app Y).app (w.drop (i+l.If.n))):=(by grind);generalize hZ:(((acc.take x4.n).app Y).app (w.drop (i+l.If.n)))=Z at c f;have hZn:Z.n=x4.n+Y.n+(w.n-(i+l.If.n)):=by rw[<- hZ]
  obtain⟨L,L',g1,g2,g3,g5,g4⟩:=ih (ite (l.If.n=0) (i+1) (i+l.If.n)) (ite (l.If.n=0/\i<w.n) ((x4.app Y).push (w'.g i)) (x4.app Y)) Z (sh+l.Out.n-l.If.n) (ite (l.If.n=0) (i+1) (i+l.If.n):Nat)
   (by split<;>omega) (by split<;>omega)
   (λh=>by
    by_cases a:l.If.n=0
    .rw[Jk a]at h;rw[Jk a,Jk ⟨a,by omega⟩];rw[a]at c;exact⟨c.trans (Al6 (by omega)),by grind⟩
    rw[Js a,Gh]
    grind)
   (by omega)
   (by
    grind)
   f (by omega) (by omega)
  refine⟨((i:Int),Z)::L,((i:Int),(x4.app Y).app (w'.drop (i+l.If.n)))::L', ?_,AA8 f g2,by grind,⟨rfl,c,g5⟩,λM x2 x3 hM hx hy=>?_⟩
  .show QV N l w (T1 (Hm l w (i+1)) (QV N l w) λ_=>some []) (i:Int) (acc,next,sh)=_;unfold QV Cd0;have es:wrap .i64 ((i:Int)+sh)=((x4.n:Nat):Int):=by rw[Ut,hnn]
   simp only[es];rw[GP (by omega),Iw,Fp];simp only[Us];rw[p1,Cd8,Fp,Bk7 (by omega) (by grind) (by omega) (by grind),Cd8,hZ];have en:wrap .i64 ((i:Int)+(ite ((l.If.n:Int)<1) 1 (l.If.n:Int)))=((ite (l.If.n=0) (i+1) (i+l.If.n):Nat):Int):=by
    by_cases a:l.If.n=0
    .rw[Fp,Jk a,Ut];omega
    rw[Gh,Js a,Ut];omega
   have eh:wrap .i64 ((wrap .i64 (sh+(l.Out.n:Int)))-(l.If.n:Int))=sh+l.Out.n-l.If.n:=by rw[Ut (n:=sh+(l.Out.n:Int)),Ut]
   rw[en,eh];have sk:=AI9 (N:=N) (l:=l) (w:=w) (K:=λ_=>some []) (acc:=Z) (next:=((ite (l.If.n=0) (i+1) (i+l.If.n):Nat):Int)) (sh:=sh+l.Out.n-l.If.n) (ite (l.If.n=0) 0 (l.If.n-1)) (i+1) (by split<;>omega);rw[show i+1+(ite (l.If.n=0) 0 (l.If.n-1))=(ite (l.If.n=0) (i+1) (i+l.If.n)) by split<;>omega]at sk;show BI _ (T1 (Hm l w (i+1)) (QV N l w) (λ_=>some []) (Z,_,_))=_;rw[sk,g1];rfl
  obtain⟨M,rfl⟩:∃K,M=K+1:=⟨M-1,by omega⟩;have hdn:((x4.app Y).app (w'.drop (i+l.If.n))).n=x4.n+Y.n+(w'.n-(i+l.If.n)):=rfl;rw[AO,BM3,Ge,e2,Cd8,Hh,GP (by omega),Fp];simp only[Us];rw[p2,Cd8,Fp,Jk (by show (x2.n+1)*8<=_/\x2.n+1<=_;omega)];rw[Jk ⟨⟨by show (0+(x4.n+Y.n))*8<=_/\0+(x4.n+Y.n)<=_;omega,by omega⟩,by simp only[Cq0];omega⟩,Ox];by_cases z:32<((x4.app Y).app (w'.drop (i+l.If.n))).n
  .rw[Ge,Jk z]
  rw[Iw,Js z,BS6 (s:=Un) rfl,Jk (by show (x3.n+1)*24<=_/\x3.n+1<=_;omega)];have g4:=g4 M (x2.push (i:Int)) (x3.push ((x4.app Y).app (w'.drop (i+l.If.n)))) (by omega) (by show x2.n+1+m<=_;omega) (by show x3.n+1+m<=_;omega);by_cases a:l.If.n=0
  .rw[Ge];rw[Jk a]at g4;by_cases u:i<w.n
   .rw[Jk ⟨a,u⟩]at g4;rw[Ge,Jk ⟨by omega,by grind⟩,Fl,show w'.g (i+l.If.n)=w'.g i by rw[a];rfl,show i+l.If.n+1=i+1 by omega];omega
   rw[Gh]at g4;rw[Iw,Fl,show i+l.If.n+1=i+1 by omega];omega
  rw[Iw];rw[Js a,Gh]at g4;omega
def trS (r r' : BE2):Prop:=r.1=r'.1/\r.2.1.n=r'.2.1.n/\(∀i,i<r.2.1.n->SE (r.2.1.g i) (r'.2.1.g i))/\r.2.2=r'.2.2
def BF6:∀(L L' : Ai2) (x:Sl Int) (y y' : Sl (Sl Up)),RL L L' -> y.n=y'.n->(∀i,i<y.n->SE (y.g i) (y'.g i))->trS (Ox x y L) (Ox x y' L')
 |[],[],x,y,y',_,h1,h2=>⟨rfl,h1,h2,rfl⟩
 |(p,v)::L,(q,u)::M,x,y,y',⟨h3,h4,h5⟩,h1,h2=>by
  subst h3;unfold Ox;rw[<- h4.1];split
  .exact⟨rfl,rfl,by grind,rfl⟩
  refine BF6 L M _ _ _ h5 (by grind) λi a=>?_;have a:i<y.n+1:=a
  grind
 |[],_::_,_,_,_,h,_,_=>h.elim
 |_::_,[],_,_,_,h,_,_=>h.elim
def Bl0:∀(L:Ai2) (x:Sl Int) (y:Sl (Sl Up)),vL L->(∀i,i<y.n->wOk (y.g i))->(Ox x y L).2.2=11 \/ ((Ox x y L).2.2=0/\(Ox x y L).2.1.n<=y.n+L.length/\∀i,i<(Ox x y L).2.1.n->wOk ((Ox x y L).2.1.g i))
 |[],x,y,_,h=>.inr ⟨rfl,Ce5 _,h⟩
 |(p,v)::L,x,y,hv,h=>by
  unfold Ox;split
  .grind
  have:=Bl0 L (x.push p) (y.push v) (λz a=>hv z (by grind)) λi b=>by
   show wOk (ite (i<y.n) (y.g i) v);split
   .grind
   exact⟨by omega,hv (p,v) (by simp)⟩
  grind
theorem Al7:∀(L:Ai2) (x:Sl Int) (y:Sl (Sl Up)),x.n+L.length<=100000->y.n+L.length<=100000 ->
 T1 L (λ(a:Sl Int×Sl (Sl Up)->Option BE2) (x1:Int×(Sl Up)) (z1:(Sl Int)×(Sl (Sl Up)))=>
  if (decide (32<(x1.2.n:Int))) then
   some (Te,Uo,11)
  else
   if (Uq 8 (z1.1.n+(Sl.of [x1.1]:Sl Int).n))then
    if (Uq 24 (z1.2.n+(Sl.of [x1.2]:Sl (Sl Up)).n))then
     a (z1.1.push x1.1,z1.2.push x1.2)
    else none
   else none
  ) (λ(z1:(Sl Int)×(Sl (Sl Up)))=>
   some (z1.1,z1.2,0)
  ) (x,y)=some (Ox x y L)
 |[],x,y,_,_=>rfl
 |(p,v)::L,x,y,hx,hy=>by
  simp at hx hy;have ih:=Al7 L (x.push p) (y.push v) (by grind) (by grind);rw[T1,Ox]
  grind
def Bl1 {N:Nat}(m:3000000<=N){l:Law}(hl:Vh l)(hc:chkAll N l){w w' : Sl Up}(b:SE w w')(a:wOk w) :∃L L',Gn N l w=some (Ox Te Uo L)/\GE N l w' = some (Ox Te Uo L')/\RL L L' /\ vL L/\L.length<=100:=by
 obtain⟨e,e1,e2,o⟩:=Or m hl;obtain rfl:e=0:=(o.resolve_right λh=>h.2 hc).1;obtain⟨e',e3,g⟩:=Oq (N:=N) (by omega) (vOk a).2;obtain rfl:=(GH g).2 a;obtain⟨e'',e4,c⟩:=HW (N:=N) (by omega) (vOk (b.wOk a)).2;obtain rfl:=(GH c).2 (b.wOk a);unfold Gn GE IB IM;rw[e1,e2,Cd8,Cd8,Jh,Jh,e3,e4];simp only[Cd8];rw[Jh,Jh];have d:=hc.f hl;obtain⟨j,_,_,hk,x,q,r,s⟩:=id d;have hn:=a.1;have t:=b.1;have key:∃L L',Ed N w l (l.If.n:Int) (l.Out.n:Int)=some L/\vL L/\L.length<=100/\RL L L' /\
  (ite (l.Mode==1) ((KB N l w').bind λy2=>some (y2.1,y2.2.1,y2.2.2)) (ite (l.Mode==2) ((GD N l w').bind λy3=>some (y3.1,y3.2.1,y3.2.2)) ((FM N l w').bind λy4=>some (y4.1,y4.2.1,y4.2.2))))=some (Ox Te Uo L'):=by
  unfold Ed;by_cases c1:l.Mode=1
  .rw[Ge,Ge];obtain⟨L,L',g1,g2,g3,g5,g4⟩:=BP6 (N:=N) (by omega) d b hn a.2 (w.n+1) 0 Um w 0 0 (by omega) (by omega) (λ_=>⟨by rw[BS6 rfl];exact⟨b.1,λi u=>by rw[b.2 i u];grind⟩,rfl⟩) (by omega) (by grind) a.2 (by omega) (by omega);have v:=AI7 (N:=N) (by omega) j hk (w:=w) (vOk a) 0 (by omega);refine⟨L,L', ?_,g2,by omega,g5,?_⟩
   .show ((AX N l w ((0:Nat):Int)).bind λL1=>T1 L1 (QV N l w) (λ_=>some []) (w,0,0))=_;rw[v,Cd8];omega
   have:KB N l w' = some _:=g4 N Te Uo (by omega) (by grind) (by grind)
   rw[this];rfl
  rw[Iw,Js (show ¬(l.Mode==1)=true by simp[c1])];by_cases c2:l.Mode=2
  .rw[Ge,Ge];obtain⟨L,L',g1,g2,g3,g5,g4⟩:=Bk9 (N:=N) (by omega) d (w.n+1) w w' 0 b (by omega) a.2 (by omega) (by omega);refine⟨L,L',g1 N (by omega),g2,by omega,g5,?_⟩
   have:GD N l w' = some _:=g4 N Te Uo (by omega) (by grind) (by grind)
   rw[this];rfl
  have c3:l.Mode=3:=by omega
  rw[Iw,Js (show ¬(l.Mode==2)=true by simp[c2]),Ge];obtain⟨L,L',g1,g2,g3,g5,g4⟩:=Bz6 (N:=N) (by omega) d (w.n+1) w w' ((w.n:Int)-(l.If.n:Int)) b (by omega) a.2 (by omega) (by omega) (by omega);refine⟨L,L', ?_,g2,by omega,g5,?_⟩
  .rw[Ut];grind
  have g4:=g4 N Te Uo (by omega) (by show 0+_<=_;omega) (by show 0+_<=_;omega)
  have:FM N l w' = some (Ox Te Uo L'):=by
   grind[FM,wrap,F8]
  rw[this];rfl
 grind[Od,Ed,bind,Al7]
def Bl2 (i:3000000<=N){l:Law}(hl:Vh l)(hc:chkAll N l){w w' : Sl Up}(a:SE w w')(b:wOk w) :∃v v' e,CO N l w=some (v,e)/\GF N l w' = some (v',e)/\(e=11 \/ e=0/\SE v v' /\ wOk v):=by
 obtain⟨L,L',h1,d,j,m,z⟩:=Bl1 i hl hc a b;have hs:=BF6 L L' Te Uo Uo j rfl (by grind);have ht:=Bl0 L Te Uo m (by grind);generalize Ox Sl.nil Sl.nil L=r at h1 hs ht;generalize Ox Sl.nil Sl.nil L' = r' at d hs;obtain⟨x,y,e⟩:=r;obtain⟨x',y',e'⟩:=r';obtain⟨_,hn,hs,f⟩:=hs;dsimp only at hn hs f ht;subst f;unfold CO GF;rw[h1,d,Cd8,Cd8];dsimp only;rcases ht with rfl|⟨rfl,g,o⟩
 .grind
 rw[Iw,Js (show ¬((0:Int) != 0)=true by decide)];have g:y.n<=0+L.length:=g;have q:=b.1;have t:=a.1;by_cases hy:y.n=0
 .rw[Iw,Ge,Ge,BS6 (s:=Un) rfl];unfold B1;rw[Fp]
  grind
 have hk:=o (y.n-1) (by omega);have c:=hs (y.n-1) (by omega);have hb:=hk.1;have u:=c.1;have e1:wrap .i64 ((y.n:Int)-1)=((y.n-1:Nat):Int):=BZ5 (by omega) (by omega);have e2:wrap .i64 ((y'.n:Int)-1)=((y.n-1:Nat):Int):=by rw[<- hn];omega
 rw[e1,e2,Us,Ge,Fp,Iw,Ge,BS6 (s:=Un) rfl]
 grind
def contF {s:Sl Law}(c:s.n<N)(hs:s.n<1000000){f:Law->Option Bool}(d:∀i,i<s.n->f (s.g i)=some false):D4 N s f=some false:=by
 suffices h:∃y,E7 N s f=some y/\y = -1 by obtain⟨y,h,rfl⟩:=h;unfold D4;rw[h];rfl
 unfold E7;refine Z1 (λi x1=>x1=(i:Int)) s.n _ c rfl ?_;rintro b i x1 j rfl a;by_cases hl:i<s.n
 .exact Br (Af (B2 (by rw[Us];exact d i hl) (Dt (a hl _ (Fl)))))
 grind
def Al8 (f:3000000<=N){laws:Sl Law}(hl:WM laws)(a:Qu N laws):Cm N laws=some 0/\Em N laws=some 0:=by
 have j:=a.1;have hc:∀i,i<laws.n->Z9 N (laws.g i)=some 0/\Ac N (laws.g i)=some 0:=λi c=>by
  obtain⟨e,e1,e2,l⟩:=Or f (hl i c);obtain rfl:e=0:=(l.resolve_right λh=>h.2 (a.2 i c)).1
  grind
 constructor
 .unfold Cm;rw[Iw,contF (by omega) (by omega) λi c=>by grind[Cx]];rfl
 suffices h:∃y,Em N laws=some y/\y=0 by grind
 unfold Em;refine Fe (Z1 (λi x1=>x1=(i:Int)) laws.n _ (by omega) rfl ?_);rintro d i x1 c rfl hs;by_cases b:i<laws.n
 .exact Br (Af (B2 (by rw[Us];exact (hc i b).2) (Du (hs b _ (Fl)))))
 grind
def Mm (N:Nat)(c:Int)(q1:Sl Law)(a:Sl Up->Int->Option Ai2)(x1:Sl Up)(x2:Int):Option Ai2:= ite (decide (x2<(q1.n:Int))) (ite ((0:Int)<=x2/\x2<(q1.n:Int)) ((CO N (q1.g x2.toNat) x1).bind λy4=>ite (y4.2 != 0) (ite (y4.2=c) (some []) none) (BI (wrap .i64 (x2+1),y4.1) (a y4.1 (wrap .i64 (x2+1))))) none) (ite (c=0) (some []) none)
def GJ {c:Int}{laws:Sl Law}{a:Sl Up->Int->Option Ai2}{w:Sl Up}{i:Nat}(d:i<laws.n)(b:laws.n<=64){y:Sl Up×Int}(h:CO N (laws.g i) w=some y) :Mm N c laws a w (i:Int)=ite (y.2 != 0) (ite (y.2=c) (some []) none) (BI (((i+1:Nat):Int),y.1) (a y.1 ((i+1:Nat):Int))):=by unfold Mm;rw[Ge,Fp,Us,h,Cd8,Fl]
def AV8:Sl Up->Ai2->Sl Up
 |w,[]=>w
 |_,(_,v)::L=>AV8 v L
def Zi:∀(L:Ai2) (w:Sl Up),T1 L (λ(a:Sl Up->Option (Sl Up)) (x1:Int×(Sl Up)) (z1:Sl Up)=>a x1.2) (λ(z1:Sl Up)=>some z1) w=some (AV8 w L)
 |[],w=>rfl
 |(p,v)::L,w=>Zi L v
def Bl3 (o:3000000<=N){laws:Sl Law}(hl:WM laws)(j:Qu N laws):∀(m i:Nat) (w w' : Sl Up),SE w w' -> wOk w->i<=laws.n->laws.n<=i+m ->
 (∃L v',SE (AV8 w L) v' /\ wOk (AV8 w L)/\(∀M,m<M->U1 M (Mm N 0 laws) w i=some L)/\∀M x2,m<M->x2.n=i+1->x2.g i=w' -> ∃y,U1 M (Ok N laws) x2 i=some (y,0)/\y.n=laws.n+1/\y.g laws.n=v') \/
 ((∃L,∀M,m<M->U1 M (Mm N 0 laws) w i=none/\U1 M (Mm N 11 laws) w i=some L)/\∀M x2,m<M->x2.n=i+1->x2.g i=w' -> U1 M (Ok N laws) x2 i=some (Uo,11)):=by
 have b:=j.1;intro m
 induction m with
 |zero=>
  intro i w w' c hw q hm;refine .inl ⟨[],w',c,hw,λM d=>?_,λM x2 d hx f=>⟨x2,?_,by omega,by rw[<- f];grind⟩⟩
  .obtain⟨M,rfl⟩:∃K,M=K+1:=⟨M-1,by omega⟩;rw[H4,Mm,Iw,Jk rfl]
  obtain⟨M,rfl⟩:∃K,M=K+1:=⟨M-1,by omega⟩;rw[H4,Ok,Iw]
 |succ m ih=>
  intro i w w' c hw q hm;by_cases a:i<laws.n
  case neg=>
   refine .inl ⟨[],w',c,hw,λM d=>?_,λM x2 d hx f=>⟨x2,?_,by omega,by rw[<- f];grind⟩⟩
   .obtain⟨M,rfl⟩:∃K,M=K+1:=⟨M-1,by omega⟩;rw[H4,Mm,Iw,Jk rfl]
   obtain⟨M,rfl⟩:∃K,M=K+1:=⟨M-1,by omega⟩;rw[H4,Ok,Iw]
  obtain⟨v,v',e,h1,l,r⟩:=Bl2 o (hl i a) (j.2 i a) c hw;rcases r with rfl|⟨rfl,s,t⟩
  .refine .inr ⟨⟨[],λM d=>?_⟩,λM x2 d hx f=>?_⟩
   .obtain⟨M,rfl⟩:∃K,M=K+1:=⟨M-1,by omega⟩;rw[H4,H4,GJ a b h1,GJ a b h1]
    grind
   obtain⟨M,rfl⟩:∃K,M=K+1:=⟨M-1,by omega⟩;rw[H4,Ok,Ge,Fp,Us,f,l,Cd8,Gd]
  rcases ih (i+1) v v' s t (by omega) (by omega)with⟨L,u,g1,g2,g3,g4⟩ | ⟨⟨L,g1⟩,g2⟩
  .refine .inl ⟨((i+1:Nat),v)::L,u,g1,g2,λM d=>?_,λM x2 d hx f=>?_⟩
   .obtain⟨M,rfl⟩:∃K,M=K+1:=⟨M-1,by omega⟩;rw[H4,GJ a b h1,Hh]
    grind[BI,U1,Mm]
   obtain⟨M,rfl⟩:∃K,M=K+1:=⟨M-1,by omega⟩;rw[H4,Ok,Ge,Fp,Us,f,l,Cd8,Hh,Ge,Fl]
   simp_all
  refine .inr ⟨⟨((i+1:Nat),v)::L,λM d=>?_⟩,λM x2 d hx f=>?_⟩
  .obtain⟨M,rfl⟩:∃K,M=K+1:=⟨M-1,by omega⟩;obtain⟨a1,a2⟩:=g1 M (by omega);rw[H4,H4,GJ a b h1,GJ a b h1,Hh,Hh]
   grind[BI,U1,Mm]
  obtain⟨M,rfl⟩:∃K,M=K+1:=⟨M-1,by omega⟩;rw[H4,Ok,Ge,Fp,Us,f,l,Cd8,Hh,Ge,Fl]
  grind
def Bz8 {w:Sl Up}(d:w.n<N)(hs:w.n<10000000):∃y,FI N w=some y/\SE w y:=by
 suffices h:∃y,FI N w=some y/\y=FA w.g w.n by obtain⟨y,h,rfl⟩:=h;exact⟨_,h,(Pn _ _).symm,λi b=>(AA6 w.g b).symm⟩
 unfold FI;refine S9 (λi x1 x2=>x2=(i:Int)/\x1=FA w.g i) w.n _ d ⟨rfl,rfl⟩ ?_;rintro c i x1 x2 b ⟨rfl,rfl⟩ a;by_cases hl:i<w.n
 .have:=Pn w.g i
  refine Br (Br (a hl _ _ ⟨Fl,by rw[Us];rfl⟩))
 grind
def Pp (l:3000000<=N){laws:Sl Law}(hl:WM laws)(f:Qu N laws){w w' : Sl Up}(j:SE w w')(b:wOk w) :∃v v' e,N7 N laws w=some (v,e)/\Di N laws w' = some (v',e)/\(e=11 \/ e=0/\SE v v' /\ wOk v):=by
 have r:=f.1;obtain⟨e,e3,s⟩:=Oq (N:=N) (by omega) (vOk b).2;obtain rfl:=(GH s).2 b;have d:=j.wOk b;obtain⟨e',e4,m⟩:=HW (N:=N) (by omega) (vOk d).2;obtain rfl:=(GH m).2 d;have e1:Aw N laws (Sl.of [w]:Sl (Sl Up))=some 0:=by
  suffices h:∃y,Aw N laws (Sl.of [w]:Sl (Sl Up))=some y/\y=0 by grind
  unfold Aw;refine B2 (Al8 l hl f).1 (Du (Fe ?_));refine Z1 (λi x1=>x1=(i:Int)) 1 _ (by omega) rfl ?_;rintro o i x1 x rfl hs;by_cases t:i<1
  .obtain rfl:i=0:=by omega
   exact Br (Br (B2 e3 (Du (hs (by omega) _ rfl))))
  grind
 have u:=b.1;have q:=d.1;obtain⟨y4,c1,c2⟩:=Bz8 (N:=N) (w:=w') (by omega) (by omega);have g:∀c,K8 N c laws w=(BI (0,w) (U1 N (Mm N c laws) w ((0:Nat):Int))).bind λL1=>T1 L1 (λ(a:Sl Up->Option (Sl Up)) (x1:Int×(Sl Up)) (z1:Sl Up)=>a x1.2) (λ(z1:Sl Up)=>some z1) Um:=by intro c;unfold K8 Eu Cy B1;rw[Cd8,Ge,Cd8];rfl
 unfold N7 Di IN Cz;rw[e1,(Al8 l hl f).2,Cd8,Cd8,lt,Jk (show ((0:Int)==0)=true from rfl),e4,Cd8];dsimp only;rw[Iw,Iw,c1,Cd8,g,g];rcases Bl3 l hl f laws.n 0 w y4 (j.trans c2) b (by omega) (by omega)with⟨L,v',g1,g2,g3,g4⟩ | ⟨⟨L,g1⟩,g2⟩
 .obtain⟨y,d1,d2,d3⟩:=g4 N (Sl.of [y4]:Sl (Sl Up)) (by omega) rfl rfl;rw[g3 N (by omega)]
  have:(BI (0,w) (some L)).bind (λL1=>T1 L1 (λ(a:Sl Up->Option (Sl Up)) (x1:Int×(Sl Up)) (z1:Sl Up)=>a x1.2) (λ(z1:Sl Up)=>some z1) Um)=some (AV8 w L):=Zi _ _
  rw[this];refine⟨_,v',0,rfl,?_,by grind⟩;show Option.bind (U1 N (Ok N laws) (Sl.of [y4]:Sl (Sl Up)) ((0:Nat):Int)) _=_;rw[d1,Cd8,Hh];have ew:wrap .i64 ((y.n:Int)-1)=((laws.n:Nat):Int):=by rw[d2,Ut];omega
  grind
 obtain⟨g3,g4⟩:=g1 N (by omega);rw[g3,g4]
 have:(BI (0,w) (some L)).bind (λL1=>T1 L1 (λ(a:Sl Up->Option (Sl Up)) (x1:Int×(Sl Up)) (z1:Sl Up)=>a x1.2) (λ(z1:Sl Up)=>some z1) Um)=some (AV8 w L):=Zi _ _
 rw[this];refine⟨_,Um,11,rfl,?_,.inl rfl⟩
 grind
def pk (h:Yc)(l:Sl Int):Nat->Sl Law
 |0=>Sl.nil
 |i+1=>(pk h l i).push (h.Laws.g (l.g i).toNat)
theorem BF7 (h:Yc)(l:Sl Int):∀i,(pk h l i).n=i
 |0=>rfl
 |i+1=>congrArg (· + 1) (BF7 h l i)
def pk_g (h:Yc)(l:Sl Int):∀{m i:Nat},i<m->(pk h l m).g i=h.Laws.g (l.g i).toNat
 |m+1,i,hi=>by
  show (ite (i<(pk h l m).n) ((pk h l m).g i) _)=_;rw[BF7];split
  .exact pk_g h l (by omega)
  grind
def lw (h:Yc)(v:Nat):Sl Law:=pk h (N2 h v) (N2 h v).n
def Zj {N:Nat}{h:Yc}(a:AF N h):∀(m v:Nat),v<=m->v<h.Tree.n->∀i,i<(N2 h v).n->0<=(N2 h v).g i/\(N2 h v).g i<h.Laws.n
 |m,v,hm,hv,i,b=>by
  have An8:=(Al2 a hv).2;rcases Ar a.tree hv with⟨_,e⟩ | ⟨p,hp,e⟩
  .rw[AB (by omega)]at b⊢;have b:i<0+(h.On.g v).n:=b
   grind
  rw[EA e hp]at b⊢;have b:i<(N2 h p).n+(h.On.g v).n:=b;show 0<=(ite (i<(N2 h p).n) ((N2 h p).g i) ((h.On.g v).g (i-(N2 h p).n)))/\(ite (i<(N2 h p).n) ((N2 h p).g i) ((h.On.g v).g (i-(N2 h p).n)))<_;split
  .match m with
   |0=>omega
   |m+1=>exact Zj a m p (by omega) (by omega) i (by omega)
  grind
def Bz9 {h:Yc}(d:Q6 h)(a:AF N h){v:Nat}(l:v<h.Tree.n):(N2 h v).n<=64/\WM (lw h v)/\Qu N (lw h v):=by
 have b:(N2 h v).n<=64:=Ct1 λf=>a.long ⟨v,by rw[a.on];omega,f⟩;have e:∀i,i<(lw h v).n->∃j,j<h.Laws.n/\(lw h v).g i=h.Laws.g j:=λi hl=>by
  have hl:i<(N2 h v).n:=by rw[<- BF7 h (N2 h v) (N2 h v).n];exact hl
  have:=Zj a v v (Ce5 _) l i hl
  exact⟨_,by omega,pk_g h _ hl⟩
 refine⟨b,λi hl=>?_,by grind[lw,BF7],λi hl=>?_⟩
 .obtain⟨j,c,e⟩:=e i hl;rw[e];exact d.laws j c
 obtain⟨j,c,e⟩:=e i hl;rw[e];exact a.laws.2 j c
def Bl4 (t:Sl Node)(v:Nat):List Nat:= if hp:0<=(t.g v).Ye/\(t.g v).Ye<v then Bl4 t (t.g v).Ye.toNat++[v]else [v]
termination_by v
decreasing_by omega
def TT {t:Sl Node}{v:Nat}(a:(t.g v).Ye<0):Bl4 t v=[v]:=by rw[Bl4,dif_neg (by omega)]
theorem AA9 {t:Sl Node}{v p:Nat}(a:(t.g v).Ye=(p:Int))(hp:p<v):Bl4 t v=Bl4 t p++[v]:=by rw[Bl4,dif_pos (by omega),a,Us]
def Bl5 {t:Sl Node}(ht:Bl t):∀(m v:Nat),v<=m->v<t.n->(Bl4 t v).length<=v+1/\∀x∈Bl4 t v,x<=v
 |m,v,hm,hv=>by
  rcases Ar ht hv with⟨_,e⟩ | ⟨p,hp,e⟩
  .rw[TT (by omega)]
   grind
  rw[AA9 e hp]
  match m with
  |0=>omega
  |m+1=>
   obtain⟨h1,a⟩:=Bl5 ht m p (by omega) (by omega)
   grind
theorem TU {α : Type}(s:Sl α)(a : α):(s.push a).toList=s.toList++[a]:=by
 unfold Sl.toList;show (List.range (s.n+1)).map (λi=>ite (i<s.n) (s.g i) a)=_;rw[Cl1,Cl2]
 simp_all
def BA0 {α : Type}{x:Sl α}{m:Nat}(h:x.n=m+1):x.toList.reverse=x.g m::(x.take m).toList.reverse:=by
 grind[Sl.toList,List.range_succ,List.reverse_append]
def AJ0 {x2:Sl Int}(hx:x2.n<100000):∀(k M:Nat),k<=x2.n->k<M->N3 M (λ(a:Int->Option (List Int)) (x3:Int)=>
 if (decide (0<=x3)) then
  if (((0:Int)<=x3/\x3<(x2.n:Int))/\x3.toNat<x2.n)then
   BI (x2.g x3.toNat) (
    a (wrap .i64 (x3-1))
    )
  else none
 else
  some []
 ) ((k:Int)-1)=some (x2.take k).toList.reverse
 |0,M,hk,hM=>by obtain⟨M,rfl⟩:∃K,M=K+1:=⟨M-1,by omega⟩;rw[U2,Hh];rfl
 |k+1,M,hk,hM=>by obtain⟨M,rfl⟩:∃K,M=K+1:=⟨M-1,by omega⟩;rw[show ((k+1:Nat):Int)-1=(k:Int) by omega,U2,Gd,Fp,Ut,AJ0 hx k M (by omega) (by omega),Us,BA0 (x:=x2.take (k+1)) (m:=k) rfl];rfl
def BP7 (j:3000000<=N){t:Sl Node}(ht:Bl t){v:Nat}(f:v<t.n):Y5 N (v:Int) t=some ((Bl4 t v).map λ(x:Nat)=>(x:Int)):=by
 have i:=ht.2.1;have key:∀(m c:Nat) (x2:Sl Int) (M:Nat),c<m->c<t.n->m+1<M->x2.n+c<=1000->∃y:Sl Int,y.n<=1001/\y.toList.reverse=((Bl4 t c).map λ(x:Nat)=>(x:Int))++x2.toList.reverse /\
  U1 M (λ(a:Int->Sl Int->Option (List Int)) (x1:Int) (x2:Sl Int)=>
  if (decide (0<=x1)) then
   if ((Uq 8 (x2.n+(Sl.of [x1]:Sl Int).n))/\((0:Int)<=x1/\x1<(t.n:Int)))then
    a (t.g x1.toNat).Ye (x2.push x1)
   else none
  else
   N3 N (λb (x3:Int)=>
    if (decide (0<=x3)) then
     if (((0:Int)<=x3/\x3<(x2.n:Int))/\x3.toNat<x2.n)then
      BI (x2.g x3.toNat) (
       b (wrap .i64 (x3-1))
       )
     else none
    else
     some []
    ) (wrap .i64 ((x2.n:Int)-1))
  ) (c:Int) x2=some y.toList.reverse:=by
  intro m
  induction m with
  |zero=>omega
  |succ m ih=>
   intro c x2 M hc d l hx;obtain⟨M,rfl⟩:∃K,M=K+1:=⟨M-1,by omega⟩;rw[H4,Gd,Ge,Us];rcases Ar ht d with⟨_,e⟩ | ⟨p,hp,e⟩
   .obtain⟨M,rfl⟩:∃K,M=K+1:=⟨M-1,by omega⟩;refine⟨x2.push (c:Int),by grind,by rw[TU,Ck6,TT (by omega)];rfl,?_⟩;rw[e,H4,Jh];have hb:=AJ0 (x2:=x2.push (c:Int)) (by grind) (x2.n+1) N (Ce5 _) (by omega);rw[F8 (by omega) (by grind)];omega
   obtain⟨y,y1,y2,y3⟩:=ih p (x2.push (c:Int)) M (by omega) (by omega) (by omega) (by grind)
   grind[TU,List.reverse_append,AA9,List.append_assoc]
 obtain⟨y,_,y2,y3⟩:=key (v+1) v Te N (by omega) f (by omega) (by grind);unfold Y5;rw[y3,y2];show some (_++[])=_;rw[Cg4]
def BP8 (h:Yc)(L:List Nat)(z:Sl Int):Sl Int:=L.foldl (λz x=>z.app (h.On.g x)) z
def Al9 {h:Yc}(ht:Bl h.Tree):∀(m v:Nat),v<=m->v<h.Tree.n->BP8 h (Bl4 h.Tree v) Te=N2 h v
 |m,v,hm,hv=>by
  rcases Ar ht hv with⟨_,e⟩ | ⟨p,hp,e⟩
  .rw[TT (by omega),AB (by omega)];rfl
  rw[AA9 e hp,EA e hp]
  match m with
  |0=>omega
  |m+1=>
   have:=Al9 ht m p (by omega) (by omega)
   grind[BP8]
def Am0 {h:Yc}(c:Q6 h):∀(L:List Nat) (z:Sl Int),(∀x∈L,x<h.On.n)->z.n+L.length*1100000<=10000000000 ->
 T1 (L.map λ(x:Nat)=>(x:Int)) (λ(a:Sl Int->Option ((Sl Int)×Int)) (x1:Int) (z1:Sl Int)=>
  if (((0:Int)<=x1/\x1<(h.On.n:Int))/\(Uq 8 (z1.n+(h.On.g x1.toNat).n)))then
   a (z1.app (h.On.g x1.toNat))
  else none
  ) (λ(z1:Sl Int)=>
   some (z1,0)
  ) z=some (BP8 h L z,0)
 |[],z,_,_=>rfl
 |x::L,z,hx,hz=>by have b:=hx x (by simp);have hl:=c.len x b;simp only[Ch8,Cn7]at hz;rw[Cf8,T1,Us,Fp];exact Am0 c L _ (by grind) (by grind)
def AJ1 (g:3000000<=N){h:Yc}(c:Q6 h)(a:AF N h){v:Nat}(d:v<h.Tree.n):Cq N h (v:Int)=some (lw h v,0)/\HP N h (v:Int)=some (lw h v,0):=by
 have hb:¬(!((decide (0<=(v:Int)))&&(decide ((v:Int)<(h.Tree.n:Int)))))=true:=by grind
 have j:=a.on;have m:=a.tree.2.1;obtain⟨h1,q⟩:=Bl5 a.tree v v (Ce5 _) d;obtain⟨o,_,_⟩:=Bz9 c a d;have hl:=Zj a v v (Ce5 _) d;have e1:Co N h (v:Int)=some (N2 h v,0):=by unfold Co;rw[Pg g c,hres_zero.2 a,Cd8,Jh,Cn,Cd8,Js hb,Fx,Cd8];show (Y5 N (v:Int) h.Tree).bind _=_;rw[BP7 g a.tree d,Cd8,Am0 c _ _ (by grind) (by grind),Al9 a.tree v v (Ce5 _) d]
 have e2:HO N h (v:Int)=some (N2 h v,0):=by unfold HO;rw[KH g c,hres_zero.2 a,Cd8,Jh,Ei,Cd8,Js hb,TL c a.tree j N v (by omega) d];rfl
 unfold Cq HP;rw[e1,e2,Cd8,Cd8];constructor
 .have:Cp N h (N2 h v)=some (lw h v):=by
   refine eqR ?_;unfold Cp;refine S9 (λi x1 x2=>x2=(i:Int)/\x1=pk h (N2 h v) i) (N2 h v).n _ (by omega) ⟨rfl,rfl⟩ ?_;rintro f i x1 x2 l ⟨rfl,rfl⟩ hs;simp only[Us];have hn:=BF7 h (N2 h v) i;by_cases b:i<(N2 h v).n
   .have:=hl i b
    exact Br (Af (B2 (Al1 g (c.laws _ (by omega)) (a.laws.2 _ (by omega))) (Br (hs b _ _ ⟨Fl,rfl⟩))))
   exact Fe ⟨_,rfl,by rw[show i=(N2 h v).n by omega];rfl⟩
  grind
 refine eqR (S9 (λi x1 x2=>x2=(i:Int)/\x1=pk h (N2 h v) i) (N2 h v).n _ (by omega) ⟨rfl,rfl⟩ ?_);rintro f i x1 x2 l ⟨rfl,rfl⟩ hs;simp only[Us];have hn:=BF7 h (N2 h v) i;by_cases b:i<(N2 h v).n
 .have:=hl i b
  exact Br (Af (Br (hs b _ _ ⟨Fl,rfl⟩)))
 exact Fe ⟨_,rfl,by rw[show i=(N2 h v).n by omega];rfl⟩
noncomputable def sB {T:Type}(x y:Sl T):Bool:=@decide (SE x y) (Classical.propDecidable _)
def Oy {T:Type}(x y:Sl T):sB x y=true↔SE x y:=@decide_eq_true_iff _ (Classical.propDecidable _)
def eqK {T:Type}{eb:T->T->Bool}(m:∀x y,eb x y=true↔x=y){N:Nat}{x y:Sl T}(hn:x.n=y.n)(f:x.n<N)(hs:x.n<10000000){K:Option Bool}{b:Bool}(l:K=some b):N3 N (λ(a:Int->Option Bool) (x1:Int)=>
 if (decide (x1<(x.n:Int))) then
  if (((0:Int)<=x1/\x1<(x.n:Int))/\((0:Int)<=x1/\x1<(y.n:Int)))then
   if ((eb (x.g x1.toNat) (y.g x1.toNat)) != true) then
    some false
   else
    a (wrap .i64 (x1+1))
  else none
 else K) 0=some (sB x y&&b):=by
 refine eqR (Z1 (λi x1=>x1=(i:Int)/\∀j,j<i->x.g j=y.g j) x.n _ f (by grind) ?_);rintro d i x1 o ⟨rfl,h⟩ c;by_cases hl:i<x.n
 .refine Br (Af ?_);rw[Us];by_cases e:x.g i=y.g i
  .exact Fe (c hl _ ⟨Fl,by grind⟩)
  have h1:eb (x.g i) (y.g i)=false:=(by grind);have q:sB x y=false:=Cq7.2 λg=>e (((Oy _ _).1 g).2 i hl)
  grind
 obtain rfl:i=x.n:=by omega
 exact Dt ⟨b,l,by rw[(Oy _ _).2 ⟨hn,h⟩];rfl⟩
def eqW {T:Type}{eb:T->T->Bool}(b:∀x y,eb x y=true↔x=y){N:Nat}{x y:Sl T}(c:x.n<N)(hs:x.n<10000000) :(if ((x.n:Int) != (y.n:Int)) then some false else N3 N (λ(a:Int->Option Bool) (x1:Int)=>
  if (decide (x1<(x.n:Int))) then
   if (((0:Int)<=x1/\x1<(x.n:Int))/\((0:Int)<=x1/\x1<(y.n:Int)))then
    if ((eb (x.g x1.toNat) (y.g x1.toNat)) != true) then
     some false
    else
     a (wrap .i64 (x1+1))
   else none
  else some true) 0)=some (sB x y):=by
 by_cases hn:x.n=y.n
 .rw[Iw,eqK b hn c hs rfl,Cp4]
 rw[Ge,Cq7.2 λg=>hn ((Oy x y).1 g).1]
def sEq (x y:Up):((x.Plus==y.Plus)&&(x.Minus==y.Minus))=true↔x=y:=by cases x;cases y;simp
def Bl6 {x y:Sl Up}(a:x.n<N)(hs:x.n<10000000):∃b,Z3 N x y=some b/\(b=true↔SE x y):=by refine⟨sB x y,?_,Oy x y⟩;unfold Z3 G3;rw[eqW sEq a hs];rfl
def Bl7 {x y:Sl Up}(a:x.n<N)(hs:x.n<10000000):∃b,P4 N x y=some b/\(b=true↔SE x y):=⟨sB x y,eqW sEq a hs,Oy x y⟩
def BP9 (i:3000000<=N){h:Yc}(j:Q6 h)(a:AF N h){u:Nat}(l:u<h.Tree.n){w:Sl Up}(hw:wOk w){f:M8}(o:f.Has=true) :∃b q,F5 N (lw h u) ⟨true,w⟩ f=some b/\Lb N h w (u:Int)=some q/\(lt (λz1:Bool=>some z1) λk1=>ite (q.2==0) ((P4 N q.1 f.W).bind λy4=>k1 y4) (k1 false))=some b:=by
 obtain⟨_,l1,l2⟩:=Bz9 j a l;obtain⟨v,v',e,d1,d2,d3⟩:=Pp i l1 l2 (SE.refl w) hw;obtain⟨e',e4,c⟩:=HW (N:=N) (by omega) (vOk hw).2;obtain rfl:=(GH c).2 hw;have hb:¬(!((decide (0<=(u:Int)))&&(decide ((u:Int)<(h.Tree.n:Int)))))=true:=by grind
 have d:Lb N h w (u:Int)=some (v',e):=by
  have m:HQ N h w=some 0:=by
   simp_all[HQ,KH,hres_zero]
  simp_all[Lb,Rg,Ei,AJ1]
 have hp:F5 N (lw h u) ⟨true,w⟩ f=lt (λz1:Bool=>some z1) λk1=>ite (e==0) ((Z3 N v f.W).bind λy3=>k1 y3) (k1 false):=by
  simp_all[F5]
 rw[hp];rcases d3 with rfl|⟨rfl,d4,d5⟩
 .exact⟨false,_,rfl,d,rfl⟩
 have r:=d5.1;have s:=d4.1;obtain⟨b,b1,b2⟩:=Bl6 (N:=N) (x:=v) (y:=f.W) (by omega) (by omega);obtain⟨b',b3,b4⟩:=Bl7 (N:=N) (x:=v') (y:=f.W) (by omega) (by omega);obtain rfl:b' = b:=by rw[Cf7,b2,b4];exact⟨λg=>d4.trans g,λg=>d4.symm.trans g⟩
 refine⟨b',_,?_,d,?_⟩
 .rw[b1];rfl
 dsimp only;rw[b3];rfl
def BA1 (c:3000000<=N){h:Yc}(d:Q6 h)(a:AF N h):∃X,P9 N h=some X/\X.n=(Q7 h.Tree h.Tree.n).n/\∀k,k<X.n->X.g k=lw h ((Q7 h.Tree h.Tree.n).g k).toNat:=by
 have j:=KJ a.tree;unfold P9;rw[(HY c d.tree a.tree).1,Cd8];refine S9 (λi (x1:Sl (Sl Law)) x2=>x2=(i:Int)/\x1.n=i/\∀k,k<i->x1.g k=lw h ((Q7 h.Tree h.Tree.n).g k).toNat) (Q7 h.Tree h.Tree.n).n _ (by omega) (by grind) ?_;rintro f i x1 x2 l ⟨rfl,hn,o⟩ hs;simp only[Us];by_cases b:i<(Q7 h.Tree h.Tree.n).n
 .obtain⟨v,m,e⟩:=MO h.Tree h.Tree.n i b;refine Br (Af (B2 (by rw[e];exact (AJ1 c d a m).1) (Br (hs b _ _ ⟨Fl,by grind,λk hk=>?_⟩))))
  grind
 grind
def ifE {R:Type}{Q:R->Prop}{p:Prop}[Decidable p]{a b:Option R}(h1:p->∃r,a=some r/\Q r)(c:¬p->∃r,b=some r/\Q r):∃r,(ite p a b)=some r/\Q r:=by
 split
 all_goals grind
def ltP {R A:Type}{Q:R->Prop}(P:A->Prop){K:A->Option R}{f:(A->Option R)->Option R}(a:∀z,P z->∃r,K z=some r/\Q r)(b:∀k:A->Option R,(∀z,P z->∃r,k z=some r/\Q r)->∃r,f k=some r/\Q r):∃r,lt K f=some r/\Q r:=b K a
def Bl8 {l:Sl M8}(hl:l.n<N)(c:l.n<1000000000):∃b,HL N l=some b/\True:=by
 unfold HL;refine Z1 (λi x=>x=(i:Int)) l.n _ hl rfl ?_;rintro a i x d rfl hs;by_cases h:i<l.n
 .exact Br (Af (ifE (by grind) λ_=>hs h _ (Fl)))
 exact Fe ⟨_,rfl,trivial⟩
def AV9 {h:Yc}(hl:h.On.n<N)(d:h.On.n<1000000000):∃b,EU N h=some b/\True:=by
 unfold EU;refine S9 (λi y x=>x=(i:Int)) h.On.n _ hl rfl ?_;rintro a i y x f rfl hs;by_cases c:i<h.On.n
 .exact Br (Af (hs c _ _ (Fl)))
 exact Fe ⟨_,rfl,trivial⟩
def AB0 (a:3000000<=N){p:B0}(hp:Ph p)(j:∀i,i<p.Yf.n->(p.Yf.g i).Yg.n<1100000):∃b,Gz N p=some b/\True:=by
 unfold Gz;obtain⟨b,b1,_⟩:=Bi8 a p.Yc;refine B2 b1 (ifE (by grind) λhc=>?_);have q:p.Yf.n<=5/\p.Yb.n<=5:=by grind
 obtain⟨c,c1,_⟩:=Bl8 (N:=N) (l:=p.Yb) (by omega) (by omega);refine B2 c1 (ltP (λ_=>True) (λz _=>ifE (by grind) λ_=>?_) λk hk=>ifE (λ_=>hk _ S3) λ_=>?_)
 .refine Z1 (λi x=>x=(i:Int)) p.Yf.n _ (by omega) rfl ?_;rintro f i x r rfl hs;by_cases h:i<p.Yf.n
  .have m:=j i h;refine Br (Af ?_);rw[Us];obtain⟨d,d1,_⟩:=Bl8 (N:=N) (l:=(p.Yf.g i).Yg) (by omega) (by omega);exact B2 d1 (ifE (by grind) λ_=>hs h _ (Fl))
  grind
 have o:=hp.hist.on;obtain⟨d,d1,_⟩:=AV9 (N:=N) (h:=p.Yc) (by omega) (by omega);exact B2 d1 (ifE (λ_=>B2 (KH a hp.hist) (hk _ S3)) λ_=>hk _ S3)
def pks (h:Yc)(l:Sl Int)(z:Sl Law):Nat->Sl Law
 |0=>z
 |i+1=>(pks h l z i).push (h.Laws.g (l.g i).toNat)
def BQ0 (h:Yc)(l:Sl Int)(z:Sl Law):∀i,(pks h l z i).n=z.n+i
 |0=>rfl
 |i+1=>by show (pks h l z i).n+1=_;rw[BQ0 h l z i];omega
def AJ2 (h:Yc){s t:Sl Int}:∀{m:Nat},(∀i,i<m->s.g i=t.g i)->pk h s m=pk h t m
 |0,_=>rfl
 |m+1,e=>by show (pk h s m).push _=(pk h t m).push _;rw[AJ2 h λi a=>e i (by omega),e m (by omega)]
def Bl9 (h:Yc)(s t:Sl Int):∀i,pk h (s.app t) (s.n+i)=pks h t (pk h s s.n) i
 |0=>AJ2 h λi a=>Jk a
 |i+1=>by
  show (pk h (s.app t) (s.n+i)).push (h.Laws.g ((s.app t).g (s.n+i)).toNat)=(pks h t (pk h s s.n) i).push (h.Laws.g (t.g i).toNat);rw[Bl9 h s t i];have e:(s.app t).g (s.n+i)=t.g i:=by
   grind
  rw[e]
def cLn (h:Yc)(s:Sl Int):Nat->Sl Int
 |0=>Sl.nil
 |j+1=>(cLn h s j).app (h.On.g (s.g j).toNat)
def TV (h:Yc){s t:Sl Int}:∀{m:Nat},(∀i,i<m->s.g i=t.g i)->cLn h s m=cLn h t m
 |0,_=>rfl
 |m+1,e=>by show (cLn h s m).app _=(cLn h t m).app _;rw[TV h λi a=>e i (by omega),e m (by omega)]
def BQ1 {h:Yc}{s:Sl Int}:∀{m:Nat},(∀i,i<m->(h.On.g (s.g i).toNat).n<=64)->(cLn h s m).n<=64*m
 |0,_=>Ce5 0
 |m+1,e=>by
  have h1:=BQ1 (m:=m) λi a=>e i (by omega);have b:=e m (by omega)
  grind[cLn]
def upP (t:Sl Node)(a:Int->Option (List Int))(x1:Int):Option (List Int):= ite (decide (0<=x1)) (BI x1 (ite ((0:Int)<=x1/\x1<(t.n:Int)) (a (t.g x1.toNat).Ye) none)) (some [])
def TW {h:Yc}(ht:Bl h.Tree):∀(M v:Nat),v+1<=M->v<h.Tree.n->∃s,HS M h.Tree (v:Int)=some s/\s.n<=v+1/\cLn h s s.n=N2 h v/\(∀j,j<s.n->0<=s.g j/\s.g j<h.Tree.n)/\∀K,v+1<K->N3 K (upP h.Tree) (v:Int)=some s.toList.reverse
 |0,v,hM,_=>by omega
 |M+1,v,hM,hv=>by
  have b:=ht.2.1;show ∃s,EZ (HS M) M h.Tree (v:Int)=some s/\_;unfold EZ;have up:∀K q,N3 (K+1) (upP h.Tree) (v:Int)=some q↔BI (v:Int) (N3 K (upP h.Tree) (h.Tree.g v).Ye)=some q:=λK q=>by rw[U2,upP,Gd,Fp];rfl
  by_cases c:v=0
  .subst c;have d:=(ht.2.2 0 hv).1 rfl;refine ifT rfl ⟨_,rfl,Ce5 1,?_,λj a=>?_,λK f=>?_⟩
   .rw[AB (by omega)];rfl
   .grind
   obtain⟨K,rfl⟩:∃J,K=J+2:=⟨K-2,by omega⟩;rw[up,d];rfl
  refine Fe (Af ?_);rw[Us];rcases Ar ht hv with⟨h1,_⟩ | ⟨p,hp,e⟩
  .omega
  obtain⟨s,g1,g2,g3,g4,g5⟩:=TW ht M p (by omega) (by omega);rw[e];refine B2 g1 (Br ⟨_,rfl,by grind,?_,λj a=>?_,λK f=>?_⟩)
  .show (cLn h (s.push (v:Int)) s.n).app (h.On.g ((s.push (v:Int)).g s.n).toNat)=_;rw[EA e hp,<- g3,TV h (s:=s.push (v:Int)) (t:=s) λi l=>Jk l]
   grind
  .have a:j<s.n+1:=a
   grind
  obtain⟨K,rfl⟩:∃J,K=J+1:=⟨K-1,by omega⟩;rw[up,e,g5 K (by omega),TU,Ck6];rfl
def BQ2 {N:Nat}(o:3000000<=N){h:Yc}(q:Q6 h)(a:AF N h){v:Nat}(r:v<h.Tree.n):HU N h (v:Int) (-1)=some (lw h v):=by
 have t:=a.tree.2.1;have u:=a.on;obtain⟨e,_,e1,w⟩:=Lf o q.tree
 have:e=0:=by
  rcases w with⟨h,_⟩ | ⟨_,h⟩
  .exact h
  exact Ke a.tree h
 subst this;obtain⟨s,g1,g2,g3,g4,_⟩:=TW a.tree N v (by omega) r;have hp:HT N h.Tree (v:Int)=some (s,0):=by
  simp_all[HT,Ld,Cd8,Js]
 have x:∀j,j<s.n->(h.On.g (s.g j).toNat).n<=64/\∀i,i<(h.On.g (s.g j).toNat).n->0<=(h.On.g (s.g j).toNat).g i/\(h.On.g (s.g j).toNat).g i<h.Laws.n:=λj f=>Al2 a (by have:=g4 j f;omega);refine eqR ?_;unfold HU;refine B2 hp ?_;refine S9 (λj x3 x4=>x4=(j:Int)/\x3=pk h (cLn h s j) (cLn h s j).n) s.n _ (by omega) ⟨rfl,rfl⟩ ?_;rintro l j x3 x4 f ⟨rfl,rfl⟩ hs;simp only[Us];by_cases hl:j<s.n
 .have z:=g4 j hl;obtain⟨o1,o2⟩:=x j hl;have hc:=BQ1 (h:=h) (s:=s) (m:=j) (by grind);refine Br (Af ?_);refine S9 (λi x7 x8=>x8=(i:Int)/\x7=pks h (h.On.g (s.g j).toNat) (pk h (cLn h s j) (cLn h s j).n) i) (h.On.g (s.g j).toNat).n _ (by omega) ⟨rfl,rfl⟩ ?_;rintro c i x7 x8 y ⟨rfl,rfl⟩ d;simp only[Us];have hn:=BQ0 h (h.On.g (s.g j).toNat) (pk h (cLn h s j) (cLn h s j).n) i;rw[BF7]at hn;by_cases b:i<(h.On.g (s.g j).toNat).n
  .have:=o2 i b
   exact Br (Af (Br (Af (Br (d b _ _ ⟨Fl,rfl⟩)))))
  obtain rfl:i=(h.On.g (s.g j).toNat).n:=by omega
  exact Dt (hs hl _ _ ⟨Fl,(Bl9 h _ _ _).symm⟩)
 obtain rfl:j=s.n:=by omega
 exact Dt ⟨_,rfl,by rw[g3];rfl⟩
def BA2 {N:Nat}{h:Yc}{p:M8}(hp:p.Has=false)(k w:Int):I0 N h p k w=some (⟨false,Um⟩:M8):=by
 simp_all[I0,Jk]
def der26 {N:Nat}(d:3000000<=N){h:Yc}(f:Q6 h)(a:AF N h){k u:Nat}(hk:k<(Q7 h.Tree h.Tree.n).n)(i:u<h.Tree.n)(e:(Q7 h.Tree h.Tree.n).g k=(u:Int)){p:M8}(l:p.Has=true){w:Sl Up}(hw:wOk w)(b:SE w p.W) :∃v v' c,N7 N (lw h u) w=some (v,c)/\((c=11/\I0 N h p (k:Int) (-1)=some (⟨false,Um⟩:M8)) \/ (c=0/\SE v v' /\ wOk v/\I0 N h p (k:Int) (-1)=some (⟨true,v'⟩:M8))):=by
 obtain⟨_,l1,l2⟩:=Bz9 f a i;obtain⟨v,v',c,d1,d2,d3⟩:=Pp d l1 l2 b hw;refine⟨v,v',c,d1,?_⟩;have j:I0 N h p (k:Int) (-1)=ite (c != 0) (some (⟨false,Um⟩:M8)) (some (⟨true,v'⟩:M8)):=by
  unfold I0;rw[Iw,(HY d f.tree a.tree).2,Cd8]
  simp_all[Jk,Us,BQ2,Cd8]
 rw[j]
 grind
def BQ3 {x:Sl Int}(hn:x.n<100000)(b:x.n<N):∃s,I8 N x=some s/\(s.n=x.n/\∀j,j<x.n->s.g j=x.g (x.n-1-j)):=by
 unfold I8;refine Aj7 (λi (x1:Sl Int) x2 x3=>x2=(i:Int)/\x3=(x.n:Int)-1-(i:Int)/\x1.n=x.n/\i<=x.n-i/\∀j,j<x.n->x1.g j=ite (j<i \/ x.n<=j+i) (x.g (x.n-1-j)) (x.g j)) x.n _ b ⟨rfl,(Ut).trans (by omega),rfl,by omega,by omega⟩ ?_;rintro a i x1 x2 x3 d ⟨rfl,rfl,hx,hle,f⟩ hs;by_cases hl:(i:Int)<(x.n:Int)-1-(i:Int)
 .have e3:((x.n:Int)-1-(i:Int)).toNat=x.n-1-i:=by omega
  refine Br (ifT (by rw[Sl.upd];grind) ?_);rw[Us,e3];refine hs (by omega) _ _ _ ⟨Fl,by rw[Ut];omega,hx,by omega,λj c=>?_⟩
  grind
 grind
def Am1:∀(L:List Int) (z:Sl Int),z.n+L.length<=100000->∃s,T1 L (λ(a:Sl Int->Option (Sl Int)) (x1:Int) (z1:Sl Int)=>
 if (Uq 8 (z1.n+(Sl.of [x1]:Sl Int).n))then
  a (z1.push x1)
 else none
 ) (λ(z1:Sl Int)=>some z1) z=some s/\s.toList=z.toList++L
 |[],z,_=>⟨z,rfl,by simp⟩
 |x::L,z,h=>by simp at h;obtain⟨s,s1,s2⟩:=Am1 L (z.push x) (by grind);exact⟨s,(Ge).trans s1,by rw[s2,TU];simp⟩
def tPath (c:3000000<=N){h:Yc}(a:Q6 h)(ht:Bl h.Tree){v:Nat}(d:v<h.Tree.n):∃s,Gs N h.Tree (v:Int)=some (s,0)/\s.n<=v+1/\cLn h s s.n=N2 h v/\∀j,j<s.n->0<=s.g j/\s.g j<h.Tree.n:=by
 have f:=ht.2.1;obtain⟨e,e1,_,m⟩:=Lf c a.tree;obtain rfl:e=0:=by grind[Az6]
 obtain⟨s,_,g2,g3,g4,g5⟩:=TW ht N v (by omega) d;have hc:EP N h.Tree (Sl.of [(v:Int)]:Sl Int)=some 0:=by
  unfold EP;rw[e1,Cd8,Jh];refine eqR (Z1 (λi x=>x=(i:Int)) 1 _ (by omega) rfl ?_);rintro b i x a rfl hs;by_cases hl:i<1
  .obtain rfl:i=0:=by omega
   exact Ah (Ah (Fe (hs hl _ (Fl))))
  grind
 obtain⟨z,z1,z2⟩:=Am1 s.toList.reverse Te (by rw[Cv1,Y9];grind);have z2:z.toList=s.toList.reverse:=z2;have zn:z.n=s.n:=by have:=congrArg List.length z2;rwa [Y9,Cv1,Y9]at this
 obtain⟨r,r1,r2,r3⟩:=BQ3 (N:=N) (x:=z) (by omega) (by omega);have l:∀j,j<s.n->r.g j=s.g j:=λj o=>by
  have e2:z.toList[z.n-1-j]? = s.toList.reverse[z.n-1-j]?:=by rw[z2]
  rw[r3 j (by omega)];rw[List.getElem?_reverse (by rw[Y9];omega),Y9,show s.n-1-(z.n-1-j)=j by omega]at e2
  grind[Sl.toList,List.getElem?_range,Option.some.injEq]
 refine⟨r,?_,by omega,by rw[r2,zn,TV h l,g3],by grind⟩;unfold Gs;rw[hc,Cd8,Jh,Og,Cd8];show (Gq N (v:Int) h.Tree).bind _=_;rw[show Gq N (v:Int) h.Tree=some s.toList.reverse from g5 N (by omega),Cd8]
 grind[W5,J9]
def lX (h:Yc)(X:Sl (Sl Law)):Prop:=X.n=(Q7 h.Tree h.Tree.n).n/\∀k,k<X.n->X.g k=lw h ((Q7 h.Tree h.Tree.n).g k).toNat
def AB1 (hN:3000000<=N){h:Yc}(hi:Q6 h)(a:AF N h):∃X,Am N h (-1)=some X/\lX h X:=by
 have t:=KJ a.tree;have hon:=a.on;have f:∀k,k<(Q7 h.Tree h.Tree.n).n->∃u:Nat,u<h.Tree.n/\(Q7 h.Tree h.Tree.n).g k=(u:Int):=λk hk=>MO h.Tree h.Tree.n k hk;unfold Am lX;refine B2 (HY hN hi.tree a.tree).1 ?_;generalize Q7 h.Tree h.Tree.n=s at t f;refine Br (Br ?_);dsimp only;refine Aj7 (λi (K:Nat) (X:Sl (Sl Law)) y=>i=K/\y=(i:Int)/\X.n=s.n/\∀k,(k<i->X.g k=lw h (s.g k).toNat)/\(i<=k->X.g k=Sl.nil)) s.n _ (by omega) (by grind) ?_;rintro self i K X y hle ⟨rfl,rfl,hX,v⟩ hs;by_cases hl:i<s.n
 case neg=>grind
 obtain⟨u,hu,x⟩:=f i hl;obtain⟨w,w1,w2,w3,w4⟩:=tPath hN hi a.tree hu;have ht63:=a.tree.2.1;have hO:∀j,j<w.n->(h.On.g (w.g j).toNat).n<=64/\∀i,i<(h.On.g (w.g j).toNat).n->0<=(h.On.g (w.g j).toNat).g i/\(h.On.g (w.g j).toNat).g i<h.Laws.n:=λj hj=>Al2 a (by have:=w4 j hj;omega);refine Br (Af ?_);rw[Us,x];refine B2 w1 ?_;dsimp only;refine S9 (λm (X' : Sl (Sl Law)) z=>z=(m:Int)/\X'.n=s.n/\X'.g i=pk h (cLn h w m) (cLn h w m).n/\∀k,k≠i->X'.g k=X.g k) w.n _ (by omega) ⟨rfl,hX,(v i).2 (Ce5 i),λk _=>rfl⟩ ?_;rintro a0 m X' z hm ⟨rfl,l,a1,a2⟩ a3;by_cases d:m<w.n
 case neg=>
  obtain rfl:m=w.n:=by omega
  refine Dt (ifT ⟨rfl,hl⟩ (hs hl _ _ _ ⟨rfl,Fl,l,λk=>?_⟩));have e:lw h u=pk h (cLn h w w.n) (cLn h w w.n).n:=by rw[w3];rfl
  grind
 have hw4:=w4 m d;obtain⟨o1,o2⟩:=hO m d;have hc:=BQ1 (h:=h) (s:=w) (m:=m) (by grind);refine Br ?_;rw[Us];refine Af ?_;refine S9 (λq (X'' : Sl (Sl Law)) z=>z=(q:Int)/\X''.n=s.n/\X''.g i=pks h (h.On.g (w.g m).toNat) (pk h (cLn h w m) (cLn h w m).n) q/\∀k,k≠i->X''.g k=X.g k) (h.On.g (w.g m).toNat).n _ (by omega) ⟨rfl,l,a1,a2⟩ ?_;rintro a4 q X'' z hq ⟨rfl,c,b,o⟩ a5;by_cases r:q<(h.On.g (w.g m).toNat).n
 case neg=>
  obtain rfl:q=(h.On.g (w.g m).toNat).n:=by omega
  exact Dt (a3 d _ _ ⟨Fl,c,by rw[b];exact (Bl9 h _ _ _).symm,o⟩)
 have hvq:=o2 q r;have hb:=BQ0 h (h.On.g (w.g m).toNat) (pk h (cLn h w m) (cLn h w m).n) q;rw[BF7,<- b]at hb;refine Br (Af ?_);rw[Us];refine Br (Af (Af (Af (a5 r _ _ ⟨Fl,c, ?_,λk hk=>?_⟩))))
 .show (ite (i=i) ((X''.g i).push _) _)=_;rw[Jk rfl,b];rfl
 grind
def Bm0 (n:Nat):IntKind.u8.wrap (n:Int)=((n % 256:Nat):Int):=by
 have h1:((n:Int) % (2 ^ 8:Int))=((n % 256:Nat):Int):=by omega
 simp_all[wrap,IntKind.bits,IntKind.signed,Cm6,Ce4,Lp]
def AB2 (p k:Nat):UInt8:=UInt8.ofNat (p / 2 ^ k % 256)
def BA3 (p:Int):List UInt8:=[AB2 p.toNat 0,AB2 p.toNat 8,AB2 p.toNat 16]
def Cd6 (s:Up):List UInt8:=BA3 s.Plus++BA3 s.Minus
def Am2 (w:Sl Up):Nat->Str
 |0=>[]
 |m+1=>Am2 w m++Cd6 (w.g m)
def Zk {p q k:Nat}(h:AB2 p k=AB2 q k):p / 2 ^ k % 256=q / 2 ^ k % 256:=by
 have:=congrArg UInt8.toNat h
 grind[AB2,UInt8.toNat_ofNat']
def AJ3 {p q:Nat}(hp:p<16777216)(a:q<16777216)(h:BA3 (p:Int)=BA3 (q:Int)):p=q:=by simp only[BA3,Ck9,and_true,Us]at h;have b:=Zk h.1;have h1:=Zk h.2.1;have c:=Zk h.2.2;omega
theorem BA4 {s t:Up}(hs:vS s)(ht:vS t)(h:Cd6 s=Cd6 t):s=t:=by obtain⟨p,m,rfl,b⟩:=hs;obtain⟨p',m',rfl,a⟩:=ht;obtain⟨_,a1,a2⟩:=(Bg5 p m).1 b;obtain⟨_,b1,b2⟩:=(Bg5 p' m').1 a;obtain⟨h1,c⟩:=List.append_inj h rfl;rw[Cg7 (AJ3 a1 b1 h1),Cg7 (AJ3 a2 b2 c)]
def Am3 (w:Sl Up):∀m,(Am2 w m).length=6*m
 |0=>rfl
 |m+1=>by rw[Am2,Cg1,Am3 w m];show _+6=_;omega
def AJ4 {w v:Sl Up}:∀m,(∀i,i<m->vS (w.g i)/\vS (v.g i))->Am2 w m=Am2 v m->∀i,i<m->w.g i=v.g i
 |0,_,_,i,hi=>by omega
 |m+1,hv,h,i,hi=>by
  obtain⟨h1,a⟩:=List.append_inj h (by rw[Am3,Am3]);by_cases e:i=m
  .grind[BA4]
  exact AJ4 m (by grind) h1 i (by omega)
def BQ4 {w v:Sl Up}(hw:wOk w)(a:wOk v)(h:Am2 w w.n=Am2 v v.n):SE w v:=by
 have e:=congrArg List.length h;rw[Am3,Am3]at e;have e:w.n=v.n:=by omega
 rw[<- e]at h;exact⟨e,AJ4 w.n (λi b=>⟨hw.2 i b,a.2 i (by omega)⟩) h⟩
def Bm1 (p:BitVec 32)(k:Nat)(hk:k<=32):wrap .u8 (shI .shr .u32 (p.toNat:Int) (k:Int))=((p.toNat / 2 ^ k % 256:Nat):Int):=by rw[Bb6,Bm0,Cn0,Cm7]
def Cb2 {α : Type}(s t:Sl α):(s.app t).toList=s.toList++t.toList:=by
 show (List.range (s.n+t.n)).map (λi=>ite (i<s.n) (s.g i) (t.g (i-s.n)))=_;rw[List.range_add,Cl2,Cm4];congr 1
 .exact Cf9 (by grind)
 refine Cf9 λi a=>?_
 grind
def Am4 (s t:Sl Int):Aq8 (s.app t)=Aq8 s++Aq8 t:=by
 have e:∀s:Sl Int,Aq8 s=s.toList.map λi=>UInt8.ofNat i.toNat:=λs=>by show _=((List.range s.n).map s.g).map _;rw[Cm4];rfl
 rw[e,e,e,Cb2,Cl2]
def str3 (p:BitVec 32):Aq8 (Sl.of [wrap .u8 (p.toNat:Int),wrap .u8 (shI .shr .u32 (p.toNat:Int) 8),wrap .u8 (shI .shr .u32 (p.toNat:Int) 16)]:Sl Int)=BA3 (p.toNat:Int):=by have e8:=Bm1 p 8 (by omega);have e16:=Bm1 p 16 (by omega);have e0:=Bm0 p.toNat;show [UInt8.ofNat (wrap .u8 (p.toNat:Int)).toNat,UInt8.ofNat (wrap .u8 (shI .shr .u32 (p.toNat:Int) 8)).toNat,UInt8.ofNat (wrap .u8 (shI .shr .u32 (p.toNat:Int) 16)).toNat]=_;rw[e0,show wrap .u8 (shI .shr .u32 (p.toNat:Int) 8)=_ from e8,show wrap .u8 (shI .shr .u32 (p.toNat:Int) 16)=_ from e16];simp only[Us,BA3,AB2,Nat.pow_zero,Cw1]
def BQ5 {N:Nat}(c:3000000<=N){w:Sl Up}(hw:wOk w):ER N w=some (Am2 w w.n):=by
 have b:=hw.1;refine eqR ?_;unfold ER;refine S9 (λm (x1:Sl Int) x2=>x2=(m:Int)/\Aq8 x1=Am2 w m/\x1.n=6*m) w.n _ (by omega) ⟨rfl,rfl,rfl⟩ ?_;rintro a m x1 x2 hm ⟨rfl,h1,d⟩ hs;by_cases hl:m<w.n
 .refine Br (Af ?_);rw[Us];obtain⟨p,q,e,_⟩:=hw.2 m hl;have e1:(w.g m).Plus=(p.toNat:Int):=congrArg Up.Plus e;have e2:(w.g m).Minus=(q.toNat:Int):=(by grind);have e3:Am2 w (m+1)=Am2 w m++(BA3 (p.toNat:Int)++BA3 (q.toNat:Int)):=by rw[Am2,Cd6,e1,e2]
  rw[e1,e2];exact Br (Br (hs hl _ _ ⟨Fl,by rw[Am4,Am4,str3,str3,h1,Cq6,e3],by grind⟩))
 grind
def AW0 (N:Nat)(X:Sl (Sl Law))(M:Sl (List (Str×M8))):Prop:=M.n=X.n/\∀k,∀e∈M.g k,∃w c,wOk w/\Am2 w w.n=e.1/\N7 N (X.g k) w=some (e.2.W,c)/\e.2.Has=(c==0)
def Am5 {k:Str}{v:M8}:∀{es:List (Str×M8)},M7 eqS k es=some v->(k,v)∈es
 |[],h=>by cases h
 |(a,x)::es,h=>by
  unfold M7 at h;by_cases e:eqS k a=true
  .rw[Jk e]at h;rw[show k=a by grind,Ci5 h];simp
  rw[Js e]at h;exact Ci7 _ (Am5 h)
def AJ5 {k:Str}{v:M8}{y:Str×M8}:∀{es:List (Str×M8)},y∈FZ eqS k v es->y∈es \/ y=(k,v)
 |[],h=>.inr (Ck2.1 h)
 |(b,x)::es,h=>by
  unfold FZ at h;by_cases e:eqS k b=true
  .rw[Jk e]at h
   grind
  rw[Js e]at h;rcases Ci2.1 h with h|h
  .grind
  exact (AJ5 h).imp (by grind) id
def BA5 {N:Nat}(j:3000000<=N){h:Yc}(m:Q6 h)(i:AF N h){X:Sl (Sl Law)}(s:lX h X){p:M8}(hw:wOk p.W){k:Nat}(hk:k<X.n){M:Sl (List (Str×M8))}(a:AW0 N X M) :∃v b M' d,R7 N p (k:Int) M X=some (v,b,M')/\AW0 N X M' /\ I0 N h p (k:Int) (-1)=some ⟨b,d⟩/\(b=true->SE v d/\wOk v):=by
 have l:=a.1;obtain⟨x1,x2⟩:=s;have x2:=x2 k hk;rw[x1]at hk l;obtain⟨u,o,e⟩:=MO h.Tree h.Tree.n k hk;rw[e,Us]at x2;unfold R7;by_cases r:p.Has=true
 case neg=>exact⟨_,_,_,_,Jk (by simpa using r),a,BA2 (by grind) _ _,λg=>by cases g⟩
 have go:∀{w:Sl Up}{f:M8}{c:Int},wOk w->Am2 w w.n=Am2 p.W p.W.n->N7 N (X.g k) w=some (f.W,c)->f.Has=(c==0)->∃d,I0 N h p (k:Int) (-1)=some ⟨f.Has,d⟩/\(f.Has=true->SE f.W d/\wOk f.W):=λa1 a2 a3 a4=>by
  obtain⟨v,v',c,d1,d2⟩:=der26 j m i hk o e r a1 (BQ4 a1 hw a2);rw[x2,d1]at a3
  grind
 rw[Iw,Us,Fp,Fp,BQ5 j hw,Cd8];cases ha:M7 eqS (Am2 p.W p.W.n) (M.g k)with
 |some v=>obtain⟨w0,c,b1,b2,b3,b4⟩:=a.2 k _ (Am5 ha);obtain⟨d,d1,d2⟩:=go b1 b2 b3 b4;exact⟨_,_,_,d,rfl,a,d1,d2⟩
 |none=>
  obtain⟨_,l1,l2⟩:=Bz9 m i o;obtain⟨v,_,c,r1,_⟩:=Pp j l1 l2 (SE.refl p.W) hw;rw[<- x2]at r1;obtain⟨d,d1,d2⟩:=go (f:=⟨c==0,v⟩) hw rfl r1 rfl;rw[K0,Fp,r1,Cd8];refine⟨_,_,_,d,rfl,⟨a.1,λq y hy=>?_⟩,d1,d2⟩;have hy:y∈(ite (q=k) (FZ eqS (Am2 p.W p.W.n) (⟨c==0,v⟩:M8) (M.g k)) (M.g q)):=hy;by_cases g:q=k
  .subst g;rw[Jk rfl]at hy;rcases AJ5 hy with hy|rfl
   .exact a.2 q y hy
   grind
  rw[Js g]at hy;exact a.2 q y hy
def ro {B:Type}(g:Nat->Option B):Nat->Nat->List B
 |0,_=>[]
 |m+1,k=>(g k).toList++ro g m (k+1)
def gr {B:Type}(g:Nat->Nat->Option B)(w:Nat->Nat):Nat->Nat->List B
 |0,_=>[]
 |m+1,i=>ro (g i) (w i) 0++gr g w m (i+1)
theorem BF8 {B:Type}{g:Nat->Option B}{b:B}:∀{m k:Nat},b∈ro g m k->∃a,k<=a/\a<k+m/\g a=some b
 |m+1,k,h=>by
  rcases Cu4.1 h with h|h
  .grind
  obtain⟨a,_,_,h⟩:=BF8 h
  grind
theorem AJ6 {B:Type}{g:Nat->Nat->Option B}{w:Nat->Nat}{b:B}:∀{m i:Nat},b∈gr g w m i->∃a k,a<i+m/\k<w a/\g a k=some b
 |m+1,i,h=>by
  rcases Cu4.1 h with h|h
  .grind[BF8]
  obtain⟨a,k,_,h⟩:=AJ6 h
  grind
def ro_n {B:Type}(g:Nat->Option B):∀m k,(ro g m k).length<=m
 |0,_=>Ce5 0
 |m+1,k=>by
  have:=ro_n g m (k+1)
  have:(g k).toList.length<=1:=by cases g k<;>simp
  rw[ro,Cg1];omega
def BS8 {B:Type}(g:Nat->Nat->Option B){w:Nat->Nat}{c:Nat}:∀m i,(∀a,a<i+m->w a<=c)->(gr g w m i).length<=m*c
 |0,_,_=>Cl6 _
 |m+1,i,hw=>by
  have:=BS8 g m (i+1) λa ha=>hw a (by omega)
  have:=ro_n (g i) (w i) 0
  have:=hw i (by omega)
  rw[gr,Cg1,Cn7];omega
def AJ7 {B:Type}{g g' : Nat->Option B}:∀{m k},(∀a,a<k+m->g a=g' a)->ro g m k=ro g' m k
 |0,_,_=>rfl
 |m+1,k,h=>by rw[ro,ro,h k (by omega),AJ7 λa ha=>h a (by omega)]
def AJ8 {B:Type}{g g' : Nat->Nat->Option B}{w:Nat->Nat}:∀{m i},(∀a k,a<i+m->k<w a->g a k=g' a k)->gr g w m i=gr g' w m i
 |0,_,_=>rfl
 |m+1,i,h=>by rw[gr,gr,AJ7 λk hk=>h i k (by omega) (by omega),AJ8 λa k ha=>h a k (by omega)]
def Cb3 {B C:Type}(g:Nat->Option B)(f:B->Option C):∀m k,(ro g m k).filterMap f=ro (λk=>(g k).bind f) m k
 |0,_=>rfl
 |m+1,k=>by rw[ro,ro,Cu6,Cb3 g f m];cases g k<;>grind
def BA6 {B C:Type}(g:Nat->Nat->Option B)(f:B->Option C)(w:Nat->Nat):∀m i,(gr g w m i).filterMap f=gr (λi k=>(g i k).bind f) w m i
 |0,_=>rfl
 |m+1,i=>by rw[gr,gr,Cu6,BA6 g f w m,Cb3]
def BA7 {B R:Type}{N n:Nat}{w:Nat->Nat}(g:Nat->Nat->Option B)(step:B->Option R->Option R){e:Option R}{F:(Int->Option R)->Int->Option R}{G:Nat->(Int->Option R)->(Int->Option R)->Int->Option R}(hn:n<N)(hw:∀i,i<n->w i<N)
 (h1:∀a i,i<n->F a (i:Int)=N3 N (G i a) 0) (f:∀a,F a (n:Int)=e)
 (j:∀i a self2,i<n->G i a self2 (w i:Int)=a ((i+1:Nat):Int))
 (l:∀i k a self2,i<n->k<w i->G i a self2 (k:Int)=match g i k with|some b=>step b (self2 ((k+1:Nat):Int))|none=>self2 ((k+1:Nat):Int)):N3 N F 0=(gr g w n 0).foldr step e:=by
 have row:∀i a,i<n->∀q k M,k+q=w i->q<M->N3 M (G i a) (k:Int)=(ro (g i) q k).foldr step (a ((i+1:Nat):Int)):=λi a c q=>by
  induction q with
  |zero=>
   intro k M hk d;obtain⟨M,rfl⟩:∃K,M=K+1:=⟨M-1,by omega⟩;obtain rfl:k=w i:=by omega
   rw[U2,j _ _ _ c];rfl
  |succ q ih=>intro k M hk d;obtain⟨M,rfl⟩:∃K,M=K+1:=⟨M-1,by omega⟩;rw[U2,l _ _ _ _ c (by omega),ih (k+1) M (by omega) (by omega),ro];cases g i k<;>rfl
 have all:∀m i M,i+m=n->m<M->N3 M F (i:Int)=(gr g w m i).foldr step e:=λm=>by
  induction m with
  |zero=>
   intro i M c d;obtain⟨M,rfl⟩:∃K,M=K+1:=⟨M-1,by omega⟩;obtain rfl:i=n:=by omega
   rw[U2,f];rfl
  |succ m ih=>
   intro i M c d;obtain⟨M,rfl⟩:∃K,M=K+1:=⟨M-1,by omega⟩;rw[U2,h1 _ _ (by omega),gr,List.foldr_append,<- ih (i+1) M (by omega) (by omega)]
   grind
 grind
def foldr_cons {B:Type}:∀L:List B,L.foldr BI (some [])=some L
 |[]=>rfl
 |b::L=>by rw[List.foldr_cons,foldr_cons L];rfl
abbrev Hn {B:Type}(z:Sl B)(L:List B):Sl B:=L.foldl Sl.push z
theorem Pq {B:Type}:∀(L:List B) (z:Sl B),(Hn z L).n=z.n+L.length
 |[],z=>rfl
 |b::L,z=>by show (Hn (z.push b) L).n=_;rw[Pq L];grind
def Cb4 {B R:Type}{N n c:Nat}{w:Nat->Nat}(g:Nat->Nat->Option B){E:Sl B->Option R}{z:Sl B}{F:(Sl B->Int->Option R)->Sl B->Int->Option R}{G:Nat->(Sl B->Int->Option R)->(Sl B->Int->Option R)->Sl B->Int->Option R}(hn:n<N)(hw:∀i,i<n->w i<=c)(hc:c<N)(r:z.n+n*c<=100000)
 (h1:∀a x i,i<n->F a x (i:Int)=U1 N (G i a) x 0) (j:∀a x,F a x (n:Int)=E x)
 (l:∀i a self2 x,i<n->G i a self2 x (w i:Int)=a x ((i+1:Nat):Int))
 (o:∀i k a self2 x,i<n->k<w i->x.n<=100000->G i a self2 x (k:Int)=match g i k with|some b=>self2 (x.push b) ((k+1:Nat):Int)|none=>self2 x ((k+1:Nat):Int)):U1 N F z 0=E (Hn z (gr g w n 0)):=by
 have row:∀i a,i<n->∀q k M x,k+q=w i->q<M->x.n+q<=100000->U1 M (G i a) x (k:Int)=a (Hn x (ro (g i) q k)) ((i+1:Nat):Int):=λi a d q=>by
  induction q with
  |zero=>
   intro k M x hk f hx;obtain⟨M,rfl⟩:∃K,M=K+1:=⟨M-1,by omega⟩;obtain rfl:k=w i:=by omega
   rw[H4,l _ _ _ _ d];rfl
  |succ q ih=>
   intro k M x hk f hx;obtain⟨M,rfl⟩:∃K,M=K+1:=⟨M-1,by omega⟩;rw[H4,o _ _ _ _ _ d (by omega) (by omega),ro];cases g i k with
   |none=>exact ih (k+1) M x (by omega) (by omega) (by omega)
   |some b=>exact ih (k+1) M (x.push b) (by omega) (by omega) (by grind)
 have all:∀m i M x,i+m=n->m<M->x.n+m*c<=100000->U1 M F x (i:Int)=E (Hn x (gr g w m i)):=λm=>by
  induction m with
  |zero=>
   intro i M x d f hx;obtain⟨M,rfl⟩:∃K,M=K+1:=⟨M-1,by omega⟩;obtain rfl:i=n:=by omega
   rw[H4,j];rfl
  |succ m ih=>intro i M x d f hx;obtain⟨M,rfl⟩:∃K,M=K+1:=⟨M-1,by omega⟩;have s:=hw i (by omega);have t:=ro_n (g i) (w i) 0;rw[Cn7]at hx;rw[H4,h1 _ _ _ (by omega),gr,Hn,List.foldl_append];refine (row i _ (by omega) (w i) 0 N x (by omega) (by omega) (by omega)).trans (ih (i+1) M _ (by omega) (by omega) ?_);rw[Pq];omega
 grind
abbrev frm (l:Sl Yh)(i k:Nat):M8:=(l.g i).Yg.g k
abbrev fwL (l:Sl Yh)(i:Nat):Nat:=(l.g i).Yg.n
def Bm2 (l:Sl Yh)(i k:Nat):Option (FP×Sl Up):=ite ((frm l i k).Has) (some (⟨(i:Int),(k:Int)⟩,(frm l i k).W)) none
def BA8 {N:Nat}{l:Sl Yh}(hn:l.n<N)(f:l.n<=256)(d:∀i,i<l.n->fwL l i<N/\fwL l i<=63):V2 N l=some (gr (Bm2 l) (fwL l) l.n 0):=by
 rw[<- foldr_cons];unfold V2;refine BA7 (Bm2 l) BI hn (by grind) (λa i c=>(Jk (by simp;omega)).trans (Fp)) (by grind) (λi a b c=>?_) λi k a b c hk=>?_
 .have:=d i c
  rw[Us,Hh,Fl]
 have d:(l.g i).Yg.n<N/\(l.g i).Yg.n<=63:=d i c;have hk:k<(l.g i).Yg.n:=hk;rw[Us,Ge,Fp,Fl,Us,Bm2];split<;>rfl
def BF9 (N:Nat)(h:Yc)(p:Sl M8)(c:Int)(q:FP×Sl Up):Option A7:= (I0 N h (p.g q.1.entry.toNat) q.1.leaf (-1)).bind λd=>ite d.Has (ite (P4 N d.W q.2=some true) none (some ⟨q.1.entry,q.1.leaf,1,c⟩)) (some ⟨q.1.entry,q.1.leaf,2,c⟩)
def BQ6 {N:Nat}(hN:3000000<=N){h:Yc}(a:Q6 h){p:Sl M8}{l:Sl Yh}(hp:IQ p)(hl:WN l)(ha:Vj N h p l){c:Int}(hc:0<=c/\c<=1073741824) :∃b,ES N h p l c=some (b,0)/\KC N h p l c=some (b,0)/\b.n<=100000:=by
 have h63:=KJ ha.hist.tree;have hn:=ha.n;have hpn:=ha.pn;have hw:∀i,i<l.n->fwL l i<N/\fwL l i<=63:=λi a=>by have:=ha.fn i a;grind
 have o:¬((decide (c<0))||(decide (1073741824<c)))=true:=by grind
 have e0:=(Bi7 (N:=N) (by omega) hp hl).2 ha;obtain⟨X,x1,x2⟩:=AB1 hN a ha.hist;have hX:=x2.1;generalize hT:Hn (Sl.nil:Sl A7) (gr (λi k=>(Bm2 l i k).bind (BF9 N h p c)) (fwL l) l.n 0)=T;have hlen:=λ(B:Type) (g:Nat->Nat->Option B)=>BS8 (c:=63) g (w:=fwL l) l.n 0 (by grind);have key:∀i k,i<l.n->k<fwL l i->∀M,AW0 N X M->∃v b M' d,R7 N (p.g i) (k:Int) M X=some (v,b,M')/\AW0 N X M' /\ I0 N h (p.g i) (k:Int) (-1)=some ⟨b,d⟩/\(b=true->∃t,Z3 N v (frm l i k).W=some t/\P4 N d (frm l i k).W=some t):=λi k j hk M hM=>by
  have:=ha.fn i j
  have hk:k<(l.g i).Yg.n:=hk;obtain⟨v,b,M',d,d1,d2,d3,d4⟩:=BA5 hN a ha.hist x2 (ha.pw i (by omega)) (k:=k) (by omega) hM;refine⟨v,b,M',d,d1,d2,d3,λhb=>?_⟩;obtain⟨s1,s2⟩:=d4 hb;have h5:=s2.1;have h4:=s1.1;obtain⟨t,b1,b2⟩:=Bl6 (N:=N) (x:=v) (y:=(frm l i k).W) (by omega) (by omega);obtain⟨t',b3,b4⟩:=Bl7 (N:=N) (x:=d) (y:=(frm l i k).W) (by omega) (by omega);obtain rfl:t' = t:=by rw[Cf7,b2,b4];exact⟨λg=>s1.trans g,λg=>s1.symm.trans g⟩
  grind
 have r:AW0 N X ⟨X.n,λ_=>[]⟩:=⟨rfl,by grind⟩;refine⟨T,?_,?_,?_⟩
 .refine eqR ?_;unfold ES BA;refine B2 (WR hN a hp hl) (Fe (ifF o (B2 x1 (B2 rfl (B2 (BA8 (by omega) hn hw) ?_)))));refine AU3 (λR (s:Sl (List (Str×M8))×Sl A7)=>AW0 N X s.1/\s.2.n+R.length<=100000/\(∀q∈R,∃i k,i<l.n/\k<fwL l i/\Bm2 l i k=some q)/\Hn s.2 (R.filterMap (BF9 N h p c))=T) (by grind) ?_ _ _ ⟨r,?_,λq hq=>?_,by rw[BA6];omega⟩
  .rintro q R ⟨M,z⟩ f ⟨m1,m2,m3,m4⟩ hs;obtain⟨i,k,j,hk,hq⟩:=m3 q (by simp);obtain⟨v,b,M',d,d1,d2,d3,d4⟩:=key i k j hk M m1;unfold Bm2 at hq;split at hq
   case isFalse=>grind
   obtain rfl:=Ci5 hq;simp at m2;have m2:z.n+(R.length+1)<=100000:=m2;have m4:Hn z (_::R |>.filterMap (BF9 N h p c))=T:=m4;have hx:BF9 N h p c (⟨(i:Int),(k:Int)⟩,(frm l i k).W)=ite b (ite (P4 N d (frm l i k).W=some true) none (some ⟨(i:Int),(k:Int),1,c⟩)) (some ⟨(i:Int),(k:Int),2,c⟩):=by
    grind[BF9,Int.toNat_natCast]
   rw[Cr4,hx]at m4;have m3' : ∀q∈R,∃i k,i<l.n/\k<fwL l i/\Bm2 l i k=some q:=(by grind);refine Br (B2 (by dsimp only;rw[Us];exact d1) ?_);dsimp only;cases b
   .exact ifT rfl (Br (hs (M',z.push _) (by grind)))
   obtain⟨t,t1,t2⟩:=d4 rfl;rw[t2]at m4;refine Du (B2 t1 ?_);cases t
   .exact ifT rfl (Br (hs (M',z.push _) (by grind)))
   exact Du (hs (M',z) (by grind))
  all_goals grind[Bm2,AJ6]
 .unfold KC;rw[TN hN a hp hl,e0,Cd8,Jh,Js o,<- hT];refine Cb4 (c:=63) _ (E:=λx=>some (x,0)) (by omega) (by grind) (by omega) (by grind) (λf x i a=>Jk (by simp;omega)) (by grind) (λi f m x a=>?_) λi k f m x a hk hx=>?_
  .rw[Us,Fp,Hh,Fl]
  have hk63:=hw i a;have hk' : k<(l.g i).Yg.n:=hk;obtain⟨v,b,M',d,_,_,d3,d4⟩:=key i k a hk _ r;have u:DK N h (p.g i) (k:Int) ((l.g i).Yg.g k) (-1)=ite b (P4 N d (frm l i k).W) (some false):=by
   unfold DK;rw[d3,Cd8];cases b
   .rfl
   obtain⟨t,_,t2⟩:=d4 rfl;show (P4 N d (frm l i k).W).bind _=P4 N d (frm l i k).W;rw[t2];rfl
  have hx:((Bm2 l i k).bind (BF9 N h p c))=ite ((frm l i k).Has) (ite b (ite (P4 N d (frm l i k).W=some true) none (some ⟨(i:Int),(k:Int),1,c⟩)) (some ⟨(i:Int),(k:Int),2,c⟩)) none:=by
   grind[Bm2,BF9,Int.toNat_natCast]
  rw[Us,Us,Fp,Ge,Fp,Fl];by_cases hf:(frm l i k).Has=true
  case neg=>rw[hx,Ge,Js hf]
  have sz:∀e:A7,(x.n+(Sl.of [e]:Sl A7).n)*32<=140737488355328/\x.n+(Sl.of [e]:Sl A7).n<=140737488355328:=λe=>by show (x.n+1)*32<=_/\x.n+1<=_;omega
  rw[Iw,Fp,u,hx,Jk hf];cases b
  .grind
  grind
 grind[Bm2,bind,BF9,Pq]
def Ps {B:Type}[Inhabited B](f:Nat->B):Nat->Sl B
 |0=>Sl.nil
 |m+1=>(Ps f m).push (f m)
def MR {B:Type}[Inhabited B](f:Nat->B):∀m,(Ps f m).n=m
 |0=>rfl
 |m+1=>congrArg (· + 1) (MR f m)
theorem TX {B:Type}[Inhabited B](f:Nat->B):∀{m i:Nat},i<m->(Ps f m).g i=f i
 |m+1,i,hi=>by
  show (ite (i<(Ps f m).n) ((Ps f m).g i) _)=_;rw[MR];split
  .exact TX f (by omega)
  grind
def swL (s:Sl Int)(k:Nat):Sl Int:=(s.upd k (s.g (k+1))).upd (k+1) (s.g k)
def swO (h:Yc)(u k:Nat):Sl (Sl Int):=(Ps h.On.g h.On.n).upd u (swL (h.On.g u) k)
def swD (h:Yc)(u k:Nat):Yc:=⟨h.Tree,h.Laws,swO h u k⟩
def swP (h:Yc)(u k:Nat):Yc:=⟨h.Tree,Ps h.Laws.g h.Laws.n,swO h u k⟩
def swO_n (h:Yc)(u k:Nat):(swO h u k).n=h.On.n:=MR _ _
def Cb5 {h:Yc}{u k v:Nat}(a:v<h.On.n):((swO h u k).g v).n=(h.On.g v).n/\∀j,k+1<(h.On.g u).n->j<(h.On.g v).n->∃i,i<(h.On.g v).n/\((swO h u k).g v).g j=(h.On.g v).g i:=by
 have e:(swO h u k).g v=ite (v=u) (swL (h.On.g u) k) (h.On.g v):=by show (ite (v=u) _ ((Ps h.On.g h.On.n).g v))=_;rw[TX _ a]
 rw[e];by_cases g:v=u
 .subst g;rw[Jk rfl];refine⟨rfl,λj hk b=>⟨ite (j=k+1) k (ite (j=k) (k+1) j),by grind,?_⟩⟩;show (ite (j=k+1) _ (ite (j=k) _ _))=_
  grind
 rw[Js g]
 grind
def AJ9 (q:3000000<=N){h:Yc}(d:Q6 h)(a:AF N h){u k:Nat}(w:u<h.Tree.n)(hk:k+1<(h.On.g u).n):Az N h (u:Int) (k:Int)=some (swP h u k,0)/\HR N h (u:Int) (k:Int)=some (swD h u k,0):=by
 have y:=a.tree.2.1;have t:=a.laws.1;have z:=a.on;have ho:=(Al2 a w).1;have eP:wrap .i64 (((h.On.g u).n:Int)-1)=(((h.On.g u).n-1:Nat):Int):=BZ5 (by omega) (by omega);have eK:wrap .i64 ((k:Int)+1)=((k+1:Nat):Int):=Fl;have c:((decide (0<=(u:Int)))&&(decide ((u:Int)<(h.Tree.n:Int))))=true:=by grind
 have rn:=MR h.On.g;have ru:=TX h.On.g (m:=h.On.n) (i:=u) (by omega);unfold Az HR;rw[Pg q d,KH q d,hres_zero.2 a];simp only[Cd8,Us,eP,eK];refine⟨eqR (Du (B2 rfl ?_)),eqR (Du (B2 rfl ?_))⟩<;>rw[c]<;>refine ifT (λ_ _=>by omega) (Cc ?_)
 .refine B2 (x:=h.Tree) (Fp) ?_;refine S9 (λi (x1:Sl Law) x2=>x2=(i:Int)/\x1=Ps h.Laws.g i) h.Laws.n _ (by omega) ⟨rfl,rfl⟩ ?_;rintro f i x1 x2 hle ⟨rfl,rfl⟩ hs;have hn:=MR h.Laws.g i;by_cases b:i<h.Laws.n
  .refine Br (Af ?_);rw[Us];exact B2 (Al1 q (d.laws i b) (a.laws.2 i b)) (Br (hs b _ _ ⟨Fl,rfl⟩))
  obtain rfl:i=h.Laws.n:=by omega
  refine Dt ?_;refine S9 (λv (x3:Sl (Sl Int)) x4=>x4=(v:Int)/\x3=Ps h.On.g v) h.On.n _ (by omega) ⟨rfl,rfl⟩ ?_;rintro r v x3 x4 hv ⟨rfl,rfl⟩ s;have j:=rn v;by_cases l:v<h.On.n
  .have o:=d.len v l;refine Br (Af ?_);rw[Us];exact B2 (x:=h.On.g v) (Fp) (Br (s l _ _ ⟨Fl,rfl⟩))
  obtain rfl:v=h.On.n:=by omega
  rw[ru];exact Dt (Af (Af ⟨_,rfl,rfl⟩))
 refine B2 (x:=⟨h.Tree,h.Laws,Ps h.On.g h.On.n⟩) (eqR ?_) ?_
 .unfold Lc;refine Af (Af ?_);refine S9 (λi x (X:Sl (Sl Int))=>x=(i:Int)/\X=Ps h.On.g i) h.On.n _ (by omega) ⟨rfl,rfl⟩ ?_;rintro f i x X hle ⟨rfl,rfl⟩ hs;have j:=rn i;by_cases b:i<h.On.n
  .have o:=d.len i b;refine Br (Af ?_);rw[Us];exact Af (Af (hs b _ _ ⟨Fl,rfl⟩))
  grind
 have j:=rn h.On.n;dsimp only;rw[ru];exact Af (Af ⟨_,rfl,rfl⟩)
def AB3 {h:Yc}(ht:Bl h.Tree)(a:h.On.n=h.Tree.n){u k:Nat}{L:Sl Law}:∀(m v:Nat),v<=m->v<h.Tree.n->N2 ⟨h.Tree,L,swO h u k⟩ v=N2 (swD h u k) v/\(N2 (swD h u k) v).n=(N2 h v).n
 |m,v,hm,hv=>by
  have e:=(Cb5 (h:=h) (u:=u) (k:=k) (v:=v) (by omega)).1;rcases Ar ht hv with⟨_,p⟩ | ⟨p,hp,e⟩
  .rw[AB (h:=h) (by omega),AB (h:=⟨h.Tree,L,swO h u k⟩) (by grind),AB (h:=swD h u k) (by show (h.Tree.g v).Ye<0;omega)];exact⟨rfl,by show 0+((swO h u k).g v).n=0+_;omega⟩
  rw[EA (h:=h) e hp,EA (h:=⟨h.Tree,L,swO h u k⟩) e hp,EA (h:=swD h u k) e hp]
  match m with
  |0=>omega
  |m+1=>obtain⟨i1,i2⟩:=AB3 ht a (u:=u) (k:=k) (L:=L) m p (by omega) (by omega);exact⟨by rw[i1];rfl,by show _+((swO h u k).g v).n=_+_;omega⟩
def Cb6 {h:Yc}(l:Q6 h)(c:AF N h){u k:Nat}(hk:k+1<(h.On.g u).n){L:Sl Law}(hn:L.n=h.Laws.n)(m:∀i,i<L.n->L.g i=h.Laws.g i):Q6 ⟨h.Tree,L,swO h u k⟩/\AF N ⟨h.Tree,L,swO h u k⟩:=by
 have f:=c.on;have r:=swO_n h u k;have hR:=λv (d:v<h.On.n)=>Cb5 (h:=h) (u:=u) (k:=k) d;refine⟨⟨λi hl=>?_,l.tree,by show (swO h u k).n<_;rw[r];exact l.on,λv d=>?_⟩,⟨c.tree,⟨by show L.n<=64;rw[hn];exact c.laws.1,λi hl=>?_⟩,?_,r.trans f,?_,λv d=>?_⟩⟩
 .have hl:i<L.n:=hl;show Vh (L.g i);rw[m i hl];exact l.laws i (by omega)
 .have d:v<(swO h u k).n:=d;show ((swO h u k).g v).n<_;rw[(hR v (by omega)).1];exact l.len v (by omega)
 .have hl:i<L.n:=hl;show chkAll N (L.g i);rw[m i hl];exact c.laws.2 i (by omega)
 .rintro⟨a,b,h1,q,o⟩;have q:b<L.n:=q;have o:(L.g a).Name=(L.g b).Name:=o;rw[m a (by omega),m b q]at o;exact c.dup ⟨a,b,h1,by omega,o⟩
 .rintro⟨v,d,hl⟩;have d:v<(swO h u k).n:=d;obtain⟨l1,l2⟩:=AB3 c.tree f (u:=u) (k:=k) (L:=L) v v (Ce5 _) (by omega);rw[l1,l2]at hl;exact c.long ⟨v,by omega,hl⟩
 have d:v<(swO h u k).n:=d;rintro⟨j,s,hb⟩;have s:j<((swO h u k).g v).n:=s;obtain⟨r1,r2⟩:=hR v (by omega);obtain⟨i,i1,i2⟩:=r2 j hk (by omega);have hb:((swO h u k).g v).g j<0 \/ (L.n:Int)<=((swO h u k).g v).g j:=hb;rw[i2,hn]at hb;exact c.bad v (by omega) ⟨i,i1,hb⟩
def BG0 {h:Yc}(b:Q6 h)(a:AF N h){u k:Nat}(hk:k+1<(h.On.g u).n):Q6 (swD h u k)/\AF N (swD h u k):=Cb6 b a hk rfl λ_ _=>rfl
def Cb7 {h:Yc}(b:Q6 h)(a:AF N h){u k:Nat}(hk:k+1<(h.On.g u).n):Q6 (swP h u k)/\AF N (swP h u k):=Cb6 b a hk (MR _ _) λi hl=>TX _ (by rwa [MR]at hl)
def lw_sw {h:Yc}(c:Q6 h)(a:AF N h){u k:Nat}(hk:k+1<(h.On.g u).n){v:Nat}(b:v<h.Tree.n):lw (swP h u k) v=lw (swD h u k) v:=by
 have hl:=Zj (BG0 c a hk).2 v v (Ce5 _) b;have e:N2 (swP h u k) v=N2 (swD h u k) v:=(AB3 a.tree a.on v v (Ce5 _) b).1
 have:∀m,m<=(N2 (swD h u k) v).n->pk (swP h u k) (N2 (swD h u k) v) m=pk (swD h u k) (N2 (swD h u k) v) m:=λm=>by
  induction m with
  |zero=>exact λ_=>rfl
  |succ m ih=>
   grind[N2,swD,pk,swP,Ps,TX]
 simp_all[lw,Ce5]
def Bm3 (b:3000000<=N){p:B0}(hp:Ph p)(a:Pj N p=0):Vj N p.Yc p.Yb p.Yf:=by
 unfold Pj at a;split at a
 .omega
 split at a
 .omega
 exact (Bi7 (by omega) hp.pro hp.ent).1 a
noncomputable def rg (N:Nat) (p:B0) (g:Yc) (i k:Nat):Bool:=F5 N (lw g ((Q7 p.Yc.Tree p.Yc.Tree.n).g k).toNat) (p.Yb.g i) (frm p.Yf i k)==some true
theorem Bm4 (d:3000000<=N){p:B0}(ha:Vj N p.Yc p.Yb p.Yf){g:Yc}(f:Q6 g)(a:AF N g)(ht:g.Tree=p.Yc.Tree){i k:Nat}(c:i<p.Yf.n)(hk:k<fwL p.Yf i) :F5 N (lw g ((Q7 p.Yc.Tree p.Yc.Tree.n).g k).toNat) (p.Yb.g i) (frm p.Yf i k)=some (rg N p g i k)/\Ad N p g (i:Int) (k:Int)=some (rg N p g i k):=by
 have r:=ha.fn i c;have j:=ha.pn;have hk:k<(p.Yf.g i).Yg.n:=hk;obtain⟨u,s,e⟩:=MO p.Yc.Tree p.Yc.Tree.n k (by omega);have l:=KJ ha.hist.tree;have key:∃b,F5 N (lw g ((Q7 p.Yc.Tree p.Yc.Tree.n).g k).toNat) (p.Yb.g i) (frm p.Yf i k)=some b/\Ad N p g (i:Int) (k:Int)=some b:=by
  unfold Ad;simp only[Us];rw[Fp];by_cases m:(p.Yb.g i).Has=true/\(frm p.Yf i k).Has=true
  case neg=>
   refine⟨false,?_,Ge⟩
   simp_all[F5,Jk]
  obtain⟨b,q,b1,b2,b3⟩:=BP9 d f a (u:=u) (by rw[ht];omega) (ha.pw i (by omega)) m.2;have o:p.Yb.g i=⟨true,(p.Yb.g i).W⟩:=by cases h:p.Yb.g i;grind
  rw[e,Us];refine⟨b,by rw[o];omega,?_⟩;rw[Iw,(HY d (ht ▸ f.tree) (ht ▸ a.tree)).2,Cd8,ht]
  grind
 obtain⟨b,b1,b2⟩:=key
 have:rg N p g i k=b:=by grind[rg]
 rw[this]
 grind
def rgG (P:Nat->Nat->Bool)(i k:Nat):Option D0:=bif P i k then some ⟨(i:Int),(k:Int)⟩else none
noncomputable def chg (N:Nat) (p:B0) (g:Yc):Option D0:=(gr (rgG λi k=>rg N p p.Yc i k && !rg N p g i k) (fwL p.Yf) p.Yf.n 0).head?
def AW1 {B R:Type}(f:B->Option R)(e:Option R):∀L:List B,L.foldr (λb _=>f b) e=L.head?.elim e f
 |[]=>rfl
 |b::L=>rfl
def AB4 (c:3000000<=N){p:B0}(hp:Q6 p.Yc)(ha:Vj N p.Yc p.Yb p.Yf){g:Yc}(d:Q6 g)(b:AF N g)(ht:g.Tree=p.Yc.Tree){i k:Nat}(a:i<p.Yf.n)(hk:k<fwL p.Yf i) :DL N p g (i:Int) (k:Int)=some (rg N p p.Yc i k && !rg N p g i k):=by unfold DL;rw[(Bm4 c ha hp ha.hist rfl a hk).2,(Bm4 c ha d b ht a hk).2,Cd8];cases rg N p p.Yc i k<;>rfl
def Bm5 (j:3000000<=N){p:B0}(hp:Q6 p.Yc)(ha:Vj N p.Yc p.Yb p.Yf){g:Yc}(l:Q6 g)(f:AF N g)(ht:g.Tree=p.Yc.Tree) :GG N p g=(chg N p g).elim (some (0,0,false)) λb=>some (b.a0,b.a1,true):=by
 have m:=KJ ha.hist.tree;have hn:=ha.n;unfold chg;rw[<- AW1 (λb:D0=>some (b.a0,b.a1,true))];unfold GG;refine BA7 _ _ (by omega) (λi a=>by have:=ha.fn i a;grind) (λc i a=>Jk (by simp;omega)) (by grind) (λi c d a=>?_) λi k c d a hk=>?_
 .rw[Us,Fp,Hh,Fl]
 have o : k<(p.Yf.g i).Yg.n:=hk
 have:=ha.fn i a
 rw[Us,Fp,Ge,AB4 j hp ha l f ht a hk,Cd8,Fl,rgG];cases rg N p p.Yc i k && !rg N p g i k<;>rfl
abbrev sP (p:B0)(v:Nat):Nat:=(p.Yc.On.g v).n-1
noncomputable def swG (N:Nat) (p:B0) (v i:Nat):Option Dj:=(chg N p (swD p.Yc v i)).map λb=>⟨(v:Int),(i:Int),b.a0,b.a1⟩
def WV (f:3000000<=N){p:B0}(hp:Ph p)(ha:Vj N p.Yc p.Yb p.Yf)(l:Pj N p=0):Bk N p=some (Hn Sl.nil (gr (swG N p) (sP p) p.Yc.On.n 0),0):=by
 have m:=ha.hist.on;have o:=ha.hist.tree.2.1;have j:∀i,i<p.Yc.On.n->(p.Yc.On.g i).n<=64:=λi d=>(Al2 ha.hist (x:=i) (by omega)).1;unfold Bk;rw[rChk f hp,l,Cd8,Jh];refine Cb4 (c:=64) (swG N p) (E:=λx=>some (x,0)) (by omega) (by grind) (by omega) (by grind) (λa x i d=>Jk (by simp;omega)) (by grind) (λi a b x d=>?_) λi k a b x d hk hx=>?_
 .have:=j i d
  have e:sP p i=(p.Yc.On.g i).n-1:=rfl;rw[Us,Fp,Fl,Iw,Fl]
 have:=j i d
 have hk:k<(p.Yc.On.g i).n-1:=hk;obtain⟨g1,g2⟩:=BG0 hp.hist ha.hist (u:=i) (k:=k) (by omega);rw[Us,Fp,Fl,Ge,(AJ9 f hp.hist ha.hist (by omega) (by omega)).2,Cd8];dsimp only;rw[Bm5 f hp.hist ha g1 g2 rfl,swG];cases chg N p (swD p.Yc i k)<;>grind
def rg_sw {p:B0}(b:Q6 p.Yc)(ha:Vj N p.Yc p.Yb p.Yf){u v:Nat}(c:v+1<(p.Yc.On.g u).n){i k:Nat}(a:i<p.Yf.n)(hk:k<fwL p.Yf i):rg N p (swP p.Yc u v) i k=rg N p (swD p.Yc u v) i k:=by have hk:k<(p.Yf.g i).Yg.n:=hk;obtain⟨w,hw,e⟩:=MO p.Yc.Tree p.Yc.Tree.n k (by rw[<- ha.fn i a];omega);unfold rg;rw[e,Us,lw_sw b ha.hist c hw]
def Am6 (c:3000000<=N){p:B0}(ha:Vj N p.Yc p.Yb p.Yf){g:Yc}(d:Q6 g)(a:AF N g)(ht:g.Tree=p.Yc.Tree):∃X,P9 N g=some X/\X.n=(Q7 p.Yc.Tree p.Yc.Tree.n).n/\∀i k,i<p.Yf.n->k<fwL p.Yf i->F5 N (X.g k) (p.Yb.g i) (frm p.Yf i k)=some (rg N p g i k):=by
 obtain⟨X,x1,x2,x3⟩:=BA1 c d a;rw[ht]at x2 x3;refine⟨X,x1,x2,λi k b hk=>?_⟩;rw[x3 k (by have:=ha.fn i b;have hk:k<(p.Yf.g i).Yg.n:=hk;omega)]
 grind[Bm4]
theorem BG1:∀(L:List D0) (z:Sl D0),z.n+L.length<=100000->T1 L (λa (x1:D0) (z1:Sl D0)=>
 if (Uq 16 (z1.n+(Sl.of [x1]:Sl D0).n))then
  a (z1.push x1)
 else none
 ) (λ(z1:Sl D0)=>some z1) z=some (Hn z L)
 |[],z,_=>rfl
 |x::L,z,h=>by simp at h;exact (Ge).trans (BG1 L (z.push x) (by grind))
def AK0 {B:Type}:∀(L:List B) (z:Sl B),(Hn z L).toList=z.toList++L
 |[],z=>by simp
 |b::L,z=>by show (Hn (z.push b) L).toList=_;rw[AK0 L,TU];simp
def WW (hN:3000000<=N){p:B0}(hp:Ph p)(ha:Vj N p.Yc p.Yb p.Yf)(h0:Pj N p=0):W6 N p=some (Hn Sl.nil (gr (swG N p) (sP p) p.Yc.On.n 0),0):=by
 have hon:=ha.hist.on;have h63:=ha.hist.tree.2.1;have hl63:=KJ ha.hist.tree;have hn:=ha.n;have hpn:=ha.pn;have ho:∀i,i<p.Yc.On.n->(p.Yc.On.g i).n<=64:=λi o=>(Al2 ha.hist (x:=i) (by omega)).1;have hF:∀i,i<p.Yf.n->fwL p.Yf i<=63:=λi hil=>by have:=ha.fn i hil;grind
 obtain⟨X,x1,x2,x3⟩:=Am6 hN ha hp.hist ha.hist rfl;generalize hL:gr (rgG (rg N p p.Yc)) (fwL p.Yf) p.Yf.n 0=L;have hLn:L.length<=p.Yf.n*63:=by rw[<- hL];exact BS8 _ _ _ (by grind)
 have r:Bf N p X=some L:=by
  rw[<- foldr_cons,<- hL];unfold Bf;refine BA7 _ _ (by omega) (by grind) (λd i o=>(Jk (by simp;omega)).trans (Fp)) (by grind) (λi d l o=>?_) λi k d l o hk=>?_
  .rw[Us,Hh,Fl]
  have:=hF i o
  have hf:=ha.fn i o;have hk' : k<(p.Yf.g i).Yg.n:=hk;rw[Us,Ge,Fp,Fp,Us,x3 i k o hk,Cd8,Fl,rgG];cases rg N p p.Yc i k<;>rfl
 have hex:V4 N p=some (gr (λv i=>some ((⟨(v:Int),(i:Int)⟩:D0),swP p.Yc v i)) (sP p) p.Yc.On.n 0):=by
  rw[<- foldr_cons];unfold V4;refine BA7 _ _ (by omega) (by grind) (λd i o=>(Jk (by simp;omega)).trans (Fp)) (by grind) (λi d l o=>?_) λi k d l o hk=>?_
  .have:=ho i o
   have e:sP p i=(p.Yc.On.g i).n-1:=rfl;rw[Us,Js (by rw[Ut];grind),Fl]
  have:=ho i o
  have hk:k<(p.Yc.On.g i).n-1:=hk;rw[Us,Jk (by rw[Ut];grind),(AJ9 hN hp.hist ha.hist (by omega) (by omega)).1,Cd8,Fl]
 have m:(Hn (Sl.nil:Sl D0) L).toList=L:=by rw[AK0];rfl
 have hgn:(Hn (Sl.nil:Sl D0) L).n=L.length:=by rw[Pq];grind
 have t:∀b∈L,∃i k:Nat,b=⟨(i:Int),(k:Int)⟩/\i<p.Yf.n/\k<fwL p.Yf i:=λb hb=>by
  rw[<- hL]at hb
  grind[AJ6,rgG,rg,Option.some.inj]
 have hc:N9 N L=some (Hn Sl.nil L):=by
  grind[N9,H7,BG1]
 generalize hY:Hn (Sl.nil:Sl D0) L=Y at m hgn hc;refine eqR ?_;unfold W6 Fz BB;refine B2 (pChk hN hp) (Fe (B2 x1 (B2 rfl (B2 r (B2 hc (B2 rfl (B2 hex ?_)))))));generalize hT:Hn (Sl.nil:Sl Dj) (gr (swG N p) (sP p) p.Yc.On.n 0)=T;have hch:∀{v i},i+1<(p.Yc.On.g v).n->(L.filterMap λb=>bif rg N p (swP p.Yc v i) b.a0.toNat b.a1.toNat then none else some b).head? = chg N p (swD p.Yc v i):=λ{v i} o=>by
  rw[<- hL,BA6];unfold chg;rw[AJ8 λa k h1 h2=>?_]
  have:=rg_sw hp.hist ha o (i:=a) (k:=k) (by omega) h2
  unfold rgG;dsimp only;rw[<- this];cases rg N p p.Yc a k
  all_goals simp_all
 have s:=BS8 (c:=64) (λv i=>some ((⟨(v:Int),(i:Int)⟩:D0),swP p.Yc v i)) (w:=sP p) p.Yc.On.n 0 (by grind);have s:(Sl.nil:Sl Dj).n+(gr (λv i=>some ((⟨(v:Int),(i:Int)⟩:D0),swP p.Yc v i)) (sP p) p.Yc.On.n 0).length<=100000:=by grind
 refine AU3 (λR (z:Sl Dj)=>z.n+R.length<=100000/\(∀q∈R,∃v i:Nat,v<p.Yc.On.n/\i<sP p v/\q=((⟨(v:Int),(i:Int)⟩:D0),swP p.Yc v i))/\Hn z (R.filterMap λq=>swG N p q.1.a0.toNat q.1.a1.toNat)=T) (by grind) ?_ _ _ ⟨s,λq hq=>?_,?_⟩
 .rintro q R z d ⟨m1,m2,m3⟩ hs;obtain⟨v,i,hv,y,rfl⟩:=m2 q (by simp);simp at m1;have y:i<(p.Yc.On.g v).n-1:=y;have hl64:=ho v hv;obtain⟨g1,g2⟩:=Cb7 hp.hist ha.hist (u:=v) (k:=i) (by omega);obtain⟨X',y1,y2,y3⟩:=Am6 hN ha g1 g2 rfl;have hC:=hch (v:=v) (i:=i) (by omega);have m3:Hn z (_::R |>.filterMap λq=>swG N p q.1.a0.toNat q.1.a1.toNat)=T:=m3;rw[Cr4]at m3;simp only[Us,swG]at m3;have m2':=λq hq=>m2 q (Ci7 _ hq);refine B2 y1 ?_;refine Z1 (λj x=>x=(j:Int)/\((L.drop j).filterMap λb=>bif rg N p (swP p.Yc v i) b.a0.toNat b.a1.toNat then none else some b).head? = chg N p (swD p.Yc v i)) Y.n _ (by omega) ⟨rfl,hC⟩ ?_;rintro self4 j x hj ⟨rfl,f⟩ hs4;by_cases hl:j<Y.n
  case neg=>rw[Cl7 (by omega)]at f;rw[<- f]at m3;exact Fe (hs z ⟨by omega,m2',m3⟩)
  have hd:=IP Y hl;rw[m]at hd;obtain⟨a,k,hb,h1,h2⟩:=t (Y.g j) (m ▸ Pc hl);rw[hd,Cr4,hb]at f;have hf:=ha.fn a h1;have h2' : k<(p.Yf.g a).Yg.n:=h2;simp only[Us]at f⊢;refine Br (Af ?_);rw[hb];simp only[Us];refine Af (B2 (y3 a k h1 h2) ?_);cases e:rg N p (swP p.Yc v i) a k
  .rw[e]at f;rw[<- f]at m3;exact ifT rfl (Br (hs (z.push _) ⟨by grind,m2',m3⟩))
  rw[e]at f;exact Du (hs4 hl _ ⟨Fl,f⟩)
 .grind[AJ6,Option.some.inj]
 simp_all[BA6]
def BA9 (d:3000000<=N){p:B0}(hp:Ph p)(price:Int):∃c e,T8 N p price=some (c,e)/\HV N p price=some (c,e)/\c.Bad.n<=100000/\c.Yd.n<=100000:=by
 unfold T8 HV DC IO;rw[pChk d hp,rChk d hp];simp only[Cd8];by_cases f:Pj N p=0
 case neg=>
  have hb:(Pj N p != 0)=true:=by grind
  simp_all
 have ha:=Bm3 d hp f;rw[f,Jh];by_cases g:0<=price/\price<=1073741824
 case neg=>
  rw[Ge]
  simp_all
 obtain⟨b,b1,b2,b3⟩:=BQ6 d hp.hist hp.pro hp.ent ha g;rw[Iw,Cd8,b1,b2,WW d hp ha f,WV d hp ha f];refine⟨_,_,rfl,rfl,b3,?_⟩;have i:=ha.hist.tree.2.1;have j:=ha.hist.on
 have:=BS8 (c:=64) (swG N p) (w:=sP p) p.Yc.On.n 0 λa h=>by have:=(Al2 ha.hist (x:=a) (by omega)).1;grind
 grind[Pq]
def excEq (x y:A7):((x.Yh==y.Yh)&&((x.X9==y.X9)&&((x.Kind==y.Kind)&&(x.Cost==y.Cost))))=true↔x=y:=by cases x;cases y;simp
def swpEq (x y:Dj):((x.Node==y.Node)&&((x.Place==y.Place)&&((x.Yh==y.Yh)&&(x.X9==y.X9))))=true↔x=y:=by cases x;cases y;simp
def AK1 {N:Nat}(c:3000000<=N){a b:EG}(h1:a.Bad.n<=100000)(d:a.Yd.n<=100000):FN N a b=some (sB a.Bad b.Bad&&sB a.Yd b.Yd):=by
 unfold FN;by_cases hn:a.Bad.n=b.Bad.n/\a.Yd.n=b.Yd.n
 .rw[Iw];refine eqK excEq hn.1 (by omega) (by omega) ?_;rw[<- Cp4 (sB a.Yd b.Yd)];exact eqK swpEq hn.2 (by omega) (by omega) rfl
 rw[Ge];congr 1;rw[eq_comm,Cu5,Cq7,Cq7,Ne,Ne,Oy,Oy];have g1:SE a.Bad b.Bad->a.Bad.n=b.Bad.n:=λh=>h.1;have g2:SE a.Yd b.Yd->a.Yd.n=b.Yd.n:=λh=>h.1
 grind
def Bm6 {N:Nat}(b:3000000<=N){p:B0}(hp:Ph p):∃s e,W6 N p=some (s,e)/\Bk N p=some (s,e)/\s.n<=100000:=by
 by_cases d:Pj N p=0
 .have ha:=Bm3 b hp d;refine⟨_,_,WW b hp ha d,WV b hp ha d,?_⟩;have f:=ha.hist.tree.2.1;have i:=ha.hist.on
  have:=BS8 (c:=64) (swG N p) (w:=sP p) p.Yc.On.n 0 λa h=>by have:=(Al2 ha.hist (x:=a) (by omega)).1;show (p.Yc.On.g a).n-1<=_;omega
  rw[Pq];show 0+_<=_;omega
 have hb:(Pj N p != 0)=true:=by simpa using d
 refine⟨Sl.nil,Pj N p,?_,?_,Cl6 _⟩
 .unfold W6;rw[pChk b hp,Cd8,Jk hb]
 unfold Bk;rw[rChk b hp,Cd8,Jk hb]
def AB5 {T R:Type}{Q:R->Prop}{N:Nat}{a:T}{K:Option R}(s:Sl T)(d:s.n<N)(hs:s.n<=100000)(f:∃r,K=some r/\Q r):∃r,U1 N (λ(b:Int->Sl T->Option R) (x:Int) (X:Sl T)=>
 if (decide (x<(X.n:Int))) then
  if (((0:Int)<=x/\x<(X.n:Int))/\x.toNat<X.n)then
   b (wrap .i64 (x+1)) (X.upd x.toNat a)
  else none
 else K) 0 s=some r/\Q r:=by
 refine S9 (λi x (X:Sl T)=>x=(i:Int)/\X.n=s.n) s.n _ d ⟨rfl,rfl⟩ ?_;rintro b i x X j ⟨rfl,g⟩ c;by_cases hl:i<s.n
 .exact Ag (Af (c hl _ _ ⟨Fl,g⟩))
 exact Cc f
def Ue {N:Nat}(d:3000000<=N)(hw:CT N=some true){p:B0}(hp:Ph p)(l:∀i,i<p.Yf.n->(p.Yf.g i).Yg.n<1100000)(price:Int):CB N p price=some true:=by
 refine eqR ?_;unfold CB;obtain⟨b,b1,_⟩:=AB0 d hp l;have wk:∃r,((CT N).bind λy=>some y)=some r/\r=true:=⟨true,by rw[hw];rfl,rfl⟩;refine B2 b1 (ifE (λ_=>wk) λm=>?_);obtain⟨c,e,m1,m2,c1,c2⟩:=BA9 d hp price;obtain⟨s,g,s1,s2,c3⟩:=Bm6 d hp;have hS:=AK1 d (a:=c) (b:=c) c1 c2;have f:=AK1 d (a:=⟨Sl.nil,s⟩) (b:=⟨Sl.nil,s⟩) (Cl6 _) c3;rw[(Oy _ _).2 (SE.refl _),(Oy _ _).2 (SE.refl _)]at hS f;refine B2 m2 (B2 s2 (Z1 (λi x=>x=(i:Int)) 2 _ (by omega) rfl ?_));rintro j i x o rfl hs;by_cases hl:i<2
 case neg=>exact Cc wk
 refine Ag (B2 m1 (B2 s1 (ltX ?_)));refine Dt (Dt (B2 hS (Du (B2 f (Du ?_)))));exact AB5 _ (Cq3 c1 (by omega)) c1 (AB5 _ (Cq3 c2 (by omega)) c2 (AB5 _ (Cq3 c3 (by omega)) c3 (hs hl _ (Fl))))
set_option maxRecDepth 100000
def AK5:CT 4194304=some true:=by decide +kernel
end Go.AM
