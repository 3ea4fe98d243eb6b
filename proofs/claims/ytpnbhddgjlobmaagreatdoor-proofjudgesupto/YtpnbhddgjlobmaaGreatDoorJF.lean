/- Part 6. -/
import Derived.Test.YtpnbhddgjlobmaaGreatDoorJE
set_option linter.defProp false
set_option linter.unusedSimpArgs false
set_option linter.unusedVariables false
set_option linter.unusedSectionVars false
namespace Go.AM
variable {N:Nat}
def Jz{c:Prop}{i:Decidable c}{α:Sort _}{a b:α}(h:¬c:=by decide):(ite c a b)=b:=Kd h
def Jq{c:Prop}{i:Decidable c}{α:Sort _}{a b:α}(h:¬c:=by grind):(ite c a b)=b:=Kd h
def Jn{c:Prop}{i:Decidable c}{α:Sort _}{a b:α}(h:¬c:=by simp):(ite c a b)=b:=Kd h
def Hr{c:Prop}{i:Decidable c}{α:Sort _}{a b:α}(h:¬c:=by omega):(ite c a b)=b:=Kd h
def Gn{c:Prop}{i:Decidable c}{α:Sort _}{a b:α}(h:c:=by grind):(ite c a b)=a:=Kb h
def Gl{c:Prop}{i:Decidable c}{α:Sort _}{a b:α}(h:c:=by simp):(ite c a b)=a:=Kb h
def Gi{c:Prop}{i:Decidable c}{α:Sort _}{a b:α}(h:c:=by omega):(ite c a b)=a:=Kb h
open IntKind (wrap)
def Ck8:=@BitVec.getLsbD_or
def Cl4:=@BitVec.getLsbD_and
def Co8:=@BitVec.getLsbD_not
def Cq0:=@Bool.eq_false_iff
def Cs7:=@Classical.axiomOfChoice
def Cv8:=@List.filterMap_cons
def Cw9:=@BitVec.eq_of_getLsbD_eq
def Cx0:=@Nat.testBit_two_pow_mul
def Cx1:=@List.filter_cons_of_pos
def Cx2:=@List.filter_cons_of_neg
def Cy3:=@List.filter_eq_nil_iff
def Cy8:=@Bool.and_eq_false_iff
def Cy9:=@List.filterMap_append
def Cz4:=@List.length_reverse
open Go.Proofs
def AB7 {A R:Type}{body:(A->Option R)->A->Option R}(st:Nat->A)(p:Nat->Bool)(n:Nat)(Aq2:Option R)(bad:Nat->Option R)
 (hb:∀self i,i<=n->(∀j,j<i->p j=true)->body self (st i)=ite (i<n) (ite (p i) (self (st (i+1))) (bad i)) Aq2) :
 ∀(N i:Nat),i<=n->(∀j,j<i->p j=true)->n-i<N->N3 N body (st i)=match (List.range n).find? (λi=>!p i)with|some i=>bad i|none=>Aq2
 |0,_,_,_,h=>by omega
 |N+1,i,hi,hp,h=>by
  rw[U2,hb _ i hi hp];by_cases h1:i<n
  .rw[Kb h1];by_cases a:p i=true
   .rw[Kb a];exact AB7 st p n Aq2 bad hb N (i+1) h1 (by grind) (by omega)
   rw[Kd a]
   have:(List.range n).find? (λi=>!p i)=some i:=by
    rw[List.find?_range_eq_some]
    grind
   rw[this]
  grind
def BB3 {R:Type}(p:Nat->Bool)(n:Nat)(Aq2 bad:Option R):(match (List.range n).find? (λi=>!p i)with|some i=>bad|none=>Aq2)=ite ((List.range n).all p) Aq2 bad:=by
 by_cases h:(List.range n).all p=true
 all_goals grind
def EH {A R:Type}{body:(A->Option R)->A->Option R}(st:Nat->A)(p:Nat->Bool)(n:Nat)(Aq2 bad:Option R){N:Nat}(a:n<N)
 (hb:∀self i,i<=n->(∀j,j<i->p j=true)->body self (st i)=ite (i<n) (ite (p i) (self (st (i+1))) bad) Aq2) :
 N3 N body (st 0)=ite ((List.range n).all p) Aq2 bad:=by
 rw[AB7 st p n Aq2 (λ_=>bad) hb N 0 (by omega) (λj b=>by omega) (by omega),BB3]
def DU (c:Int):Bool:=decide (97<=c)&&decide (c<=122)||decide (48<=c)&&decide (c<=57)
def KM (s:Str):Bool:=decide (1<=s.length)&&decide (s.length<=16)&&decide (97<=E8 s 0)&&decide (E8 s 0<=122)&&(List.range s.length).all λi=>DU (E8 s i)
def Bk4 (s:Str)(hs:s.length<N)(b:s.length<1000000000):Fc N s=some (KM s):=by
 unfold Fc;rw[Gn];by_cases hc:((((decide (((s.length:Nat):Int)<1))||(decide (16<((s.length:Nat):Int))))||(decide ((E8 s 0)<97)))||(decide (122<(E8 s 0))))=true
 .rw[Kb hc];simp at hc;simp only[KM,Ci3]
  grind
 rw[Kd hc];simp only[Cl1,Lx]at hc;refine (EH (λi:Nat=>(i:Int)) (λi=>DU (E8 s i)) s.length (some true) (some false) hs λa i g _=>?_).trans ?_
 .simp only[Lx];by_cases h:i<s.length
  .rw[Gi,Gi,Kb h,Fy];simp only[Dp,Ci2];show (ite (!DU (E8 s i)) _ _)=_;cases DU (E8 s i)<;>simp
  grind
 have h1:decide (1<=s.length)=true:=by grind
 have c:decide (s.length<=16)=true:=by grind
 have d:decide (97<=E8 s 0)=true:=by grind
 have f:decide (E8 s 0<=122)=true:=by grind
 simp only[KM,h1,c,d,f,Ct8];cases (List.range s.length).all λi=>DU (E8 s i)<;>rfl
def Rb (p:Int->Bool)(s:Str)(most:Int):Bool:=decide (1<=s.length)&&decide ((s.length:Int)<=most)&&(List.range s.length).all λi=>p (E8 s i)
def TV (s:Str)(most:Int)(p:Int->Bool)(f:Int->Option Bool)(b:∀i,i<s.length->f (E8 s i)=some (p (E8 s i)))(hs:s.length<N)(c:s.length<1000000000):J6 N s most f=some (Rb p s most):=by
 unfold J6;by_cases hc:((decide (((s.length:Nat):Int)<1))||(decide (most<((s.length:Nat):Int))))=true
 .rw[Kb hc];simp at hc;simp only[Rb,Ci3]
  grind
 rw[Kd hc];simp only[Cl1,Lx]at hc;refine (EH (λi:Nat=>(i:Int)) (λi=>p (E8 s i)) s.length (some true) (some false) hs λa i g _=>?_).trans ?_
 .simp only[Lx];by_cases h:i<s.length
  .rw[Gi,Gi,Kb h,Fy,b i h];simp only[Ci2];cases p (E8 s i)<;>simp
  grind
 have h1:decide (1<=s.length)=true:=by grind
 have d:decide ((s.length:Int)<=most)=true:=by grind
 simp only[Rb,h1,d,Ct8];cases (List.range s.length).all λi=>p (E8 s i)<;>rfl
def AB8 (s:Str)(most:Int)(p:Int->Bool)(f:Int->Option Bool)(b:∀c,f c=some (p c))(hs:s.length<N)(a:s.length<1000000000):J6 N s most f=some (Rb p s most):=TV s most p f (λi _=>b _) hs a
def AB9 (s:Str):Bool:=Rb DU s 16&&decide (57<E8 s 0)
def Bk5 (s:Str):AB9 s=KM s:=by
 rw[Cj9];simp only[AB9,KM,Rb,Ci6,Lx,Cj2,Cl6];constructor
 .rintro⟨⟨⟨h1,c⟩,a⟩,d⟩;have b:=a 0 (by omega);have ez:((0:Nat):Int).toNat=(0:Int).toNat:=rfl;simp only[DU,Cl1,Ci6,Lx]at b
  grind
 grind
def Bk6 (s:Sl Str):Bool:=(List.range s.n).all λi=>(List.range i).all λj=>!(s.g i==s.g j)
def AC0 (s:Sl Str):Bool:=(List.range s.n).all λi=>KM (s.g i)
def Zo (s:Sl Str):Int:=ite (24<s.n) 12 (ite (AC0 s) (ite (Bk6 s) 0 6) 15)
def BR0 (s:Sl Str)(d:1100000<=N)(hs:∀i,i<s.n->(s.g i).length<1100000) :KD N s=some (ite (Zo s=0) (some ⟨true,(Sl.of []:Sl Str).app s,Sl.nil⟩) none,Zo s):=by
 unfold KD Zo;by_cases b:24<s.n
 .rw[Gn,Kb b];simp
 rw[Jq,Kd b];refine (EH (λi:Nat=>(i:Int)) (λi=>KM (s.g i)) s.n (ite (Bk6 s) (some (some ⟨true,(Sl.of []:Sl Str).app s,Sl.nil⟩,0)) (some (none,6))) (some (none,15)) (by omega) λa i c _=>?_).trans ?_
 .simp only[Lx];by_cases h:i<s.n
  .rw[Gi,Gi,Kb h,Fy];rw[show (i:Int).toNat=i from rfl,Bk4 _ (by have:=hs i h;omega) (by have:=hs i h;omega)]
   grind
  rw[Hr,Kd h];refine (EH (λi:Nat=>(i:Int)) (λi=>(List.range i).all λj=>!(s.g i==s.g j)) s.n (some (some ⟨true,(Sl.of []:Sl Str).app s,Sl.nil⟩,0)) (some (none,6)) (by omega) λa i c _=>?_).trans ?_
  .skip
   by_cases h:i<s.n
   .rw[Gi,Kb h];refine (EH (λj:Nat=>(j:Int)) (λj=>!(s.g i==s.g j)) i (a ((i+1:Nat):Int)) (some (none,6)) (by omega) λself' j f _=>?_).trans ?_
    .skip
     by_cases h' : j<i
     .rw[Gi,Gi,Kb h',Fy]
      grind
     rw[Hr,Kd h',Fy]
    rfl
   grind
  rfl
 grind[AC0,Bk6]
def Xf {κ ν : Type}{eq : κ -> κ -> Bool}{k : κ}:∀{es:List (κ × ν)},(∀p,p∈es->eq k p.1=false)->K4 eq k es=none
 |[],_=>rfl
 |(a,v)::es,h=>by have h1:=h (a,v) (by simp);simp only[K4,h1,Ci8,Lw];exact Xf (by grind)
def Xg {κ ν : Type}{eq : κ -> κ -> Bool}{k : κ}:∀{es:List (κ × ν)}{p : κ × ν},p∈es->eq k p.1=true->∃v,K4 eq k es=some v
 |(a,v)::es,p,hp,h=>by
  by_cases e:eq k a=true
  .simp_all[K4]
  rcases Cm6.1 hp with rfl|hp
  .grind
  obtain⟨v',b⟩:=Xg hp h
  grind[K4]
def OA {κ ν : Type}{eq : κ -> κ -> Bool}{k : κ}{v : ν}:∀{es:List (κ × ν)},(∀p,p∈es->eq k p.1=false)->Fj eq k v es=es++[(k,v)]
 |[],_=>rfl
 |(a,x)::es,h=>by have h1:=h (a,x) (by simp);simp only[Fj,h1,Ci8,Lw,Cj3,Cp3,true_and];exact OA (by grind)
def AX5 (s:Sl Str)(k:Nat):List (Str×Int):=(List.range k).map λi=>(s.g i,(i:Int))
def Bk7 (s:Sl Str)(k:Nat):AX5 s (k+1)=AX5 s k++[(s.g k,(k:Int))]:=by simp[AX5,Cp5]
def BR1 (s:Sl Str)(o:1100000<=N)(hs:∀i,i<s.n->(s.g i).length<1100000) :Be N s=some (ite (Zo s=0) (some ⟨s,AX5 s s.n,Sl.nil,[],[]⟩) none,Zo s):=by
 unfold Be Zo;by_cases a:24<s.n
 .rw[Gn,Kb a];simp
 rw[Jq,Kd a];refine (EH (λi:Nat=>(i:Int)) (λi=>KM (s.g i)) s.n (ite (Bk6 s) (some (some ⟨s,AX5 s s.n,Sl.nil,[],[]⟩,0)) (some (none,6))) (some (none,15)) (by omega) λb i l _=>?_).trans ?_
 .simp only[Lx];by_cases h:i<s.n
  .rw[Gi,Gi,Kb h,Fy];rw[show (i:Int).toNat=i from rfl,AB8 (s.g i) 16 DU (λ(u3:Int)=>U1 N u3) (λc=>rfl) (by have:=hs i h;omega) (by have:=hs i h;omega),<- Bk5];simp only[Ci2,AB9];by_cases hc:Rb DU (s.g i) 16=true
   .have hl:1<=(s.g i).length:=by
     have hc:=hc
     simp_all[Rb,Ci6,Lx]
    rw[Gi]
    grind
   grind
  rw[Hr,Kd h];unfold V7;refine (EH (λi:Nat=>(AX5 s i,(i:Int))) (λi=>(List.range i).all λj=>!(s.g i==s.g j)) s.n (some (some ⟨s,AX5 s s.n,Sl.nil,[],[]⟩,0)) (some (none,6)) (by omega) λb i l _=>?_).trans ?_
  .dsimp only;by_cases h:i<s.n
   .rw[Gi,Gi,Kb h,Fy,show (i:Int).toNat=i from rfl];by_cases d:((List.range i).all λj=>!(s.g i==s.g j))=true
    .have hk:∀p,p∈AX5 s i->eqS (s.g i) p.1=false:=by
      intro p hp;simp only[AX5,Cp4,Cl6]at hp;obtain⟨j,f,rfl⟩:=hp
      have:=Cj2.1 d j (Cl6.2 f)
      simpa using this
     rw[Xf hk,K5,OA hk,<- Bk7,Kb d]
    obtain⟨v,m⟩:∃v,K4 eqS (s.g i) (AX5 s i)=some v:=by
     rw[Cx8]at d;obtain⟨j,f,q⟩:=List.all_eq_false.1 d;refine Xg (p:=(s.g j,(j:Int))) ?_ ?_
     .simp only[AX5,Cp4]
      grind
     grind
    rw[m,M5,Kd d]
   rw[Hr,Kd h]
   have:i=s.n:=by omega
   subst this;simp only[D2];rw[Gi];rfl
  rfl
 grind[AC0,Bk6]
def Cd6 (p m:BitVec 32)(i:Nat):Bool:=(p.getLsbD i&&m.getLsbD i)||((p.getLsbD i||m.getLsbD i)&&decide (24<=i))
def QB (p m:BitVec 32):Bool:=(List.range 32).all λi=>!Cd6 p m i
def AK1 (p m:BitVec 32)(b:1000<=N):G5 N (sOf p m)=some (QB p m):=by
 unfold G5;refine (EH (λi:Nat=>(i:Int)) (λi=>!Cd6 p m i) 32 (some true) (some false) (by omega) λa i c _=>?_).trans ?_
 .dsimp only;by_cases h:i<32
  .rw[Gn,Gi,Kb h,Fy];simp only[Xd];have e:decide ((24:Int)<=(i:Int))=decide (24<=i):=(by grind);rw[e]
   grind[Cd6]
  grind
 grind[QB]
def BW6 (p m:BitVec 32)(f:Nat):Int:=ite (QB p m=true/\f<24) (ite (p.getLsbD f) 1 (ite (m.getLsbD f) (-1) 0)) 0
def BR2 (p m:BitVec 32)(f:Nat)(a:1000<=N):W7 N (sOf p m) (f:Int)=some (BW6 p m f):=by
 unfold W7;rw[AK1 p m a];simp only[Ci2,lt,DQ,Xd,BW6];rw[Kb (by omega:(0:Int)<=(f:Int)),Kb (by omega:(0:Int)<=(f:Int))];have e:(decide ((0:Int)<=(f:Int))&&decide ((f:Int)<24))=decide (f<24):=by rw[Cj9];grind
 rw[e]
 grind
def BR3 (n:Nat)(p m:BitVec 32):Bool:=QB p m&&(List.range (24-n)).all λi=>!(BW6 p m (n+i) != 0)
def AC1 (v:D7)(p m:BitVec 32)(hn:v.F.n<=24)(a:1000<=N):Y8 N v (sOf p m)=some (BR3 v.F.n p m):=by
 unfold Y8;rw[AK1 p m a];simp only[Ci2,BR3];by_cases c:QB p m=true
 .rw[Jq];refine (EH (λi:Nat=>((v.F.n+i:Nat):Int)) (λi=>!(BW6 p m (v.F.n+i) != 0)) (24-v.F.n) (some true) (some false) (by omega) λb i d _=>?_).trans ?_
  .by_cases h:i<24-v.F.n
   .rw[Gn,Kb h,BR2 p m _ a,Fy]
    grind
   grind
  grind
 grind
def belG (n:Nat)(p m:BitVec 32):Bool:=decide (p &&& m=0#32)&&decide ((p ||| m) &&& ~~~(BitVec.ofNat 32 (2 ^ n-1))=0#32)
def AC2 {n:Nat}(hn:n<=24):wrap .u32 ((shI .shl .u32 1 ((n:Nat):Int))-1)=((BitVec.ofNat 32 (2 ^ n-1)).toNat:Int):=by
 have hp:2 ^ n<=2 ^ 24:=Cr5 (by omega) hn;have a:0<2 ^ n:=(by grind);rw[show (1:Int)=((1#32).toNat:Int) from rfl,BH1,Cu9,Cx6];have e:(1#32).toNat*2 ^ n % 2 ^ 32=2 ^ n:=by
  grind
 rw[e,show ((2 ^ n:Nat):Int)-((1#32).toNat:Int)=((2 ^ n-1:Nat):Int) by
  grind,Nt (by omega),Cw2,Co9 (by omega)]
def AC3 (v:A7)(p m:BitVec 32)(hn:v.feats.n<=24):O1 N v (sOf p m)=some (belG v.feats.n p m):=by unfold O1;rw[Gi,AC2 hn,Jf,Dh,Ed,eq0,eq0];rfl
def Cd7 {n:Nat}(hn:n<=24)(p m:BitVec 32):belG n p m=BR3 n p m:=by
 have a:∀i,i<32->(BitVec.ofNat 32 (2 ^ n-1)).getLsbD i=decide (i<n):=λi b=>by rw[BitVec.getLsbD_ofNat,Nat.testBit_two_pow_sub_one];grind
 have z:∀x:BitVec 32,x=0#32 ↔ ∀i,i<32->x.getLsbD i=false:=(by grind);rw[Cj9];simp only[belG,BR3,QB,Cd6,Ci6,Lx,z,Cj2,Cl6,Cl4,Ck8,Co8];constructor
 .rintro⟨h1,d⟩;have f : ∀i,i<32->n<=i->p.getLsbD i=false/\m.getLsbD i=false:=by grind
  grind[BW6]
 rintro⟨h1,d⟩;have g:QB p m=true:=by grind[QB,Cd6,List.all_eq_true]
 refine⟨λi b=>?_,λi b=>?_⟩
 .have h:=h1 i b;rw[Ck1]at h;cases hp:p.getLsbD i<;>cases hm:m.getLsbD i
  all_goals grind
 rw[a i b];by_cases j:i<n
 .grind
 by_cases c:i<24
 .have:=d (i-n) (by omega)
  rw[show n+(i-n)=i by omega]at this;simp only[BW6,g,c,and_self,Kk]at this;cases hp:p.getLsbD i<;>cases hm:m.getLsbD i<;>simp_all
 grind
abbrev fnd (n:Nat)(p:Nat->Bool):Option Nat:=(List.range n).find? p
def AK2 {n:Nat}{p:Nat->Bool}(h:fnd n p=none){i:Nat}(a:i<n):p i=false:=by
 have:=List.find?_eq_none.1 h i (Cl6.2 a)
 grind
def Pp {κ : Type}(eq : κ -> κ -> Bool)(f:Nat -> κ)(z : κ):∀l:List Nat,K4 eq z (l.map λi=>(f i,(i:Int)))=(l.find? λi=>eq z (f i)).map λi=>((i:Nat):Int)
 |[]=>rfl
 |a::l=>by
  simp only[Ck3,K4,List.find?_cons];cases h:eq z (f a)
  .simp;exact Pp eq f z l
  simp
def BR4 (s:Sl F9)(k:Nat):List (Str×Int):=(List.range k).map λi=>((s.g i).Af1,(i:Int))
def BR5 (s:Sl F9)(k:Nat):List (Tr×Int):=(List.range k).map λi=>((s.g i).S,(i:Int))
def AX6 (s:Sl F9)(z:Str)(k:Nat):K4 eqS z (BR4 s k)=(fnd k λi=>z==(s.g i).Af1).map λi=>((i:Nat):Int):=Pp eqS _ z _
def AX7 (s:Sl F9)(z:Tr)(k:Nat):K4 G2 z (BR5 s k)=(fnd k λi=>G2 z (s.g i).S).map λi=>((i:Nat):Int):=Pp G2 _ z _
structure IOk (v:A7):Prop where
 number:v.number=AX5 v.feats v.feats.n
 symbols:v.symbols=BR4 v.sounds v.sounds.n
 values:v.values=BR5 v.sounds v.sounds.n
 feats:v.feats.n<=24
 sounds:v.sounds.n<=256
 sym:∀i,i<v.sounds.n->1<=(v.sounds.g i).Af1.length/\(v.sounds.g i).Af1.length<=4
def BR6 (a b:Tr):G2 a b=decide (a=b):=by
 rw[Cj9];cases a;cases b
 grind
def BI6:Str:=[64,63,33,38,42,36,37]
def Cd8 (c:Int):Bool:=(decide (65<=c)&&decide (c<=90))||decide (0<=Lib.indexByte BI6 (UInt8.ofNat c.toNat))
def BB4 (c:Int):Bool:=DU c||Cd8 c
def Vv (z:Str):Bool:=Rb BB4 z 4
def TW (s:Str)(i:Int):0<=E8 s i/\E8 s i<256:=by
 have:=UInt8.toNat_lt (s.getD i.toNat 0)
 grind
def BR7 (c:Int)(a:0<=c)(h1:c<256):M8 N c=some (BB4 c):=by
 unfold M8;have hs:U1 N c=some (DU c):=rfl;have b:P2 N [64,63,33,38,42,36,37] c=some (Lib.indexByte BI6 (UInt8.ofNat c.toNat)):=by unfold P2;rw[Kb ⟨a,h1⟩];rfl
 rw[hs,b]
 grind[lt,BB4,Cd8,DU]
def Bk8 (n:Nat)(s:Sl F9)(z:Str)(p m:BitVec 32):Int:= ite (Vv z) (ite (BR3 n p m) (ite ((fnd s.n λi=>z==(s.g i).Af1||decide (sOf p m=(s.g i).S)).isSome) 6 (ite (s.n=256) 4 0)) 14) 15
def BW7 (v:A7)(z:Str)(s:Tr):A7:=⟨v.feats,v.number,v.sounds.push ⟨z,s⟩,BR4 (v.sounds.push ⟨z,s⟩) (v.sounds.n+1),BR5 (v.sounds.push ⟨z,s⟩) (v.sounds.n+1)⟩
def Bk9 (s:Sl F9)(x:F9):BR4 (s.push x) (s.n+1)=BR4 s s.n++[(x.Af1,(s.n:Int))]:=by
 grind[BR4,List.range_succ,List.map_congr_left]
def Bl0 (s:Sl F9)(x:F9):BR5 (s.push x) (s.n+1)=BR5 s s.n++[(x.S,(s.n:Int))]:=by
 grind[BR5,List.range_succ,List.map_congr_left]
def Cd9 (n:Nat)(p q:Nat->Bool):(fnd n λi=>p i||q i).isSome=((fnd n p).isSome||(fnd n q).isSome):=by
 rw[Cj9]
 grind
theorem BB5 {z:Str}(h:Vv z=true):1<=z.length/\z.length<=4:=by simp only[Vv,Rb,Ci6,Lx]at h;omega
def BR8 {v:A7}(h:IOk v)(z:Str)(p m:BitVec 32)(f:z.length<N)(d:z.length<1000000000) :P4 N v z (sOf p m)=some (Bk8 v.feats.n v.sounds z p m,ite (Bk8 v.feats.n v.sounds z p m=0) (BW7 v z (sOf p m)) v):=by
 unfold P4;rw[TV z 4 BB4 (λu1=>M8 N u1) (λi c=>BR7 _ (TW z i).1 (TW z i).2) f d,AC3 v p m h.feats,Cd7 h.feats,h.symbols,h.values,AX6,AX7];simp only[J5,Ci2,BR6];rw[Jn];unfold Bk8;rw[Cd9];show (ite (!Vv z) _ _)=_;cases hs:Vv z
 .simp
 cases hb:BR3 v.feats.n p m
 .simp
 simp only[Cq8,Ci8,Lw,Kk];cases e1:fnd v.sounds.n λi=>z==(v.sounds.g i).Af1 with
 |some i=>cases e2:fnd v.sounds.n λi=>decide (sOf p m=(v.sounds.g i).S)<;>simp[JA]
 |none=>
  cases e2:fnd v.sounds.n λi=>decide (sOf p m=(v.sounds.g i).S)with
  |some i=>simp[JA]
  |none=>
   have hn:=h.sounds;simp only[Cu6,K5,Option.isSome_none,Bool.or_false,Ci8,Lw];by_cases a:v.sounds.n=256
   .grind
   rw[Jq,Gn,Kd a];simp only[Kk,Ci3,Cj6,true_and,BW7,Bk9,Bl0];congr 1
   .refine OA λq b=>?_;simp only[BR4,Cp4,Cl6]at b;obtain⟨i,c,rfl⟩:=b;exact AK2 e1 c
   refine OA λq b=>?_;simp only[BR5,Cp4,Cl6]at b;obtain⟨i,c,rfl⟩:=b;rw[BR6];exact AK2 e2 c
def BR9 {v:A7}(h:IOk v){z:Str}{p m:BitVec 32}(a:Bk8 v.feats.n v.sounds z p m=0):IOk (BW7 v z (sOf p m)):=by
 have hs:Vv z=true:=by
  grind[Bk8]
 have hn:v.sounds.n<256:=by
  have:=h.sounds
  unfold Bk8 at a;rw[Kb hs]at a;omega
 refine⟨h.number,rfl,rfl,h.feats,hn,λi b=>?_⟩;show 1<=(ite (i<v.sounds.n) (v.sounds.g i) (⟨z,_⟩)).Af1.length/\_;show 1<=(ite (i<v.sounds.n) (v.sounds.g i) (⟨z,_⟩)).Af1.length/\(ite (i<v.sounds.n) (v.sounds.g i) (⟨z,_⟩)).Af1.length<=4;split
 .rename_i h';exact h.sym i h'
 grind[BB5]
def Ch4 (s:Tr):Prop:=s=sOf (BitVec.ofInt 32 s.Plus) (BitVec.ofInt 32 s.Minus)
def Ce0 (n:Nat)(l:Sl F9)(z:Str)(s:Tr):Int:=Bk8 n l z (BitVec.ofInt 32 s.Plus) (BitVec.ofInt 32 s.Minus)
def iAddS {v:A7}(h:IOk v)(z:Str){s:Tr}(hs:Ch4 s)(b:z.length<N)(a:z.length<1000000000) :P4 N v z s=some (Ce0 v.feats.n v.sounds z s,ite (Ce0 v.feats.n v.sounds z s=0) (BW7 v z s) v):=by
 have:=BR8 h z (BitVec.ofInt 32 s.Plus) (BitVec.ofInt 32 s.Minus) b a
 rw[<- hs]at this;exact this
def BB6 {v:A7}(h:IOk v){z:Str}{s:Tr}(hs:Ch4 s)(a:Ce0 v.feats.n v.sounds z s=0):IOk (BW7 v z s):=by
 have:=BR9 h a
 rw[<- hs]at this;omega
def Ce1 (c:Int)(a:0<=c)(h1:c<256):KB N c=some (Cd8 c):=by
 have h:∀k:Fin 256,KB 0 ((k.val:Nat):Int)=some (Cd8 ((k.val:Nat):Int)):=by decide +kernel
 have:=h ⟨c.toNat,by omega⟩
 rw[show ((c.toNat:Nat):Int)=c by omega]at this;exact this
def AC4 (s:Str)(hs:s.length<N)(b:s.length<1000000000):Cz N s=some (Vv s):=by
 unfold Cz;by_cases hc:((decide (((s.length:Nat):Int)<1))||(decide (4<((s.length:Nat):Int))))=true
 .rw[Kb hc];simp at hc;simp only[Vv,Rb,Ci3]
  grind
 rw[Kd hc];simp only[Cl1,Lx]at hc;refine (EH (λi:Nat=>(i:Int)) (λi=>BB4 (E8 s i)) s.length (some true) (some false) hs λa i d _=>?_).trans ?_
 .by_cases h:i<s.length
  .have hb:=TW s i;have hl:Dp N (E8 s i)=some (DU (E8 s i)):=rfl;rw[Gn,Gi,Kb h,Fy,hl,Ce1 _ hb.1 hb.2];simp only[Ci2,lt];by_cases e:DU (E8 s i)=true
   .rw[Jq,Kb (show BB4 (E8 s i)=true by grind[BB4])];simp
   rw[Gn,Gi];by_cases e2:Cd8 (E8 s i)=true
   all_goals simp_all[Kd,Kb,BB4,E8]
  grind
 have h1:decide (1<=s.length)=true:=by grind
 have c:decide ((s.length:Int)<=4)=true:=by grind
 simp only[Vv,Rb,h1,c,Ct8];cases (List.range s.length).all λi=>BB4 (E8 s i)<;>rfl
def Ch5 (v:D7)(z:Str)(s:Tr):D7:=⟨v.Made,v.F,v.S.push ⟨z,s⟩⟩
def BS0 (v:D7)(hm:v.Made=true)(d:v.F.n<=24)(hS:v.S.n<=256)(z:Str)(p m:BitVec 32)(f:z.length<N)(b:z.length<1000000000)(l:1000<=N) :DR N v z (sOf p m)=some (Bk8 v.F.n v.S z p m,ite (Bk8 v.F.n v.S z p m=0) (Ch5 v z (sOf p m)) v):=by
 unfold DR;rw[AC4 z f b,AC1 v p m d l];simp only[N7,hm,Ci2];rw[Jn];unfold Bk8;cases hs:Vv z
 .simp
 cases hb:BR3 v.F.n p m
 .simp
 simp only[Cq8,Ci8,Lw,Kk];refine (AB7 (λi:Nat=>(i:Int)) (λi=>!(z==(v.S.g i).Af1||decide (sOf p m=(v.S.g i).S))) v.S.n (some (ite (v.S.n=256) 4 0,ite (v.S.n=256) v (Ch5 v z (sOf p m)))) (λ_=>some (6,v)) (λc i o _=>?_) N 0 (by omega) (λj q=>by omega) (by omega)).trans ?_
 .by_cases h:i<v.S.n
  .rw[Gn,Gi,Kb h,show (i:Int).toNat=i from rfl,Fy];have e0:((((v.S.g i).S.Plus==(sOf p m).Plus)&&((v.S.g i).S.Minus==(sOf p m).Minus)) != false)=decide (sOf p m=(v.S.g i).S):=by
    have:=BR6 (sOf p m) (v.S.g i).S
    rw[<- this];grind
   grind
  rw[Jq,Kd h];by_cases a:v.S.n=256
  .rw[Gn,Kb a,Kb a]
  rw[Jq,Kd a,Kd a,Gn]
  grind[Ch5]
 grind
structure Rel3 (v:A7) (r:D7):Prop where
 ok:IOk v
 made:r.Made=true
 feats:r.F=v.feats
 sounds:r.S=v.sounds
def BW8 (w:Sl Tr)(e:Int):Prop:=(32<w.n/\e=11) \/ (w.n<=32/\(∃i,i<w.n/\¬vS (w.g i))/\e=14) \/ (wOk w/\e=0)
def Bl1 {w:Sl Tr}{e e' : Int}(h:BW8 w e)(h' : BW8 w e'):e=e':=by
 rcases h with⟨h1,a⟩ | ⟨h1,⟨i,b,c⟩,a⟩ | ⟨h1,a⟩<;>rcases h' with⟨g1,g2⟩ | ⟨g1,⟨j,d,gv⟩,g2⟩ | ⟨g1,g2⟩
 .omega
 .omega
 .have:=g1.1;omega
 .omega
 .omega
 .exact Kf (g1.2 i b) c
 .have:=h1.1;omega
 .exact Kf (h1.2 j d) gv
 omega
def GP {w:Sl Tr}{e:Int}(h:BW8 w e):e=0↔wOk w:=by
 rcases h with⟨h1,a⟩ | ⟨h1,⟨i,b,c⟩,a⟩ | ⟨h1,a⟩
 .exact⟨λh=>by omega,λh=>by have:=h.1;omega⟩
 .exact⟨λh=>by omega,λh=>Kf (h.2 i b) c⟩
 grind
def Am3 (l:1000<=N){w:Sl Tr}(hw:∀i,i<w.n->okS (w.g i))(V:Tr->Option Bool)(d:∀p m:BitVec 32,V (sOf p m)=some (vB p m)) :∃e,(if (decide (32<(w.n:Int))) then
 some (11:Int)
 else
  N3 N (λa (x1:Int)=>
   if (decide (x1<(w.n:Int))) then
    if ((0:Int)<=x1/\x1<(w.n:Int))then
     (V (w.g x1.toNat)).bind λy3=>
     if (!y3) then
      some 14
     else
      a (wrap .i64 (x1+1))
    else none
   else
    some 0
   ) 0)=some e/\BW8 w e:=by
 by_cases hn:32<w.n
 .exact Bu ⟨11,rfl,.inl ⟨hn,rfl⟩⟩
 refine Fv ?_;refine X6 (λi x1=>x1=(i:Int)/\∀j,j<i->vS (w.g j)) w.n _ (by omega) (by grind) ?_;rintro b i x1 o ⟨rfl,h⟩ hs;by_cases hl:i<w.n
 .obtain⟨p,m,c⟩:=hw i hl;refine Bu (Ai (B4 (by rw[Vc,c];exact d p m) ?_));cases hb:vB p m
  .refine ifT rfl ⟨14,rfl,.inr (.inl ⟨by omega,⟨i,hl,λf=>?_⟩,rfl⟩)⟩
   have:=(AB5 c).1 f;rw[hb]at this;grind
  refine Eh (hs hl _ ⟨Fy,λj q=>?_⟩)
  grind[AB5]
 exact Fv ⟨0,rfl,.inr (.inr ⟨⟨by omega,by grind⟩,rfl⟩)⟩
def OB (a:1000<=N){w:Sl Tr}(hw:∀i,i<w.n->okS (w.g i)):∃e,W3 N w=some e/\BW8 w e:=
 Am3 a hw (Dk N) λp m=>Am0 p m
def Ih (a:1000<=N){w:Sl Tr}(hw:∀i,i<w.n->okS (w.g i)):∃e,Ad N w=some e/\BW8 w e:=
 Am3 a hw (X4 N) λp m=>Xe p m
def okL (l:Law):Prop:=okPS l.Left/\okPS l.Right/\∀i,i<l.If.n->okS (l.If.g i)
def okO (x:EM):Prop:=okS x.Set/\(∃c:BitVec 32,x.Clear=(c.toNat:Int))/\∃t:BitVec 32,x.Take=(t.toNat:Int)
def Ch6 (l:Law):Prop:=l.Out.n<=6/\∀i,i<l.Out.n->okO (l.Out.g i)/\(l.Out.g i).From<l.If.n/\((l.Out.g i).Take≠0->0<=(l.Out.g i).Of/\(l.Out.g i).Of<l.If.n)
def ne0 (x:BitVec 32):((x.toNat:Int) != 0)=decide (x≠0#32):=by rw[bne,eq0];simp
def or0 (x y:BitVec 32):x ||| y=0#32↔x=0#32/\y=0#32:=by
 grind
def Ce2 (x y z:BitVec 32):x &&& (y ||| z)=(x &&& y) ||| (x &&& z):=by
 grind
def BI7 (x y z:BitVec 32):(x ||| y) &&& z=(x &&& z) ||| (y &&& z):=by
 grind
def AK3 (g:1000<=N){x:EM}(hx:okO x)(k:Int):∃b,Ay N x k=some b/\HV N x k=some b:=by
 obtain⟨⟨a,b,d⟩,⟨c,hc⟩,t,ht⟩:=hx;have f:(16777215:Int)=((16777215#32).toNat:Int):=rfl;unfold Ay HV;simp only[lt,d,hc,ht,CB,AD a b g,Ci2];rw[f];simp only[Ed,Jf,Dh,ne0];by_cases h1:x.From < -1
 .simp[h1]
 by_cases i:k<=x.From
 .simp_all
 by_cases j:vB a b=true
 case neg=>simp_all
 simp only[h1,i,j,decide_false,Ci8,Lw,Cq8];rw[BI7,Ce2 t];generalize ~~~16777215#32=M;by_cases g1:c &&& M=0#32
 case neg=>simp_all
 by_cases g2:t &&& M=0#32
 case neg=>simp_all
 by_cases g3:c &&& (a ||| b)=0#32
 case neg=>simp_all
 by_cases g4:t &&& (a ||| b)=0#32
 case neg=>simp_all
 by_cases g5:t &&& c=0#32
 case neg=>simp_all
 simp[g1,g2,g3,g4,g5];by_cases g6:t.toNat=0
 .simp only[g6,Kk];cases x.Of==0<;>simp
 simp only[g6,Lw];cases (decide (0<=x.Of)&&decide (x.Of<k))<;>simp
abbrev nameC:Str:=[97,98,99,100,101,102,103,104,105,106,107,108,109,110,111,112,113,114,115,116,117,118,119,120,121,122,65,66,67,68,69,70,71,72,73,74,75,76,77,78,79,80,81,82,83,84,85,86,87,88,89,90,48,49,50,51,52,53,54,55,56,57,45]
def Bl2 {p:UInt8->Bool}:∀{l:Str},l.dropWhile p=[] ↔ ∀x∈l,p x=true
 |[]=>by simp
 |a::l=>by
  rw[List.dropWhile_cons];by_cases h:p a=true
  .rw[Kb h,Bl2];grind
  grind
theorem Zp (l cs:Str):Lib.trimS l cs=[] ↔ ∀b∈l,cs.contains b=true:=by
 unfold Lib.trimS Lib.trimLeftS Lib.trimRightS;rw[Bl2];constructor
 .intro h;have h:∀x∈l.reverse.dropWhile (cs.contains ·),cs.contains x=true:=(by grind);have a:l.reverse.dropWhile (cs.contains ·)=[]:=by
   rcases e:l.reverse.dropWhile (cs.contains ·)with _|⟨y,r⟩
   .rfl
   have c:=h y (by rw[e];simp);have d:¬cs.contains y=true:=by
    have:=List.head_dropWhile_not (cs.contains ·) (l:=l.reverse) (by rw[e];simp)
    grind
   grind
  rw[Bl2]at a
  grind
 grind[List.dropWhile_sublist]
abbrev Zq (y:Int):Bool:=((((decide (97<=y))&&(decide (y<=122)))||((decide (65<=y))&&(decide (y<=90))))||((decide (48<=y))&&(decide (y<=57))))||(y==45)
def Bl3:∀k:Fin 256,nameC.contains (UInt8.ofNat k.val)=Zq ((k.val:Nat):Int):=by decide +kernel
def Bl4 (b:UInt8):nameC.contains b=Zq ((b.toNat:Nat):Int):=by
 have:=Bl3 ⟨b.toNat,b.toNat_lt⟩
 rw[show UInt8.ofNat b.toNat=b by simp]at this;omega
def Am4 {s:Str}(g:s.length<N)(hs:s.length<1000000000):∃b,Ek N s=some b/\Ep N s=some b:=by
 have l:∃b,Ep N s=some b/\(b=true↔(∀c∈s,nameC.contains c=true)/\1<=s.length/\s.length<=24):=by
  unfold Ep;refine X6 (λi x1=>x1=(i:Int)/\∀j (h:j<s.length),j<i->nameC.contains s[j]=true) s.length _ g (by grind) ?_;rintro d i x1 o ⟨rfl,h⟩ a;by_cases hl:i<s.length
  .refine Bu (Ai ?_);have eb:E8 s (i:Int)=((s[i].toNat:Nat):Int):=by simp[E8,hl]
   by_cases hb:nameC.contains s[i]=true
   .refine ifF (by rw[eb];show ¬(!(Zq ((s[i].toNat:Nat):Int)))=true;rw[<- Bl4,hb];simp) (a hl _ ⟨Fy,λj m n=>?_⟩)
    grind
   refine ifT ?_ (by grind);rw[eb];show (!(Zq ((s[i].toNat:Nat):Int)))=true;rw[<- Bl4]
   grind
  refine Fv ⟨_,rfl,?_⟩;simp only[Ci6,Lx];constructor
  .rintro⟨g1,g2⟩;refine⟨λc hc=>?_,by omega,by omega⟩;obtain⟨j,m,rfl⟩:=Cp0 hc
   grind
  omega
 obtain⟨b,e,hb⟩:=l;refine⟨b,?_,e⟩
 suffices h:∃r,Ek N s=some r/\(r=true↔(∀c∈s,nameC.contains c=true)/\1<=s.length/\s.length<=24) by
  grind
 unfold Ek;refine ltX ?_;by_cases q:s=[]
 .grind
 refine Bu ?_;have f:0<s.length:=(by grind);by_cases h1:s.length<=24
 .refine Bu (B4 (x:=Lib.trimS s nameC) ?_ ⟨_,rfl,?_⟩)
  .unfold Ax;rw[Kb ⟨by omega,by decide,by decide⟩]
  grind[Zp]
 grind
def Am5 {s:Sl EM}(l:s.n<N)(hs:s.n<1000000){f:EM->Option Bool}{b:Nat->Bool}(m:∀i,i<s.n->f (s.g i)=some (b i)) :∃r,D4 N s f=some r/\(r=true ↔ ∃i,i<s.n/\b i=true):=by
 unfold D4 G4
 have:∃y,N3 N (λ(a:Int->Option Int) (x1:Int)=>
  if (decide (x1<(s.n:Int))) then
   if ((0:Int)<=x1/\x1<(s.n:Int))then
    (f (s.g x1.toNat)).bind λy3=>
    if y3 then
     some x1
    else
     a (wrap .i64 (x1+1))
   else none
  else
   some (-1)) 0=some y/\(0<=y ↔ ∃i,i<s.n/\b i=true):=by
  refine X6 (λi x1=>x1=(i:Int)/\∀j,j<i->b j=false) s.n _ l (by grind) ?_;rintro d i x1 o ⟨rfl,h⟩ c;by_cases hl:i<s.n
  .refine Bu (Ai (B4 (by rw[Vc];exact m i hl) ?_));cases hb:b i
   .refine Eh (c hl _ ⟨Fy,λj q=>?_⟩)
    grind
   grind
  refine Fv ⟨-1,rfl,λh=>Kf h (by decide),?_⟩
  grind
 grind
def Vw (l:Law):Prop:=okL l/\l.Name.length<1100000/\l.If.n<1100000/\l.Out.n<1100000/\∀i,i<l.Out.n->okO (l.Out.g i)
def AX8 {s:Tr}(hs:okS s):∃b,H1 N s=some b/\(b=true↔vS s):=by obtain⟨p,m,e⟩:=hs;exact⟨vB p m,by rw[e];grind[CB],(AB5 e).symm⟩
def AX9 (a:1000<=N){s:Tr}(hs:okS s):∃b,G5 N s=some b/\(b=true↔vS s):=by obtain⟨p,m,e⟩:=hs;exact⟨vB p m,by rw[e];grind[AD],(AB5 e).symm⟩
def BB7 {x:EM}(hx:okO x){k:Int}(h:Ay N x k=some true):x.From<k/\(x.Take≠0->0<=x.Of/\x.Of<k):=by
 obtain⟨⟨a,b,c⟩,_,_⟩:=hx;unfold Ay at h;simp only[lt,c,CB,Ci2]at h
 grind
def chkAll (N:Nat)(l:Law):Prop:=Ep N l.Name=some true/\chk 40 [l.Left]/\chk 40 [l.Right]/\l.If.n<=4/\l.Out.n<=6/\l.If.n+l.Out.n≠0/\1<=l.Mode/\l.Mode<=3/\(∀i,i<l.If.n->vS (l.If.g i))/\∀i,i<l.Out.n->Ay N (l.Out.g i) l.If.n=some true
def Ce3 (N:Nat)(l:Law)(e:Int):Prop:=(e=0/\chkAll N l) \/ (e=17/\¬chkAll N l)
def Ch7 (l:Law):Prop:=okL l/\chk 40 [l.Left]/\chk 40 [l.Right]/\l.If.n<=4/\Ch6 l/\l.If.n+l.Out.n≠0/\1<=l.Mode/\l.Mode<=3
def chkAll.f {N:Nat}{l:Law}(hl:Vw l)(h:chkAll N l):Ch7 l:=by obtain⟨_,h1,b,c,d,g,j,m,o,n⟩:=h;exact⟨hl.1,h1,b,c,⟨d,λi a=>⟨hl.2.2.2.2 i a,BB7 (hl.2.2.2.2 i a) (n i a)⟩⟩,g,j,m⟩
def AY0 (hN:3000000<=N){l:Law}(hl:Vw l):∃e,Ab N l=some e/\Ce3 N l e:=by
 have r:=hl.2.1;have t:=hl.2.2.1;have u:=hl.2.2.2.1;unfold Ab;obtain⟨b0,e0,e0'⟩:=Am4 (N:=N) (s:=l.Name) (by omega) (by omega);refine B4 e0 ?_;cases b0
 .exact ifT rfl ⟨17,rfl,.inr ⟨rfl,λh=>by have:=h.1;rw[e0']at this;grind⟩⟩
 refine Eh ?_;obtain⟨y2,e2,j⟩:=Zn (N:=N) (by omega) hl.1.1;refine B4 e2 ?_;by_cases c2:y2=0
 case neg=>exact Bu ⟨17,rfl,.inr ⟨rfl,λh=>c2 (j.2 h.2.1)⟩⟩
 refine Fv ?_;obtain⟨y3,e3,m⟩:=Zn (N:=N) (by omega) hl.1.2.1;refine B4 e3 ?_;by_cases c3:y3=0
 case neg=>exact Bu ⟨17,rfl,.inr ⟨rfl,λh=>c3 (m.2 h.2.2.1)⟩⟩
 refine Fv ?_;by_cases c4:4<l.If.n
 .exact Bu ⟨17,rfl,.inr ⟨rfl,λh=>by have:=h.2.2.2.1;omega⟩⟩
 refine Fv ?_;by_cases c5:6<l.Out.n
 .exact Bu ⟨17,rfl,.inr ⟨rfl,λh=>by have:=h.2.2.2.2.1;omega⟩⟩
 refine Fv ?_;rw[GX (by omega)];by_cases c6:l.If.n+l.Out.n=0
 .exact ifT (by rw[c6];rfl) ⟨17,rfl,.inr ⟨rfl,λh=>h.2.2.2.2.2.1 c6⟩⟩
 refine Fv ?_;by_cases c7:l.Mode<1 \/ 3<l.Mode
 .exact Bu ⟨17,rfl,.inr ⟨rfl,λh=>by have g1:=h.2.2.2.2.2.2.1;have g2:=h.2.2.2.2.2.2.2.1;omega⟩⟩
 refine Fv ?_;have v:∀i,∃b,i<l.If.n->BC N (l.If.g i)=some b/\(b=true ↔ ¬vS (l.If.g i)):=by
  intro i;by_cases a:i<l.If.n
  .obtain⟨b,eb,hb⟩:=AX8 (N:=N) (hl.1.2.2 i a)
   grind[BC]
  grind
 obtain⟨f,o⟩:=Cs7 v;obtain⟨y4,e4,x⟩:=QA (N:=N) (w:=l.If) (by omega) (by omega) (f:=λu1=>BC N u1) (λi a=>(o i a).1);refine B4 e4 ?_;cases c:y4
 case true=>obtain⟨i,a,hb⟩:=x.1 c;exact ifT rfl ⟨17,rfl,.inr ⟨rfl,λh=>(o i a).2.1 hb (h.2.2.2.2.2.2.2.2.1 i a)⟩⟩
 refine Eh ?_;have y:∀i,∃b,i<l.Out.n->BB N (l.Out.g i) (l.If.n:Int)=some b/\(b=true ↔ ¬Ay N (l.Out.g i) l.If.n=some true):=by
  intro i;by_cases a:i<l.Out.n
  .obtain⟨b,eb,_⟩:=AK3 (N:=N) (by omega) (hl.2.2.2.2 i a) (l.If.n:Int)
   grind[BB]
  grind
 obtain⟨g,q⟩:=Cs7 y;obtain⟨y5,e5,z⟩:=Am5 (N:=N) (s:=l.Out) (by omega) (by omega) (f:=λu2=>BB N u2 (l.If.n:Int)) (λi a=>(q i a).1);refine B4 e5 ?_;cases d:y5
 case true=>obtain⟨i,a,hb⟩:=z.1 d;exact ifT rfl ⟨17,rfl,.inr ⟨rfl,λh=>(q i a).2.1 hb (h.2.2.2.2.2.2.2.2.2 i a)⟩⟩
 refine Eh ⟨0,rfl,.inl ⟨rfl,e0',j.1 c2,m.1 c3,by omega,by omega,c6,by omega,by omega,λi a=>?_,λi a=>?_⟩⟩
 all_goals grind
def AY1 (y:3000000<=N){l:Law}(hl:Vw l):∃e,Ae N l=some e/\Ce3 N l e:=by
 have t:=hl.2.1;have u:=hl.2.2.1;have v:=hl.2.2.2.1;unfold Ae;obtain⟨b0,e0,e0'⟩:=Am4 (N:=N) (s:=l.Name) (by omega) (by omega);refine B4 e0' (ltX ?_);cases b0
 .exact ifT rfl (ifT rfl ⟨17,rfl,.inr ⟨rfl,λh=>by have:=h.1;rw[e0']at this;grind⟩⟩)
 refine Eh ?_;obtain⟨y2,e2,o⟩:=TU (N:=N) (by omega) hl.1.1;refine B4 e2 ?_;by_cases c2:y2=0
 case neg=>exact Bu (ifT rfl ⟨17,rfl,.inr ⟨rfl,λh=>c2 (o.2 h.2.1)⟩⟩)
 refine Fv ?_;obtain⟨y3,e3,q⟩:=TU (N:=N) (by omega) hl.1.2.1;refine B4 e3 ?_;by_cases c3:y3=0
 case neg=>exact Bu ⟨17,rfl,.inr ⟨rfl,λh=>c3 (q.2 h.2.2.1)⟩⟩
 refine Fv ?_;rw[GX (by omega)];by_cases a:l.If.n<=4/\l.Out.n<=6/\l.If.n+l.Out.n≠0/\1<=l.Mode/\l.Mode<=3
 case neg=>
  refine ifT ?_ ⟨17,rfl,.inr ⟨rfl,λh=>a ⟨h.2.2.2.1,h.2.2.2.2.1,h.2.2.2.2.2.1,h.2.2.2.2.2.2.1,h.2.2.2.2.2.2.2.1⟩⟩⟩
  grind
 refine Fv ?_;obtain⟨c4,c5,c6,c7,c8⟩:=a;refine X6 (λi x1=>x1=(i:Int)/\∀j,j<i->vS (l.If.g j)) l.If.n _ (by omega) (by grind) ?_;rintro r i x1 z ⟨rfl,h⟩ hs;by_cases c:i<l.If.n
 .obtain⟨b,eb,hb⟩:=AX9 (N:=N) (by omega) (hl.1.2.2 i c);refine Bu (Ai (B4 (by rw[Vc];exact eb) ?_));cases b
  .exact ifT rfl ⟨17,rfl,.inr ⟨rfl,λh=>by have:=hb.2 (h.2.2.2.2.2.2.2.2.1 i c);grind⟩⟩
  refine Eh (hs c _ ⟨Fy,λj w=>?_⟩)
  grind
 refine Fv ?_;have x:∀j,j<l.If.n->vS (l.If.g j):=(by grind);refine X6 (λi x1=>x1=(i:Int)/\∀j,j<i->Ay N (l.Out.g j) l.If.n=some true) l.Out.n _ (by omega) (by grind) ?_;rintro f k x2 hk ⟨rfl,h'⟩ m;by_cases d:k<l.Out.n
 .obtain⟨b,eb,eb'⟩:=AK3 (N:=N) (by omega) (hl.2.2.2.2 k d) (l.If.n:Int);refine Bu (Ai (B4 (by rw[Vc];exact eb') ?_));cases b
  .exact ifT rfl ⟨17,rfl,.inr ⟨rfl,λh=>by have:=h.2.2.2.2.2.2.2.2.2 k d;rw[eb]at this;grind⟩⟩
  refine Eh (m d _ ⟨Fy,λj w=>?_⟩)
  grind
 exact Fv ⟨0,rfl,.inl ⟨rfl,e0',o.1 c2,q.1 c3,c4,c5,c6,c7,c8,x,by grind⟩⟩
def Bl5 {l:Law}{e e' : Int}(h:Ce3 N l e)(h' : Ce3 N l e'):e=e':=by
 rcases h with⟨rfl,h⟩ | ⟨rfl,h⟩<;>rcases h' with⟨rfl,h'⟩ | ⟨rfl,h'⟩
 all_goals grind
def OC (a:3000000<=N){l:Law}(hl:Vw l):∃e,Ab N l=some e/\Ae N l=some e/\Ce3 N l e:=by
 obtain⟨e,h,c⟩:=AY0 a hl;obtain⟨e',h',c'⟩:=AY1 a hl;obtain rfl:=Bl5 c c'
 grind
def Xh (laws:Sl Law):Prop:=∀i,i<laws.n->Vw (laws.g i)
def QC (N:Nat)(laws:Sl Law):Prop:=laws.n<=64/\∀i,i<laws.n->chkAll N (laws.g i)
abbrev okA (w:Sl Tr):Prop:=∀i,i<w.n->okS (w.g i)
def dep:Nat->Pat->Prop
 |0,_=>False
 |d+1,p=>p.L.n<=40/\∀i,i<p.L.n->dep d (p.L.g i)
theorem BI8:∀(d:Nat) (p:Pat),dep d p->∀e,d<=e->dep e p
 |0,_,h,_,_=>h.elim
 |d+1,p,h,0,he=>by omega
 |d+1,p,h,e+1,he=>⟨h.1,λi a=>BI8 d _ (h.2 i a) e (by omega)⟩
def Am6 {N:Nat}(c:1000<=N):∀(d:Nat),d<=40->∀(p:Pat) (M:Nat),N+d+2<=M->∃r:Nat,CR M p ((40-d:Nat):Int)=some (r:Int)/\40-d<r/\r<=41/\(r<=40->dep (d+1) p)
 |d,hd,p,0,hM=>by omega
 |d,hd,p,M+1,hM=>by
  have:∃x,CR (M+1) p ((40-d:Nat):Int)=some x/\∃r:Nat,x=(r:Int)/\40-d<r/\r<=41/\(r<=40->dep (d+1) p):=by
   show ∃x,DH (CR M) M p _=some x/\_;unfold DH;rw[Fy];refine S3 (λi x1 x2=>x2=(i:Int)/\∃k:Nat,x1=(k:Int)/\40-d+1+i<=k/\k<=41/\i<=p.L.n/\(k<=40->∀j,j<i->dep d (p.L.g j))) 41 _ (by omega) ⟨rfl,40-d+1,rfl,by omega,by omega,by omega,by omega⟩ ?_;rintro a i x1 x2 m ⟨rfl,k,rfl,h1,f,o,q⟩ hs;by_cases hc:i<p.L.n/\k<=40
   .refine Bu (Ai ?_);obtain⟨r,l,r1,r2,r3⟩:=Am6 c (40-k) (by omega) (p.L.g i) M (by omega);rw[show ((40-(40-k):Nat):Int)=(k:Int) by omega]at l;refine B4 (by rw[Vc];omega) (hs (by omega) _ _ ⟨Fy,r,rfl,by omega,r2,by omega,λb j s=>?_⟩)
    grind[BI8]
   refine Fv ⟨_,rfl,k,rfl,by omega,f,λhk=>⟨by omega,by grind⟩⟩
  grind
def Zr (a:2000<=N)(p:Pat):∃r:Nat,Ej N p=some (r:Int)/\(r<=40->dep 41 p):=by
 obtain⟨r,h1,_,_,b⟩:=Am6 (N:=1000) (by omega) 40 (by omega) p N (by omega)
 grind[Ej,CR]
def Lz (s:Str):Bool:=(decide (1<=s.length)&&decide (s.length<=24))&&s.all λc=>Zq ((c.toNat:Nat):Int)
def Am7 {s:Str}(m:s.length<N)(hs:s.length<1000000000){let_:Int->Option Bool}(hl:∀y,let_ y=some (Zq y)){fin:Bool}(n:fin=(decide (1<=s.length)&&decide (s.length<=24))) :N3 N (λ(a:Int->Option Bool) (x1:Int)=>
  if (decide (x1<(s.length:Int))) then
   if ((0:Int)<=x1/\x1<(s.length:Int))then
    (let_ (E8 s x1)).bind λy3=>
    if (!y3) then
     some false
    else
     a (wrap .i64 (x1+1))
   else none
  else
   some fin
 ) 0=some (Lz s):=by
 suffices h:∃b,N3 N (λ(a:Int->Option Bool) (x1:Int)=>
  if (decide (x1<(s.length:Int))) then
   if ((0:Int)<=x1/\x1<(s.length:Int))then
    (let_ (E8 s x1)).bind λy3=>
    if (!y3) then
     some false
    else
     a (wrap .i64 (x1+1))
   else none
  else
   some fin
  ) 0=some b/\b=Lz s by grind
 refine X6 (λi x1=>x1=(i:Int)/\∀j (h:j<s.length),j<i->Zq ((s[j].toNat:Nat):Int)=true) s.length _ m (by grind) ?_;rintro l i x1 q ⟨rfl,h⟩ f;by_cases d:i<s.length
 .have eb:E8 s (i:Int)=((s[i].toNat:Nat):Int):=by simp[E8,d]
  refine Bu (Ai (B4 (hl _) ?_));rw[eb];cases hb:Zq ((s[i].toNat:Nat):Int)
  .refine ifT rfl ⟨false,rfl,?_⟩;symm;unfold Lz;rw[Cy8]
   right
   rw[List.all_eq_false]
   grind
  refine Eh (f d _ ⟨Fy,λj g o=>?_⟩);by_cases e:j=i
  .grind
  exact h j g (by omega)
 refine Fv ⟨_,rfl,?_⟩;unfold Lz;rw[n]
 have:(s.all λc=>Zq ((c.toNat:Nat):Int))=true:=Cj2.2 λc hc=>by obtain⟨j,g,rfl⟩:=Cp0 hc;exact h j g (by omega)
 rw[this,Ct9]
def Bl6 {s:Str}(a:s.length<N)(hs:s.length<1000000000):EV N s=some (Lz s):=by unfold EV;exact Am7 a hs (λy=>rfl) (by rw[Cj9];grind)
def Zs {s:Str}(a:s.length<N)(hs:s.length<1000000000):Em N s=some (Lz s):=by unfold Em;exact Am7 a hs (λy=>rfl) (by rw[Cj9];grind)
def BS1 (t:Sl Node)(v:Nat):Prop:=(v=0->(t.g 0).Yx = -1)/\(0<v->0<=(t.g v).Yx/\(t.g v).Yx<v)/\Lz (t.g v).Name=true/\∀u,u<v->(t.g u).Name≠(t.g v).Name
def Bn (t:Sl Node):Prop:=1<=t.n/\t.n<=63/\∀v,v<t.n->BS1 t v
def AC5 (t:Sl Node)(e:Int):Prop:=(e=0/\Bn t) \/ (e=16/\¬Bn t)
def AY2 {t:Sl Node}{e e' : Int}(h:AC5 t e)(h' : AC5 t e'):e=e':=by
 rcases h with⟨rfl,h⟩ | ⟨rfl,h⟩<;>rcases h' with⟨rfl,h'⟩ | ⟨rfl,h'⟩
 all_goals grind
def Pq (t:Sl Node):Prop:=∀v,v<t.n->(t.g v).Name.length<1100000
def Bl7 (v:3000000<=N){t:Sl Node}(ht:Pq t):∃e,Ba N t=some e/\AC5 t e:=by
 unfold Ba;by_cases w:t.n<1
 .exact Bu (Bu ⟨16,rfl,.inr ⟨rfl,λh=>by have:=h.1;omega⟩⟩)
 refine ifT (λ_ _=>by omega) ?_;by_cases h1:63<t.n
 .exact Bu ⟨16,rfl,.inr ⟨rfl,λh=>by have:=h.2.1;omega⟩⟩
 by_cases q:(t.g 0).Yx = -1
 case neg=>exact Bu ⟨16,rfl,.inr ⟨rfl,λh=>q ((h.2.2 0 (by omega)).1 rfl)⟩⟩
 refine Fv ?_;refine X6 (λi x1=>x1=(i:Int)/\∀j,j<i->BS1 t j) t.n _ (by omega) (by grind) ?_;rintro d i x1 x ⟨rfl,h⟩ hs;by_cases a:i<t.n
 case neg=>exact Fv ⟨0,rfl,.inl ⟨rfl,by omega,by omega,by grind⟩⟩
 refine Bu (ltX ?_);have l:=Zs (N:=N) (s:=(t.g i).Name) (by have:=ht i a;omega) (by have:=ht i a;omega);have rest:(0<i->0<=(t.g i).Yx/\(t.g i).Yx<i)->∃r,(if (!Lz (t.g i).Name) then some 16 else
  N3 N (λ(c:Int->Option Int) (x7:Int)=>
   if (decide (x7<(i:Int))) then
    if (((0:Int)<=x7/\x7<(t.n:Int))/\((0:Int)<=(i:Int)/\(i:Int)<(t.n:Int)))then
     if (((t.g x7.toNat).Name==(t.g (i:Int).toNat).Name) != false) then
      some 16
     else
      c (wrap .i64 (x7+1))
    else none
   else
    d (wrap .i64 ((i:Int)+1))
   ) 0)=some r/\AC5 t r:=by
  intro hp;cases hb:Lz (t.g i).Name
  .exact ifT rfl ⟨16,rfl,.inr ⟨rfl,λh=>by have:=(h.2.2 i a).2.2.1;rw[hb]at this;grind⟩⟩
  refine Eh ?_;refine X6 (λk x7=>x7=(k:Int)/\∀u,u<k->(t.g u).Name≠(t.g i).Name) i _ (by omega) (by grind) ?_;rintro m k x7 hk ⟨rfl,h'⟩ o;by_cases f:k<i
  .refine Bu (Ai ?_);rw[Vc,Vc];by_cases e:(t.g k).Name=(t.g i).Name
   .exact Bu ⟨16,rfl,.inr ⟨rfl,λh=>(h.2.2 i a).2.2.2 k f e⟩⟩
   refine Fv (o f _ ⟨Fy,λu y=>?_⟩)
   grind
  refine Fv (hs a _ ⟨Fy,λj z=>?_⟩);by_cases e:j=i
  .subst e;exact⟨by omega,hp,hb,by grind⟩
  grind
 by_cases b:0<i
 .refine Bu (Ai ?_);rw[Vc];by_cases g1:(t.g i).Yx<0
  .exact Bu (ifT rfl ⟨16,rfl,.inr ⟨rfl,λh=>by have:=((h.2.2 i a).2.1 b).1;omega⟩⟩)
  refine Fv (Ai ?_);by_cases g2:(i:Int)<=(t.g i).Yx
  .exact Bu (ifT rfl ⟨16,rfl,.inr ⟨rfl,λh=>by have:=((h.2.2 i a).2.1 b).2;omega⟩⟩)
  grind
 grind
def Ps {ν : Type}{k s:Str}{v : ν}:∀es:List (Str × ν),K4 eqS s (Fj eqS k v es)=if s=k then some v else K4 eqS s es
 |[]=>by
  simp_all[Fj,K4,eqS]
 |(a,x)::es=>by
  simp only[Fj];by_cases h:k=a
  .simp_all[Kb,eqS,K4]
  rw[Jq];simp only[K4];rw[Ps es]
  grind
def AK4 {ν : Type}{k:Str}{v : ν}:∀{es:List (Str × ν)},K4 eqS k es=none->(Fj eqS k v es).length=es.length+1
 |[],_=>rfl
 |(a,x)::es,h=>by
  simp only[K4]at h;simp only[Fj];by_cases e:eqS k a=true
  .rw[Kb e]at h;cases h
  rw[Kd e]at h;rw[Kd e,Cm2,AK4 h];rfl
def AK5 {ν : Type}{k:Str}{v x : ν}:∀{es:List (Str × ν)},K4 eqS k es=some x->(Fj eqS k v es).length=es.length
 |[],h=>by cases h
 |(a,y)::es,h=>by
  simp only[K4]at h;simp only[Fj];by_cases e:eqS k a=true
  .rw[Kb e];rfl
  rw[Kd e]at h;rw[Kd e,Cm2,AK5 h];rfl
def Bl8 (l:3000000<=N){t:Sl Node}(ht:Pq t):∃e,W4 N t=some e/\AC5 t e:=by
 unfold W4;by_cases m:t.n=0 \/ 63<t.n
 .exact Bu ⟨16,rfl,.inr ⟨rfl,λh=>by have g1:=h.1;have g2:=h.2.1;omega⟩⟩
 refine Fv ?_;refine S3 (λi (x2:List (Str×Bool)) x3=>x3=(i:Int)/\(∀j,j<i->BS1 t j)/\∀s,(K4 eqS s x2=some true/\∃u,u<i/\(t.g u).Name=s) \/ (K4 eqS s x2=none/\∀u,u<i->(t.g u).Name≠s)) t.n _ (by omega) ⟨rfl,by omega,λs=>.inr ⟨rfl,by omega⟩⟩ ?_;rintro d i x2 x3 o ⟨rfl,h,hm⟩ hs;by_cases a:i<t.n
 case neg=>exact Fv ⟨0,rfl,.inl ⟨rfl,by omega,by omega,by grind⟩⟩
 refine Bu (Ai (ltX ?_));rw[Vc];have b:=Bl6 (N:=N) (s:=(t.g i).Name) (by have:=ht i a;omega) (by have:=ht i a;omega);have e1:(ite (0<wrap .i64 ((i:Int)-1)) (0:Int) (wrap .i64 ((i:Int)-1)))=ite (i=0) (-1) 0:=by rw[Y0];split<;>split<;>omega
 rw[e1];by_cases g1:(i:Int)<=(t.g i).Yx
 .refine Bu (ifT rfl ⟨16,rfl,.inr ⟨rfl,λh=>?_⟩⟩);have hk:=h.2.2 i a;by_cases c:i=0
  .subst c;have:=hk.1 rfl;omega
  have:=(hk.2.1 (by omega)).2;omega
 refine Fv ?_;by_cases g2:(t.g i).Yx<if i=0 then -1 else 0
 .refine Bu (ifT rfl ⟨16,rfl,.inr ⟨rfl,λh=>?_⟩⟩);have hk:=h.2.2 i a;by_cases c:i=0
  .subst c;have:=hk.1 rfl;omega
  have:=(hk.2.1 (by omega)).1;omega
 refine Fv (B4 b ?_);cases hb:Lz (t.g i).Name
 .exact ifT rfl (ifT rfl ⟨16,rfl,.inr ⟨rfl,λh=>by have:=(h.2.2 i a).2.2.1;rw[hb]at this;grind⟩⟩)
 refine Eh ?_;rcases hm (t.g i).Name with⟨e,u,f,hn⟩ | ⟨e,hn⟩
 .rw[e];exact⟨16,rfl,.inr ⟨rfl,λh=>(h.2.2 i a).2.2.2 u f hn⟩⟩
 rw[e,K5];refine Fv (hs a _ _ ⟨Fy,λj q=>?_,λs=>?_⟩)
 .by_cases e:j=i
  .subst e;refine⟨λe=>?_,λhp=>?_,hb,hn⟩
   all_goals grind
  grind
 rw[Ps]
 grind
def Lm (a:3000000<=N){t:Sl Node}(ht:Pq t):∃e,W4 N t=some e/\Ba N t=some e/\AC5 t e:=by
 obtain⟨e,h1,b⟩:=Bl8 a ht;obtain⟨e',d,c⟩:=Bl7 a ht;obtain rfl:=AY2 b c
 grind
structure P8 (h:Yv):Prop where
 laws:Xh h.Laws
 tree:Pq h.Tree
 on:h.On.n<1100000
 len:∀v,v<h.On.n->(h.On.g v).n<1100000
def N6 (h:Yv)(v:Nat):Sl Int:= if hp:0<=(h.Tree.g v).Yx/\(h.Tree.g v).Yx<v then (N6 h (h.Tree.g v).Yx.toNat).app (h.On.g v)else Tj.app (h.On.g v)
termination_by v
decreasing_by omega
theorem AE {h:Yv}{v:Nat}(a:(h.Tree.g v).Yx<0):N6 h v=Tj.app (h.On.g v):=by rw[N6,dif_neg (by omega)]
theorem EI {h:Yv}{v p:Nat}(a:(h.Tree.g v).Yx=(p:Int))(hp:p<v):N6 h v=(N6 h p).app (h.On.g v):=by rw[N6,dif_pos (by omega),a,Vc]
theorem Av {t:Sl Node}(ht:Bn t){v:Nat}(a:v<t.n):(v=0/\(t.g v).Yx = -1) \/ ∃p:Nat,p<v/\(t.g v).Yx=(p:Int):=by
 have hk:=ht.2.2 v a;by_cases b:v=0
 .subst b;exact .inl ⟨rfl,hk.1 rfl⟩
 obtain⟨g1,g2⟩:=hk.2.1 (by omega);exact .inr ⟨(t.g v).Yx.toNat,by omega,by omega⟩
def AC6 {h:Yv}(a:P8 h)(ht:Bn h.Tree)(hn:h.On.n=h.Tree.n):∀(m v:Nat),v<=m->v<h.Tree.n->(N6 h v).n<=(v+1)*1100000
 |m,v,hm,hv=>by
  have hl:=a.len v (by omega);rcases Av ht hv with⟨_,e⟩ | ⟨p,hp,e⟩
  .rw[AE (by omega)]
   grind
  rw[EI e hp]
  match m with
  |0=>omega
  |m+1=>
   have:=AC6 a ht hn m p (by omega) (by omega)
   grind
def TX {h:Yv}(a:P8 h)(ht:Bn h.Tree)(hn:h.On.n=h.Tree.n):∀(M v:Nat),v+2<=M->v<h.Tree.n->Dn M h (v:Int)=some (N6 h v)
 |0,v,hM,_=>by omega
 |M+1,v,hM,hv=>by
  have b:=ht.2.1;show Dm (Dn M) M h (v:Int)=_;unfold Dm;rw[Jn,Gi,Vc];have hl:=a.len v (by omega);rcases Av ht hv with⟨c,e⟩ | ⟨p,hp,e⟩
  .rw[e,AE (by omega)]
   have:Dn M h (-1)=some Tj:=by
    obtain⟨K,rfl⟩:∃K,M=K+1:=⟨M-1,by omega⟩
    simp_all[Dm,Dn,Kb]
   rw[this,Ci2,Gn]
  have hb:=AC6 a ht hn p p (Ci9 _) (by omega);rw[e,TX a ht hn M p (by omega) (by omega),Ci2,EI e hp,Gi]
def AC7 (h:Yv):Prop:=∃v,v<h.On.n/\64<(N6 h v).n
def BS2 (h:Yv)(v:Nat):Prop:=∃k,k<(h.On.g v).n/\((h.On.g v).g k<0 \/ (h.Laws.n:Int)<=(h.On.g v).g k)
def Bl9 (h:Yv)(e:Int):Prop:=(AC7 h/\e=2) \/ (¬AC7 h/\(∃v,v<h.On.n/\BS2 h v)/\e=3) \/ (¬AC7 h/\(∀v,v<h.On.n->¬BS2 h v)/\e=0)
def Bm0 (hN:3000000<=N){h:Yv}(y:P8 h)(ht:Bn h.Tree)(hn:h.On.n=h.Tree.n):∃e,Bb N h=some e/\Bl9 h e:=by
 have h63:=ht.2.1;unfold Bb;refine Ai ?_;refine Al9 (λi (x4:Sl Int) (x5:Bool) x6=>x6=(i:Int)/\x4.n=h.On.n/\(∀v,v<i->x4.g v=((N6 h v).n:Int)/\(N6 h v).n<=64)/\(x5=true ↔ ∃v,v<i/\BS2 h v)) h.On.n _ (by omega) (by grind) ?_;rintro f i x4 x5 x6 hle ⟨rfl,hx,hp,hb⟩ hs;by_cases l:i<h.On.n
 case neg=>
  refine Fv ?_;have hl:¬AC7 h:=fun⟨v,d,hl⟩=>by have:=(hp v (by omega)).2;omega
  cases x5
  .exact Eh ⟨0,rfl,.inr (by grind)⟩
  obtain⟨v,d,g⟩:=hb.1 rfl;exact ifT rfl ⟨3,rfl,.inr (by grind)⟩
 refine Bu (ifT (by rw[Vc];omega) (Ai (ltX ?_)));rw[Vc];have hl:=y.len i (by omega);have hlb:=AC6 y ht hn i i (Ci9 _) (by omega);have rest:∀z:Sl Int,z.n=h.On.n->(∀v,v<i->z.g v=x4.g v)->z.g i=((N6 h i).n:Int)->∃r,(if (((0:Int)<=(i:Int)/\(i:Int)<(z.n:Int))/\i<z.n)then
  if (decide (64<(z.g i))) then
   some 2
  else
   V7 N (λ(c:Bool->Int->Option Int) (b:Bool) (a:Int)=>
    if (decide (a<((h.On.g i).n:Int))) then
     if ((0:Int)<=a/\a<((h.On.g i).n:Int))then
      c ((b||(decide (((h.On.g i).g a.toNat)<0)))||(decide ((h.Laws.n:Int)<=((h.On.g i).g a.toNat)))) (wrap .i64 (a+1))
     else none
    else
     f z b (wrap .i64 ((i:Int)+1))
    ) x5 0
  else none)=some r/\Bl9 h r:=by
  intro z hz hz1 q;refine Ai ?_;rw[q];by_cases s:64<(N6 h i).n
  .exact Bu ⟨2,rfl,.inl ⟨⟨i,l,s⟩,rfl⟩⟩
  refine Fv ?_;refine S3 (λk (b:Bool) a=>a=(k:Int)/\(b=true↔(∃v,v<i/\BS2 h v) \/ ∃j,j<k/\j<(h.On.g i).n/\((h.On.g i).g j<0 \/ (h.Laws.n:Int)<=(h.On.g i).g j))) (h.On.g i).n _ (by omega) (by grind) ?_;rintro t k b a hk ⟨rfl,m⟩ u;by_cases w:k<(h.On.g i).n
  .refine Bu (Ai (u w _ _ ⟨Fy,?_⟩));rw[Vc,Cl1,Cl1,m,Lx,Lx];constructor
   .grind
   grind
  refine Fv (hs l _ _ _ ⟨Fy,hz,λv d=>?_,m.trans ?_⟩)
  .grind
  constructor
  .rintro (⟨v,d,g⟩ | ⟨j,_,hj,g⟩)
   .grind
   exact⟨i,by omega,j,hj,g⟩
  rintro⟨v,d,g⟩;by_cases e:v=i
  .subst e;obtain⟨j,hj,g⟩:=g
   grind
  grind
 rcases Av ht (v:=i) (by omega)with⟨_,e⟩ | ⟨p,o,e⟩
 .rw[e];refine Fn (rest _ hx (λv d=>?_) ?_)
  .omega
  show (ite (i=i) ((h.On.g i).n:Int) _)=_;rw[Kb rfl,AE (by omega)]
  grind
 have x:=hp p o;rw[e];refine Ak (ifT ?_ ?_)
 .grind
 rw[Vc];refine rest _ hx (λv d=>?_) ?_
 .grind
 show (ite (i=i) (wrap .i64 ((ite (i=i) ((h.On.g i).n:Int) _)+(ite (p=i) _ (x4.g p)))) _)=_;rw[Kb rfl,Kb rfl,Hr,x.1,EI e o,Y0]
 grind
def BW9 (h:Yv)(i:Nat):Prop:=∃u v,u<v/\v<i/\(h.Laws.g u).Name=(h.Laws.g v).Name
open Classical in
noncomputable def hres (N:Nat) (h:Yv):Int:= if ¬Bn h.Tree then 16 else if 64<h.Laws.n then 12 else if ∃i,i<h.Laws.n/\¬chkAll N (h.Laws.g i)then 17 else if BW9 h h.Laws.n then 6 else if h.On.n≠h.Tree.n then 2 else if AC7 h then 2 else if ∃v,v<h.On.n/\BS2 h v then 3 else 0
structure Aw (N:Nat) (h:Yv):Prop where
 tree:Bn h.Tree
 laws:QC N h.Laws
 dup:¬BW9 h h.Laws.n
 on:h.On.n=h.Tree.n
 long:¬AC7 h
 bad:∀v,v<h.On.n->¬BS2 h v
def hres_zero {h:Yv}:hres N h=0↔Aw N h:=by
 unfold hres;constructor
 .intro g;split at g
  .cases g
  split at g
  .cases g
  split at g
  .cases g
  split at g
  .cases g
  split at g
  .cases g
  split at g
  .cases g
  split at g
  .cases g
  rename_i h1 j l a m b n;exact⟨by grind,⟨by omega,by grind⟩,a,by omega,b,by grind⟩
 intro g;have c:=g.laws.1;rw[Kd (λk=>k g.tree),Hr,Kd (fun⟨i,d,hn⟩=>hn (g.laws.2 i d)),Kd g.dup,Kd (λk=>k g.on),Kd g.long,Kd (fun⟨v,f,hb⟩=>g.bad v f hb)]
def Ii {h:Yv}(h1:Bn h.Tree)(a:QC N h.Laws)(b:¬BW9 h h.Laws.n)(c:h.On.n=h.Tree.n){e:Int}(d:Bl9 h e):e=hres N h:=by
 have f:=a.1;unfold hres;rw[Kd (λk=>k h1),Hr,Kd (fun⟨i,j,hn⟩=>hn (a.2 i j)),Kd b,Kd (λk=>k c)];rcases d with⟨g,rfl⟩ | ⟨g,g2,rfl⟩ | ⟨g,g2,rfl⟩
 all_goals simp_all
def Ln (q:3000000<=N){h:Yv}(t:P8 h):Q5 N h=some (hres N h):=by
 suffices g:∃r,Q5 N h=some r/\r=hres N h by grind
 obtain⟨e,e1,_,x⟩:=Lm q t.tree;unfold Q5;refine B4 e1 ?_;rcases x with⟨rfl,ht⟩ | ⟨rfl,ht⟩
 case inr=>exact Bt ⟨16,rfl,by unfold hres;rw[Kb ht]⟩
 refine Fn ?_;by_cases f:64<h.Laws.n
 .exact Bu ⟨12,rfl,by simp_all[hres,Kd,Kb]⟩
 refine Fv ?_;refine S3 (λi (x1:List (Str×Int)) x2=>x2=(i:Int)/\(∀j,j<i->chkAll N (h.Laws.g j))/\(∀s,(K4 eqS s x1=none/\∀u,u<i->(h.Laws.g u).Name≠s) \/ (∃v,K4 eqS s x1=some v)/\∃u,u<i/\(h.Laws.g u).Name=s)/\((BW9 h i/\x1.length<i) \/ (¬BW9 h i/\x1.length=i))) h.Laws.n _ (by omega)
  ⟨rfl,by omega,λs=>.inl ⟨rfl,by omega⟩,.inr ⟨fun⟨u,v,_,hv,_⟩=>Kf hv (by omega),rfl⟩⟩ ?_
 rintro a1 i x1 x2 hle ⟨rfl,hc,hm,hl⟩ hs;by_cases c:i<h.Laws.n
 .obtain⟨y,y1,_,hy⟩:=OC q (t.laws i c);refine Bu (Ai (B4 (by rw[Vc];exact y1) ?_));rcases hy with⟨rfl,hy⟩ | ⟨rfl,hy⟩
  case inr=>exact Bt ⟨17,rfl,by unfold hres;rw[Kd (λk=>k ht),Kd f,Kb ⟨i,c,hy⟩]⟩
  refine Fn ?_;rw[Vc];have l : ∀j,j<i+1->chkAll N (h.Laws.g j):=(by grind);have look:∀(v:Int) (s:Str),(K4 eqS s (Fj eqS (h.Laws.g i).Name v x1)=none/\∀u,u<i+1->(h.Laws.g u).Name≠s) \/ (∃w,K4 eqS s (Fj eqS (h.Laws.g i).Name v x1)=some w)/\∃u,u<i+1/\(h.Laws.g u).Name=s:=by
   intro v s;rw[Ps]
   grind
  rcases hm (h.Laws.g i).Name with⟨g,g2⟩ | ⟨⟨v,g⟩,u,hu,g2⟩
  .rw[g,K5];refine hs c _ _ ⟨Fy,l,look _,?_⟩;rw[AK4 g];rcases hl with⟨⟨a,b,d,hb,hn⟩,hl⟩ | ⟨m,hl⟩
   .exact .inl ⟨⟨a,b,d,by omega,hn⟩,by omega⟩
   refine .inr ⟨fun⟨a,b,d,hb,hn⟩=>?_,by omega⟩;by_cases e:b=i
   .grind
   exact m ⟨a,b,d,by omega,hn⟩
  rw[g,M5];refine hs c _ _ ⟨Fy,l,look _,?_⟩;rw[AK5 g];refine .inl ⟨⟨u,i,hu,by omega,g2⟩,?_⟩;rcases hl with⟨_,hl⟩ | ⟨_,hl⟩<;>omega
 obtain rfl:i=h.Laws.n:=by omega
 have z:QC N h.Laws:=⟨by omega,hc⟩;have a0:¬ ∃i,i<h.Laws.n/\¬chkAll N (h.Laws.g i):=(by grind);refine Eh ?_;rw[At3];rcases hl with⟨m,hl⟩ | ⟨m,hl⟩
 .exact Aj ⟨6,rfl,by unfold hres;rw[Kd (λk=>k ht),Kd f,Kd a0,Kb m]⟩
 refine Fv ?_;by_cases o:h.On.n=h.Tree.n
 case neg=>exact Bu ⟨2,rfl,by simp_all[hres,Kd,Kb]⟩
 refine Fv ?_;obtain⟨e,e1,x⟩:=Bm0 q t ht o;exact B4 e1 ⟨e,rfl,Ii ht z m o x⟩
def Ij (hN:3000000<=N){h:Yv}(t:P8 h):X5 N h=some (hres N h):=by
 suffices g:∃r,X5 N h=some r/\r=hres N h by grind
 obtain⟨e,_,e1,he⟩:=Lm hN t.tree;unfold X5;refine B4 e1 ?_;rcases he with⟨rfl,ht⟩ | ⟨rfl,ht⟩
 case inr=>exact Bt ⟨16,rfl,by unfold hres;rw[Kb ht]⟩
 refine Fn ?_;by_cases l:64<h.Laws.n
 .exact Bu ⟨12,rfl,by simp_all[hres,Kd,Kb]⟩
 refine Fv ?_;refine X6 (λi x1=>x1=(i:Int)/\∀j,j<i->chkAll N (h.Laws.g j)) h.Laws.n _ (by omega) (by grind) ?_;rintro self i x1 hle ⟨rfl,hc⟩ hs;by_cases a:i<h.Laws.n
 .obtain⟨y,_,y1,hy⟩:=OC hN (t.laws i a);refine Bu (Ai (B4 (by rw[Vc];exact y1) ?_));rcases hy with⟨rfl,hy⟩ | ⟨rfl,hy⟩
  case inr=>exact Bt ⟨17,rfl,by unfold hres;rw[Kd (λk=>k ht),Kd l,Kb ⟨i,a,hy⟩]⟩
  refine Fn (hs a _ ⟨Fy,λj hj=>?_⟩)
  grind
 obtain rfl:i=h.Laws.n:=by omega
 have d:QC N h.Laws:=⟨by omega,hc⟩;have w:¬ ∃i,i<h.Laws.n/\¬chkAll N (h.Laws.g i):=(by grind);refine Eh ?_;refine X6 (λi x1=>x1=(i:Int)/\¬BW9 h i) h.Laws.n _ (by omega) ⟨rfl,fun⟨u,v,_,m,_⟩=>Kf m (by omega)⟩ ?_;rintro x i x1 hle2 ⟨rfl,o⟩ z;by_cases a:i<h.Laws.n
 .refine Bu ?_;refine X6 (λk x5=>x5=(k:Int)/\∀u,u<k->(h.Laws.g u).Name≠(h.Laws.g i).Name) i _ (by omega) (by grind) ?_;rintro a0 k x5 hk ⟨rfl,hne⟩ a1;by_cases q:k<i
  .refine Bu (Ai ?_);rw[Vc,Vc];by_cases e:(h.Laws.g k).Name=(h.Laws.g i).Name
   .exact Bu ⟨6,rfl,by unfold hres;rw[Kd (λk=>k ht),Kd l,Kd w,Kb ⟨k,i,q,a,e⟩]⟩
   refine Fv (a1 q _ ⟨Fy,λu hu=>?_⟩)
   grind
  refine Fv (z a _ ⟨Fy,fun⟨u,v,a2,m,hn⟩=>?_⟩);by_cases e:v=i
  .grind
  exact o ⟨u,v,a2,by omega,hn⟩
 obtain rfl:i=h.Laws.n:=by omega
 refine Eh ?_;by_cases c:h.On.n=h.Tree.n
 case neg=>exact Bu ⟨2,rfl,by simp_all[hres,Kd,Kb]⟩
 refine Fv ?_;have h63:=ht.2.1;refine X6 (λi x1=>x1=(i:Int)/\∀v,v<i->¬ 64<(N6 h v).n) h.On.n _ (by omega) (by grind) ?_;rintro a3 i x1 hle3 ⟨rfl,a4⟩ a5;by_cases a:i<h.On.n
 .refine Bu (B4 (TX t ht c N i (by omega) (by omega)) ?_);by_cases hg:64<(N6 h i).n
  .exact Bu ⟨2,rfl,Ii ht d o c (.inl ⟨⟨i,a,hg⟩,rfl⟩)⟩
  refine Fv (a5 a _ ⟨Fy,λv m=>?_⟩)
  grind
 refine Fv ?_;have s:¬AC7 h:=fun⟨v,m,g⟩=>a4 v (by omega) g;refine X6 (λi x1=>x1=(i:Int)/\∀v,v<i->¬BS2 h v) h.On.n _ (by omega) (by grind) ?_;rintro a6 i x1 hle4 ⟨rfl,hbd⟩ a7;by_cases b:i<h.On.n
 .have hl:=t.len i b;refine Bu ?_;refine X6 (λk x1=>x1=(k:Int)/\∀j,j<k->¬((h.On.g i).g j<0 \/ (h.Laws.n:Int)<=(h.On.g i).g j)) (h.On.g i).n _ (by omega) (by grind) ?_;rintro a8 k x1 hk ⟨rfl,a9⟩ b0;refine Ai ?_;rw[Vc,Vc];by_cases f:k<(h.On.g i).n
  .refine Bu (Ai ?_);by_cases g1:(h.On.g i).g k<0
   .exact Bu ⟨3,rfl,Ii ht d o c (.inr (.inl ⟨s,⟨i,b,k,f,.inl g1⟩,rfl⟩))⟩
   refine Fv (Ai ?_);by_cases g2:(h.Laws.n:Int)<=(h.On.g i).g k
   .exact Bu ⟨3,rfl,Ii ht d o c (.inr (.inl ⟨s,⟨i,b,k,f,.inr g2⟩,rfl⟩))⟩
   refine Fv (b0 f _ ⟨Fy,λj hj=>?_⟩)
   grind
  refine Fv (a7 b _ ⟨Fy,λv m=>?_⟩);by_cases e:v=i
  .subst e;exact fun⟨j,hj,g⟩=>a9 j (by omega) g
  grind
 exact Fv ⟨0,rfl,Ii ht d o c (.inr (by grind))⟩
def eqR {R:Type}{x:Option R}{y:R}(h:∃r,x=some r/\r=y):x=some y:=by grind
def Zt (t:Sl Node)(v:Nat):Prop:=∀u,0<u->u<t.n->(t.g u).Yx≠(v:Int)
open Classical in
noncomputable def Q7 (t:Sl Node):Nat->Sl Int
 |0=>Tj
 |i+1=>ite (Zt t i) ((Q7 t i).push (i:Int)) (Q7 t i)
theorem TY {t:Sl Node}{i:Nat}(h:Zt t i):Q7 t (i+1)=(Q7 t i).push (i:Int):=Kb h
theorem Zu {t:Sl Node}{i:Nat}(h:¬Zt t i):Q7 t (i+1)=Q7 t i:=Kd h
def AC8 (t:Sl Node):∀i,(Q7 t i).n<=i
 |0=>Ci9 0
 |i+1=>by
  have:=AC8 t i
  grind[Zt,TY,Q7,Zu]
def MU (t:Sl Node):∀i k,k<(Q7 t i).n->∃v:Nat,v<i/\(Q7 t i).g k=(v:Int)
 |0,k,hk=>Kf hk (Ct7 k)
 |i+1,k,hk=>by
  by_cases h:Zt t i
  .rw[TY h]at hk⊢;have hk:k<(Q7 t i).n+1:=hk;show ∃v:Nat,v<i+1/\(ite (k<(Q7 t i).n) ((Q7 t i).g k) (i:Int))=(v:Int);by_cases a:k<(Q7 t i).n
   .rw[Kb a];obtain⟨v,h1,b⟩:=MU t i k a
    grind
   grind
  rw[Zu h]at hk⊢;obtain⟨v,h1,b⟩:=MU t i k hk
  grind
def BB8 (q:3000000<=N){t:Sl Node}(ht:Bn t):∃X,Bc N t=some X/\(X.n=t.n/\∀v,v<t.n->((X.g v).n=0↔Zt t v)):=by
 have l:=ht.2.1;unfold Bc;refine Ai (S3 (λi x (X:Sl (Sl Int))=>x=(i:Int)/\X.n=t.n/\∀v,v<t.n->(((X.g v).n=0 ↔ ∀u,0<u->u<i->(t.g u).Yx≠(v:Int))/\(X.g v).n<=i)) t.n _ (by omega)
  (by grind) ?_)
 rintro d i x X hle ⟨rfl,a,f⟩ hs;by_cases hl:i<t.n
 case neg=>
  obtain rfl:i=t.n:=by omega
  exact Eh ⟨X,rfl,a,λv b=>(f v b).1⟩
 refine Bu (Ai ?_);rw[Vc,Fy];rcases Av ht hl with⟨m,h1⟩ | ⟨p,hp,e⟩
 .subst m;rw[h1];refine Ai (ltX (Eh (hs hl _ _ ⟨rfl,a,λv b=>?_⟩)));have e:(X.upd (Int.toNat (-1)) (X.g (Int.toNat (-1)))).g v=X.g v:=by
   grind
  rw[e]
  grind
 rw[e,Vc];have c:p<t.n:=by omega
 have j:=(f p c).2;refine Ai (ltX (Bu (Ai (hs hl _ _ ⟨rfl,a,λv b=>?_⟩))));show ((ite (v=p) ((X.g p).push (i:Int)) (X.g v)).n=0↔_)/\(ite (v=p) ((X.g p).push (i:Int)) (X.g v)).n<=i+1;by_cases o:v=p
 .grind
 grind
def Ce4 {R:Type}{Q:R->Prop}{a:Sl Int->Int->Option R}{t:Sl Node}{i:Nat}(c:i<1000){b:Bool}(hb:b=true↔Zt t i)(h:∃r,a (Q7 t (i+1)) ((i+1:Nat):Int)=some r/\Q r) :∃r,(if b then
  if (Va 8 ((Q7 t i).n+(Sl.of [(i:Int)]:Sl Int).n))then
   a ((Q7 t i).push (i:Int)) (wrap .i64 ((i:Int)+1))
  else none
  else a (Q7 t i) (wrap .i64 ((i:Int)+1)))=some r/\Q r:=by
 have hn:=AC8 t i;rw[Fy];by_cases hk:Zt t i
 .rw[TY hk]at h
  grind
 simp_all[Zu,ifF]
def AC9 (b:3000000<=N){t:Sl Node}(ht:Bn t):∃r,DM N t=some r/\r=Q7 t t.n:=by
 have c:=ht.2.1;unfold DM;obtain⟨X,e,d,hk⟩:=BB8 b ht;refine B4 e (S3 (λi x1 x2=>x2=(i:Int)/\x1=Q7 t i) t.n _ (by omega) ⟨rfl,rfl⟩ ?_);rintro a i x1 x2 hle ⟨rfl,rfl⟩ hs;by_cases hl:i<t.n
 .refine ifT (by rw[d];grind) (Ai ?_);rw[Vc];exact Ce4 (by omega) (by rw[<- hk i hl];simp) (hs hl _ _ ⟨rfl,rfl⟩)
 grind
def BB9 (f:3000000<=N){t:Sl Node}(ht:Bn t){v:Nat}(j:v<t.n):∃r,Cw N t (v:Int)=some r/\(r.n=0↔Zt t v):=by
 have c:=ht.2.1;unfold Cw;refine S3 (λi (x1:Sl Int) x2=>x2=(i:Int)/\x1.n<=i/\(x1.n=0 ↔ ∀u,0<u->u<i->(t.g u).Yx≠(v:Int))) t.n _ (by omega) (by grind) ?_;rintro a i x1 x2 hle ⟨rfl,hn,b⟩ hs;by_cases hl:i<t.n
 .refine Bu (Ai ?_);rw[Vc,Fy];by_cases hp:(t.g i).Yx=(v:Int)
  .have l:0<i:=by
    grind[Av]
   refine Bu (Bu (hs hl _ _ (by grind)))
  refine Fv (hs hl _ _ ⟨rfl,by omega,b.trans ⟨λh u h1 d=>?_,λh u h1 d=>h u h1 (by omega)⟩⟩)
  grind
 obtain rfl:i=t.n:=by omega
 exact Eh ⟨_,rfl,b⟩
def AY3 (a:3000000<=N){t:Sl Node}(c:Pq t):∃s e,T4 N t=some (s,e)/\Z4 N t=some (s,e)/\((Bn t/\e=0/\s=Q7 t t.n) \/ (¬Bn t/\e=16/\s=Tj)):=by
 obtain⟨e,e1,e2,d⟩:=Lm a c;unfold T4 Z4;rw[e1,e2,Ci2,Ci2];rcases d with⟨rfl,ht⟩ | ⟨rfl,ht⟩
 .have f:=ht.2.1;rw[Jz,Jz];obtain⟨r,g1,rfl⟩:=AC9 a ht;refine⟨_,0,by rw[g1];rfl,eqR (S3 (λi x1 x2=>x2=(i:Int)/\x1=Q7 t i) t.n _ (by omega) ⟨rfl,rfl⟩ ?_),by grind⟩;rintro b i x1 x2 hle ⟨rfl,rfl⟩ hs;by_cases hl:i<t.n
  .refine Bu ?_;obtain⟨r,k1,k2⟩:=BB9 a ht hl;exact B4 k1 (Ce4 (by omega) (by rw[<- k2];simp) (hs hl _ _ ⟨rfl,rfl⟩))
  grind
 grind
def Fq (f:Nat->Int):Nat->Int
 |0=>0
 |k+1=>ite (Fq f k≠0) (Fq f k) (f k)
theorem MV {f:Nat->Int}{k:Nat}(h:Fq f k=0):Fq f (k+1)=f k:=Kd (λg=>g h)
theorem GQ {f:Nat->Int}{i:Nat}(h:Fq f i≠0):∀n,i<=n->Fq f n=Fq f i
 |0,hn=>by rw[show i=0 by omega]
 |n+1,hn=>by
  by_cases e:i=n+1
  .rw[e]
  have hp:=GQ h n (by omega)
  simp_all[Fq,Kb]
def DV {f:Nat->Int}:∀{n:Nat},Fq f n=0->∀i,i<n->f i=0
 |0,_,i,hi=>by omega
 |n+1,h,i,hi=>by
  have hp:Fq f n=0:=Co0 λg=>g (by rw[<- GQ g (n+1) (by omega)];exact h);by_cases e:i=n
  .grind[MV]
  exact DV hp i (by omega)
def orE (a b:Int):Int:=ite (a≠0) a b
theorem Vx {a b:Int}(h:a≠0):orE a b=a:=Kb h
theorem OD {a b:Int}(h:a=0):orE a b=b:=Kd (λg=>g h)
def Zv {a b:Int}(h:orE a b=0):a=0/\b=0:=by
 grind[OD,Vx,Kf]
def Ce5 {N n:Nat}{f:Nat->Int}{body:(Int->Option Int)->Int->Option Int}{re:Int}(m:n<N)(b:∀a i,i<n->f i≠0->body a (i:Int)=some (f i))
 (d:∀a i,i<n->f i=0->body a (i:Int)=a ((i+1:Nat):Int)) (j:∀a,Fq f n=0->body a (n:Int)=some re):N3 N body 0=some (orE (Fq f n) re):=by
 refine eqR (X6 (λi x=>x=(i:Int)/\Fq f i=0) n _ m ⟨rfl,rfl⟩ ?_);rintro a i x hle ⟨rfl,l⟩ hs;by_cases hl:i<n
 .by_cases g:f i=0
  .rw[d a i hl g];exact hs hl _ ⟨rfl,by rw[MV l];exact g⟩
  rw[b a i hl g];have e:Fq f (i+1)=f i:=MV l;have c:Fq f (i+1)≠0:=by rw[e];omega
  exact⟨_,rfl,by rw[GQ c n hl,Vx c,e]⟩
 obtain rfl:i=n:=by omega
 grind[OD]
def Bm1 {N n:Nat}{f:Nat->Int}{body:(Int->Option Int)->Int->Option Int}{re:Int}(d:n<N)(a:∀self i,i<n->f i≠0->body self (i:Int)=some (f i))
 (b:∀self i,i<n->f i=0->body self (i:Int)=self ((i+1:Nat):Int)) (c:∀self,body self (n:Int)=some re):N3 N body 0=some (orE (Fq f n) re):=Ce5 d a b (by grind)
def IX (s:Sl N0):Prop:=∀i,i<s.n->okA (s.g i).W
def Xi (l:Sl Z1):Prop:=∀i,i<l.n->IX (l.g i).Yz/\(l.g i).Gloss.length<1100000
def emp (s:Sl N0):Prop:=∃i,i<s.n/\(s.g i).Has=false/\0<(s.g i).W.n
noncomputable def BS3 (s:Sl N0):Bool:=@decide (¬emp s) (Classical.propDecidable _)
theorem Am8 {s:Sl N0}(h:¬emp s):BS3 s=true:=@decide_eq_true _ (Classical.propDecidable _) h
theorem Am9 {s:Sl N0}(h:emp s):BS3 s=false:=@decide_eq_false _ (Classical.propDecidable _) (λg=>g h)
def Ce6 (f:N0):((!f.Has)&&(decide (0<(f.W.n:Int))))=true↔f.Has=false/\0<f.W.n:=by simp
def An0 (d:1000<=N){s:Sl N0}(hs:s.n<900):AB N s=some (BS3 s):=by
 have h1:∃r,D8 N s (λ(u1:N0)=>CF N u1)=some r/\(0<=r↔emp s):=by
  unfold D8;refine X6 (λi x=>x=(i:Int)/\∀j,j<i->¬((s.g j).Has=false/\0<(s.g j).W.n)) s.n _ (by omega) (by grind) ?_;rintro b i x hle ⟨rfl,h⟩ a;by_cases hl:i<s.n
  .refine Bu (Ai (B4 rfl ?_));rw[Vc,Fy];by_cases hb:(s.g i).Has=false/\0<(s.g i).W.n
   .exact ifT ((Ce6 _).2 hb) ⟨_,rfl,λ_=>⟨i,hl,hb⟩,λ_=>by omega⟩
   refine Fv (a hl _ ⟨rfl,λj c=>?_⟩)
   grind
  exact Fv ⟨_,rfl,by omega,fun⟨j,c,hb⟩=>by grind⟩
 grind[AB,F2,emp,Am9,Am8,Int.not_le]
def Xj (d:1000<=N){s:Sl N0}(hs:s.n<900):CZ N s=some (BS3 s):=by
 unfold CZ;refine eqR (X6 (λi x=>x=(i:Int)/\∀j,j<i->¬((s.g j).Has=false/\0<(s.g j).W.n)) s.n _ (by omega) (by grind) ?_);rintro b i x hle ⟨rfl,h⟩ a;by_cases hl:i<s.n
 .refine Bu (Ai (ifT (λ_=>by omega) ?_));rw[Vc,Fy];by_cases hb:(s.g i).Has=false/\0<(s.g i).W.n
  .exact ifT ((Ce6 _).2 hb) ⟨_,rfl,(Am9 ⟨i,hl,hb⟩).symm⟩
  refine Fv (a hl _ ⟨rfl,λj c=>?_⟩)
  grind
 exact Fv ⟨_,rfl,(Am8 (fun⟨j,c,hb⟩=>h j (by omega) hb)).symm⟩
def wE (N:Nat)(w:Sl Tr):Int:=(W3 N w).getD 0
def AK6 (a:1000<=N){w:Sl Tr}(hw:okA w):W3 N w=some (wE N w)/\Ad N w=some (wE N w):=by
 obtain⟨e,h1,b⟩:=OB a hw;obtain⟨e',g1,g2⟩:=Ih a hw;obtain rfl:=Bl1 b g2
 have:wE N w=e:=by grind[wE]
 rw[this];grind
def wsE (N:Nat)(s:Sl N0):Int:=Fq (λi=>wE N (s.g i).W) s.n
def KN (b:1000<=N){s:Sl N0}(hs:s.n<900)(c:IX s):T8 N s=some (wsE N s)/\Bk N s=some (wsE N s):=by
 have e0:wsE N s=orE (wsE N s) 0:=by
  grind[wsE,OD,Vx]
 rw[e0];unfold T8 Bk;constructor<;>refine Bm1 (f:=λi=>wE N (s.g i).W) (by omega) ?_ ?_ ?_
 .intro a i hl d;rw[Gn,Gi,Vc,(AK6 b (c i hl)).1,Ci2,Gn]
 .intro a i hl d;rw[Gn,Gi,Vc,(AK6 b (c i hl)).1,Ci2,Jq,Fy]
 .grind
 .intro a i hl d;rw[Gn,Gi,Vc,(AK6 b (c i hl)).2,Ci2,Gn]
 .intro a i hl d;rw[Gn,Gi,Vc,(AK6 b (c i hl)).2,Ci2,Jq,Fy]
 grind
def Xk (b:3000000<=N){s:Str}(hs:s.length<1100000):Cx N s=some (Lz s):=by
 obtain⟨e,e1,_,c⟩:=Lm (t:=(Sl.of [(⟨-1,s⟩:Node)]:Sl Node)) b (λv a=>by
  have a:v<1:=a
  grind)
 unfold Cx;rw[e1,Ci2];have key:Bn (Sl.of [(⟨-1,s⟩:Node)]:Sl Node)↔Lz s=true:=by
  constructor
  .intro h;exact (h.2.2 0 (by grind)).2.2.1
  intro h;refine⟨by grind,by grind,λv a=>?_⟩;have a:v<1:=a;obtain rfl:v=0:=by omega
  exact⟨λ_=>rfl,by omega,h,by omega⟩
 congr 1;rcases c with⟨rfl,h⟩ | ⟨rfl,h⟩
 all_goals grind
open Classical in
noncomputable def e2 (l:Sl Z1) (k:Nat) (i:Nat):Int:=ite ((l.g i).Yz.n≠k \/ emp (l.g i).Yz) 2 0
def e15 (l:Sl Z1)(i:Nat):Int:=ite (Lz (l.g i).Gloss) 0 15
def BC0 {l:Sl Z1}{k i:Nat}(h:e2 l k i=0):(l.g i).Yz.n=k/\¬emp (l.g i).Yz:=by
 simp_all[e2,Co0]
def BI9 {l:Sl Z1}{k i:Nat}(h:(l.g i).Yz.n≠k \/ emp (l.g i).Yz):e2 l k i=2:=Kb h
def BJ0 {l:Sl Z1}{k i:Nat}(h:¬((l.g i).Yz.n≠k \/ emp (l.g i).Yz)):e2 l k i=0:=Kd h
def AK7 {l:Sl Z1}{k i:Nat}{E:Option Bool}(hk:k<900)(b:(l.g i).Yz.n=k->E=some (BS3 (l.g i).Yz))(a:Option Int) :(lt (λ(z3:Bool)=>ite z3 (some 2) a) λk3=>
  if (((l.g i).Yz.n:Int) != (k:Int)) then
   k3 true
  else
   E.bind λy6=>
   k3 (!y6))=ite (e2 l k i≠0) (some (e2 l k i)) a:=by
 by_cases h:(l.g i).Yz.n=k
 .rw[b h];have hc:¬(((l.g i).Yz.n:Int) != (k:Int))=true:=by grind
  by_cases hp:emp (l.g i).Yz
  .rw[BI9 (.inr hp)];show (ite (((l.g i).Yz.n:Int) != (k:Int)) _ (ite (!(BS3 (l.g i).Yz)) (some (2:Int)) a))=some 2;rw[Kd hc,Kb (by rw[Am9 hp];rfl)]
  rw[BJ0 (by grind)];show (ite (((l.g i).Yz.n:Int) != (k:Int)) _ (ite (!(BS3 (l.g i).Yz)) (some (2:Int)) a))=a;rw[Kd hc,Kd (by rw[Am8 hp];decide)]
 rw[BI9 (.inl h)];exact Gn
def AD0 (c:3000000<=N){l:Sl Z1}{k:Nat}(hk:k<900)(hn:l.n<900)(d:Xi l):S2 N l (k:Int)=some (orE (Fq (e2 l k) l.n) (orE (Fq (e15 l) l.n) 0)):=by
 unfold S2;have step:=λ(a:Option Int) (i:Nat)=>AK7 (l:=l) (i:=i) hk (λh=>An0 (N:=N) (s:=(l.g i).Yz) (by omega) (by omega)) a;refine Bm1 (by omega) ?_ ?_ ?_
 .simp_all
 .intro a i hl b;rw[Gn,Gi,Vc,step,Kd (λg=>g b),Fy]
 intro a;rw[Jn];refine Bm1 (by omega) ?_ ?_ ?_
 .intro a i hl b;rw[Gn,Gi,Vc,Xk c (d i hl).2,Ci2];unfold e15 at b⊢
  grind
 .intro a i hl b;rw[Gn,Gi,Vc,Xk c (d i hl).2,Ci2];unfold e15 at b;by_cases h:Lz (l.g i).Gloss=true
  .rw[Jq,Fy]
  grind
 grind
noncomputable def Ce7 (N:Nat) (p:Sl N0) (l:Sl Z1) (k:Nat):Int:= orE (Fq (e2 l k) l.n) (orE (Fq (e15 l) l.n) (orE (wsE N p) (Fq (λi=>wsE N (l.g i).Yz) l.n)))
def BC1 (j:3000000<=N){l:Sl Z1}(hn:l.n<900)(W:Nat->Int)(f:∀i,i<l.n->Bk N (l.g i).Yz=some (W i))(w0:Int) :V7 N (λ(a:Int->Int->Option Int) (x7:Int) (x8:Int)=>
  if ((decide (x8<(l.n:Int)))&&(x7==0)) then
   if ((0:Int)<=x8/\x8<(l.n:Int))then
    (Bk N (l.g x8.toNat).Yz).bind λb=>
    a b (wrap .i64 (x8+1))
   else none
  else
   some x7
  ) w0 0=some (orE w0 (Fq W l.n)):=by
 refine eqR (S3 (λi x7 x8=>x8=(i:Int)/\((x7=0/\w0=0/\Fq W i=0) \/ (x7≠0/\x7=orE w0 (Fq W l.n)))) l.n _ (by omega) ⟨rfl,?_⟩ ?_)
 .by_cases h:w0=0
  .exact .inl ⟨h,h,rfl⟩
  grind[Vx]
 rintro c i x7 x8 hle ⟨rfl,h⟩ hs;rcases h with⟨rfl,d,h1⟩ | ⟨d,h1⟩
 .by_cases hl:i<l.n
  .refine Bu (Ai ?_);rw[Vc,Fy];refine B4 (f i hl) (hs hl _ _ ⟨rfl,?_⟩);have e:=MV h1
   grind[OD,GQ]
  obtain rfl:i=l.n:=by omega
  exact Eh ⟨_,rfl,by rw[OD d,h1]⟩
 grind
def KO {t:Sl Node}(ht:Bn t):(Q7 t t.n).n<=63:=by have:=AC8 t t.n;have:=ht.2.1;omega
def Ik (a:3000000<=N){t:Sl Node}(b:Pq t)(ht:Bn t):T4 N t=some (Q7 t t.n,0)/\Z4 N t=some (Q7 t t.n,0):=by
 obtain⟨s,e,h1,c,d⟩:=AY3 a b
 grind
open Classical in
noncomputable def BS4 (N:Nat) (h:Yv) (p:Sl N0) (l:Sl Z1):Int:= ite (hres N h≠0) (hres N h) (ite (256<l.n) 12 (ite (p.n≠l.n \/ emp p) 2 (Ce7 N p l (Q7 h.Tree h.Tree.n).n)))
def Xl (o:3000000<=N){h:Yv}(r:P8 h){p:Sl N0}{l:Sl Z1}(hp:IX p)(hl:Xi l):AC N h p l=some (BS4 N h p l):=by
 unfold AC BS4;rw[Ln o r,Ci2];by_cases s:hres N h=0
 case neg=>rw[Gn,Kb s]
 rw[Jq,Hr];have j:=hres_zero.1 s;have t:=KO j.tree;rw[(Ik o r.tree j.tree).1,Ci2];by_cases c:256<l.n
 .rw[Gn,Kb c]
 rw[Jq,Kd c];have rest:(lt (λ(z1:Bool)=>
  if z1 then
   some (2:Int)
  else
   (S2 N l (((Q7 h.Tree h.Tree.n).n:Nat):Int)).bind λy5=>
   if (y5 != 0) then
    some y5
   else
    (T8 N p).bind λy6=>
    if (y6 != 0) then
     some y6
    else
     N3 N (λd (x2:Int)=>
      if (decide (x2<(l.n:Int))) then
       if ((0:Int)<=x2/\x2<(l.n:Int))then
        (T8 N (l.g x2.toNat).Yz).bind λy9=>
        if (y9 != 0) then
         some y9
        else
         d (wrap .i64 (x2+1))
       else none
      else
       some 0
      ) 0
  ) λk1=>k1 false)=(ite (p.n=l.n) (some (Ce7 N p l (Q7 h.Tree h.Tree.n).n)) (some 0)) \/ p.n≠l.n:=by
  by_cases f:p.n=l.n
  case neg=>omega
  refine .inl ?_;rw[Kb f];show (S2 N l (((Q7 h.Tree h.Tree.n).n:Nat):Int)).bind _=_;rw[AD0 o (by omega) (by omega) hl,Ci2];unfold Ce7;by_cases g1:Fq (e2 l (Q7 h.Tree h.Tree.n).n) l.n=0
  case neg=>rw[Vx g1,Vx g1,Gn]
  rw[OD g1,OD g1];by_cases g2:Fq (e15 l) l.n=0
  case neg=>rw[Vx g2,Vx g2,Gn]
  rw[OD g2,OD g2,Jz,(KN (by omega) (by omega) hp).1,Ci2];by_cases g3:wsE N p=0
  case neg=>rw[Vx g3,Gn]
  rw[OD g3,Jq];have e0:∀a:Int,a=orE a 0:=λa=>by
   grind[OD,Vx]
  rw[e0 (Fq (λi=>wsE N (l.g i).Yz) l.n)];have hk:∀i,i<l.n->(l.g i).Yz.n<900:=λi b=>by
   have:=(BC0 (DV g1 i b)).1;omega
  refine Bm1 (by omega) ?_ ?_ ?_
  .intro m i b u;rw[Gn,Gi,Vc,(KN (by omega) (hk i b) (hl i b).1).1,Ci2,Gn]
  .intro m i b u;rw[Gn,Gi,Vc,(KN (by omega) (hk i b) (hl i b).1).1,Ci2,Jq,Fy]
  grind
 by_cases f:p.n=l.n
 case neg=>rw[Kb (.inl f)];exact Gn
 have hc:¬((p.n:Int) != (l.n:Int))=true:=by grind
 rw[An0 (by omega) (by omega)];by_cases q:emp p
 .rw[Kb (.inr q),Am9 q];exact Kd hc
 rw[Jq,Am8 q]
 grind
def TZ (j:3000000<=N){h:Yv}(t:P8 h){p:Sl N0}{l:Sl Z1}(hp:IX p)(hl:Xi l):Er N h p l=some (BS4 N h p l):=by
 unfold Er BS4;rw[Ij j t,Ci2];by_cases m:hres N h=0
 case neg=>rw[Gn,Kb m]
 rw[Jq,Kd (show ¬hres N h≠0 from λg=>g m)];have d:=hres_zero.1 m;have u:=KO d.tree;by_cases c:256<l.n
 .rw[Gn,Kb c]
 rw[Jq,Kd c,(Ik j t.tree d.tree).2,Ci2];by_cases o:p.n=l.n
 case neg=>rw[Kb (.inl o)];exact Gn
 have hc:¬((p.n:Int) != (l.n:Int))=true:=by grind
 rw[Xj (by omega) (by omega)];by_cases q:emp p
 .rw[Kb (.inr q),Am9 q];exact Kd hc
 rw[Jq,Am8 q];refine (Kd hc).trans ?_;rw[Ci2];refine (Jz).trans ?_;unfold Ce7;have step:=λ(a:Option Int) (i:Nat)=>AK7 (l:=l) (i:=i) (show (Q7 h.Tree h.Tree.n).n<900 by omega) (λh=>Xj (N:=N) (s:=(l.g i).Yz) (by omega) (by omega)) a;have ent:∀(i:Nat) (a:Int->Option Int),i<l.n->(lt (λ(z4:Bool)=>
  if z4 then
   some (2:Int)
  else
   a (wrap .i64 ((i:Int)+1))
  ) λk4=>
  if (((l.g i).Yz.n:Int) != (((Q7 h.Tree h.Tree.n).n:Nat):Int)) then
   k4 true
  else
   if ((0:Int)<=(i:Int)/\(i:Int)<(l.n:Int))then
    (CZ N (l.g i).Yz).bind λr=>
    k4 (!r)
   else none)=ite (e2 l (Q7 h.Tree h.Tree.n).n i≠0) (some (e2 l (Q7 h.Tree h.Tree.n).n i)) (a (wrap .i64 ((i:Int)+1))):=λi a b=>by
  rw[<- step]
  grind
 refine Ce5 (by omega) ?_ ?_ ?_
 .simp_all
 .intro a i b f;rw[Gn,Gi,Vc,ent i a b,Kd (λg=>g f),Fy]
 intro a g1;rw[Jn];refine Bm1 (by omega) ?_ ?_ ?_
 .intro a i b f;rw[Gn,Gi,Vc,Zs (by have:=(hl i b).2;omega) (by have:=(hl i b).2;omega),Ci2];unfold e15 at f⊢
  grind
 .intro a i b f;rw[Gn,Gi,Vc,Zs (by have:=(hl i b).2;omega) (by have:=(hl i b).2;omega),Ci2];unfold e15 at f;by_cases h:Lz (l.g i).Gloss=true
  .rw[Jq,Fy]
  grind
 intro a;rw[Jn,(KN (by omega) (by omega) hp).2,Ci2];exact BC1 j (by omega) (λi=>wsE N (l.g i).Yz) (λi b=>(KN (by omega) (by have:=(BC0 (DV g1 i b)).1;omega) (hl i b).1).2) (wsE N p)
structure Vy (N:Nat) (h:Yv) (p:Sl N0) (l:Sl Z1):Prop where
 hist:Aw N h
 n:l.n<=256
 pn:p.n=l.n
 pe:¬emp p
 fn:∀i,i<l.n->(l.g i).Yz.n=(Q7 h.Tree h.Tree.n).n
 fe:∀i,i<l.n->¬emp (l.g i).Yz
 nm:∀i,i<l.n->Lz (l.g i).Gloss=true
 pw:∀i,i<p.n->wOk (p.g i).W
 fw:∀i,i<l.n->∀k,k<(l.g i).Yz.n->wOk ((l.g i).Yz.g k).W
def Zw (a:1000<=N){w:Sl Tr}(hw:okA w):wE N w=0↔wOk w:=by
 obtain⟨e,h1,b⟩:=OB a hw
 have:wE N w=e:=by grind[wE]
 rw[this];exact GP b
def Lo {f:Nat->Int}:∀{n:Nat},(∀i,i<n->f i=0)->Fq f n=0
 |0,_=>rfl
 |n+1,h=>by rw[MV (Lo (by grind))];grind
def Bm2 (b:1000<=N){h:Yv}{p:Sl N0}{l:Sl Z1}(hp:IX p)(hl:Xi l):BS4 N h p l=0↔Vy N h p l:=by
 unfold BS4;constructor
 .intro g;split at g
  .omega
  rename_i g1;split at g
  .cases g
  rename_i g2;split at g
  .cases g
  rename_i g3;obtain⟨d1,g⟩:=Zv g;obtain⟨d2,g⟩:=Zv g;obtain⟨d3,d4⟩:=Zv g;have d1:=DV d1;have d2:=DV d2;have d3:=DV d3;have d4:=DV d4;refine⟨hres_zero.1 (by omega),by omega,by omega,λe=>g3 (.inr e),λi a=>(BC0 (d1 i a)).1,λi a=>(BC0 (d1 i a)).2,λi a=>?_,λi a=>(Zw b (hp i a)).1 (d3 i a),λi a k hk=>(Zw b ((hl i a).1 k hk)).1 (DV (d4 i a) k hk)⟩
  have:=d2 i a
  unfold e15 at this
  grind
 rintro⟨a1,a2,a3,a4,a5,a6,a7,a8,a9⟩;rw[Kd (λg=>g (hres_zero.2 a1)),Hr,Jq];unfold Ce7;have b1:Fq (e2 l (Q7 h.Tree h.Tree.n).n) l.n=0:=Lo λi a=>BJ0 (by grind);have b2:Fq (e15 l) l.n=0:=Lo λi a=>Kb (a7 i a);have b3:wsE N p=0:=Lo λi a=>(Zw b (hp i a)).2 (a8 i a);rw[OD b1,OD b2,OD b3];exact Lo λi a=>Lo λk hk=>(Zw b ((hl i a).1 k hk)).2 (a9 i a k hk)
def Ua:∀(d:Nat) (p:Pat),dep d p->∀M,100+d<=M->∃r,By M p=some r
 |0,p,h,M,_=>h.elim
 |d+1,p,h,0,hM=>by omega
 |d+1,p,h,M+1,hM=>by
  suffices ∃r,By (M+1) p=some r/\True by grind
  show ∃x,AU (By M) M p=some x/\_;unfold AU;have hn:=h.1;refine S3 (λi x1 x2=>x2=(i:Int)) p.L.n _ (by omega) rfl ?_;rintro a i x1 x2 c rfl hs;by_cases hl:i<p.L.n
  .obtain⟨r,b⟩:=Ua d (p.L.g i) (h.2 i hl) M (by omega);exact Bu (Ai (B4 (by rw[Vc];exact b) (hs hl _ _ (Fy))))
  exact Fv ⟨_,rfl,trivial⟩
def BC2 (f:2000<=N)(laws:Sl Law):∃r,FN N laws=some r:=by
 suffices ∃r,FN N laws=some r/\True by grind
 unfold FN;refine S3 (λi x1 x2=>x2=(i:Int)) 301 _ (by omega) rfl ?_;rintro d i x1 x2 s rfl hs;by_cases hc:i<laws.n/\i<=300
 .refine Bu (Ai ?_);refine S3 (λj x7 x8=>x8=(j:Int)) 2 _ (by omega) rfl ?_;rintro b j x7 x8 t rfl a;by_cases hl:j<2
  .refine Bu (Bu ?_);obtain⟨r,l,m⟩:=Zr f ((Sl.of [(laws.g (i:Int).toNat).Left,(laws.g (i:Int).toNat).Right]:Sl Pat).g (j:Int).toNat);refine B4 l ?_;by_cases c:r<=40
   .obtain⟨q,o⟩:=Ua 41 _ (m c) N (by omega);exact Bu (B4 o (a hl _ _ (Fy)))
   exact Fv (a hl _ _ (Fy))
  exact Fv (hs (by omega) _ _ (Fy))
 exact Fv ⟨_,rfl,trivial⟩
def Bm3 (t:3000000<=N)(h:Yv):∃b,GF N h=some b/\True:=by
 unfold GF;by_cases hb:(((decide (70<(h.Tree.n:Int)))||(decide (70<(h.Laws.n:Int))))||(decide (70<(h.On.n:Int))))=true
 .simp_all
 refine ifF hb ?_;have l : h.Laws.n<=70/\h.On.n<=70:=by grind
 refine X6 (λi x=>x=(i:Int)) h.On.n _ (by omega) rfl ?_;rintro j i x m rfl hs;by_cases f:i<h.On.n
 .refine Bu (Ai ?_);by_cases o:(decide (70<((h.On.g (i:Int).toNat).n:Int)))=true
  .simp_all
  exact ifF o (hs f _ (Fy))
 refine Fv ?_;refine X6 (λi x=>x=(i:Int)) h.Laws.n _ (by omega) rfl ?_;rintro d i x m rfl q;by_cases f:i<h.Laws.n
 .rw[Fy];refine Bu (Ai ?_);obtain⟨r,s⟩:=BC2 (N:=N) (by omega) (h.Laws.sub (i:Int).toNat ((i+1:Nat):Int).toNat);refine B4 s ?_;have last:∀z3:Bool,∃r,(ite z3 (some false) (d ((i+1:Nat):Int)))=some r/\True:=λz=>by
   cases z
   all_goals simp_all
  refine ltX ?_;by_cases g1:(decide (4<r))=true
  .simp_all
  refine ifF g1 ?_;by_cases g2:(decide (20<((h.Laws.g (i:Int).toNat).If.n:Int)))=true
  .simp_all
  refine ifF g2 ?_;by_cases g3:(decide (20<((h.Laws.g (i:Int).toNat).Out.n:Int)))=true
  .simp_all
  refine ifF g3 ?_;obtain⟨a,ha,_⟩:=Zr (N:=N) (by omega) (h.Laws.g (i:Int).toNat).Left;refine B4 ha ?_;by_cases g4:(decide (41<(a:Int)))=true
  .simp_all
  refine ifF g4 ?_;obtain⟨c,hc,_⟩:=Zr (N:=N) (by omega) (h.Laws.g (i:Int).toNat).Right;exact B4 hc (last _)
 exact Fv ⟨_,rfl,trivial⟩
abbrev signC:Str:=[58,39,34,126,94,95,61,96]
def mtB (s:Str):Prop:=1<=s.length/\s.length<=3/\∀b∈s,signC.contains b=true
def Bm4:∀k:Fin 256,HX 0 ((k.val:Nat):Int)=some (signC.contains (UInt8.ofNat k.val)):=by decide +kernel
def BS5 (b:UInt8):HX N ((b.toNat:Nat):Int)=some (signC.contains b):=by
 have:=Bm4 ⟨b.toNat,b.toNat_lt⟩
 rw[show UInt8.ofNat b.toNat=b by simp]at this;exact this
def An1 {s:Str}(d:s.length<N)(hs:s.length<1000000000):∃b,CA N s=some b/\(b=true↔mtB s):=by
 unfold CA;refine X6 (λi x1=>x1=(i:Int)/\∀j (h:j<s.length),j<i->signC.contains s[j]=true) s.length _ d (by grind) ?_;rintro c i x1 n ⟨rfl,h⟩ a;by_cases hl:i<s.length
 .refine Bu (Ai ?_);have eb:E8 s (i:Int)=((s[i].toNat:Nat):Int):=by grind
  rw[eb];refine B4 (BS5 s[i]) ?_;by_cases hb:signC.contains s[i]=true
  .refine ifF (by rw[hb];decide) (a hl _ ⟨Fy,λj f g=>?_⟩)
   grind
  exact Bu ⟨false,rfl,by simp,λl=>Kf (l.2.2 s[i] (Cx5 hl)) hb⟩
 refine Fv ⟨_,rfl,?_⟩;simp;constructor
 .rintro⟨h1,m⟩;refine⟨by omega,by omega,λb hb=>?_⟩;obtain⟨j,f,rfl⟩:=Cp0 hb
  grind
 rintro⟨h1,m,_⟩;omega
def BS6 (x y:BitVec 32):F3 .xor .u32 x.toNat y.toNat=((x ^^^ y).toNat:Int):=by
 grind[F3,IntKind.bits,Ec,Nt]
def tV (n:Nat):BitVec 32:=BitVec.ofNat 32 (2 ^ n-1)
def mgB (n:Nat)(p m c:BitVec 32):Bool:=decide ((c ||| (p ||| m)) &&& ~~~ tV n=0#32)&&(decide (c &&& (p ||| m)=0#32)&&vB p m)
def An2 (x:GW):Prop:=∃p m c:BitVec 32,x.Set=sOf p m/\x.Clear=c.toNat/\x.Text.length<1100000
def mgV (n:Nat)(x:GW):Bool:=mgB n (BitVec.ofInt 32 x.Set.Plus) (BitVec.ofInt 32 x.Set.Minus) (BitVec.ofInt 32 x.Clear)
def BJ1 {n:Nat}{x:GW}{p m c:BitVec 32}(h1:x.Set=sOf p m)(a:x.Clear=c.toNat):mgV n x=mgB n p m c:=by
 simp_all[mgV,sOf,Ec]
def ltG {R:Type}{Q:R->Prop}{K:Bool->Option R}{f:(Bool->Option R)->Option R}{b:Bool}(a:∀k,f k=k b)(h:∃r,K b=some r/\Q r):∃r,lt K f=some r/\Q r:=by
 grind[lt]
def mdup (l:Sl GW)(i:Nat):Prop:=∃k,k<i/\(l.g k).Text=(l.g i).Text
open Classical in
noncomputable def mkE (n:Nat) (l:Sl GW) (i:Nat):Int:=ite (mtB (l.g i).Text) (ite (mgV n (l.g i)) (ite (mdup l i) 6 0) 2) 15
noncomputable def BJ2 (n:Nat) (l:Sl GW):Int:=ite (32<l.n) 12 (Fq (mkE n l) l.n)
def mtx {s:Str}(h:s.length<1100000):∃b,(∀{R:Type}(k:Bool->Option R),(ite ((s==[]) != false) (k true) (ite (decide (3<(s.length:Int))) (k true) ((Ax N s [58,39,34,126,94,95,61,96]).bind λy=>k ((y==[]) != true))))=k b)/\(b=true ↔ ¬mtB s):=by
 by_cases a:s=[]
 .subst a;exact⟨true,λ_=>rfl,λ_ g=>Kf g.1 (by decide),λ_=>rfl⟩
 have hp:0<s.length:=(by grind);by_cases c:3<s.length
 .exact⟨true,by grind,λ_ g=>Kf g.2.1 (by omega),λ_=>rfl⟩
 refine⟨(Lib.trimS s signC==[]) != true,λk=>?_,?_⟩
 .rw[Jq,Jq];unfold Ax;rw[Kb ⟨by omega,by decide,by decide⟩,Ci2]
 by_cases g:Lib.trimS s signC=[]
 .have:=(Zp s signC).1 g
  simp only[g];exact⟨λq=>by grind,λq=>Kf ⟨hp,by omega,this⟩ q⟩
 refine⟨λ_ q=>g ((Zp s signC).2 q.2.2),λ_=>by grind⟩
def BC3 {n:Nat}(hn:n<=24):F3 .xor .u32 4294967295 (wrap .u32 ((shI .shl .u32 1 ((n:Nat):Int))-1))=((~~~ tV n).toNat:Int):=by
 rw[AC2 hn]
 have:=BS6 4294967295#32 (tV n)
 rw[show ((4294967295#32:BitVec 32).toNat:Int)=4294967295 from rfl]at this;refine this.trans ?_;rw[show (4294967295#32:BitVec 32)=BitVec.allOnes 32 from rfl,BitVec.allOnes_xor]
def mgx {N n:Nat}(hn:n<=24){x:GW}(hx:An2 x){R:Type}{k:Bool->Option R}:(ite ((F3 .and .u32 (F3 .or .u32 x.Clear (F3 .or .u32 x.Set.Plus x.Set.Minus)) (F3 .xor .u32 4294967295 (wrap .u32 ((shI .shl .u32 1 (n:Int))-1)))) != 0) (k true) (ite ((F3 .and .u32 x.Clear (F3 .or .u32 x.Set.Plus x.Set.Minus)) != 0) (k true) ((H1 N x.Set).bind λy=>k (!y))))=k (!(mgV n x)):=by
 obtain⟨p,m,c,h1,d,_⟩:=hx;rw[BJ1 h1 d,BC3 hn,d,h1,CB];show (ite ((F3 .and .u32 (F3 .or .u32 (c.toNat:Int) (F3 .or .u32 (p.toNat:Int) (m.toNat:Int))) ((~~~ tV n).toNat:Int)) != 0) (k true) (ite ((F3 .and .u32 (c.toNat:Int) (F3 .or .u32 (p.toNat:Int) (m.toNat:Int))) != 0) (k true) _))=_;rw[Jf,Jf,Ed,Ed,ne0,ne0];unfold mgB;by_cases a:(c ||| (p ||| m)) &&& ~~~ tV n=0#32
 .rw[Jq];by_cases b:c &&& (p ||| m)=0#32
  all_goals simp_all
 simp_all
def Bm5 {s:Sl GW}{q:GW}(c:s.n<N)(hs:s.n<1000000) :∃r,D0 N s (λu=>Ar N u q)=some r/\(r=true ↔ ∃i,i<s.n/\(s.g i).Text=q.Text):=by
 unfold D0
 have:∃y,D9 N s (λu=>Ar N u q)=some y/\(0<=y ↔ ∃i,i<s.n/\(s.g i).Text=q.Text):=by
  unfold D9;refine X6 (λi x1=>x1=(i:Int)/\∀j,j<i->¬(s.g j).Text=q.Text) s.n _ c (by grind) ?_;rintro b i x1 d ⟨rfl,h⟩ a;by_cases hl:i<s.n
  .refine Bu (Ai (B4 rfl ?_));rw[Vc];by_cases hb:(s.g i).Text=q.Text
   .exact Bu (by grind)
   refine Fv (a hl _ ⟨Fy,λj f=>?_⟩)
   grind
  refine Fv ⟨-1,rfl,λh=>Kf h (by decide),?_⟩
  grind
 obtain⟨y,e,hy⟩:=this
 simp_all
def BC4 (f:3000000<=N){v:A7}(h1:v.feats.n<=24)(g:v.sounds.n<=256):∃r,T0 N v=some r/\∃z,r=some z/\z.feats=v.feats:=by
 unfold T0;refine B4 (x:=true) rfl (Fn (B4 (x:=v.feats) (Gi) (B4 (x:=v.sounds) (Gi) ?_)));refine S3 (λi x1 x2=>x2=(i:Int)) v.feats.n _ (by omega) rfl ?_;rintro d i x1 x2 j rfl hs;by_cases hl:i<v.feats.n
 .exact Bu (Ai (hs hl _ _ (Fy)))
 refine Fv ?_;refine Al9 (λi x3 x4 x5=>x5=(i:Int)) v.sounds.n _ (by omega) rfl ?_;rintro a k x3 x4 x5 hk rfl b;by_cases c:k<v.sounds.n
 .exact Bu (Ai (b c _ _ _ (Fy)))
 grind
def Bm6 {n:Nat}{l:Sl GW}{i:Nat}(a:Fq (mkE n l) i=0)(c:i<l.n):(mkE n l i=0->Fq (mkE n l) (i+1)=0)/\∀{e:Int},mkE n l i=e->e≠0->e=Fq (mkE n l) l.n:=by
 have b:=MV a
 grind[GQ]
def BC5 (u:3000000<=N){v:A7}(h1:v.feats.n<=24)(w:v.sounds.n<=256){l:Sl GW}(hl:∀i,i<l.n->An2 (l.g i)):Cy N v l=some (BJ2 v.feats.n l):=by
 refine eqR ?_;unfold Cy BJ2;obtain⟨_,e,z,rfl,ez⟩:=BC4 u h1 w;refine B4 e ?_;rw[M5];by_cases f:32<l.n
 .grind
 rw[Kd f];have y:Q6 N z=some v.feats:=by unfold Q6 J5 D2;rw[ez,Ci2,Jz,Gi];rfl
 refine Fv (B4 y (Ai ?_));refine X6 (λi x=>x=(i:Int)/\Fq (mkE v.feats.n l) i=0) l.n _ (by omega) ⟨rfl,rfl⟩ ?_;rintro m i x hi ⟨rfl,h0⟩ hs;by_cases c:i<l.n
 .obtain⟨j,a⟩:=Bm6 h0 c;refine Bu (Ai ?_);rw[Vc];have d:(l.g i).Text.length<1100000:=by obtain⟨_,_,_,_,_,h⟩:=hl i c;exact h
  obtain⟨b,eb,hb⟩:=mtx (N:=N) d;refine ltG (λk=>eb k) ?_;by_cases ht:mtB (l.g i).Text
  case neg=>exact ifT (hb.2 ht) ⟨_,rfl,a (Kd ht) (by decide)⟩
  refine ifF (λg=>hb.1 g ht) (ltG (λk=>mgx h1 (hl i c)) ?_);by_cases hg:mgV v.feats.n (l.g i)=true
  case neg=>exact Bu ⟨_,rfl,a ((Kb ht).trans (Kd hg)) (by decide)⟩
  refine Fv (Ai ?_);obtain⟨r,er,o⟩:=Bm5 (N:=N) (s:=l.take i) (q:=l.g i) (by grind) (by grind);refine B4 er ?_;by_cases t:mdup l i
  .exact ifT (o.2 t) ⟨_,rfl,a ((Kb ht).trans (by grind)) (by decide)⟩
  exact ifF (λg=>t (o.1 g)) (hs c _ ⟨Fy,j ((Kb ht).trans (by grind))⟩)
 obtain rfl:i=l.n:=by omega
 refine Eh ?_;unfold H2;rw[Gi]
 grind
def rgx {N n:Nat}(d:1000<=N)(hn:n<=24){x:GW}(hx:An2 x){R:Type}{k:Bool->Option R}:(ite ((F3 .andNot .u32 x.Clear (wrap .u32 ((shI .shl .u32 1 (n:Int))-1))) != 0) (k true) ((G5 N x.Set).bind λy=>ite (!y) (k true) (ite ((F3 .andNot .u32 (F3 .or .u32 x.Set.Plus x.Set.Minus) (wrap .u32 ((shI .shl .u32 1 (n:Int))-1))) != 0) (k true) (k ((F3 .and .u32 x.Clear (F3 .or .u32 x.Set.Plus x.Set.Minus)) != 0)))))=k (!(mgV n x)):=by
 obtain⟨p,m,c,h1,b,_⟩:=hx;rw[BJ1 h1 b,AC2 hn,b,h1,AD p m d];show (ite ((F3 .andNot .u32 (c.toNat:Int) ((tV n).toNat:Int)) != 0) (k true) ((some (vB p m)).bind λy=>ite (!y) (k true) (ite ((F3 .andNot .u32 (F3 .or .u32 (p.toNat:Int) (m.toNat:Int)) ((tV n).toNat:Int)) != 0) (k true) (k ((F3 .and .u32 (c.toNat:Int) (F3 .or .u32 (p.toNat:Int) (m.toNat:Int))) != 0)))))=_;rw[Jf,Ed,Dh,Dh,ne0,ne0,ne0,Ci2];have e:(c ||| (p ||| m)) &&& ~~~ tV n=0#32↔c &&& ~~~ tV n=0#32/\(p ||| m) &&& ~~~ tV n=0#32:=by rw[BI7,or0]
 unfold mgB;by_cases a:c &&& ~~~ tV n=0#32
 .rw[Jq];by_cases v:vB p m=true
  .rw[Jq];by_cases o:(p ||| m) &&& ~~~ tV n=0#32
   all_goals simp_all
  grind
 simp_all
def Bm7 {α : Type}[Inhabited α](s:Sl α):(Sl.of []:Sl α).app s=s:=by
 simp_all[Sl.of,Sl.app]
def BC6 (hN:3000000<=N){r:D7}(hm:r.Made=true)(h1:r.F.n<=24)(h2:r.S.n<=256){l:Sl GW}(hl:∀i,i<l.n->An2 (l.g i)):KE N r l=some (BJ2 r.F.n l):=by
 refine eqR ?_;unfold KE BJ2;refine Fv ?_;by_cases f:32<l.n
 .grind
 rw[Kd f];have u:Y9 N r=some r.F:=by unfold Y9 N7;rw[hm,Ci2,Jz,Gn,Bm7]
 have hs:Au N r=some r.S:=by unfold Au N7;rw[hm,Ci2,Jz,Gn,Bm7]
 refine Fv (B4 u (Ai ?_));refine X6 (λi x=>x=(i:Int)/\Fq (mkE r.F.n l) i=0) l.n _ (by omega) ⟨rfl,rfl⟩ ?_;rintro v i x hi ⟨rfl,h0⟩ m;by_cases c:i<l.n
 .obtain⟨o,a⟩:=Bm6 h0 c;refine Bu (Ai ?_);rw[Vc];have w:(l.g i).Text.length<1100000:=by obtain⟨_,_,_,_,_,h⟩:=hl i c;exact h
  obtain⟨b,eb,hb⟩:=An1 (N:=N) (s:=(l.g i).Text) (by omega) (by omega);refine B4 eb ?_;by_cases ht:mtB (l.g i).Text
  case neg=>exact ifT (by
   cases b
   .rfl
   exact Kf (hb.1 rfl) ht) ⟨_,rfl,a (Kd ht) (by decide)⟩
  refine Fv (ltG (λk=>rgx (by omega) h1 (hl i c)) ?_);by_cases y:mgV r.F.n (l.g i)=true
  case neg=>exact Bu ⟨_,rfl,a ((Kb ht).trans (Kd y)) (by decide)⟩
  refine Fv ?_;refine X6 (λk x=>x=(k:Int)/\∀j,j<k->¬(l.g j).Text=(l.g i).Text) i _ (by omega) (by grind) ?_;rintro q k x hk ⟨rfl,h⟩ t;by_cases d:k<i
  .refine Bu (Ai ?_);rw[Vc];by_cases z:(l.g k).Text=(l.g i).Text
   .exact Bu ⟨_,rfl,a ((Kb ht).trans ((Kb y).trans (Kb ⟨k,d,z⟩))) (by decide)⟩
   refine Fv (t d _ ⟨Fy,λj hj=>?_⟩)
   grind
  have z:¬mdup l i:=fun⟨k',hk',e⟩=>h k' (by omega) e;exact Fv (m c _ ⟨Fy,o ((Kb ht).trans (by grind))⟩)
 obtain rfl:i=l.n:=by omega
 refine Eh ?_;unfold EF N7;rw[hm,u,hs];exact B4 rfl (by rw[M5];grind)
structure MW (p:A8):Prop where
 feats:∀i,i<p.Feats.n->(p.Feats.g i).length<1100000
 snd:∀i,i<p.Sounds.n->okS (p.Sounds.g i).S/\(p.Sounds.g i).Af1.length<1100000
 sn:p.Sounds.n<1100000
 mrk:∀i,i<p.Marks.n->An2 (p.Marks.g i)
 hist:P8 p.Yv
 pro:IX p.Yu
 ent:Xi p.Yy
def gV (p:A8):Nat->A7
 |0=>⟨p.Feats,AX5 p.Feats p.Feats.n,Sl.nil,[],[]⟩
 |i+1=>BW7 (gV p i) (p.Sounds.g i).Af1 (p.Sounds.g i).S
def gR (p:A8):Nat->D7
 |0=>⟨true,(Sl.of []:Sl Str).app p.Feats,Sl.nil⟩
 |i+1=>Ch5 (gR p i) (p.Sounds.g i).Af1 (p.Sounds.g i).S
def sdE (p:A8)(i:Nat):Int:=Ce0 (gV p i).feats.n (gV p i).sounds (p.Sounds.g i).Af1 (p.Sounds.g i).S
def gV_f (p:A8):∀i,(gV p i).feats=p.Feats
 |0=>rfl
 |i+1=>gV_f p i
def BS7 {s:Tr}(h:okS s):Ch4 s:=by
 obtain⟨p,m,rfl⟩:=h
 simp_all[Ch4,sOf,Ec]
def BS8 {s:Sl Str}(h:Zo s=0):s.n<=24:=by
 grind[Zo]
def Ce8 {p:A8}(hp:MW p)(hn:Zo p.Feats=0):∀i,i<=p.Sounds.n->Fq (sdE p) i=0->Rel3 (gV p i) (gR p i)
 |0,_,_=>⟨⟨rfl,rfl,rfl,BS8 hn,Cr0 _,λi a=>Kf a (Ct7 i)⟩,rfl,by show (Sl.of []:Sl Str).app p.Feats=p.Feats;exact Bm7 _,rfl⟩
 |i+1,a,h0=>by
  have h1:=DV h0;have ih:=Ce8 hp hn i (by omega) (by
   grind[Fq,sdE,GQ])
  have b:=h1 i (by omega);exact⟨BB6 ih.ok (BS7 (hp.snd i (by omega)).1) b,ih.made,ih.feats,by show (gR p i).S.push _=(gV p i).sounds.push _;rw[ih.sounds]⟩
def Ap9 (p:A8):Int:=ite (Zo p.Feats≠0) (Zo p.Feats) (Fq (sdE p) p.Sounds.n)
def loop6 {A B C D E F R:Type}{body:(A->B->C->D->E->F->Option R)->A->B->C->D->E->F->Option R}(I:Nat->A×B×C×D×E×F->Prop)(n:Nat)(M3:R->Prop){N:Nat}(l:n<N){a:A}{b:B}{c:C}{d:D}{e:E}{f:F}(m:I 0 (a,b,c,d,e,f))
 (j:∀g i x,i<=n->I i x->(i<n->∀y,I (i+1) y->∃r,g y.1 y.2.1 y.2.2.1 y.2.2.2.1 y.2.2.2.2.1 y.2.2.2.2.2=some r/\M3 r)->∃r,body g x.1 x.2.1 x.2.2.1 x.2.2.2.1 x.2.2.2.2.1 x.2.2.2.2.2=some r/\M3 r):∃r,fix6 N body a b c d e f=some r/\M3 r:=
 AX2 I n M3 (λg i x o q h=>j (λa b c d e f=>g (a,b,c,d,e,f)) i x o q (by omega)) N 0 (a,b,c,d,e,f) (Cr0 _) m l
def Bm8 {p:A8}{i:Nat}(a:Fq (sdE p) i=0)(c:i<p.Sounds.n):(sdE p i=0->Fq (sdE p) (i+1)=0)/\(sdE p i≠0->Fq (sdE p) p.Sounds.n=sdE p i):=by
 have b:=MV a
 grind[GQ]
def pInv (l:3000000<=N){p:A8}(hp:MW p):Aq N p=some (ite (Ap9 p=0) (some (gV p p.Sounds.n)) none,Ap9 p):=by
 refine eqR ?_;unfold Aq;have hs:=hp.sn;refine B4 (BR1 p.Feats (by omega) hp.feats) ?_;by_cases hn:Zo p.Feats=0
 case neg=>
  have e:Ap9 p=Zo p.Feats:=Kb hn;rw[Kd hn,K5]
  grind
 have e:Ap9 p=Fq (sdE p) p.Sounds.n:=Kd (λg=>g hn);rw[Kb hn,M5];refine Fv ?_;refine loop6 (λi x=>x=((gV p i).feats,(gV p i).number,(gV p i).sounds,(gV p i).symbols,(gV p i).values,(i:Int))/\Fq (sdE p) i=0) p.Sounds.n _ (by omega) ⟨rfl,rfl⟩ ?_;rintro c i x j ⟨rfl,d⟩ a;dsimp only;by_cases hl:i<p.Sounds.n
 .obtain⟨b,f⟩:=Bm8 d hl;have hR:=Ce8 hp hn i j d;obtain⟨o1,o2⟩:=hp.snd i hl;refine Bu (Ai ?_);rw[Vc];refine B4 (iAddS hR.ok _ (BS7 o1) (by omega) (by omega)) ?_;have e3:Ce0 (gV p i).feats.n (gV p i).sounds (p.Sounds.g i).Af1 (p.Sounds.g i).S=sdE p i:=rfl;rw[e3];by_cases g:sdE p i=0
  .refine Fv ?_;dsimp only;rw[Kb g,show IntKind.i64.wrap ((i:Int)+1)=((i+1:Nat):Int) from Fy];exact a hl (_,_,_,_,_,_) ⟨rfl,b g⟩
  grind
 obtain rfl:i=p.Sounds.n:=by omega
 simp_all
def rInv (r:3000000<=N){p:A8}(hp:MW p):Bl N p=some (ite (Ap9 p=0) (some (gR p p.Sounds.n)) none,Ap9 p):=by
 refine eqR ?_;unfold Bl;have hs:=hp.sn;refine B4 (BR0 p.Feats (by omega) hp.feats) ?_;by_cases hn:Zo p.Feats=0
 case neg=>
  have e:Ap9 p=Zo p.Feats:=Kb hn;rw[Kd hn,K5]
  grind
 have e:Ap9 p=Fq (sdE p) p.Sounds.n:=Kd (λg=>g hn);rw[Kb hn,M5];refine Fv ?_;refine loop4 (λi a b c x=>(a=(gR p i).Made/\b=(gR p i).F/\c=(gR p i).S/\x=(i:Int))/\Fq (sdE p) i=0) p.Sounds.n _ (by omega) ⟨⟨rfl,rfl,rfl,rfl⟩,rfl⟩ ?_;rintro j i a b c x q ⟨⟨rfl,rfl,rfl,rfl⟩,l⟩ d;by_cases hl:i<p.Sounds.n
 .obtain⟨f,m⟩:=Bm8 l hl;have hR:=Ce8 hp hn i q l;obtain⟨o1,o2⟩:=hp.snd i hl;refine Bu (Ai ?_);rw[Vc];have o:=BS0 (N:=N) (gR p i) hR.made (by rw[hR.feats];exact hR.ok.feats) (by rw[hR.sounds];exact hR.ok.sounds) (p.Sounds.g i).Af1 (BitVec.ofInt 32 (p.Sounds.g i).S.Plus) (BitVec.ofInt 32 (p.Sounds.g i).S.Minus) (by omega) (by omega) (by omega);rw[<- BS7 o1,hR.feats,hR.sounds]at o;refine B4 o ?_;have e3:Bk8 (gV p i).feats.n (gV p i).sounds (p.Sounds.g i).Af1 (BitVec.ofInt 32 (p.Sounds.g i).S.Plus) (BitVec.ofInt 32 (p.Sounds.g i).S.Minus)=sdE p i:=rfl;rw[e3];by_cases g:sdE p i=0
  .refine Fv ?_;dsimp only;rw[Kb g];exact d hl _ _ _ _ ⟨⟨rfl,rfl,rfl,Fy⟩,f g⟩
  grind
 obtain rfl:i=p.Sounds.n:=by omega
 simp_all
noncomputable def Ub (N:Nat) (p:A8):Int:=ite (Ap9 p≠0) (Ap9 p) (ite (BJ2 p.Feats.n p.Marks≠0) (BJ2 p.Feats.n p.Marks) (BS4 N p.Yv p.Yu p.Yy))
def pChk (b:3000000<=N){p:A8}(hp:MW p):Z5 N p=some (Ub N p):=by
 refine eqR ?_;unfold Z5 Hh Ub;rw[pInv b hp,Ci2];by_cases a:Ap9 p=0
 case neg=>rw[Kd a,K5,Kb a,Gn];grind
 rw[Kb a,M5,Jq,Kd (λg=>g a)];have hn:Zo p.Feats=0:=Co0 λg=>g (by have e:Ap9 p=Zo p.Feats:=Kb g;rw[<- e];omega)
 have c:Fq (sdE p) p.Sounds.n=0:=by have e:Ap9 p=Fq (sdE p) p.Sounds.n:=Kd (λg=>g hn);rw[<- e];omega
 have hR:=Ce8 hp hn _ (Ci9 _) c;rw[BC5 b hR.ok.feats hR.ok.sounds hp.mrk,Ci2,gV_f];by_cases hm:BJ2 p.Feats.n p.Marks=0
 case neg=>rw[Gn,Kb hm];grind
 rw[Jq,Kd (λg=>g hm)];exact B4 (x:=(0:Int)) rfl (Fn (B4 (Xl b hp.hist hp.pro hp.ent) ⟨_,rfl,rfl⟩))
def rChk (b:3000000<=N){p:A8}(hp:MW p):Da N p=some (Ub N p):=by
 refine eqR ?_;unfold Da EG Ub;rw[rInv b hp,Ci2];by_cases a:Ap9 p=0
 case neg=>rw[Kd a,K5,Kb a,Gn];grind
 rw[Kb a,M5,Jq,Kd (λg=>g a)];have hn:Zo p.Feats=0:=Co0 λg=>g (by have e:Ap9 p=Zo p.Feats:=Kb g;rw[<- e];omega)
 have c:Fq (sdE p) p.Sounds.n=0:=by have e:Ap9 p=Fq (sdE p) p.Sounds.n:=Kd (λg=>g hn);rw[<- e];omega
 have hR:=Ce8 hp hn _ (Ci9 _) c;rw[BC6 b hR.made (by rw[hR.feats];exact hR.ok.feats) (by rw[hR.sounds];exact hR.ok.sounds) hp.mrk,Ci2,hR.feats,gV_f];by_cases hm:BJ2 p.Feats.n p.Marks=0
 case neg=>rw[Kb hm];grind
 rw[Kd (λg=>g hm)];exact Fv (B4 (TZ b hp.hist hp.pro hp.ent) ⟨_,rfl,rfl⟩)
def Pt:∀(d:Nat) (p:Pat),okP d p->∀M,100+d<=M->U0 M p=some p
 |0,p,h,M,_=>h.elim
 |d+1,p,h,0,hM=>by omega
 |d+1,p,h,M+1,hM=>by
  show U9 (U0 M) M p=some p;unfold U9;have hn:=h.1;refine eqR (X6 (λi x2=>x2=(i:Int)) p.L.n _ (by omega) rfl ?_);rintro a i x2 b rfl hs;by_cases hl:i<p.L.n
  .refine Bu (Ai ?_);rw[Vc];exact B4 (Pt d (p.L.g i) (h.2.2 i hl) M (by omega)) (Ai (hs hl _ (Fy)))
  grind
def An3 {N:Nat}(c:3000000<=N){l:Law}(hl:Vw l)(hc:chkAll N l):V9 N l=some l:=by obtain⟨_,h1,a,d,b,_⟩:=hc.f hl;have g:=b.1;unfold V9 B3 I0;rw[Pt 40 l.Left (Am2 40 _ (by omega) h1 _ (by simp)) N (by omega),Pt 40 l.Right (Am2 40 _ (by omega) a _ (by simp)) N (by omega),Ci2,Ci2,Gi,Ci2,Gi];rfl
def An4 {N:Nat}{h:Yv}(a:Aw N h){x:Nat}(hx:x<h.Tree.n):(h.On.g x).n<=64/\∀i,i<(h.On.g x).n->0<=(h.On.g x).g i/\(h.On.g x).g i<h.Laws.n:=by
 have c:=a.on;refine⟨?_,λj b=>?_⟩
 .have hl:(N6 h x).n<=64:=Cx4 λg=>a.long ⟨x,by omega,g⟩
  grind[Av,AE,EI,N6]
 have:=a.bad x (by omega)
 constructor
 .exact Int.not_lt.1 λg=>this ⟨j,b,.inl g⟩
 exact Int.not_le.1 λg=>this ⟨j,b,.inr g⟩
def AK8 {N n:Nat}(hn:n<=32)(f:1000<=N):∃s,FR N (n:Int)=some s/\s.n=n+1/\TabR n (λa b=>a=b) s.g:=by
 unfold FR;rw[Fy];refine Ai ?_;refine S3 (λi x1 x2=>x2=(i:Int)/\x1.n=n+1/\∀a,a<i->x1.g a=U (1#64 <<< a)) (n+1) _ (by omega) (by grind) ?_;rintro c i x1 x2 j ⟨rfl,h1,d⟩ hs;by_cases hl:i<=n
 .refine Bu (Ai (hs (by omega) _ _ ⟨Fy,h1,λa ha=>?_⟩));show (ite (a=(i:Int).toNat) (shI .shl .u64 1 (i:Int)) (x1.g a))=_;by_cases e:a=i
  .subst e;rw[Gi,Aj3 _ (by omega)]
  grind
 refine Fv ⟨x1,rfl,h1,λa ha=>⟨1#64 <<< a,d a (by omega),λb hb=>?_⟩⟩;rw[YS (by omega) hb,Lx];omega
def BC7 {n:Nat}{f:Nat->Int}(h:∀a,a<=n->f a=0):TabR n (λ_ _=>False) f:=λa ha=>⟨0#64,h a ha,λb hb=>by simp⟩
def AK9 {N n:Nat}{R S:Nat->Nat->Prop}{x y:Sl Int}(hn:n<=32)(f:1000<=N)(hx:x.n=n+1)(hy:y.n=n+1)(hR:TabR n R x.g)(hS:TabR n S y.g) :∃s,FS N x y=some s/\s.n=n+1/\TabR n (λa b=>R a b \/ S a b) s.g:=by
 unfold FS;refine Ai ?_;refine S3 (λi x1 x2=>x2=(i:Int)/\x1.n=n+1/\∀a,a<i->x1.g a=F3 .or .u64 (x.g a) (y.g a)) (n+1) _ (by omega) (by grind) ?_;rintro c i x1 x2 j ⟨rfl,h1,d⟩ hs;by_cases hl:i<=n
 .refine Bu (Ai (hs (by omega) _ _ ⟨Fy,h1,λa ha=>?_⟩))
  grind
 refine Fv ⟨x1,rfl,h1,λa ha=>?_⟩;obtain⟨u,e1,g1⟩:=hR a ha;obtain⟨v,e2,g2⟩:=hS a ha;refine⟨u ||| v,by rw[d a (by omega),e1,e2,Ch2],λb hb=>?_⟩;rw[Ck8,Cl1,g1 b hb,g2 b hb]
 grind
def Bm9 {N n:Nat}{x y:Sl Int}(hn:n<=32)(d:1000<=N)(hx:x.n=n+1)(hy:y.n=n+1) :∃b,GI N x y=some b/\(b=true ↔ ∀a,a<=n->x.g a=y.g a):=by
 unfold GI;refine X6 (λi x1=>x1=(i:Int)/\∀a,a<i->x.g a=y.g a) (n+1) _ (by omega) (by grind) ?_;rintro c i x1 f ⟨rfl,j⟩ hs;by_cases hl:i<=n
 .refine Bu (Ai ?_);rw[Vc];by_cases e:x.g i=y.g i
  .refine Fv (hs (by omega) _ ⟨Fy,λa ha=>?_⟩)
   grind
  refine Bu (by grind)
 exact Fv (by grind)
def Xm {N n:Nat}{R S:Nat->Nat->Prop}{x y:Sl Int}(hn:n<=32)(u:1000<=N)(hx:x.n=n+1)(hy:y.n=n+1)(hR:TabR n R x.g)(hS:TabR n S y.g) :∃s,Bm N x y=some s/\s.n=n+1/\TabR n (λa b=>∃c,c<=n/\R a c/\S c b) s.g:=by
 unfold Bm;refine Ai ?_
 let Row (z:BitVec 64) (a j:Nat):Prop:=∀b,b<64->(z.getLsbD b=true↔b<=n/\∃c,c<j/\c<=n/\R a c/\S c b)
 refine S3 (λi x1 x2=>x2=(i:Int)/\x1.n=n+1/\(∀a,a<i->∃z,x1.g a=U z/\Row z a (n+1))/\∀a,i<=a->x1.g a=0) (n+1) _ (by omega) (by grind) ?_;rintro o i x1 x2 w ⟨rfl,h1,q,r⟩ hs;by_cases hl:i<=n
 .refine Bu ?_;refine S3 (λj x7 x8=>x8=(j:Int)/\x7.n=n+1/\(∀a,a<i->∃z,x7.g a=U z/\Row z a (n+1))/\(∃z,x7.g i=U z/\Row z i j)/\∀a,i<a->x7.g a=0) (n+1) _ (by omega)
   ⟨rfl,h1,q,⟨0#64,r i (Ci9 _),λb hb=>by simp⟩,by grind⟩ ?_
  rintro m j x7 x8 hj ⟨rfl,g1,g2,⟨z,g3,g4⟩,g5⟩ d;by_cases f:j<=n
  .refine Bu (Ai ?_);rw[Vc,Vc];have l:=hR.bit hl (b:=j) (by omega);by_cases hc:R i j
   .refine ifT (l.2 ⟨f,hc⟩) (Ai (d (by omega) _ _ ⟨Fy,g1,λa ha=>?_,?_,λa ha=>?_⟩))
    .grind
    .obtain⟨v,e,t⟩:=hS j f;refine⟨z ||| v,by show (ite (i=i) _ _)=_;rw[Kb rfl,g3,e,Ch2],λb hb=>?_⟩;rw[Ck8,Cl1,g4 b hb,t b hb]
     grind
    grind
   refine Fv (d (by omega) _ _ ⟨Fy,g1,g2,⟨z,g3,λb hb=>?_⟩,g5⟩);rw[g4 b hb]
   grind
  refine Fv (hs (by omega) _ _ ⟨Fy,g1,λa ha=>?_,by grind⟩);by_cases e:a=i
  .grind
  exact g2 a (by omega)
 refine Fv ⟨x1,rfl,h1,λa ha=>?_⟩;obtain⟨z,e,hz⟩:=q a (by omega)
 grind
def Vz (w:Sl Tr)(p:Pat)(a b:Nat):PR w p a b↔(if p.Kind=0 then a=b
 else if p.Kind=1 then a<w.n/\b=a+1/\(Ba6 (w.g a) p.Is != p.Not)=true
 else if p.Kind=2 then a=0/\b=0
 else if p.Kind=6 then a=w.n/\b=w.n
 else if p.Kind=3 then BI2 w.n (λi=>PR w (p.L.g i)) p.L.n a b
 else if p.Kind=4 then ∃i,i<p.L.n/\PR w (p.L.g i) a b
 else if p.Kind=5 then ∃k:Nat,p.Min<=k/\(p.Max = -1 \/ (k:Int)<=p.Max)/\Mj w.n (PR w (p.L.g 0)) k a b
 else False):=by
 cases p with
 |nil=>simp[PR,Pat.Kind]
 |mk kind is no mn mx m g=>exact Cu0
def R0 (w:Sl Tr)(p:Pat)(a b:Nat):Prop:=ite (p.Kind=0) (a=b) (ite (p.Kind=1) (a<w.n/\b=a+1/\(Ba6 (w.g a) p.Is != p.Not)=true) (ite (p.Kind=2) (a=0/\b=0) (ite (p.Kind=6) (a=w.n/\b=w.n) False)))
def BJ3 {n:Nat}{R:Nat->Nat->Prop}(hR:Fwd n R){mn k:Nat}(hk:mn<k)(h:∀a b,a<=n->b<=n->Mj n R k a b->∃j,mn<=j/\j<k/\Mj n R j a b){a:Nat}(ha:a<=n) :∀m b,mn<=m->Mj n R m a b->∃j,mn<=j/\j<k/\Mj n R j a b
 |0,b,hm,hp=>by grind
 |m+1,b,hm,hp=>by
  by_cases f:m+1<k
  .grind
  obtain⟨c,hc,h1,d⟩:=hp;have hb:=(hR c b hc d).2;obtain⟨j,g1,g2,g3⟩:=BJ3 hR hk h ha m c (by omega) h1;by_cases e:j+1<k
  .exact⟨j+1,by omega,e,c,hc,g3,d⟩
  obtain rfl:k=j+1:=by omega
  exact h a b ha hb ⟨c,hc,g3,d⟩
def Uc {N:Nat}(hN:1000<=N){w:Sl Tr}(hw:w.n<=32):∀(d:Nat) (p:Pat),okP d p->∀M,N+d<=M->∃t,Es M p w=some t/\t.n=w.n+1/\TabR w.n (PR w p) t.g
 |0,p,h,M,hM=>h.elim
 |d+1,p,⟨hc,h5,hch⟩,0,hM=>by omega
 |d+1,p,⟨hc,h5,hch⟩,M+1,hM=>by
  have ih:=λi hi=>Uc hN hw d (p.L.g i) (hch i hi) M (by omega);show ∃t,DS (Es M) M p w=some t/\_;unfold DS;rw[Fy];refine Ai ?_;refine S3 (λi x1 x2=>x2=(i:Int)/\x1.n=w.n+1/\(∀a,a<i->∃z:BitVec 64,x1.g a=U z/\∀b,b<64->(z.getLsbD b=true↔b<=w.n/\R0 w p a b))/\∀a,i<=a->x1.g a=0) (w.n+1) _ (by omega)
   (by grind) ?_
  rintro self i x1 x2 hi ⟨rfl,h1,h2,h3⟩ hs;have keep:(∀b,b<=w.n->¬R0 w p i b)->(∀a,a<i+1->∃z:BitVec 64,x1.g a=U z/\∀b,b<64->(z.getLsbD b=true↔b<=w.n/\R0 w p a b)):=by
   intro h a ha;by_cases e:a=i
   .subst e;exact⟨0#64,h3 a (Ci9 _),by grind⟩
   exact h2 a (by omega)
  have put:∀(z:BitVec 64) (v:Int),v=U z->(∀b,b<64->(z.getLsbD b=true↔b<=w.n/\R0 w p i b)) ->
   (∀a,a<i+1->∃z:BitVec 64,(x1.upd (i:Int).toNat v).g a=U z/\∀b,b<64->(z.getLsbD b=true↔b<=w.n/\R0 w p a b))/\∀a,i+1<=a->(x1.upd (i:Int).toNat v).g a=0:=by
   intro z v hv hz;refine⟨λa ha=>?_,λa ha=>?_⟩
   .by_cases e:a=i
    .grind
    obtain⟨z',e1,e2⟩:=h2 a (by omega)
    grind
   grind
  by_cases hl:i<=w.n
  .refine Bu ?_;by_cases k0:p.Kind=0
   .refine Bu (Ai ?_);obtain⟨p1,p2⟩:=put (1#64 <<< i) _ (Aj3 i (by omega)) (λb hb=>by rw[YS (by omega) hb,Lx];simp only[R0,k0,Kk];omega);exact hs (by omega) _ _ ⟨Fy,h1,p1,p2⟩
   refine Fv ?_;by_cases k1:p.Kind=1
   .refine Bu ?_;have e0:∀b,R0 w p i b↔i<w.n/\b=i+1/\(Ba6 (w.g i) p.Is != p.Not)=true:=λb=>by grind[R0]
    by_cases hlt:i<w.n
    .refine Bu (Ai ?_);refine B4 (x:=Ba6 (w.g i) p.Is) (by rw[Vc];rfl) ?_;by_cases hb:Ba6 (w.g i) p.Is=p.Not
     .refine Fv (hs (by omega) _ _ ⟨Fy,h1,keep λb _=>?_,by grind⟩);rw[e0];grind
     refine Bu ?_;rw[Fy];refine Ai ?_;obtain⟨p1,p2⟩:=put (1#64 <<< (i+1)) _ (Aj3 (i+1) (by omega)) (by grind);exact hs (by omega) _ _ ⟨rfl,h1,p1,p2⟩
    refine Fv (hs (by omega) _ _ ⟨Fy,h1,keep λb _=>?_,by grind⟩);rw[e0];omega
   refine Fv ?_;by_cases k2:p.Kind=2
   .refine Bu ?_;have e0:∀b,R0 w p i b↔i=0/\b=0:=λb=>by grind[R0]
    by_cases hz:i=0
    .refine Bu (Ai ?_);obtain⟨p1,p2⟩:=put 1#64 _ Cc5 (by grind);exact hs (by omega) _ _ ⟨Fy,h1,p1,p2⟩
    refine Fv (hs (by omega) _ _ ⟨Fy,h1,keep λb _=>?_,by grind⟩);rw[e0];omega
   refine Fv ?_;by_cases k6:p.Kind=6
   .refine Bu ?_;have e0:∀b,R0 w p i b↔i=w.n/\b=w.n:=λb=>by grind[R0]
    by_cases hz:i=w.n
    .refine Bu (Ai ?_);obtain⟨p1,p2⟩:=put (1#64 <<< i) _ (Aj3 i (by omega)) (by grind);exact hs (by omega) _ _ ⟨Fy,h1,p1,p2⟩
    refine Fv (hs (by omega) _ _ ⟨Fy,h1,keep λb _=>?_,by grind⟩);rw[e0];omega
   refine Fv (hs (by omega) _ _ ⟨Fy,h1,keep λb _=>?_,by grind⟩)
   grind[R0]
  refine Fv ?_;have t0:TabR w.n (R0 w p) x1.g:=λa ha=>h2 a (by omega);by_cases k3:p.Kind=3
  .refine Bu ?_;obtain⟨s,es,a3,a4⟩:=AK8 (N:=M) hw (by omega);refine B4 es ?_;refine S3 (λi (x3:Sl Int) x4=>x4=(i:Int)/\x3.n=w.n+1/\TabR w.n (BI2 w.n (λi=>PR w (p.L.g i)) i) x3.g) p.L.n _ (by omega) ⟨rfl,a3,a4.congr λa b _ _=>Cu0⟩ ?_;rintro o j x3 x4 hj ⟨rfl,g1,g2⟩ c;by_cases u:j<p.L.n
   .obtain⟨t,et,a5,a6⟩:=ih j u;refine Bu (Ai (B4 (by rw[Vc];exact et) ?_));obtain⟨f,ef,l,a1⟩:=Xm (N:=M) hw (by omega) g1 a5 g2 a6;exact B4 ef (c u _ _ ⟨Fy,l,a1⟩)
   obtain rfl:j=p.L.n:=by omega
   exact Eh ⟨x3,rfl,g1,g2.congr λa b _ _=>by rw[Vz];grind⟩
  refine Fv ?_;by_cases k4:p.Kind=4
  .refine Bu ?_;refine S3 (λi x3 x4=>x4=(i:Int)/\x3.n=w.n+1/\TabR w.n (λa b=>∃q,q<i/\PR w (p.L.g q) a b) x3.g) p.L.n _ (by omega) ⟨rfl,h1,t0.congr λa b _ _=>by grind[R0]⟩ ?_;rintro o j x3 x4 hj ⟨rfl,g1,g2⟩ c;by_cases u:j<p.L.n
   .obtain⟨t,et,a5,a6⟩:=ih j u;refine Bu (Ai (B4 (by rw[Vc];exact et) ?_));obtain⟨f,ef,l,a1⟩:=AK9 (N:=M) hw (by omega) g1 a5 g2 a6;refine B4 ef (c u _ _ ⟨Fy,l,by grind⟩)
    all_goals grind
   obtain rfl:j=p.L.n:=by omega
   exact Eh ⟨x3,rfl,g1,g2.congr λa b _ _=>by rw[Vz];grind⟩
  refine Fv ?_;by_cases k5:p.Kind=5
  .obtain⟨hn1,hm0,hm1,hmx⟩:=h5 k5;refine Bu (Ai ?_);obtain⟨one,eo,ho1,ho2⟩:=ih 0 (by omega);obtain⟨s,es,a3,a4⟩:=AK8 (N:=M) hw (by omega);refine B4 eo (B4 es ?_);have hF:=Aj6 w (p.L.g 0);have fin:∀(t:Sl Int) (k:Nat),t.n=w.n+1->TabR w.n (λa b=>∃j:Nat,p.Min<=j/\j<k/\Mj w.n (PR w (p.L.g 0)) j a b) t.g ->
    (∀a b,a<=w.n->b<=w.n->((∃j:Nat,p.Min<=j/\j<k/\Mj w.n (PR w (p.L.g 0)) j a b) ↔ ∃j:Nat,p.Min<=j/\(p.Max = -1 \/ (j:Int)<=p.Max)/\Mj w.n (PR w (p.L.g 0)) j a b)) ->
    ∃r,some t=some r/\r.n=w.n+1/\TabR w.n (PR w p) r.g:=by
    intro t k e1 e2 e3;exact⟨t,rfl,e1,e2.congr λa b ha hb=>(e3 a b ha hb).trans (by rw[Vz];simp[k5])⟩
   refine Al9 (λk (x8 x9:Sl Int) x10=>x10=(k:Int)/\x8.n=w.n+1/\x9.n=w.n+1/\TabR w.n (λa b=>∃j:Nat,p.Min<=j/\j<k/\Mj w.n (PR w (p.L.g 0)) j a b) x8.g/\TabR w.n (Mj w.n (PR w (p.L.g 0)) k) x9.g/\(p.Max = -1 \/ (k:Int)<=p.Max)) 33 _ (by omega)
    ⟨rfl,h1,a3,t0.congr λa b _ _=>by grind[R0],a4.congr λa b _ _=>Cu0,by omega⟩ ?_
   rintro o k x8 x9 x10 hk ⟨rfl,g1,g2,g3,g4,g5⟩ c;obtain⟨f,ef,l,a1⟩:=Xm (N:=M) hw (by omega) g2 ho1 g4 ho2;have next:TabR w.n (Mj w.n (PR w (p.L.g 0)) (k+1)) f.g:=a1
   by_cases hmin:p.Min<=(k:Int)
   .refine Bu ?_;obtain⟨j,ej,a0,hj2⟩:=AK9 (N:=M) hw (by omega) g1 g2 g3 g4;have m:TabR w.n (λa b=>∃j:Nat,p.Min<=j/\j<k+1/\Mj w.n (PR w (p.L.g 0)) j a b) j.g:=hj2.congr λa b _ _=>by
     grind
    refine B4 ej (ltX ?_);by_cases hmaxk:(k:Int)=p.Max
    .refine Bu (ifT rfl (fin j (k+1) a0 m (by grind)))
     all_goals grind
    refine Fv ?_;by_cases hgt:p.Min<(k:Int)
    .refine Bu ?_;obtain⟨b,eb,hb⟩:=Bm9 (N:=M) (x:=x8) (y:=j) hw (by omega) g1 a0;refine B4 eb ?_;by_cases a2:b=true
     .refine ifT a2 (fin j (k+1) a0 m λa b ha hb'=>⟨?_,?_⟩)
      .grind
      rintro⟨q,h1,h2,h3⟩;have heq:=hb.1 a2;obtain⟨q',k1,k2,k3⟩:=BJ3 hF (mn:=p.Min.toNat) (k:=k) (by omega) (λa b ha hb' hp=>by
       have e1:=m.bit ha (b:=b) (by omega);have e2:=g3.bit ha (b:=b) (by omega);rw[<- heq a ha]at e1
       grind) ha q b (by omega) h3
      grind
     refine ifF a2 (B4 ef ?_);have hk33:k<33:=by
      refine Nat.lt_of_le_of_ne hk λe=>a2 (hb.2 λa ha=>?_);subst e;refine g3.uniq (m.congr λa b ha hb'=>⟨?_,?_⟩) ha
      .rintro⟨q,h1,h2,h3⟩;by_cases e:q=33
       .subst e;exact⟨32,by omega,by omega,Aj4 hF ha hw h3⟩
       grind
      grind
     exact c hk33 _ _ _ ⟨Fy,a0,l,m,next,by omega⟩
    refine Fv (Eh (B4 ef (c (by omega) _ _ _ ⟨Fy,a0,l,m,next,by omega⟩)))
   refine Fv (B4 ef (c (by omega) _ _ _ ⟨Fy,g1,l,by grind,next,by omega⟩))
   all_goals omega
  refine Fv ⟨x1,rfl,h1,t0.congr λa b _ _=>?_⟩;rw[Vz]
  grind[R0]
def OE {x y:BitVec 32}(h:∀b,b<32->x.getLsbD b=y.getLsbD b):x=y:=Cw9 h
def BS9 (i:Nat):shI .shl .u32 1 (i:Int)=((1#32 <<< i).toNat:Int):=by rw[show (1:Int)=((1#32).toNat:Int) from rfl,BH1]
def Bn0 {i j:Nat}(a:j<32):(1#32 <<< i).getLsbD j=decide (j=i):=by
 rw[Cw7,Cz9];by_cases h:j=i
 .simp_all
 by_cases b:j<i
 .simp_all
 have:j-i≠0:=by omega
 simp_all
def gB (p m:BitVec 32)(f:Nat):Int:=ite (p.getLsbD f) 1 (ite (m.getLsbD f) (-1) 0)
def AL0 (p m:BitVec 32)(a:vB p m=true)(f:Nat)(c:f<24)(b:1000<=N):W7 N (sOf p m) (f:Int)=some (gB p m f):=by
 unfold W7;rw[AD p m b];simp only[Ci2,lt,DQ,Xd,gB,a];rw[Kb (by omega:(0:Int)<=(f:Int)),Kb (by omega:(0:Int)<=(f:Int))];have e:(decide ((0:Int)<=(f:Int))&&decide ((f:Int)<24))=true:=by simp;omega
 rw[e];cases h1:p.getLsbD f<;>cases d:m.getLsbD f<;>simp
def gB_eq {p m a b:BitVec 32}(g:vB p m=true)(c : vB a b=true)(f:Nat)(d:f<32):(gB a b f≠0->gB p m f=gB a b f)↔((a.getLsbD f=true->p.getLsbD f=true)/\(b.getLsbD f=true->m.getLsbD f=true)):=by have h1:=((Ju p m).1 g f d).1;have i:=((Ju a b).1 c f d).1;revert h1 i;simp only[gB];cases a.getLsbD f<;>cases b.getLsbD f<;>cases p.getLsbD f<;>cases m.getLsbD f<;>simp
def Ba8 (p m a b:BitVec 32):Bool:=vB p m&&(vB a b&&decide (∀i:Fin 32,(a.getLsbD i=true->p.getLsbD i=true)/\(b.getLsbD i=true->m.getLsbD i=true)))
def BT0 (a p:BitVec 32):a &&& ~~~ p=0#32 ↔ ∀i,i<32->(a.getLsbD i=true->p.getLsbD i=true):=by
 rw[z32]
 simp_all
def BT1 (p m a b:BitVec 32):P1 N (sOf p m) (sOf a b)=some (Ba8 p m a b):=by
 unfold P1;rw[CB];simp only[Ci2,lt,CB,Dh,eq0,Ba8];cases h1:vB p m
 .simp
 cases d:vB a b
 .simp
 simp only[Kk,Ct8];have key:(decide (∀i:Fin 32,(a.getLsbD i=true->p.getLsbD i=true)/\(b.getLsbD i=true->m.getLsbD i=true)))=(decide (a &&& ~~~ p=0#32)&&decide (b &&& ~~~ m=0#32)):=by rw[Cj9];simp only[Ci6,Lx,BT0];exact⟨λh=>⟨λi c=>(h ⟨i,c⟩).1,λi c=>(h ⟨i,c⟩).2⟩,λh i=>⟨h.1 i.1 i.2,h.2 i.1 i.2⟩⟩
 rw[key];by_cases h:a &&& ~~~ p=0#32
 all_goals simp_all
def BT2 (p m a b:BitVec 32)(f:1000<=N):V6 N (sOf p m) (sOf a b)=some (Ba8 p m a b):=by
 suffices h:∃r,V6 N (sOf p m) (sOf a b)=some r/\r=Ba8 p m a b by simp_all
 unfold V6;rw[AD p m f];refine B4 rfl (ltX ?_);cases h1:vB p m
 .exact Ak (ifT rfl ⟨false,rfl,by simp[Ba8,h1]⟩)
 refine Eh ?_;rw[AD a b f];refine B4 rfl ?_;cases c:vB a b
 .exact Ak ⟨false,rfl,by simp[Ba8,c]⟩
 refine Eh ?_;refine X6 (λi x3=>x3=(i:Int)/\∀j,j<i->((a.getLsbD j=true->p.getLsbD j=true)/\(b.getLsbD j=true->m.getLsbD j=true))) 24 _ (by omega) (by simp) ?_;rintro d i x3 o ⟨rfl,g⟩ hs;by_cases hl:i<24
 .refine Aj (B4 (AL0 a b c i hl f) (ltX ?_));have key:=gB_eq h1 c i (by omega);have fin:(¬(gB a b i≠0->gB p m i=gB a b i))->false=Ba8 p m a b:=λhn=>by symm;simp only[Ba8,h1,c,Ct8];rw[<- Cx8,Lx];intro h;exact hn (key.2 (h ⟨i,by omega⟩))
  have go:(gB a b i≠0->gB p m i=gB a b i)->∃r,d (wrap .i64 ((i:Int)+1))=some r/\r=Ba8 p m a b:=λhp=>hs hl _ ⟨Fy,λj l=>by
   by_cases e:j=i
   .simp_all
   exact g j (by omega)⟩
  by_cases n:gB a b i=0
  .simp_all
  refine ifT (by simp[n]) (B4 (AL0 p m h1 i hl f) ?_);by_cases q:gB p m i=gB a b i
  all_goals simp_all
 refine Ci ⟨true,rfl,?_⟩;symm;simp only[Ba8,h1,c,Ct8,Lx];intro j;by_cases l:j.1<24
 .exact g j.1 (by omega)
 simp_all[Ju,Kf]
def ZO (x y s:BitVec 32):BitVec 32:=(x &&& ~~~ s) ||| (y &&& s)
def BJ4 (p m a b s:BitVec 32):Ei N (sOf p m) (sOf a b) (s.toNat:Int)=some (sOf (ZO p a s) (ZO m b s)):=by unfold Ei;simp only[Dh,Ed,Jf,ZO]
def Ce9 (x:BitVec 32)(f:Nat)(on:Bool):BitVec 32:=if on then (x &&& ~~~ (1#32 <<< f)) ||| (1#32 <<< f)else x &&& ~~~ (1#32 <<< f)
def Lp (x:BitVec 32)(f:Nat)(on:Bool){j:Nat}(a:j<32):(Ce9 x f on).getLsbD j=ite (j=f) on (x.getLsbD j):=by
 unfold Ce9;cases on
 .rw[Jn,Cl4,Co8,Bn0 a];by_cases e:j=f<;>simp[e,a]
 rw[Kb rfl,Ck8,Cl4,Co8,Bn0 a];by_cases e:j=f<;>simp[e,a]
def Bn1 (p m:BitVec 32)(f:Nat)(v:Int):Fd N (sOf p m) (f:Int) v=some (sOf (Ce9 p f (v==1)) (Ce9 m f (v == -1))):=by unfold Fd;rw[Gi];simp only[BS9,Dh,Jf];cases h1:v==1<;>cases a:v == -1<;>simp[Ce9]
def BC8 (p m c a b:BitVec 32):Tr×Int:=ite (vB p m=true/\vB a b) (ite (c.toNat<16777216/\c &&& (a ||| b)=0#32) (sOf (ZO p a (c ||| (a ||| b))) (ZO m b (c ||| (a ||| b))),0) (⟨0,0⟩,2)) (⟨0,0⟩,14)
def AY4 (p m c a b:BitVec 32):T6 N (sOf p m) (c.toNat:Int) (sOf a b)=some (BC8 p m c a b):=by
 unfold T6 BC8;rw[CB];simp only[Ci2,lt,CB,Gr,Jf,Ed,BJ4];cases h1:vB p m
 .simp
 cases g:vB a b
 .simp
 by_cases d:c.toNat<16777216
 .have e:((c &&& (a ||| b)).toNat:Int) != 0 ↔ ¬(c &&& (a ||| b)=0#32):=by
   have:=eq0 (c &&& (a ||| b))
   simp only[bne_iff_ne,ne_eq];rw[<- Lx (p:=c &&& (a ||| b)=0#32),<- this];simp
  by_cases f:c &&& (a ||| b)=0#32
  .simp[d,f];omega
  simp_all
 simp[d];omega
def AY5 (p m c a b:BitVec 32)(t:1000<=N):W8 N (sOf p m) (c.toNat:Int) (sOf a b)=some (BC8 p m c a b):=by
 suffices h:∃r,W8 N (sOf p m) (c.toNat:Int) (sOf a b)=some r/\r=BC8 p m c a b by simp_all
 unfold W8;rw[AD p m t];refine B4 rfl (ltX ?_);cases h1:vB p m
 .exact Ak (ifT rfl ⟨_,rfl,by simp[BC8,h1]⟩)
 refine Eh ?_;rw[AD a b t];refine B4 rfl ?_;cases o:vB a b
 .exact Ak ⟨_,rfl,by simp[BC8,o]⟩
 refine Eh ?_;rw[Jf,Ed];by_cases hc:c.toNat<16777216/\c &&& (a ||| b)=0#32
 .obtain⟨q,l⟩:=hc;refine ifF (by rw[l];simp;omega) ?_;have y:∀j,j<32->¬(c.getLsbD j=true/\(a.getLsbD j=true \/ b.getLsbD j=true)):=λj d=>by
   have:=(z32 _).1 l j d
   rw[Cl4,Ck8]at this
   simp_all
  refine Al9 (λi x2 x3 x4=>x4=(i:Int)/\∃P M:BitVec 32,x2=(P.toNat:Int)/\x3=(M.toNat:Int)/\∀j,j<32 ->
   P.getLsbD j=(ite (j<i/\(c.getLsbD j=true \/ a.getLsbD j=true \/ b.getLsbD j=true)) (a.getLsbD j) (p.getLsbD j))/\M.getLsbD j=(ite (j<i/\(c.getLsbD j=true \/ a.getLsbD j=true \/ b.getLsbD j=true)) (b.getLsbD j) (m.getLsbD j))) 24 _ (by omega)
   ⟨rfl,p,m,rfl,rfl,λj d=>by simp⟩ ?_
  rintro w i x2 x3 x4 hi ⟨rfl,P,M,rfl,rfl,f⟩ hs;by_cases hl:i<24
  .refine Aj (Ai ?_);rw[Xd];have u:=AL0 (N:=N) a b o i hl t;have v:=((Ju a b).1 o i (by omega)).1;have z:=y i (by omega);by_cases g:c.getLsbD i=true
   .refine ifT g (B4 (Bn1 P M i 0) (B4 u ?_));have ea:a.getLsbD i=false:=by cases e:a.getLsbD i<;>simp_all
    have eb:b.getLsbD i=false:=by cases e:b.getLsbD i<;>simp_all
    refine ifF (by simp[gB,ea,eb]) (hs hl _ _ _ ⟨Fy,_,_,rfl,rfl,λj d=>?_⟩);rw[Lp _ _ _ d,Lp _ _ _ d];by_cases e:j=i
    .subst e;simp[g,ea,eb]
    have:=f j d
    have e2:j<i+1↔j<i:=by omega
    simp only[e,Lw,e2];omega
   refine ifF g (B4 u ?_);by_cases s:gB a b i=0
   .have ea:a.getLsbD i=false:=by revert s;simp only[gB];cases a.getLsbD i<;>simp
    have eb:b.getLsbD i=false:=by revert s;simp only[gB,ea];cases b.getLsbD i<;>simp
    refine ifF (by simp[s]) (hs hl _ _ _ ⟨Fy,P,M,rfl,rfl,λj d=>?_⟩);by_cases e:j=i
    .subst e;have:=f j d;simpa[g,ea,eb]using this
    have:=f j d
    have e2:j<i+1↔j<i:=by omega
    simp only[e2];omega
   refine ifT (by simp[s]) (B4 u (B4 (Bn1 P M i _) (hs hl _ _ _ ⟨Fy,_,_,rfl,rfl,λj d=>?_⟩)));rw[Lp _ _ _ d,Lp _ _ _ d];by_cases e:j=i
   .subst e;revert s v;simp only[gB];cases a.getLsbD j<;>cases b.getLsbD j<;>simp
   have:=f j d
   have e2:j<i+1↔j<i:=by omega
   simp only[e,Lw,e2];omega
  obtain rfl:i=24:=by omega
  refine Eh ⟨_,rfl,?_⟩;simp only[BC8,h1,o,q,l,and_self,Kk];have hp:=(Ju p m).1 h1;have x:=(Ju a b).1 o;have a0:=(KK c).1 q;have eP:P=ZO p a (c ||| (a ||| b)):=OE λj d=>by
   rw[(f j d).1,ZO,Ck8,Cl4,Cl4,Co8,Ck8,Ck8];by_cases n:j<24
   .cases c.getLsbD j<;>cases a.getLsbD j<;>cases b.getLsbD j<;>cases p.getLsbD j<;>simp[n,d]
   have g1:=(hp j d).2 (by omega);have g2:=(x j d).2 (by omega);simp[g1.1,g2.1]
  have eM:M=ZO m b (c ||| (a ||| b)):=OE λj d=>by
   rw[(f j d).2,ZO,Ck8,Cl4,Cl4,Co8,Ck8,Ck8];by_cases n:j<24
   .cases c.getLsbD j<;>cases a.getLsbD j<;>cases b.getLsbD j<;>cases m.getLsbD j<;>simp[n,d]
   have g1:=(hp j d).2 (by omega);have g2:=(x j d).2 (by omega);simp[g1.2,g2.2]
  rw[eP,eM]
 refine ifT ?_ ⟨_,rfl,?_⟩
 .rw[Cl1,Lx,bne_iff_ne];by_cases h:c.toNat<16777216
  .right
   intro h0;exact hc ⟨h,Cl2 (by simp_all)⟩
  omega
 simp_all[BC8,and_self,Kk,Kd]
def BC9 (p m a b s:BitVec 32):Tr×Int:=ite (vB p m=true/\vB a b) (ite (s.toNat<16777216) (sOf (ZO p a s) (ZO m b s),0) (⟨0,0⟩,2)) (⟨0,0⟩,14)
def BD0 (p m a b s:BitVec 32):Z2 N (sOf p m) (sOf a b) (s.toNat:Int)=some (BC9 p m a b s):=by
 unfold Z2 BC9;rw[CB];simp only[Ci2,lt,CB,BJ4];cases h1:vB p m
 .simp
 cases d:vB a b
 .simp
 by_cases c:s.toNat<16777216
 .simp[c];omega
 simp[c];omega
def BD1 (p m a b s:BitVec 32)(n:1000<=N):BJ N (sOf p m) (sOf a b) (s.toNat:Int)=some (BC9 p m a b s):=by
 suffices h:∃r,BJ N (sOf p m) (sOf a b) (s.toNat:Int)=some r/\r=BC9 p m a b s by simp_all
 unfold BJ;rw[AD p m n];refine B4 rfl (ltX ?_);cases h1:vB p m
 .exact Ak (ifT rfl ⟨_,rfl,by simp[BC9,h1]⟩)
 refine Eh ?_;rw[AD a b n];refine B4 rfl ?_;cases l:vB a b
 .exact Ak ⟨_,rfl,by simp[BC9,l]⟩
 refine Eh ?_;by_cases hc:s.toNat<16777216
 .refine Ci ?_;refine Al9 (λi x2 x3 x4=>x4=(i:Int)/\∃P M:BitVec 32,x2=(P.toNat:Int)/\x3=(M.toNat:Int)/\∀j,j<32 ->
   P.getLsbD j=(ite (j<i/\s.getLsbD j) (a.getLsbD j) (p.getLsbD j))/\M.getLsbD j=(ite (j<i/\s.getLsbD j) (b.getLsbD j) (m.getLsbD j))) 24 _ (by omega)
   ⟨rfl,p,m,rfl,rfl,λj c=>by simp⟩ ?_
  rintro q i x2 x3 x4 u ⟨rfl,P,M,rfl,rfl,d⟩ hs;by_cases hl:i<24
  .refine Aj (Ai ?_);rw[Xd];have o:=((Ju a b).1 l i (by omega)).1;by_cases f:s.getLsbD i=true
   .refine ifT f (B4 (AL0 (N:=N) a b l i hl n) (B4 (Bn1 P M i _) (hs hl _ _ _ ⟨Fy,_,_,rfl,rfl,λj c=>?_⟩)));rw[Lp _ _ _ c,Lp _ _ _ c];by_cases e:j=i
    .subst e;revert o;simp only[gB,f];cases a.getLsbD j<;>cases b.getLsbD j<;>simp
    have:=d j c
    have e2:j<i+1↔j<i:=by omega
    simp only[e,Lw,e2];omega
   refine ifF f (hs hl _ _ _ ⟨Fy,P,M,rfl,rfl,λj c=>?_⟩);by_cases e:j=i
   .subst e;have:=d j c;simpa[f]using this
   have:=d j c
   have e2:j<i+1↔j<i:=by omega
   simp only[e2];omega
  obtain rfl:i=24:=by omega
  refine Eh ⟨_,rfl,?_⟩;simp only[BC9,h1,l,hc,and_self,Kk];have t:=(KK s).1 hc;have eP:P=ZO p a s:=OE λj c=>by
   rw[(d j c).1,ZO,Ck8,Cl4,Cl4,Co8];by_cases g:j<24
   .cases s.getLsbD j<;>cases a.getLsbD j<;>cases p.getLsbD j<;>simp[g,c]
   simp_all
  have eM:M=ZO m b s:=OE λj c=>by
   rw[(d j c).2,ZO,Ck8,Cl4,Cl4,Co8];by_cases g:j<24
   .cases s.getLsbD j<;>cases b.getLsbD j<;>cases m.getLsbD j<;>simp[g,c]
   simp_all
  rw[eP,eM]
 exact Aj ⟨_,rfl,by simp_all[BC9]⟩
def Bn2 (x:BitVec 64)(h:x≠0#64):Lib.ctz 64 x.toNat<64/\x.getLsbD (Lib.ctz 64 x.toNat)=true/\∀j,j<Lib.ctz 64 x.toNat->x.getLsbD j=false:=by
 have b:x.toNat≠0:=λe=>h (Cl2 (by grind));obtain⟨m,hm,a⟩:=Lib.ctzFrom_spec 64 x.toNat (by omega) x.isLt;have e:Lib.ctz 64 x.toNat=Lib.ctzFrom 64 x.toNat:=by unfold Lib.ctz;rw[Kd b]
 rw[e];refine⟨a,?_,λj c=>?_⟩
 .show x.toNat.testBit _=true;rw[hm,Cx0]
  grind
 show x.toNat.testBit _=false;rw[hm,Cx0]
 grind
def IY (x:BitVec 64)(i:Nat):List Int:=((List.range' i (64-i)).filter λj=>x.getLsbD j).map λ(j:Nat)=>(j:Int)
theorem Pu {x:BitVec 64}{i:Nat}(h:∀j,j<64->x.getLsbD j=false):IY x i=[]:=by
 grind[IY,List.filter_eq_nil_iff,List.mem_range']
def Xn {x:BitVec 64}{t:Nat}:∀(k i:Nat),t=i+k->t<64->x.getLsbD t=true->(∀j,j<t->x.getLsbD j=false)->IY x i=(t:Int)::IY x (t+1)
 |0,i,h,ht,hb,hl=>by
  obtain rfl:t=i:=by omega
  unfold IY;rw[show 64-t=(64-(t+1))+1 by omega,Cs9,Cx1 hb];rfl
 |k+1,i,h,ht,hb,hl=>by rw[<- Xn k (i+1) (by omega) ht hb hl];unfold IY;rw[show 64-i=(64-(i+1))+1 by omega,Cs9,Cx2 (by grind)]
def AD1 {x y:BitVec 64}{i:Nat}(h:∀j,i<=j->x.getLsbD j=y.getLsbD j):IY x i=IY y i:=by
 grind[IY,List.filter_congr,List.mem_range']
def Ch8 (M:Nat)(a:Int->Option (List Int))(x1:Int):Option (List Int):= ite (x1 != 0) ((I8 M x1).bind λy3=>ite ((0:Int)<=y3) (BN y3 (a (F3 .andNot .u64 x1 (shI .shl .u64 1 y3)))) none) (some [])
def Bn3 {x:BitVec 64}{M:Nat}{a:Int->Option (List Int)}(hx:x≠0#64):Ch8 M a (U x)=BN ((Lib.ctz 64 x.toNat:Nat):Int) (a (U (x &&& ~~~(1#64 <<< Lib.ctz 64 x.toNat)))):=by
 have c:x.toNat≠0:=λe=>hx (Cl2 (by grind));have b:=x.isLt;unfold Ch8;rw[Gn]
 have:I8 M (U x)=some ((Lib.ctz 64 x.toNat:Nat):Int):=by unfold I8;rw[Gn];rfl
 rw[this,Ci2,Gi,Aj3 _ (Bn2 x hx).1,BA1]
theorem An5 {M:Nat}{a:Int->Option (List Int)}:Ch8 M a (U 0#64)=some []:=rfl
def BT3 (M:Nat):∀(k i:Nat) (x:BitVec 64),64-i<=k->(∀j,j<i->x.getLsbD j=false)->∀N,k<N->N3 N (Ch8 M) (U x)=some (IY x i):=by
 intro k
 induction k with
 |zero=>
  intro i x hk hl N a;have d:x=0#64:=Cw9 (by grind);subst d
  match N,a with
  |N+1,_=>rw[Pu λj g=>by simp,U2,An5]
 |succ k ih=>
  intro i x hk hl N a
  match N,a with
  |N+1,a=>
   by_cases hx:x=0#64
   .grind[Pu,U2,An5]
   obtain⟨h1,b,c⟩:=Bn2 x hx;have f:i<=Lib.ctz 64 x.toNat:=by
    grind
   rw[Xn (Lib.ctz 64 x.toNat-i) i (by omega) h1 b c,U2,Bn3 hx];generalize Lib.ctz 64 x.toNat=t at h1 b c f;have hb:∀j,j<64->(x &&& ~~~(1#64 <<< t)).getLsbD j=(x.getLsbD j && !decide (j=t)):=(by grind);have hc:IY x (t+1)=IY (x &&& ~~~(1#64 <<< t)) (t+1):=AD1 (by grind);rw[ih (t+1) (x &&& ~~~(1#64 <<< t)) (by omega) (by grind) N (by omega),<- hc];rfl
theorem MX (x:BitVec 64){N:Nat}(a:100<=N):V8 N (U x)=some (IY x 0):=
 BT3 N 64 0 x (by omega) (by omega) N (by omega)
def mem_bitsF {x:BitVec 64}{i:Nat}{y:Int}:y∈IY x i ↔ ∃j:Nat,y=(j:Int)/\i<=j/\j<64/\x.getLsbD j=true:=by
 unfold IY
 grind
def TabA (n:Nat)(R:Nat->Nat->Prop)(f:Nat->Int):Prop:=TabR n R f/\∀a,n<a->f a=0
def TabA.congr {n:Nat}{R R' : Nat->Nat->Prop}{f:Nat->Int}(h:TabA n R f)(c:∀a b,a<=n->b<=n->(R a b↔R' a b)):TabA n R' f:=⟨h.1.congr c,h.2⟩
def zeroA (n:Nat):TabA n (λ_ _=>False) (λ_=>0):=⟨BC7 λ_ _=>rfl,λ_ _=>rfl⟩
def IZ (f:Nat->Int)(i:Nat)(v:Int)(a:Nat):ZN f i v a=ite (a=i) v (f a):=rfl
def BJ5 {N n:Nat}{R S:Nat->Nat->Prop}{x y:Nat->Int}(hn:n<=32)(f:1000<=N)(hR:TabA n R x)(hS:TabA n S y) :∃s,R6 N x y=some s/\TabA n (λa b=>R a b \/ S a b) s:=by
 unfold R6;refine S3 (λi x1 x2=>x2=(i:Int)/\∀a,x1 a=ite (a<i) (F3 .or .u64 (x a) (y a)) (x a)) 33 _ (by omega) (by grind) ?_;rintro c i x1 x2 g ⟨rfl,d⟩ hs;by_cases hl:i<33
 .refine Bu (Ai (Ai (hs (by omega) _ _ ⟨Fy,λa=>?_⟩)));rw[IZ,Vc,Cl5,Cm7]
  grind
 refine Fv ⟨x1,rfl,λa ha=>?_,λa ha=>?_⟩
 .obtain⟨u,e1,g1⟩:=hR.1 a ha;obtain⟨v,e2,g2⟩:=hS.1 a ha;refine⟨u ||| v,by rw[d a,Gi,e1,e2,Ch2],λb hb=>?_⟩;rw[Ck8,Cl1,g1 b hb,g2 b hb]
  grind
 rw[d a];split
 .rw[hR.2 a ha,hS.2 a ha];rfl
 exact hR.2 a ha
def KP {N n:Nat}(hn:n<=32)(f:1000<=N):∃s,U8 N (n:Int)=some s/\TabA n (λa b=>a=b) s:=by
 unfold U8;rw[Fy];refine S3 (λi x1 x2=>x2=(i:Int)/\∀a,x1 a=ite (a<i) (U (1#64 <<< a)) 0) (n+1) _ (by omega) (by grind) ?_;rintro c i x1 x2 g ⟨rfl,d⟩ hs;by_cases hl:i<=n
 .refine Bu (Ai (hs (by omega) _ _ ⟨Fy,λa=>?_⟩));rw[IZ,Vc,Cl5,Cm7];by_cases e:a=i
  .subst e;rw[Kb rfl,Gi,Aj3 _ (by omega)]
  grind
 refine Fv ⟨x1,rfl,λa ha=>⟨1#64 <<< a,by rw[d a,Gi],λb hb=>?_⟩,by grind⟩;rw[YS (by omega) hb,Lx];omega
def Rp {N n:Nat}{R S:Nat->Nat->Prop}{x y:Nat->Int}(hn:n<=32)(hN:1000<=N)(hR:TabA n R x)(hS:TabA n S y) :∃s,F8 N x y=some s/\TabA n (λa b=>∃c,c<=n/\R a c/\S c b) s:=by
 unfold F8;refine S3 (λi x3 x4=>x4=(i:Int)/\(∀a,a<i->a<=n->∃z:BitVec 64,x3 a=U z/\∀b,b<64->(z.getLsbD b=true↔b<=n/\∃c,c<=n/\R a c/\S c b))/\∀a,i<=a \/ n<a->x3 a=0) 33 _ (by omega)
  (by grind) ?_
 rintro o i x3 x4 hi ⟨rfl,q,h3⟩ hs;by_cases hl:i<33
 .refine Bu (Ai ?_);rw[Vc,Cl5,Cm7];refine B4 (x:=x i) rfl ?_;by_cases f:i<=n
  .obtain⟨u,e1,g1⟩:=hR.1 i f;refine B4 (x:=IY u 0) (by rw[e1];grind[MX]) ?_;refine AX3 (λL z=>(∀a,a≠i->z a=x3 a)/\(∀t∈L,∃c:Nat,t=(c:Int)/\c<=n/\R i c)/\∃v:BitVec 64,z i=U v/\∀b,b<64->((v.getLsbD b=true \/ ∃c:Nat,(c:Int)∈L/\b<=n/\S c b)↔(b<=n/\∃c,c<=n/\R i c/\S c b))) ?_ ?_ _ _ ?_
   .rintro z ⟨k1,k2,v,k3,k4⟩;refine hs (by omega) _ _ ⟨Fy,λa ha g=>?_,λa ha=>?_⟩
    .by_cases e:a=i
     .subst e;exact⟨v,k3,λb hb=>by rw[<- k4 b hb];simp⟩
     obtain⟨z',p1,p2⟩:=q a (by omega) g
     grind
    grind
   .rintro t L z l ⟨k1,k2,v,k3,k4⟩ m;obtain⟨c,rfl,hc,w⟩:=k2 t (by simp);refine Ai (m _ ⟨λa ha=>?_,λt ht=>k2 t (by grind),?_⟩)
    .rw[IZ,Hr];grind
    obtain⟨yc,e2,g2⟩:=hS.1 c hc;refine⟨v ||| yc,?_,λb hb=>?_⟩
    .rw[IZ,Gi];simp;rw[k3,e2,Ch2]
    rw[<- k4 b hb,Ck8,Cl1,g2 b hb];constructor
    .grind
    rintro (h|⟨c',h,h',d⟩)
    .grind
    rcases Cm6.1 h with h|h
    .have:c' = c:=by omega
     grind
    grind
   refine⟨λ_ _=>rfl,λt ht=>?_,0#64,by grind,λb hb=>?_⟩
   .obtain⟨j,rfl,_,r,hb⟩:=mem_bitsF.1 ht
    grind
   simp;constructor
   .rintro⟨c,hc,h,h'⟩;obtain⟨j,r,_,a0,a1⟩:=mem_bitsF.1 hc
    grind
   rintro⟨h,c,hc,h',d⟩;exact⟨c,mem_bitsF.2 (by grind),h,d⟩
  refine B4 (x:=[]) (by rw[hR.2 i (by omega)];exact (MX 0#64 (by omega)).trans (by rw[Pu λj r=>by simp])) ?_;exact hs (by omega) _ _ ⟨Fy,by grind,by grind⟩
 exact Fv ⟨x3,rfl,λa ha=>q a (by omega) ha,by grind⟩
def BD2 (N:Nat)(x:Nat->Int):M7 N x=F8 N x x:=rfl
def Cf0:∀m:Fin 33,(F3 .and .i64 ((m.val:Nat):Int) 1==1)=decide (m.val % 2=1)/\shI .shr .i64 ((m.val:Nat):Int) 1=((m.val / 2:Nat):Int):=by decide +kernel
def An6 {N n:Nat}{R:Nat->Nat->Prop}{x:Nat->Int}(hn:n<=32)(j:1000<=N)(v:Fwd n R)(hR:TabA n R x){k:Nat}(hk:k<=32) :∃s,G9 N x (k:Int) (n:Int)=some s/\TabA n (Mj n R k) s:=by
 unfold G9;obtain⟨y1,e1,h1⟩:=KP (N:=N) hn j;refine B4 e1 ?_;refine Al9 (λi x1 x2 x3=>x1=((k / 2 ^ i:Nat):Int)/\TabA n (Mj n R (2 ^ i)) x2/\TabA n (Mj n R (k % 2 ^ i)) x3) 6 _ (by omega) ⟨by simp,?_,?_⟩ ?_
 .exact hR.congr λa b ha hb=>⟨λh=>⟨a,ha,rfl,h⟩,fun⟨c,hc,(h:a=c),h'⟩=>h ▸ h'⟩
 .rw[Nat.pow_zero,Nat.mod_one];exact h1
 rintro o i x1 x2 x3 w ⟨rfl,l,q⟩ hs;have hm:k / 2 ^ i<=32:=Cm3 (Nat.div_le_self _ _) hk;obtain⟨b1,b2⟩:=Cf0 ⟨k / 2 ^ i,by omega⟩;simp only at b1 b2;have f:k / 2 ^ i / 2=k / 2 ^ (i+1):=by rw[Nat.div_div_eq_div_mul,Nat.pow_succ]
 have g:k % 2 ^ (i+1)=k % 2 ^ i+2 ^ i*(k / 2 ^ i % 2):=Nat.mod_pow_succ;have d:∃s,M7 N x2=some s/\TabA n (Mj n R (2 ^ (i+1))) s:=by
  obtain⟨s,e,h⟩:=Rp hn j l l;refine⟨s,(BD2 N x2).trans e,h.congr λa b ha hb=>?_⟩;rw[show 2 ^ (i+1)=2 ^ i+2 ^ i by rw[Nat.pow_succ];omega]
  simp_all[Hc]
 obtain⟨sq,esq,d⟩:=d;by_cases r:k / 2 ^ i=0
 .refine Fv ⟨x3,rfl,?_⟩
  have:k % 2 ^ i=k:=Co9 (by
   have:=Cz3.1 r
   omega)
  rw[this]at q;omega
 have m:i<6:=by
  grind
 refine Bu ?_;by_cases u:k / 2 ^ i % 2=1
 .refine ifT (by rw[b1];grind) ?_;obtain⟨t,et,ht⟩:=Rp hn j q l;refine B4 et (B4 esq (hs m _ _ _ ⟨by rw[b2,f],d,ht.congr λa b ha hb=>?_⟩));rw[g,u,Cm7]
  grind[Hc]
 simp_all
def BT4 {s c:Tr}(hs:okS s)(hc:okS c):((F3 .or .u32 (F3 .andNot .u32 c.Plus s.Plus) (F3 .andNot .u32 c.Minus s.Minus))==0)=Ba6 s c:=by
 obtain⟨p,m,rfl⟩:=hs;obtain⟨a,b,rfl⟩:=hc;have e:∀x y:BitVec 32,((F3 .and .u32 (x.toNat:Int) (y.toNat:Int))==(y.toNat:Int))=decide (y &&& ~~~ x=0#32):=by
  intro x y;rw[Ed,Cj9];simp only[beq_iff_eq,Lx];constructor
  .intro h;have h:x &&& y=y:=Cl2 (by omega)
   grind
  intro h
  have:x &&& y=y:=OE λi d=>by
   have:=(z32 _).1 h i d
   grind
  rw[this]
 unfold Ba6;simp only[e,Dh,Jf,eq0];rw[Cj9]
 grind
def Bn4 (o:1000<=N){w:Sl Tr}(hw:w.n<=32)(d:∀i,i<w.n->okS (w.g i)){c:Tr}(hc:okS c)(no:Bool) :∃f,AX N ⟨c,no⟩ w=some f/\TabA w.n (λa b=>a<w.n/\b=a+1/\(Ba6 (w.g a) c != no)=true) f:=by
 unfold AX;refine S3 (λi x1 x2=>x2=(i:Int)/\∀a,x1 a=ite (a<i/\(Ba6 (w.g a) c != no)) (U (1#64 <<< (a+1))) 0) w.n _ (by omega) (by grind) ?_;rintro j i x1 x2 q ⟨rfl,l⟩ hs;by_cases hl:i<w.n
 .refine Bu (Ai ?_);rw[Vc,BT4 (d i hl) hc];by_cases hb:(Ba6 (w.g i) c != no)=true
  .refine Bu ?_;rw[Fy];refine Ai (hs hl _ _ ⟨rfl,λa=>?_⟩);rw[IZ,Cl5,Cm7,Aj3 _ (by omega)]
   grind
  refine Fv (hs hl _ _ ⟨Fy,λa=>?_⟩);rw[l a]
  grind
 refine Fv ⟨x1,rfl,λa ha=>?_,by grind⟩;by_cases hb:a<w.n/\(Ba6 (w.g a) c != no)=true
 .grind
 refine⟨0#64,by rw[l a,Jq];rfl,λb m=>?_⟩
 grind
def Bn5 {n a0 b0:Nat}(ha:a0<=n)(hb:b0<=n)(hn:n<=32):TabA n (λa b=>a=a0/\b=b0) (ZN (λ_=>0) a0 (U (1#64 <<< b0))):=by
 refine⟨λa d=>?_,by grind⟩;by_cases e:a=a0
 .refine⟨1#64 <<< b0,by rw[IZ,Kb e],λb c=>?_⟩;rw[YS (by omega) c,Lx];omega
 refine⟨0#64,by rw[IZ,Kd e];rfl,λb c=>?_⟩
 grind
def AL1 {w:Sl Tr}(hw:w.n<=32)(e:Bool):∃f,Cn N ⟨e⟩ w=some f/\TabA w.n (λa b=>a=(ite e w.n 0)/\b=(ite e w.n 0)) f:=by
 unfold Cn;cases e
 .refine Eh (Bt ⟨_,rfl,?_⟩);exact Bn5 (n:=w.n) (a0:=0) (b0:=0) (by omega) (by omega) hw
 refine ifT rfl (Ai ⟨_,rfl,?_⟩);rw[Vc,Cl5,Cm7,Aj3 _ (by omega)]
 simp_all[Bn5,Ci9]
def BT5 (a:1000<=N){w:Sl Tr}(hw:w.n<=32){rec:Part->Sl Tr->Option (Nat->Int)}{m:Nat}(hm:m<=40){g:Nat->Part}{Q:Nat->Nat->Nat->Prop}
 (hc:∀i,i<m->∃f,rec (g i) w=some f/\TabA w.n (Q i) f):∃f,DI rec N ⟨⟨m,g⟩⟩ w=some f/\TabA w.n (BI2 w.n Q m) f:=by
 unfold DI;obtain⟨y1,e1,h1⟩:=KP (N:=N) hw a;refine B4 e1 ?_;refine S3 (λi x1 x2=>x2=(i:Int)/\i<=m/\TabA w.n (BI2 w.n Q i) x1) m _ (by omega) ⟨rfl,by omega,h1⟩ ?_;rintro b i x1 x2 o ⟨rfl,c,d⟩ hs;by_cases hl:i<m
 .refine Bu (Bu ?_);obtain⟨f,e2,j⟩:=hc i hl;refine B4 (by rw[Vc];exact e2) ?_;obtain⟨s,e3,l⟩:=Rp hw a d j;exact B4 e3 (hs hl _ _ ⟨Fy,hl,l⟩)
 grind
def BT6 (d:1000<=N){w:Sl Tr}(hw:w.n<=32){rec:Part->Sl Tr->Option (Nat->Int)}{m:Nat}(hm:m<=40){g:Nat->Part}{Q:Nat->Nat->Nat->Prop}
 (hc:∀i,i<m->∃f,rec (g i) w=some f/\TabA w.n (Q i) f):∃f,DJ rec N ⟨⟨m,g⟩⟩ w=some f/\TabA w.n (λa b=>∃i,i<m/\Q i a b) f:=by
 unfold DJ;refine S3 (λi x1 x2=>x2=(i:Int)/\i<=m/\TabA w.n (λa b=>∃j,j<i/\Q j a b) x1) m _ (by omega) ⟨rfl,by omega,(zeroA _).congr (by grind)⟩ ?_;rintro c i x1 x2 t ⟨rfl,l,o⟩ hs;by_cases hl:i<m
 .refine Bu (Bu ?_);obtain⟨f,e2,q⟩:=hc i hl;refine B4 (by rw[Vc];exact e2) ?_;obtain⟨s,e3,r⟩:=BJ5 hw d o q;refine B4 e3 (hs hl _ _ ⟨Fy,hl,r.congr (by grind)⟩)
  all_goals grind
 obtain rfl:i=m:=by omega
 grind
def BT7 (i:1000<=N){w:Sl Tr}(hw:w.n<=32){rec:Part->Sl Tr->Option (Nat->Int)}{pt:Part}{Q:Nat->Nat->Prop}(d:Fwd w.n Q){f:Nat->Int}(u:rec pt w=some f)(r:TabA w.n Q f)
 {mn mx:Int}(y:0<=mn) (h1:mn<=32) (z:mx = -1 \/ (mn<=mx/\mx<=32)) :
 ∃s,DK rec N ⟨pt,mn,mx⟩ w=some s/\TabA w.n (λa b=>∃k:Nat,mn<=k/\(mx = -1 \/ (k:Int)<=mx)/\Mj w.n Q k a b) s:=by
 obtain⟨m,rfl⟩:∃m:Nat,mn=(m:Int):=⟨mn.toNat,by omega⟩;unfold DK;refine B4 u ?_;obtain⟨y2,e2,t2⟩:=An6 hw i d r (k:=m) (by omega);refine B4 e2 ?_;obtain⟨y3,e3,t3⟩:=KP (N:=N) hw i;refine B4 e3 ?_;obtain⟨y4,e4,t4⟩:=BJ5 hw i r t3;refine B4 e4 ?_;have l : Fwd w.n (λa b=>Q a b \/ a=b):=λa b ha h=>by
  rcases h with h|h
  .exact d a b ha h
  omega
 have key:∀(K:Nat),K<=32->∃s,((G9 N y4 (K:Int) (w.n:Int)).bind λy5=>(F8 N y2 y5).bind λy6=>some y6)=some s/\TabA w.n (λa b=>∃j,j<=K/\Mj w.n Q (m+j) a b) s:=by
  intro K v;obtain⟨y5,e5,t5⟩:=An6 hw i l t4 (k:=K) v;refine B4 e5 ?_;obtain⟨y6,e6,t6⟩:=Rp hw i t2 t5;refine B4 e6 ⟨y6,rfl,t6.congr λa b ha hb=>?_⟩;constructor
  .rintro⟨c,hc,g1,g2⟩;obtain⟨j,o,g3⟩:=(Ts d hc K b).1 g2;exact⟨j,o,(Hc d m ha j b).2 ⟨c,hc,g1,g3⟩⟩
  grind[Hc,Ts]
 by_cases hx:mx<0
 .refine ifT (decide_eq_true hx) ?_;obtain⟨s,e,t⟩:=key w.n hw;refine⟨s,e,t.congr λa b ha hb=>?_⟩;constructor
  .grind
  rintro⟨k,hk,_,g⟩;obtain⟨c,hc,g1,g3⟩:=(Hc d m ha (k-m) b).1 (by rw[show m+(k-m)=k by omega];exact g);obtain⟨j,o,g4⟩:=Aj5 d hc (k-m) g3;exact⟨j,o,(Hc d m ha j b).2 ⟨c,hc,g1,g4⟩⟩
 refine Fv ?_;obtain⟨M,rfl⟩:∃M:Nat,mx=(M:Int):=⟨mx.toNat,by omega⟩;have q:IntKind.i64.wrap ((M:Int)-(m:Int))=((M-m:Nat):Int):=by rw[Y0];omega
 rw[show IntKind.i64.wrap ((⟨pt,(m:Int),(M:Int)⟩:Cc2).max-(⟨pt,(m:Int),(M:Int)⟩:Cc2).min)=((M-m:Nat):Int) from q];obtain⟨s,e,t⟩:=key (M-m) (by omega);refine⟨s,e,t.congr λa b ha hb=>?_⟩;constructor
 .grind
 rintro⟨k,hk,x,g⟩;exact⟨k-m,by omega,by rw[show m+(k-m)=k by omega];exact g⟩
def okQ:Nat->Pat->Prop
 |0,_=>False
 |d+1,p=>TR p/\p.L.n<=40/\∀i,i<p.L.n->okQ d (p.L.g i)
theorem AL2:∀(d:Nat) (p:Pat),okQ d p->okQ (d+1) p
 |0,_,h=>h.elim
 |d+1,p,⟨h1,h2,h3⟩=>⟨h1,h2,λi a=>AL2 d _ (h3 i a)⟩
def Bn6:∀(k:Nat) (l:List Pat),k<=40->chk k l->∀p∈l,okQ k p
 |0,l,_,h,p,hp=>by rw[show l=[] from h]at hp;grind
 |k+1,[],_,_,p,hp=>by grind
 |k+1,q::l,hk,⟨hn,h⟩,p,hp=>by
  have ih:=Bn6 k _ (by omega) h;rcases Cm6.1 hp with rfl|hp
  .have hl:=TT k _ h;rw[Ck6,Z0]at hl;exact⟨hn,by omega,λi a=>ih _ (Cm1 _ (Po a))⟩
  grind[AL2,List.mem_append_right]
def vS.ok {s:Tr}(h:vS s):okS s:=by obtain⟨p,m,e,_⟩:=h;exact⟨p,m,e⟩
def BT8 (K:Nat)(p:Pat)(pt:Part):Prop:=∀(w:Sl Tr),w.n<=32->(∀i,i<w.n->okS (w.g i))->∀M,K<=M->∃f,Cp M pt w=some f/\TabA w.n (PR w p) f
def Ud {N:Nat}(v:1000<=N):∀(d:Nat),d<=40->∀(p:Pat),okQ d p->∀M,N+d<=M->∃pt,Co M p=some pt/\BT8 (N+d) p pt
 |0,_,p,h,_,_=>h.elim
 |d+1,hd,p,⟨hn,hc,hch⟩,0,hM=>by omega
 |d+1,hd,p,⟨hn,hc,hch⟩,M+1,hM=>by
  show ∃pt,Am (Co M) M p=some pt/\_;unfold Am;refine S3 (λi x1 x2=>x2=(i:Int)/\i<=p.L.n/\x1.n=i/\∀j,j<i->BT8 (N+d) (p.L.g j) (x1.g j)) p.L.n _ (by omega) (by grind) ?_;rintro q i x1 x2 t ⟨rfl,h1,u,o⟩ hs;by_cases hl:i<p.L.n
  .refine Bu (Ai ?_);obtain⟨pt,e,y⟩:=Ud v d (by omega) (p.L.g i) (hch i hl) M (by omega);refine B4 (by rw[Vc];exact e) ?_;refine Bu (hs hl _ _ ⟨Fy,hl,by grind,λj z=>?_⟩)
   grind
  obtain rfl:i=p.L.n:=by omega
  have fin:∀(pt:Part),(∀(w:Sl Tr),w.n<=32->(∀i,i<w.n->okS (w.g i))->∀M,N+d<=M->∃f,Cp (M+1) pt w=some f/\TabA w.n (PR w p) f)->∃r,some pt=some r/\BT8 (N+(d+1)) p r:=by
   intro pt h;refine⟨pt,rfl,λw hw c M' l=>?_⟩;obtain⟨M'',rfl⟩:∃M'',M' = M'' + 1:=⟨M' - 1,by omega⟩
   grind
  refine Eh ?_;obtain⟨⟨k0,k6⟩,n1,n2,n3,n4,n5⟩:=hn;by_cases k1:p.Kind=1
  .refine Bu (fin _ λw hw c M' l=>?_);obtain⟨f,e,h⟩:=Bn4 (N:=M') (by omega) hw c n5.ok p.Not;refine⟨f,e,h.congr λa b _ _=>?_⟩;rw[Vz];grind
  refine Fv ?_;by_cases k2:p.Kind=2
  .refine Bu (fin _ λw hw c M' l=>?_);obtain⟨f,e,h⟩:=AL1 (N:=M') hw false;refine⟨f,e,h.congr λa b _ _=>?_⟩;rw[Vz];grind
  refine Fv ?_;by_cases k6:p.Kind=6
  .refine Bu (fin _ λw hw c M' l=>?_);obtain⟨f,e,h⟩:=AL1 (N:=M') hw true;refine⟨f,e,h.congr λa b _ _=>?_⟩;rw[Vz];grind
  refine Fv ?_;by_cases k4:p.Kind=4
  .refine Bu (fin _ λw hw c M' l=>?_);obtain⟨f,e,h⟩:=BT6 (N:=M') (by omega) hw (rec:=Cp M') (m:=x1.n) (g:=x1.g) (Q:=λi=>PR w (p.L.g i)) (by omega) λi t=>o i (by omega) w hw c M' (by omega);refine⟨f,e,h.congr λa b _ _=>?_⟩;rw[Vz,u];grind
  refine Fv ?_;by_cases k5:p.Kind=5
  .obtain⟨g1,g2,g3,g4⟩:=n4 k5;refine Bu (Ai (fin _ λw hw c M' l=>?_));obtain⟨f,e,h⟩:=o 0 (by omega) w hw c M' (by omega);obtain⟨s,e2,x⟩:=BT7 (N:=M') (by omega) hw (rec:=Cp M') (Aj6 w (p.L.g 0)) e h g2 g3 g4;refine⟨s,e2,x.congr λa b _ _=>?_⟩;rw[Vz];grind
  refine Fv (fin _ λw hw c M' l=>?_);obtain⟨f,e,h⟩:=BT5 (N:=M') (by omega) hw (rec:=Cp M') (m:=x1.n) (g:=x1.g) (Q:=λi=>PR w (p.L.g i)) (by omega) λi t=>o i (by omega) w hw c M' (by omega);refine⟨f,e,h.congr λa b _ _=>?_⟩;rw[Vz,u];by_cases k3:p.Kind=3
  .grind
  have k0' : p.Kind=0:=by omega
  rw[n2 k3 k4 k5];simp[k0',BI2]
def Xo (u:3000<=N){p:Pat}(hp:okPS p){w:Sl Tr}(hs:w.n<1000000/\w.n+1000<N)(hw:∀i,i<w.n->okS (w.g i)) :∃r,BA N p w=some r/\(r.2=0↔chk 40 [p]/\wOk w)/\(r.2=0->TabA w.n (PR w p) r.1):=by
 unfold BA;obtain⟨e,l,hc⟩:=Zn (N:=N) (by omega) hp;refine B4 l ?_;by_cases m:e=0
 case neg=>simp_all
 refine Fv ?_;by_cases hn:32<w.n
 .exact Bu ⟨_,rfl,⟨by omega,λh=>by have:=h.2.1;omega⟩,by omega⟩
 refine Fv ?_;have o:∀i,∃b:Bool,i<w.n->Y5 N (w.g i)=some b/\(b=true ↔ ¬vS (w.g i)):=by
  intro i;by_cases a:i<w.n
  .obtain⟨x,y,l⟩:=hw i a;refine⟨!vB x y,λ_=>⟨?_,?_⟩⟩
   all_goals grind[Y5,Am1,AB5,vB]
  exact⟨false,λh=>Kf h a⟩
 obtain⟨b,hb⟩:=Cs7 o;obtain⟨r,q,d⟩:=QA (N:=N) (by omega) hs.1 (f:=λu1=>Y5 N u1) λi a=>(hb i a).1;refine B4 q ?_;by_cases c:r=true
 .refine ifT c ⟨_,rfl,⟨by omega,λh=>?_⟩,by omega⟩;obtain⟨i,a,j⟩:=d.1 c;exact Kf (h.2.2 i a) ((hb i a).2.1 j)
 refine ifF c ?_;have s:wOk w:=⟨by omega,by grind⟩;obtain⟨pt,ep,t⟩:=Ud (N:=1000) (by omega) 40 (Ci9 _) p (Bn6 40 [p] (Ci9 _) (hc.1 m) p (by simp)) N (by omega);refine B4 ep ?_;obtain⟨f,ef,v⟩:=t w (by omega) hw N (by omega)
 simp_all
def AY6 (l:3000<=N){p:Pat}(hp:okPS p){w:Sl Tr}(hs:w.n<1000000/\w.n+1000<N)(hw:∀i,i<w.n->okS (w.g i))(at_:Int) :∃r,DL N p w at_=some r/\(0<r.1.n↔chk 40 [p]/\wOk w/\0<=at_/\at_<=w.n/\∃a,a<=w.n/\PR w p a at_.toNat):=by
 unfold DL;obtain⟨y,e,h1,m⟩:=Xo l hp hs hw;refine B4 e (ltX ?_);by_cases f:y.2=0
 case neg=>
  simp_all
 refine Bu ?_;obtain⟨hc,d⟩:=h1.1 f;have o:=m f;have hn:=d.1;unfold Bx;by_cases q:at_<0 \/ (w.n:Int)<at_
 .rw[Gn];refine B4 rfl (by grind)
 rw[Jq];refine B4 rfl (Eh ?_);obtain⟨k,rfl⟩:∃k:Nat,at_=(k:Int):=⟨at_.toNat,by omega⟩;rw[Fy,Vc];refine S3 (λi x2 x3=>x3=(i:Int)/\x2.n<=i/\(0<x2.n ↔ ∃a,a<i/\PR w p a k)) (w.n+1) _ (by omega) (by grind) ?_;rintro j i x2 x3 s ⟨rfl,g1,g2⟩ c;by_cases hl:i<=w.n
 .refine Bu (Ai ?_);rw[Vc,Cl5,Cm7];have hb:=o.1.bit hl (b:=k) (by omega);by_cases t:PR w p i k
  .refine Bu (Bu (c (by omega) _ _ ⟨Fy,by grind,by grind,by grind⟩))
  refine Fv (c (by omega) _ _ ⟨Fy,by omega,λh=>?_,by grind⟩)
  all_goals grind
 refine Fv (by grind)
 all_goals grind
def AD2 (L:List Int)(hL:L.length<1000):∃s,Q4 N L=some s/\s.n=L.length:=by
 unfold Q4 K0
 have:∃s:Sl Int,T2 L (λ(a:Sl Int->Option (Sl Int)) (x1:Int) (z1:Sl Int)=>
  if (Va 8 (z1.n+(Sl.of [x1]:Sl Int).n))then
   a (z1.push x1)
  else none
  ) (λ(z1:Sl Int)=>some z1) Tj=some s/\s.n=L.length:=by
  refine AX3 (λl z=>z.n+l.length=L.length) (by grind) (λt l z b h hs=>?_) L _ (by simp);simp at h;exact Bu (hs _ (by grind))
 grind
def BD3 (j:3000<=N){p:Pat}(hp:okPS p){w:Sl Tr}(hs:w.n<1000000/\w.n+1000<N)(hw:∀i,i<w.n->okS (w.g i))(at_:Int) :∃r,Gt N p w at_=some r/\(0<r.1.n↔chk 40 [p]/\wOk w/\0<=at_/\at_<=w.n/\∃b,b<=w.n/\PR w p at_.toNat b):=by
 unfold Gt;obtain⟨y,e,h1,l⟩:=Xo j hp hs hw;refine B4 e (ltX ?_);by_cases d:y.2=0
 case neg=>
  simp_all
 refine Bu ?_;obtain⟨hc,a⟩:=h1.1 d;have m:=l d;have hn:=a.1;unfold Bx;by_cases o:at_<0 \/ (w.n:Int)<at_
 .rw[Gn];refine B4 rfl (by grind)
 rw[Jq];refine B4 rfl (Eh ?_);obtain⟨k,rfl⟩:∃k:Nat,at_=(k:Int):=⟨at_.toNat,by omega⟩;refine Ai ?_;rw[Vc,Cl5,Cm7];obtain⟨u,e1,g1⟩:=m.1 k (by omega);refine B4 (x:=y.1 k) rfl (B4 (x:=IY u 0) (by rw[e1];grind[MX]) ?_);obtain⟨s,es,c⟩:=AD2 (N:=N) (IY u 0) (by
  grind[IY,List.length_map,Nat.lt_of_le_of_lt,List.length_filter_le])
 refine B4 es ⟨_,rfl,?_⟩;show 0<s.n↔_;rw[c,List.length_pos_iff_exists_mem];constructor
 .rintro⟨t,ht⟩;obtain⟨b,rfl,_,hb,f⟩:=mem_bitsF.1 ht
  grind
 rintro⟨_,_,_,_,b,hb,h⟩;exact⟨(b:Int),mem_bitsF.2 (by grind)⟩
def AL3 (c:2000<=N){p:Pat}(hp:okPS p){w:Sl Tr}(hw:∀i,i<w.n->okS (w.g i)):∃e,FT N p w=some e/\(e=0↔chk 40 [p]/\wOk w):=by
 unfold FT;obtain⟨e,d,hc⟩:=TU c hp;refine B4 d ?_;by_cases f:e=0
 .obtain⟨e2,a,b⟩:=Ih (N:=N) (by omega) hw;exact Bu (B4 a ⟨e2,rfl,(GP b).trans (by grind)⟩)
 grind
def AD3 (q:3000<=N){p:Pat}(hp:okPS p){w:Sl Tr}(hw:∀i,i<w.n->okS (w.g i))(at_:Int) :∃r,Fe N p w at_=some r/\(0<r.1.n↔chk 40 [p]/\wOk w/\0<=at_/\at_<=w.n/\∃a,a<=w.n/\PR w p a at_.toNat):=by
 unfold Fe;obtain⟨e,j,h1⟩:=AL3 (N:=N) (by omega) hp hw;refine B4 j ?_;by_cases l:e=0
 case neg=>simp_all
 refine Fv ?_;obtain⟨hc,d⟩:=h1.1 l;have hn:=d.1;by_cases m:at_<0 \/ (w.n:Int)<at_
 .exact Bu (by grind)
 refine Fv ?_;obtain⟨k,rfl⟩:∃k:Nat,at_=(k:Int):=⟨at_.toNat,by omega⟩;obtain⟨t,et,tn,o⟩:=Uc (N:=1000) (by omega) hn 40 p (Am2 40 [p] (Ci9 _) hc p (by simp)) N (by omega);refine B4 et ?_;rw[Vc];refine S3 (λi x2 x3=>x3=(i:Int)/\x2.n<=i/\(0<x2.n ↔ ∃a,a<i/\PR w p a k)) (w.n+1) _ (by omega) (by grind) ?_;rintro f i x2 x3 s ⟨rfl,g1,g2⟩ c;by_cases hl:i<=w.n
 .refine Bu (Ai ?_);rw[Vc];have hb:=o.bit hl (b:=k) (by omega);by_cases u:PR w p i k
  .refine Bu (Bu (c (by omega) _ _ ⟨Fy,by grind,by grind,by grind⟩))
  refine Fv (c (by omega) _ _ ⟨Fy,by omega,λh=>?_,by grind⟩)
  all_goals grind
 refine Fv (by grind)
 all_goals grind
def Bn7 (q:3000<=N){p:Pat}(hp:okPS p){w:Sl Tr}(hw:∀i,i<w.n->okS (w.g i))(at_:Int) :∃r,HY N p w at_=some r/\(0<r.1.n↔chk 40 [p]/\wOk w/\0<=at_/\at_<=w.n/\∃b,b<=w.n/\PR w p at_.toNat b):=by
 unfold HY;obtain⟨e,j,h1⟩:=AL3 (N:=N) (by omega) hp hw;refine B4 j ?_;by_cases l:e=0
 case neg=>simp_all
 refine Fv ?_;obtain⟨hc,d⟩:=h1.1 l;have hn:=d.1;by_cases m:at_<0 \/ (w.n:Int)<at_
 .exact Bu (by grind)
 refine Fv ?_;obtain⟨k,rfl⟩:∃k:Nat,at_=(k:Int):=⟨at_.toNat,by omega⟩;obtain⟨t,et,tn,o⟩:=Uc (N:=1000) (by omega) hn 40 p (Am2 40 [p] (Ci9 _) hc p (by simp)) N (by omega);refine B4 et ?_;rw[Vc];refine S3 (λi x2 x3=>x3=(i:Int)/\x2.n<=i/\(0<x2.n ↔ ∃b,b<i/\PR w p k b)) (w.n+1) _ (by omega) (by grind) ?_;rintro f i x2 x3 s ⟨rfl,g1,g2⟩ c;by_cases hl:i<=w.n
 .refine Bu (Ai ?_);have hb:=o.bit (a:=k) (by omega) (b:=i) (by omega);by_cases u:PR w p k i
  .refine Bu (Bu (c (by omega) _ _ ⟨Fy,by grind,by grind,by grind⟩))
  refine Fv (c (by omega) _ _ ⟨Fy,by omega,λh=>?_,by grind⟩)
  all_goals grind
 refine Fv (by grind)
 all_goals grind
def BX0 (s c:Tr):Prop:=∃p m a b:BitVec 32,s=sOf p m/\c=sOf a b/\Ba8 p m a b=true
def Bn8 {p m a b:BitVec 32}(h:sOf p m=sOf a b):p=a/\m=b:=by
 have e1:(p.toNat:Int)=a.toNat:=congrArg Tr.Plus h;have e2:(m.toNat:Int)=b.toNat:=by grind
 grind[BitVec.eq_of_toNat_eq]
def satS_of {p m a b:BitVec 32}:BX0 (sOf p m) (sOf a b)↔Ba8 p m a b=true:=by
 constructor
 .rintro⟨p',m',a',b',h1,c,d⟩;obtain⟨rfl,rfl⟩:=Bn8 h1;obtain⟨rfl,rfl⟩:=Bn8 c;omega
 exact λh=>⟨_,_,_,_,rfl,rfl,h⟩
def BD4 {s c:Tr}(hs:okS s)(hc:okS c):∃b,P1 N s c=some b/\(b=true↔BX0 s c):=by obtain⟨p,m,rfl⟩:=hs;obtain⟨a,b,rfl⟩:=hc;exact⟨_,BT1 p m a b,satS_of.symm⟩
def BD5 (d:1000<=N){s c:Tr}(hs:okS s)(hc:okS c):∃b,V6 N s c=some b/\(b=true↔BX0 s c):=by obtain⟨p,m,rfl⟩:=hs;obtain⟨a,b,rfl⟩:=hc;exact⟨_,BT2 p m a b d,satS_of.symm⟩
def arP (l:Law)(w:Sl Tr)(i:Nat):Prop:=chk 40 [l.Left]/\chk 40 [l.Right]/\wOk w/\i+l.If.n<=w.n/\(∃a,a<=w.n/\PR w l.Left a i)/\∃b,b<=w.n/\PR w l.Right (i+l.If.n) b
def AL4 (l:Law)(w:Sl Tr)(i:Nat):Prop:=i+l.If.n<=w.n/\(∀j,j<l.If.n->BX0 (w.g (i+j)) (l.If.g j))/\arP l w i
def okW (w:Sl Tr):Prop:=w.n<1000/\∀i,i<w.n->okS (w.g i)
def AY7 (c:3000<=N){l:Law}(hl:okL l)(hk:l.If.n<=4){w:Sl Tr}(hw:okW w)(i:Nat)(d:i<2000) :∃b,Az N (i:Int) l w=some b/\(b=true↔arP l w i):=by
 unfold Az;obtain⟨y1,e1,h1⟩:=AY6 (N:=N) c hl.1 (w:=w) ⟨by have:=hw.1;omega,by have:=hw.1;omega⟩ hw.2 (i:Int);refine B4 e1 ?_;rw[Vc]at h1;by_cases f:y1.1.n=0
 .refine Bu ⟨false,rfl,by simp,λh=>?_⟩
  have:=h1.2 ⟨h.1,h.2.2.1,by omega,by have:=h.2.2.2.1;omega,h.2.2.2.2.1⟩
  omega
 refine Fv ?_;rw[GX (by omega)];obtain⟨y2,e2,a⟩:=BD3 (N:=N) c hl.2.1 (w:=w) ⟨by have:=hw.1;omega,by have:=hw.1;omega⟩ hw.2 ((i+l.If.n:Nat):Int);rw[Vc]at a;refine B4 e2 ⟨_,rfl,?_⟩;have h1:=h1.1 (by omega);rw[Lx];constructor
 .intro h;have a:=a.1 (by omega);exact⟨h1.1,a.1,h1.2.1,by omega,h1.2.2.2.2,a.2.2.2.2⟩
 intro h
 have:=a.2 ⟨h.2.1,h.2.2.1,by omega,by have:=h.2.2.2.1;omega,h.2.2.2.2.2⟩
 omega
def Zx (d:3000<=N){l:Law}(hl:okL l)(hk:l.If.n<=4){w:Sl Tr}(hw:okW w)(i:Nat)(o:i<2000) :∃b,GJ N l w (i:Int)=some b/\(b=true↔AL4 l w i):=by
 unfold GJ;rw[GX (by omega)];by_cases hn:w.n<i+l.If.n
 .exact Bu ⟨false,rfl,by simp,λh=>by have:=h.1;omega⟩
 refine Fv ?_;refine X6 (λj x1=>x1=(j:Int)/\∀k,k<j->BX0 (w.g (i+k)) (l.If.g k)) l.If.n _ (by omega) (by grind) ?_;rintro f j x1 q ⟨rfl,h⟩ hs;by_cases c:j<l.If.n
 .rw[GX (by omega)];refine Bu (Ai ?_);obtain⟨b,eb,hb⟩:=BD5 (N:=N) (by omega) (hw.2 (i+j) (by omega)) (hl.2.2 j c);refine B4 (by rw[Vc,Vc];exact eb) ?_;cases b
  .refine ifT rfl ⟨false,rfl,by simp,λa=>?_⟩
   have:=hb.2 (a.2.1 j c);omega
  refine Eh (hs c _ ⟨Fy,λk m=>?_⟩)
  grind
 refine Fv ?_;obtain⟨y1,e1,h1⟩:=AD3 (N:=N) d hl.1 (w:=w) hw.2 (i:Int);obtain⟨y2,e2,a⟩:=Bn7 (N:=N) d hl.2.1 (w:=w) hw.2 ((i+l.If.n:Nat):Int);rw[Vc]at h1 a;refine B4 e1 (B4 e2 ⟨_,rfl,?_⟩);simp only[Ci6,Lx];constructor
 .rintro⟨g1,g2⟩;have h1:=h1.1 (by omega);have a:=a.1 (by omega);exact⟨by omega,by grind,h1.1,a.1,h1.2.1,by omega,h1.2.2.2.2,a.2.2.2.2⟩
 intro g;have a1:=h1.2 ⟨g.2.2.1,g.2.2.2.2.1,by omega,by omega,g.2.2.2.2.2.2.1⟩;have a2:=a.2 ⟨g.2.2.2.1,g.2.2.2.2.1,by omega,by omega,g.2.2.2.2.2.2.2⟩;omega
open Classical in
noncomputable def hitB (l:Law) (w:Sl Tr) (i:Nat):Bool:=decide (AL4 l w i)
def hitB_iff {l:Law}{w:Sl Tr}{i:Nat}:hitB l w i=true↔AL4 l w i:=by simp[hitB]
noncomputable def Hx (l:Law) (w:Sl Tr) (i:Nat):List Int:=((List.range' i (w.n+1-i)).filter (hitB l w)).map λ(j:Nat)=>(j:Int)
def Pv {l:Law}{w:Sl Tr}{i:Nat}(h:w.n<i+l.If.n):Hx l w i=[]:=by
 unfold Hx;rw[Cy3.2 λj a hb=>by
  have:=List.mem_range'_1.1 a
  have:=(hitB_iff.1 hb).1
  omega]
 rfl
def OF {l:Law}{w:Sl Tr}{i:Nat}(a:i<=w.n)(h:AL4 l w i):Hx l w i=(i:Int)::Hx l w (i+1):=by unfold Hx;rw[show w.n+1-i=(w.n+1-(i+1))+1 by omega,Cs9,Cx1 (hitB_iff.2 h)];rfl
theorem OG {l:Law}{w:Sl Tr}{i:Nat}(h:¬AL4 l w i):Hx l w i=Hx l w (i+1):=by
 unfold Hx;by_cases a:i<=w.n
 .rw[show w.n+1-i=(w.n+1-(i+1))+1 by omega,Cs9,Cx2 λhb=>h (hitB_iff.1 hb)]
 grind
def BD6 {l:Law}{w:Sl Tr}{i:Nat}{y:Int}(h:y∈Hx l w i):(i:Int)<=y:=by
 obtain⟨j,a,rfl⟩:=Cp4.1 h
 have:=List.mem_range'_1.1 (Cu7.1 a).1
 omega
def AL5 (z:3000<=N){l:Law}(hl:okL l)(hk:l.If.n<=4){w:Sl Tr}(hw:okW w)(i:Nat)(v:i<1500):AZ N l w (i:Int)=some (Hx l w i):=by
 unfold AZ;show (some (l,w)).bind _=_;rw[Ci2];simp only[]
 suffices h:∀(k i:Nat),i<1501->w.n+1-i<=k->∀F,k<F->∃r,N3 F (λ(a:Int->Option (List Int)) (x2:Int)=>
  if (decide ((wrap .i64 (x2+(l.If.n:Int)))<=(w.n:Int))) then
   N3 N (λ(d:Int->Option (List Int)) (x4:Int)=>
    if (decide (x4<(l.If.n:Int))) then
     if ((0:Int)<=x4/\x4<(l.If.n:Int))then
      if ((0:Int)<=(wrap .i64 (x2+x4))/\(wrap .i64 (x2+x4))<(w.n:Int))then
       (P1 N (w.g (wrap .i64 (x2+x4)).toNat) (l.If.g x4.toNat)).bind λs=>
       if (!s) then
        a (wrap .i64 (x2+1))
       else
        d (wrap .i64 (x4+1))
      else none
     else none
    else
     (Az N x2 l w).bind λt=>
     if t then
      BN x2 (
       a (wrap .i64 (x2+1))
       )
     else
      a (wrap .i64 (x2+1))
    ) 0
  else
   some []
  ) (i:Int)=some r/\r=Hx l w i by
  obtain⟨r,h1,rfl⟩:=h (w.n+1-i) i (by omega) (Ci9 _) N (by have:=hw.1;omega);omega
 intro k
 induction k with
 |zero=>
  intro i v m F q
  match F,q with
  |F+1,_=>rw[U2,GX (by omega)];exact Fv ⟨_,rfl,(Pv (by omega)).symm⟩
 |succ k ih=>
  intro i v m F q
  match F,q with
  |F+1,q=>
   rw[U2,GX (by omega)];by_cases hn:i+l.If.n<=w.n
   case neg=>exact Fv ⟨_,rfl,(Pv (by omega)).symm⟩
   refine Bu ?_;have a0:=hw.1;obtain⟨r,x,o⟩:=ih (i+1) (by omega) (by omega) F (by omega);have c:∀(Q:List Int->Prop),Q (Hx l w (i+1))->∃r,N3 F _ (IntKind.i64.wrap ((i:Int)+1))=some r/\Q r:=λQ hQ=>⟨r,by rw[Fy];exact x,by rw[o];omega⟩;refine X6 (λj x1=>x1=(j:Int)/\∀k,k<j->BX0 (w.g (i+k)) (l.If.g k)) l.If.n _ (by omega) (by grind) ?_;rintro y j x1 hj ⟨rfl,h⟩ hs;by_cases f:j<l.If.n
   .rw[GX (by omega)];refine Bu (Ai (Ai ?_));obtain⟨b,eb,hb⟩:=BD4 (N:=N) (hw.2 (i+j) (by omega)) (hl.2.2 j f);refine B4 (by rw[Vc,Vc];exact eb) ?_;cases b
    .refine ifT rfl (c _ ?_);exact (OG λu=>by have:=hb.2 (u.2.1 j f);grind).symm
    refine Eh (hs f _ ⟨Fy,λk m=>?_⟩)
    grind
   refine Fv ?_;obtain⟨b,eb,hb⟩:=AY7 z hl hk hw i (by omega);refine B4 eb ?_;cases b
   .refine Eh (c _ ?_);exact (OG λu=>by have:=hb.2 u.2.2;grind).symm
   refine ifT rfl ?_;have hh:AL4 l w i:=⟨hn,by grind,hb.1 rfl⟩;refine⟨(i:Int)::Hx l w (i+1),?_,(OF (by omega) hh).symm⟩;rw[Fy,x,o];rfl
def Bn9 (a:3000<=N){l:Law}(hl:okL l)(hk:l.If.n<=4){w:Sl Tr}(hw:okW w)(i:Nat)(c:i<1500) :∃b,HR N l w (i:Int)=some b/\(b=true↔AL4 l w i):=by
 unfold HR;refine B4 (x:=(l,w,(i:Int))) rfl (B4 (AL5 a hl hk hw i c) ?_);by_cases h:AL4 l w i
 .rw[OF (by have:=h.1;omega) h]
  simp_all[T2]
 rw[OG h];rcases hL:Hx l w (i+1)with _|⟨t,L⟩
 .exact⟨false,rfl,by grind⟩
 have:((i+1:Nat):Int)<=t:=BD6 (l:=l) (w:=w) (by rw[hL];simp)
 exact⟨false,by show some (t==(i:Int))=some false;congr 1;grind,by grind⟩
def BJ6 {p m a b s:BitVec 32}(h1:vB p m=true)(c:vB a b=true):vB (ZO p a s) (ZO m b s)=true:=by
 rw[Ju]at *
 grind[ZO]
def vS0:vS (⟨0,0⟩:Tr):=⟨0#32,0#32,rfl,by decide +kernel⟩
def AD4 (f:1000<=N){s t:Tr}{c:Int}(hs:okS s)(hc:∃b:BitVec 32,c=(b.toNat:Int))(ht:okS t):∃y,T6 N s c t=some y/\W8 N s c t=some y/\vS y.1:=by
 obtain⟨p,m,rfl⟩:=hs;obtain⟨a,b,rfl⟩:=ht;obtain⟨d,rfl⟩:=hc;refine⟨_,AY4 p m d a b,AY5 p m d a b f,?_⟩;unfold BC8;split
 .rename_i h;split
  .exact⟨_,_,rfl,BJ6 h.1 h.2⟩
  exact vS0
 exact vS0
def Bo0 (f:1000<=N){s t:Tr}{c:Int}(hs:okS s)(hc:∃b:BitVec 32,c=(b.toNat:Int))(ht:okS t):∃y,Z2 N s t c=some y/\BJ N s t c=some y/\vS y.1:=by
 obtain⟨p,m,rfl⟩:=hs;obtain⟨a,b,rfl⟩:=ht;obtain⟨d,rfl⟩:=hc;refine⟨_,BD0 p m a b d,BD1 p m a b d f,?_⟩;unfold BC9;split
 .rename_i h;split
  .exact⟨_,_,rfl,BJ6 h.1 h.2⟩
  exact vS0
 exact vS0
def eqX {R:Type}{Q:R->Prop}{o o' : Option R}(h:o=o')(a:∃r,o' = some r/\Q r):∃r,o=some r/\Q r:=by rw[h];omega
def FJ (f:Nat->Tr):Nat->Sl Tr
 |0=>Sl.nil
 |m+1=>(FJ f m).push (f m)
theorem Pw (f:Nat->Tr):∀m,(FJ f m).n=m
 |0=>rfl
 |m+1=>by show (FJ f m).n+1=_;rw[Pw f m]
theorem AD5 (f:Nat->Tr):∀{m i:Nat},i<m->(FJ f m).g i=f i
 |0,i,h=>by omega
 |m+1,i,h=>by
  show (ite (i<(FJ f m).n) ((FJ f m).g i) (f m))=f i;rw[Pw];by_cases e:i<m
  .rw[Kb e,AD5 f e]
  grind
abbrev srcS (l:Law)(cut:Sl Tr)(i:Nat):Tr:=⟨(ite (decide (0<=(l.Out.g i).From)) ((cut.g (l.Out.g i).From.toNat).Plus) 0),(ite (decide (0<=(l.Out.g i).From)) ((cut.g (l.Out.g i).From.toNat).Minus) 0)⟩
def BT9 (t:1000<=N){l:Law}(u:Ch6 l){cut:Sl Tr}(hn:cut.n=l.If.n)(hc:∀i,i<cut.n->okS (cut.g i)) :∃s,An N l cut=some s/\Ff N l cut=some s/\s.n=l.Out.n/\∀i,i<s.n->vS (s.g i):=by
 have one:∀i,∃y:Tr,i<l.Out.n->vS y/\∀(R:Type) (k:Tr->Option R),
  (∀(Ch:Nat->Tr->Int->Tr->Option (Tr×Int)) (Ta:Nat->Tr->Tr->Int->Option (Tr×Int)),(Ch=T6/\Ta=Z2) \/ (Ch=W8/\Ta=BJ) ->
  (if ((decide (0<=(l.Out.g i).From))=true->((0:Int)<=(l.Out.g i).From/\(l.Out.g i).From<(cut.n:Int)))then
   (Ch N (⟨(ite (decide (0<=(l.Out.g i).From)) ((cut.g (l.Out.g i).From.toNat).Plus) 0),(ite (decide (0<=(l.Out.g i).From)) ((cut.g (l.Out.g i).From.toNat).Minus) 0)⟩:Tr) (l.Out.g i).Clear (l.Out.g i).Set).bind λy5=>
   if ((l.Out.g i).Take != 0) then
    if ((0:Int)<=(l.Out.g i).Of/\(l.Out.g i).Of<(cut.n:Int))then
     (Ta N y5.1 (cut.g (l.Out.g i).Of.toNat) (l.Out.g i).Take).bind λy6=>k y6.1
    else none
   else k y5.1
   else none)=k y):=by
  intro i;by_cases d:i<l.Out.n
  case neg=>exact⟨default,λh=>Kf h d⟩
  obtain⟨⟨f,m,o⟩,v,q⟩:=u.2 i d;have hs:okS (⟨(ite (decide (0<=(l.Out.g i).From)) ((cut.g (l.Out.g i).From.toNat).Plus) 0),(ite (decide (0<=(l.Out.g i).From)) ((cut.g (l.Out.g i).From.toNat).Minus) 0)⟩:Tr):=by
   by_cases w:0<=(l.Out.g i).From
   .simp_all
   simp only[w,decide_false,Ci8,Lw];exact⟨0#32,0#32,rfl⟩
  obtain⟨y,e1,e2,hy⟩:=AD4 t hs m f;by_cases ht:(l.Out.g i).Take=0
  .refine⟨y.1,λ_=>⟨hy,λR k Ch Ta h=>?_⟩⟩;rw[Gn]
   have:Ch N (srcS l cut i) (l.Out.g i).Clear (l.Out.g i).Set=some y:=by
    rcases h with⟨rfl,rfl⟩ | ⟨rfl,rfl⟩
    all_goals omega
   rw[this,Ci2,Jq]
  obtain⟨g1,g2⟩:=q ht;obtain⟨z,e3,e4,x⟩:=Bo0 t hy.ok o (hc (l.Out.g i).Of.toNat (by omega));refine⟨z.1,λ_=>⟨x,λR k Ch Ta h=>?_⟩⟩;rw[Gn]
  have:Ch N (srcS l cut i) (l.Out.g i).Clear (l.Out.g i).Set=some y:=by
   rcases h with⟨rfl,rfl⟩ | ⟨rfl,rfl⟩
   all_goals omega
  rw[this,Ci2,Gn,Gi]
  have:Ta N y.1 (cut.g (l.Out.g i).Of.toNat) (l.Out.g i).Take=some z:=by
   rcases h with⟨rfl,rfl⟩ | ⟨rfl,rfl⟩
   all_goals omega
  rw[this,Ci2]
 obtain⟨out,j⟩:=Cs7 one;have a0:=u.1;have b:∀(Ch:Nat->Tr->Int->Tr->Option (Tr×Int)) (Ta:Nat->Tr->Tr->Int->Option (Tr×Int)),(Ch=T6/\Ta=Z2) \/ (Ch=W8/\Ta=BJ) ->
  ∀(a:Sl Tr->Int->Option (Sl Tr)) (i:Nat),i<l.Out.n->(∃r,a ((FJ out i).push (out i)) (wrap .i64 ((i:Int)+1))=some r/\r=FJ out l.Out.n) ->
  ∃r,(if ((decide (0<=(l.Out.g i).From))=true->((0:Int)<=(l.Out.g i).From/\(l.Out.g i).From<(cut.n:Int)))then
   (Ch N (srcS l cut i) (l.Out.g i).Clear (l.Out.g i).Set).bind λy5=>
   if ((l.Out.g i).Take != 0) then
    if ((0:Int)<=(l.Out.g i).Of/\(l.Out.g i).Of<(cut.n:Int))then
     (Ta N y5.1 (cut.g (l.Out.g i).Of.toNat) (l.Out.g i).Take).bind λy6=>
     if (Va 8 ((FJ out i).n+(Sl.of [y6.1]:Sl Tr).n))then
      a ((FJ out i).push y6.1) (wrap .i64 ((i:Int)+1))
     else none
    else none
   else
    if (Va 8 ((FJ out i).n+(Sl.of [y5.1]:Sl Tr).n))then
     a ((FJ out i).push y5.1) (wrap .i64 ((i:Int)+1))
    else none
   else none)=some r/\r=FJ out l.Out.n:=by
  intro Ch Ta h a i d hr;have e:=(j i d).2 (Sl Tr) (λy=>ite (Va 8 ((FJ out i).n+(Sl.of [y]:Sl Tr).n)) (a ((FJ out i).push y) (wrap .i64 ((i:Int)+1))) none) Ch Ta h;refine eqX e (ifT ?_ hr)
  have:=Pw out i
  grind
 have h1:∃r,An N l cut=some r/\r=FJ out l.Out.n:=by
  unfold An;refine S3 (λi x1 x2=>x2=(i:Int)/\x1=FJ out i) l.Out.n _ (by omega) ⟨rfl,rfl⟩ ?_;rintro a i x1 x2 d ⟨rfl,rfl⟩ hs;by_cases c:i<l.Out.n
  .refine Bu (Ai ?_);rw[Vc];exact b _ _ (.inl ⟨rfl,rfl⟩) a i c (hs c _ _ ⟨Fy,rfl⟩)
  grind
 have h2:∃r,Ff N l cut=some r/\r=FJ out l.Out.n:=by
  unfold Ff;refine S3 (λi x1 x2=>x2=(i:Int)/\x1=FJ out i) l.Out.n _ (by omega) ⟨rfl,rfl⟩ ?_;rintro a i x1 x2 d ⟨rfl,rfl⟩ hs;by_cases c:i<l.Out.n
  .refine Bu (Ai ?_);rw[Vc];exact b _ _ (.inr ⟨rfl,rfl⟩) a i c (hs c _ _ ⟨Fy,rfl⟩)
  grind
 obtain⟨r,e1,rfl⟩:=h1;obtain⟨r,e2,rfl⟩:=h2
 grind[Pw,AD5]
def nf:(!false)=true:=rfl
def BJ7 {α : Type}{s t:Sl α}(h:s.n=0):s.app t=t:=by
 simp_all[Sl.app]
def BJ8 {α : Type}[Inhabited α](s:Sl (Sl α)):Nat->Sl α
 |0=>Sl.nil
 |k+1=>(BJ8 s k).app (s.g k)
def BJ9 {α : Type}[Inhabited α](s:Sl (Sl α)){B:Nat}:∀k,(∀i,i<k->(s.g i).n<=B)->(BJ8 s k).n<=k*B
 |0,_=>by simp[BJ8]
 |k+1,h=>by
  have:=BJ9 s k λi a=>h i (by omega)
  have:=h k (by omega)
  grind[BJ8,Nat.succ_mul]
def AD6 {s:Sl (Sl Tr)}(hn:s.n<1000)(d:1000<=N)(hs:∀i,i<s.n->(s.g i).n<=3000000) :B8 N s=some (BJ8 s s.n):=by
 suffices h:∃r,B8 N s=some r/\r=BJ8 s s.n by grind
 unfold B8;refine S3 (λ(i:Nat) (x1 x2:Int)=>x2=(i:Int)/\0<=x1/\x1<=(i:Int)*3000000) s.n _ (by omega) (by omega) ?_;rintro b i x1 x2 c ⟨rfl,f,h1⟩ a;by_cases hl:i<s.n
 .have:=hs i hl
  refine Bu (Ai ?_);rw[Vc,Y0];exact Fv (a hl _ _ ⟨Fy,by omega,by omega⟩)
 refine Fv (B4 (x:=Sl.nil) ?_ ?_)
 .unfold K8;rw[Gi]
 refine S3 (λi x1 x2=>x2=(i:Int)/\x1=BJ8 s i) s.n _ (by omega) ⟨rfl,rfl⟩ ?_;rintro b i x1 x2 c ⟨rfl,rfl⟩ a;by_cases hl:i<s.n
 .have g1:=hs i hl;have g2:=BJ9 s i (B:=3000000) (by grind);refine Bu (ifT ⟨by omega,?_⟩ (a hl _ _ ⟨Fy,?_⟩))
  .rw[Vc];omega
  rw[Vc];rfl
 grind
def BX1 (w:Sl Tr)(i k:Nat)(y:Sl Tr):Sl Tr:=((w.take i).app y).app (w.drop (i+k))
def Bo1 {w y:Sl Tr}{i k:Nat}(b:i+k<=w.n)(hw:∀j,j<w.n->vS (w.g j))(hy:∀j,j<y.n->vS (y.g j)):(BX1 w i k y).n=w.n-k+y.n/\∀j,j<(BX1 w i k y).n->vS ((BX1 w i k y).g j):=by
 have hn:(BX1 w i k y).n=w.n-k+y.n:=by show i+y.n+(w.n-(i+k))=_;omega
 refine⟨hn,λj a=>?_⟩;rw[hn]at a;show vS (ite (j<i+y.n) (ite (j<i) (w.g j) (y.g (j-i))) (w.g (i+k+(j-(i+y.n)))))
 grind
def Rc (N:Nat)(l:Law)(w:Sl Tr)(i:Nat):Sl Tr:=(An N l (w.sub i (i+l.If.n))).getD Sl.nil
def Bo (N:Nat)(l:Law)(w:Sl Tr)(i:Nat):Sl Tr:=BX1 w i l.If.n (Rc N l w i)
def vOk {w:Sl Tr}(h:wOk w):okW w:=⟨by have:=h.1;omega,λi a=>(h.2 i a).ok⟩
def KQ (a:1000<=N){l:Law}(b:Ch6 l){w:Sl Tr}(hw:∀j,j<w.n->vS (w.g j)){i:Nat}(d:i+l.If.n<=w.n) :An N l (w.sub i (i+l.If.n))=some (Rc N l w i)/\Ff N l (w.sub i (i+l.If.n))=some (Rc N l w i)/\(Rc N l w i).n=l.Out.n/\∀j,j<(Rc N l w i).n->vS ((Rc N l w i).g j):=by
 obtain⟨s,h1,f,m,o⟩:=BT9 a b (cut:=w.sub i (i+l.If.n)) (by grind) λj c=>(hw (i+j) (by have:j<i+l.If.n-i:=c;omega)).ok;have e:Rc N l w i=s:=by grind[Rc]
 rw[e];grind
def cat3 (a b c:Sl Tr):BJ8 (Sl.of [a,b,c]:Sl (Sl Tr)) 3=(a.app b).app c:=by show ((Tn.app a).app b).app c=_;rw[BJ7 (s:=Tn) rfl]
def Bo2 (d:1000<=N){a b c:Sl Tr}(ha:a.n<=3000000)(hb:b.n<=3000000)(hc:c.n<=3000000):B8 N (Sl.of [a,b,c]:Sl (Sl Tr))=some ((a.app b).app c):=by
 have h:=AD6 (N:=N) (s:=(Sl.of [a,b,c]:Sl (Sl Tr))) (by grind) d (by grind);rw[h]
 simp_all[congrArg,cat3]
def Ja (a:1000<=N){l:Law}(b:Ch6 l){w:Sl Tr}(c:w.n<1000)(hw:∀j,j<w.n->vS (w.g j)){i:Nat}(d:i+l.If.n<=w.n) :BD N l w i=some (Bo N l w i)/\BK N l w i=some (Bo N l w i):=by
 obtain⟨h1,f,m,o⟩:=KQ a b hw d;have q:=b.1;constructor
 .unfold BD;rw[GX (by omega),Gi,Vc,Vc,h1,Ci2,Gi,
   Bo2 a (by grind) (by omega) (by grind)]
  rfl
 unfold BK;rw[GX (by omega),Vc,Vc,BJ7 (s:=Tp) rfl,Gn,Gi,f,Ci2,
  Gn,Gn]
 rfl
def SE {α : Type}(s t:Sl α):Prop:=s.n=t.n/\∀i,i<s.n->s.g i=t.g i
def SE.refl {α : Type}(s:Sl α):SE s s:=⟨rfl,λ_ _=>rfl⟩
theorem SE.symm {α : Type}{s t:Sl α}(h:SE s t):SE t s:=⟨h.1.symm,λi a=>(h.2 i (by rw[h.1];omega)).symm⟩
def SE.trans {α : Type}{s t u:Sl α}(h:SE s t)(h' : SE t u):SE s u:=⟨h.1.trans h'.1,λi a=>(h.2 i a).trans (h'.2 i (by rw[<- h.1];omega))⟩
def SE.app {α : Type}{s t u v:Sl α}(h:SE s t)(h' : SE u v):SE (s.app u) (t.app v):=⟨by show s.n+u.n=t.n+v.n;rw[h.1,h'.1],λi a=>by
 show (ite (i<s.n) (s.g i) (u.g (i-s.n)))=if i<t.n then t.g i else v.g (i-t.n)
 have a:i<s.n+u.n:=a;rw[<- h.1];split
 .exact h.2 i (by omega)
 exact h'.2 _ (by omega)⟩
def SE.drop {α : Type}{s t:Sl α}(h:SE s t)(k:Nat):SE (s.drop k) (t.drop k):=⟨by show s.n-k=t.n-k;rw[h.1],λi a=>by have a:i<s.n-k:=a;exact h.2 _ (by omega)⟩
def SE.take {α : Type}{s t:Sl α}(h:SE s t){k:Nat}(hk:k<=s.n):SE (s.take k) (t.take k):=⟨rfl,λi a=>h.2 i (by have a:i<k:=a;omega)⟩
def SE.sub {α : Type}{s t:Sl α}(h:SE s t){a b:Nat}(hk:b<=s.n):SE (s.sub a b) (t.sub a b):=⟨rfl,λi c=>h.2 _ (by have c:i<b-a:=c;omega)⟩
def SE.v {s t:Sl Tr}(h:SE s t)(a:∀j,j<s.n->vS (s.g j)):∀j,j<t.n->vS (t.g j):=λj b=>by rw[<- h.2 j (by rw[h.1];omega)];exact a j (by rw[h.1];omega)
def SE.wOk {s t:Sl Tr}(h:SE s t)(a:wOk s):wOk t:=⟨by rw[<- h.1];exact a.1,h.v a.2⟩
def Zy {w w' : Sl Tr}(h:SE w w'):∀p:Pat,PR w p=PR w' p
 |.nil=>rfl
 |.mk kind is no mn mx m g=>by
  have ih:(λi=>PR w (g i))=λi=>PR w' (g i):=funext λi=>Zy h (g i);have ih1:∀i,PR w (g i)=PR w' (g i):=λi=>congrFun ih i;have e1:∀a,(a<w.n↔a<w'.n):=λa=>by rw[h.1]
  funext a b;unfold PR;rw[ih];simp only[ih1,<- h.1];by_cases ha:a<w.n
  .rw[h.2 a ha]
  grind
def Px {l:Law}{w w' : Sl Tr}(h:SE w w'){i:Nat}:AL4 l w i↔AL4 l w' i:=by
 suffices H:∀{w w' : Sl Tr},SE w w' -> AL4 l w i->AL4 l w' i by exact⟨H h,H h.symm⟩
 intro w w' h;rintro⟨h1,n,c,d,f,o,⟨a,ha,g⟩,b,hb,m⟩;have hn:=h.1;refine⟨by omega,λj q=>?_,c,d,h.wOk f,by omega,⟨a,by omega,?_⟩,b,by omega,?_⟩
 .rw[<- h.2 (i+j) (by omega)];grind
 .rw[<- Zy h];omega
 rw[<- Zy h];omega
def Bo3 {l:Law}{c c' : Sl Tr}(h:SE c c'):An N l c=An N l c':=by
 unfold An;congr 1;funext self x1 x2;by_cases h1:(decide (x2<(l.Out.n:Int)))=true
 case neg=>rw[Kd h1,Kd h1]
 rw[Kb h1,Kb h1,<- h.1];have e1:∀y:Int,(0:Int)<=y->y<(c.n:Int)->c.g y.toNat=c'.g y.toNat:=λy b h1=>h.2 _ (by omega);by_cases a:(0:Int)<=x2/\x2<(l.Out.n:Int)
 case neg=>rw[Kd a,Kd a]
 rw[Kb a,Kb a];split
 .rename_i d;have e2:(⟨(ite (decide (0<=(l.Out.g x2.toNat).From)) ((c.g (l.Out.g x2.toNat).From.toNat).Plus) 0),(ite (decide (0<=(l.Out.g x2.toNat).From)) ((c.g (l.Out.g x2.toNat).From.toNat).Minus) 0)⟩:Tr) =
   ⟨(ite (decide (0<=(l.Out.g x2.toNat).From)) ((c'.g (l.Out.g x2.toNat).From.toNat).Plus) 0),(ite (decide (0<=(l.Out.g x2.toNat).From)) ((c'.g (l.Out.g x2.toNat).From.toNat).Minus) 0)⟩:=by
   grind
  rw[e2]
  grind
 rfl
def Ue {l:Law}{w w' : Sl Tr}(h:SE w w'){i:Nat}(a:i+l.If.n<=w.n):Rc N l w i=Rc N l w' i:=by unfold Rc;rw[Bo3 (h.sub a)]
def QD {l:Law}{w w' : Sl Tr}(h:SE w w'){i:Nat}(a:i+l.If.n<=w.n):SE (Bo N l w i) (Bo N l w' i):=by unfold Bo BX1;rw[Ue h a];exact ((h.take (by omega)).app (SE.refl _)).app (h.drop _)
def RL:List (Int×Sl Tr)->List (Int×Sl Tr)->Prop
 |[],[]=>True
 |(p,v)::L,(q,u)::M=>p=q/\SE v u/\RL L M
 |_,_=>False
def OH:Sl Int->Sl (Sl Tr)->List (Int×Sl Tr)->Sl Int×Sl (Sl Tr)×Int
 |x,y,[]=>(x,y,0)
 |x,y,(p,v)::L=>ite (32<v.n) (Sl.nil,Sl.nil,11) (OH (x.push p) (y.push v) L)
def vL (L:Ak3):Prop:=∀x∈L,∀j,j<x.2.n->vS (x.2.g j)
def AL6:vL []:=λx hx=>Kf hx (by simp)
def AD7 {x:Int×Sl Tr}{L:Ak3}(h:∀j,j<x.2.n->vS (x.2.g j))(hL:vL L):vL (x::L):=λy hy=>by
 rcases Cm6.1 hy with rfl|hy
 .exact h
 exact hL y hy
abbrev An7 (N:Nat)(l:Law):=BW5 N l (l.If.n:Int) (l.Out.n:Int)
def Bo4 (y:3000<=N){l:Law}(hf:Ch7 l):∀(m:Nat) (w w' : Sl Tr) (i:Nat),SE w w' -> w.n<=100->(∀j,j<w.n->vS (w.g j))->i<=200->w.n+1<=i+m ->
 ∃L L',(∀M,m<M->V7 M (An7 N l) w i=some L)/\vL L/\L.length<=m/\RL L L' /\ ∀M x2 x3,m<M->x2.n+m<=1000->x3.n+m<=1000->Ba4 M (WZ N l) w' x2 x3 i=some (OH x2 x3 L'):=by
 obtain⟨hl,_,_,hk,r,hko,_,_⟩:=hf;have h6:=r.1;intro m
 induction m with
 |zero=>
  intro w w' i a hn c hi hm;have s:=a.1;refine⟨[],[],λM d=>?_,AL6,Ci9 _,trivial,λM x2 x3 d _ _=>?_⟩
  .obtain⟨M,rfl⟩:∃K,M=K+1:=⟨M-1,by omega⟩;rw[H5,An7,BW5,GX (by omega),Jq]
  obtain⟨M,rfl⟩:∃K,M=K+1:=⟨M-1,by omega⟩;rw[AQ,WZ,GX (by omega),Jq,OH]
 |succ m ih=>
  intro w w' i a hn c hi hm;have s:=a.1;by_cases hle:i+l.If.n<=w.n
  case neg=>
   refine⟨[],[],λM d=>?_,AL6,by simp,trivial,λM x2 x3 d _ _=>?_⟩
   .obtain⟨M,rfl⟩:∃K,M=K+1:=⟨M-1,by omega⟩;rw[H5,An7,BW5,GX (by omega),Jq]
   obtain⟨M,rfl⟩:∃K,M=K+1:=⟨M-1,by omega⟩;rw[AQ,WZ,GX (by omega),Jq,OH]
  have hw:okW w:=⟨by omega,λj t=>(c j t).ok⟩;have o:=a.v c;have u : okW w':=⟨by omega,λj t=>(o j t).ok⟩;obtain⟨b,e1,h1⟩:=Bn9 y hl hk hw i (by omega);obtain⟨b',e2,h2⟩:=Zx y hl hk u i (by omega);obtain rfl:b' = b:=by rw[Cj9,h1,h2,Px a]
  cases b'
  .obtain⟨L,L',g1,g2,g3,g5,g4⟩:=ih w w' (i+1) a hn c (by omega) (by omega);refine⟨L,L',λM d=>?_,g2,by omega,g5,λM x2 x3 d hx hy=>?_⟩
   .obtain⟨M,rfl⟩:∃K,M=K+1:=⟨M-1,by omega⟩;rw[H5,An7,BW5,GX (by omega),Gn,e1,Ci2,Kb nf,Fy]
    grind
   obtain⟨M,rfl⟩:∃K,M=K+1:=⟨M-1,by omega⟩;rw[AQ,WZ,GX (by omega),Gn,e2,Ci2,Kb nf,Fy]
   grind
  have x:=h1.1 rfl;have z:=x.2.2.2.2.1.1;have r1:=(Ja (N:=N) (by omega) r (by omega) c hle).1;have r2:=(Ja (N:=N) (w:=w') (i:=i) (by omega) r (by omega) o (by omega)).2;have f:=QD (N:=N) a hle;have hrn:=f.1;obtain⟨_,_,p3,p4⟩:=KQ (N:=N) (by omega) r c hle;obtain⟨q1,q2⟩:=Bo1 hle c p4;have q1:(Bo N l w i).n=w.n-l.If.n+l.Out.n:=by rw[<- p3];exact q1
  have q2:∀j,j<(Bo N l w i).n->vS ((Bo N l w i).g j):=q2;obtain⟨L,L',g1,g2,g3,g5,g4⟩:=ih (Bo N l w i) (Bo N l w' i) (ite (l.If.n=0) (i+l.Out.n+1) (i+l.Out.n)) f (by omega) q2 (by split<;>omega) (by split<;>omega);refine⟨((i:Int),Bo N l w i)::L,((i:Int),Bo N l w' i)::L',λM d=>?_,AD7 q2 g2,by grind,⟨rfl,f,g5⟩,λM x2 x3 d hx hy=>?_⟩
  .obtain⟨M,rfl⟩:∃K,M=K+1:=⟨M-1,by omega⟩;rw[H5,An7,BW5,GX (by omega),Gn,e1,Ci2,Jn,r1,Ci2,GX (by omega),Fy];have g1:=g1 M (by omega);by_cases h0:l.If.n=0
   .rw[Kb h0]at g1;rw[Gn,g1];rfl
   rw[Kd h0]at g1;rw[Jq,g1];rfl
  obtain⟨M,rfl⟩:∃K,M=K+1:=⟨M-1,by omega⟩;rw[AQ,WZ,GX (by omega),Gn,e2,Ci2,Jn,r2,Ci2,GX (by omega),Fy,OH];by_cases q:32<(Bo N l w' i).n
  .rw[Gn,Kb q]
  rw[Jq,Kd q,Gn];have g4:=g4 M (x2.push (i:Int)) (x3.push (Bo N l w' i)) (by omega) (by show x2.n+1+m<=_;omega) (by show x3.n+1+m<=_;omega)
  grind
abbrev BD7 (N:Nat)(l:Law):=Cc7 N l (l.If.n:Int)
def BD8 (hN:3000<=N){l:Law}(hf:Ch7 l):∀(m:Nat) (w w' : Sl Tr) (i:Int),SE w w' -> w.n<=100->(∀j,j<w.n->vS (w.g j)) -> -100<=i->i+1<=m->m<=200 ->
 ∃L L',(∀M,m<M->V7 M (BD7 N l) w i=some L)/\vL L/\L.length<=m/\RL L L' /\ ∀M x2 x3,m<M->x2.n+m<=1000->x3.n+m<=1000->Ba4 M (Bj8 N l) w' x2 x3 i=some (OH x2 x3 L'):=by
 obtain⟨hl,_,_,hk,s,hko,_,_⟩:=hf;have h6:=s.1;intro m
 induction m with
 |zero=>
  intro w w' i a hn c hi hm u;have x:=a.1;refine⟨[],[],λM f=>?_,AL6,Ci9 _,trivial,λM x2 x3 f _ _=>?_⟩
  .obtain⟨M,rfl⟩:∃K,M=K+1:=⟨M-1,by omega⟩;rw[H5,BD7,Cc7,Jq]
  obtain⟨M,rfl⟩:∃K,M=K+1:=⟨M-1,by omega⟩;rw[AQ,Bj8,Jq,OH]
 |succ m ih=>
  intro w w' i a hn c hi hm u;have x:=a.1;by_cases hle:0<=i
  case neg=>
   grind
  obtain⟨k,rfl⟩:∃k:Nat,i=(k:Int):=⟨i.toNat,by omega⟩;have hw:okW w:=⟨by omega,λj y=>(c j y).ok⟩;have o:=a.v c;have z : okW w':=⟨by omega,λj y=>(o j y).ok⟩;obtain⟨b,e1,h1⟩:=Bn9 hN hl hk hw k (by omega);obtain⟨b',e2,h2⟩:=Zx hN hl hk z k (by omega);obtain rfl:b' = b:=by rw[Cj9,h1,h2,Px a]
  cases b'
  .obtain⟨L,L',g1,g2,g3,g5,g4⟩:=ih w w' ((k:Int)-1) a hn c (by omega) (by omega) (by omega);refine⟨L,L',λM f=>?_,g2,by omega,g5,λM x2 x3 f hx hy=>?_⟩
   .obtain⟨M,rfl⟩:∃K,M=K+1:=⟨M-1,by omega⟩;rw[H5,BD7,Cc7,Gl,e1,Ci2,Kb nf,Y0]
    grind
   obtain⟨M,rfl⟩:∃K,M=K+1:=⟨M-1,by omega⟩;rw[AQ,Bj8,Gl,e2,Ci2,Kb nf,Y0]
   grind
  have q:=h1.1 rfl;have hle:=q.1;have hw32:=q.2.2.2.2.1.1;have r1:=(Ja (N:=N) (by omega) s (by omega) c hle).1;have r2:=(Ja (N:=N) (w:=w') (i:=k) (by omega) s (by omega) o (by omega)).2;have d:=QD (N:=N) a hle;have hrn:=d.1;obtain⟨_,_,p3,p4⟩:=KQ (N:=N) (by omega) s c hle;obtain⟨q1,q2⟩:=Bo1 hle c p4;have q1:(Bo N l w k).n=w.n-l.If.n+l.Out.n:=by rw[<- p3];exact q1
  have q2:∀j,j<(Bo N l w k).n->vS ((Bo N l w k).g j):=q2;obtain⟨L,L',g1,g2,g3,g5,g4⟩:=ih (Bo N l w k) (Bo N l w' k) (ite (l.If.n=0) ((k:Int)-1) ((k:Int)-l.If.n)) d (by omega) q2 (by split<;>omega) (by split<;>omega) (by omega);refine⟨((k:Int),Bo N l w k)::L,((k:Int),Bo N l w' k)::L',λM f=>?_,AD7 q2 g2,by grind,⟨rfl,d,g5⟩,λM x2 x3 f hx hy=>?_⟩
  .obtain⟨M,rfl⟩:∃K,M=K+1:=⟨M-1,by omega⟩;rw[H5,BD7,Cc7,Gl,e1,Ci2,Jn,r1,Ci2];have g1:=g1 M (by omega);by_cases t:l.If.n=0
   .rw[Kb t]at g1;rw[Gi,Y0,g1];rfl
   rw[Kd t]at g1;rw[Hr,Y0,g1];rfl
  obtain⟨M,rfl⟩:∃K,M=K+1:=⟨M-1,by omega⟩;rw[AQ,Bj8,Gl,e2,Ci2,Jn,r2,Ci2,OH];by_cases r:32<(Bo N l w' k).n
  .rw[Gn,Kb r]
  rw[Jq,Kd r,Gn];have g4:=g4 M (x2.push (k:Int)) (x3.push (Bo N l w' k)) (by omega) (by show x2.n+1+m<=_;omega) (by show x3.n+1+m<=_;omega);rw[Y0 (n:=(k:Int)-(l.If.n:Int))];by_cases t:l.If.n=0
  .rw[Kb t]at g4;rw[Gn,Y0,show (k:Int)-(l.If.n:Int)-1=(k:Int)-1 by omega,g4]
  grind
abbrev Rd (N:Nat)(l:Law)(q0:Sl Tr):=Ch3 N l (l.If.n:Int) (l.Out.n:Int) q0
abbrev vW (s:Sl Tr):Prop:=∀j,j<s.n->vS (s.g j)
def An8 {x s:Sl Tr}{i:Nat}(a:i<s.n):SE (x.app (s.drop i)) ((x.push (s.g i)).app (s.drop (i+1))):=⟨by grind,λj _=>by
 grind⟩
def BD9 {a x t:Sl Tr}(h:SE a (x.app t)):SE (a.take x.n) x:=⟨rfl,λj b=>by
 have b:j<x.n:=b;have hn:a.n=x.n+t.n:=h.1;have e:a.g j=ite (j<x.n) (x.g j) (t.g (j-x.n)):=h.2 j (by omega)
 rw[Kb b]at e;exact e⟩
def AL7 {N:Nat}{l:Law}{w:Sl Tr}{K:AllS->Option Ak3}{acc:Sl Tr}{next sh:Int}:∀(d i:Nat),((i+d:Nat):Int)<=next->T2 (Hx l w i) (Rd N l w) K (acc,next,sh)=T2 (Hx l w (i+d)) (Rd N l w) K (acc,next,sh)
 |0,i,_=>rfl
 |d+1,i,h=>by
  have ih:=AL7 (N:=N) (l:=l) (w:=w) (K:=K) (acc:=acc) (next:=next) (sh:=sh) d (i+1) (by omega);rw[show i+(d+1)=i+1+d by omega,<- ih];by_cases a:AL4 l w i
  .rw[OF (by have:=a.1;omega) a];show Rd N l w (T2 (Hx l w (i+1)) (Rd N l w) K) (i:Int) (acc,next,sh)=_;unfold Rd Ch3;rw[Gn]
  grind[OG]
def BU0 {N:Nat}(hN:3000<=N){l:Law}(hf:Ch7 l){w w' : Sl Tr}(b:SE w w')(hn:w.n<=32)(hv:vW w):∀(m i:Nat) (x4 acc:Sl Tr) (sh next:Int),i<=w.n+1->w.n+1<=i+m ->
 (i<=w.n->SE acc (x4.app (w'.drop i))/\(x4.n:Int)=i+sh)->next<=i->x4.n<=7*i->vW acc -> -1000<=sh->sh<=1000 ->
 ∃L L',T2 (Hx l w i) (Rd N l w) (λ_=>some []) (acc,next,sh)=some L/\vL L/\L.length<=m/\RL L L' /\ ∀M x2 x3,m<M->x2.n+m<=1000->x3.n+m<=1000->Ba4 M (BQ7 N l w') x2 x3 x4 i=some (OH x2 x3 L'):=by
 obtain⟨hl,_,_,hk,ho,hko,_,_⟩:=hf;have h6:=ho.1;have hn':=b.1;have hw:okW w:=⟨by omega,λj hj=>(hv j hj).ok⟩;have o : vW w':=b.v hv;have hw' : okW w':=⟨by omega,λj hj=>(o j hj).ok⟩;have fin:∀(m i:Nat) (x4 acc:Sl Tr) (sh next:Int),w.n<i->∃L L',T2 (Hx l w i) (Rd N l w) (λ_=>some []) (acc,next,sh)=some L/\vL L/\L.length<=m/\RL L L' /\ ∀M x2 x3,m<M->x2.n+m<=1000->x3.n+m<=1000->Ba4 M (BQ7 N l w') x2 x3 x4 i=some (OH x2 x3 L'):=by
  intro m i x4 acc sh next hi
  refine⟨[],[],by rw[Pv (by omega)];rfl,AL6,by simp,trivial,λM x2 x3 hM _ _=>?_⟩;obtain⟨M,rfl⟩:∃K,M=K+1:=⟨M-1,by omega⟩;rw[AQ,BQ7,Jq,OH]
 intro m
 induction m with
 |zero=>exact λi x4 acc sh next h1 h2 _ _ _ _ _ _=>fin 0 i x4 acc sh next (by omega)
 |succ m ih=>
  intro i x4 acc sh next hi hm hx hnx h7 q r t
  by_cases hle:i<=w.n
  case neg=>grind
  obtain⟨d,hnn⟩:=hx hle;have han:acc.n=x4.n+(w.n-i):=by rw[d.1];grind
  obtain⟨b',e2,h2⟩:=Zx hN hl hk hw' i (by omega);have h2:=h2.trans (Px b).symm;cases b'
  .have hno:¬AL4 l w i:=(by grind);rw[OG hno];by_cases u:i<w.n
   .obtain⟨L,L',g1,g2,g3,g5,g4⟩:=ih (i+1) (x4.push (w'.g i)) acc sh next (by omega) (by omega) (λ_=>⟨d.trans (An8 (by omega)),by grind⟩) (by omega) (by grind) q r t
    refine⟨L,L',g1,g2,by omega,g5,λM x2 x3 hM hx hy=>?_⟩;obtain⟨M,rfl⟩:∃K,M=K+1:=⟨M-1,by omega⟩;rw[AQ,BQ7,Gn,e2,Ci2,Kb nf,lt,Gn,Gn,Fy,Vc]
    grind
   obtain⟨L,L',g1,g2,g3,g5,g4⟩:=ih (i+1) x4 acc sh next (by omega) (by omega) (λh=>by omega) (by omega) (by omega) q r t
   refine⟨L,L',g1,g2,by omega,g5,λM x2 x3 hM hx hy=>?_⟩;obtain⟨M,rfl⟩:∃K,M=K+1:=⟨M-1,by omega⟩;rw[AQ,BQ7,Gn,e2,Ci2,Kb nf,lt,Jq,Fy]
   grind
  have x:=h2.1 rfl;have y:=x.1;rw[OF hle x];obtain⟨p1,_,p3,p4⟩:=KQ (N:=N) (by omega) ho hv y;obtain⟨_,p2,_,_⟩:=KQ (N:=N) (w:=w') (i:=i) (by omega) ho o (by omega);rw[<- Ue b y]at p2;generalize hY:Rc N l w i=Y at p1 p2 p3 p4;have c:SE (((acc.take x4.n).app Y).app (w.drop (i+l.If.n))) ((x4.app Y).app (w'.drop (i+l.If.n))):=((BD9 d).app (SE.refl _)).app (b.drop _);have f:vW (((acc.take x4.n).app Y).app (w.drop (i+l.If.n))):=(by grind);generalize hZ:(((acc.take x4.n).app Y).app (w.drop (i+l.If.n)))=Z at c f;have hZn:Z.n=x4.n+Y.n+(w.n-(i+l.If.n)):=by rw[<- hZ]
  obtain⟨L,L',g1,g2,g3,g5,g4⟩:=ih (ite (l.If.n=0) (i+1) (i+l.If.n)) (ite (l.If.n=0/\i<w.n) ((x4.app Y).push (w'.g i)) (x4.app Y)) Z (sh+l.Out.n-l.If.n) (ite (l.If.n=0) (i+1) (i+l.If.n):Nat)
   (by split<;>omega) (by split<;>omega)
   (λh=>by
    by_cases a:l.If.n=0
    .rw[Kb a]at h;rw[Kb a,Kb ⟨a,by omega⟩];rw[a]at c;exact⟨c.trans (An8 (by omega)),by grind⟩
    rw[Kd a,Hr]
    grind)
   (by omega)
   (by
    grind)
   f (by omega) (by omega)
  refine⟨((i:Int),Z)::L,((i:Int),(x4.app Y).app (w'.drop (i+l.If.n)))::L', ?_,AD7 f g2,by grind,⟨rfl,c,g5⟩,λM x2 x3 hM hx hy=>?_⟩
  .show Rd N l w (T2 (Hx l w (i+1)) (Rd N l w) λ_=>some []) (i:Int) (acc,next,sh)=_;unfold Rd Ch3;have es:wrap .i64 ((i:Int)+sh)=((x4.n:Nat):Int):=by rw[Y0,hnn]
   simp only[es];rw[GX (by omega),Jq,Gi];simp only[Vc];rw[p1,Ci2,Gi,Bo2 (by omega) (by grind) (by omega) (by grind),Ci2,hZ];have en:wrap .i64 ((i:Int)+(ite ((l.If.n:Int)<1) 1 (l.If.n:Int)))=((ite (l.If.n=0) (i+1) (i+l.If.n):Nat):Int):=by
    by_cases a:l.If.n=0
    .rw[Gi,Kb a,Y0];omega
    rw[Hr,Kd a,Y0];omega
   have eh:wrap .i64 ((wrap .i64 (sh+(l.Out.n:Int)))-(l.If.n:Int))=sh+l.Out.n-l.If.n:=by rw[Y0 (n:=sh+(l.Out.n:Int)),Y0]
   rw[en,eh];have sk:=AL7 (N:=N) (l:=l) (w:=w) (K:=λ_=>some []) (acc:=Z) (next:=((ite (l.If.n=0) (i+1) (i+l.If.n):Nat):Int)) (sh:=sh+l.Out.n-l.If.n) (ite (l.If.n=0) 0 (l.If.n-1)) (i+1) (by split<;>omega);rw[show i+1+(ite (l.If.n=0) 0 (l.If.n-1))=(ite (l.If.n=0) (i+1) (i+l.If.n)) by split<;>omega]at sk;show BN _ (T2 (Hx l w (i+1)) (Rd N l w) (λ_=>some []) (Z,_,_))=_;rw[sk,g1];rfl
  obtain⟨M,rfl⟩:∃K,M=K+1:=⟨M-1,by omega⟩;have hdn:((x4.app Y).app (w'.drop (i+l.If.n))).n=x4.n+Y.n+(w'.n-(i+l.If.n)):=rfl;rw[AQ,BQ7,Gn,e2,Ci2,Jn,GX (by omega),Gi];simp only[Vc];rw[p2,Ci2,Gi,Kb (by show (x2.n+1)*8<=_/\x2.n+1<=_;omega)];rw[Kb ⟨⟨by show (0+(x4.n+Y.n))*8<=_/\0+(x4.n+Y.n)<=_;omega,by omega⟩,by simp only[Cu5];omega⟩,OH];by_cases z:32<((x4.app Y).app (w'.drop (i+l.If.n))).n
  .rw[Gn,Kb z]
  rw[Jq,Kd z,BJ7 (s:=Tp) rfl,Kb (by show (x3.n+1)*24<=_/\x3.n+1<=_;omega)];have g4:=g4 M (x2.push (i:Int)) (x3.push ((x4.app Y).app (w'.drop (i+l.If.n)))) (by omega) (by show x2.n+1+m<=_;omega) (by show x3.n+1+m<=_;omega);by_cases a:l.If.n=0
  .rw[Gn];rw[Kb a]at g4;by_cases u:i<w.n
   .rw[Kb ⟨a,u⟩]at g4;rw[Gn,Kb ⟨by omega,by grind⟩,Fy,show w'.g (i+l.If.n)=w'.g i by rw[a];rfl,show i+l.If.n+1=i+1 by omega];omega
   rw[Hr]at g4;rw[Jq,Fy,show i+l.If.n+1=i+1 by omega];omega
  rw[Jq];rw[Kd a,Hr]at g4;omega
def trS (r r' : BI5):Prop:=r.1=r'.1/\r.2.1.n=r'.2.1.n/\(∀i,i<r.2.1.n->SE (r.2.1.g i) (r'.2.1.g i))/\r.2.2=r'.2.2
def BK0:∀(L L' : Ak3) (x:Sl Int) (y y' : Sl (Sl Tr)),RL L L' -> y.n=y'.n->(∀i,i<y.n->SE (y.g i) (y'.g i))->trS (OH x y L) (OH x y' L')
 |[],[],x,y,y',_,h1,h2=>⟨rfl,h1,h2,rfl⟩
 |(p,v)::L,(q,u)::M,x,y,y',⟨h3,h4,h5⟩,h1,h2=>by
  subst h3;unfold OH;rw[<- h4.1];split
  .exact⟨rfl,rfl,by grind,rfl⟩
  refine BK0 L M _ _ _ h5 (by grind) λi a=>?_;have a:i<y.n+1:=a
  grind
 |[],_::_,_,_,_,h,_,_=>h.elim
 |_::_,[],_,_,_,h,_,_=>h.elim
def Bo5:∀(L:Ak3) (x:Sl Int) (y:Sl (Sl Tr)),vL L->(∀i,i<y.n->wOk (y.g i))->(OH x y L).2.2=11 \/ ((OH x y L).2.2=0/\(OH x y L).2.1.n<=y.n+L.length/\∀i,i<(OH x y L).2.1.n->wOk ((OH x y L).2.1.g i))
 |[],x,y,_,h=>.inr ⟨rfl,Ci9 _,h⟩
 |(p,v)::L,x,y,hv,h=>by
  unfold OH;split
  .grind
  have:=Bo5 L (x.push p) (y.push v) (λz a=>hv z (by grind)) λi b=>by
   show wOk (ite (i<y.n) (y.g i) v);split
   .grind
   exact⟨by omega,hv (p,v) (by simp)⟩
  grind
theorem An9:∀(L:Ak3) (x:Sl Int) (y:Sl (Sl Tr)),x.n+L.length<=100000->y.n+L.length<=100000 ->
 T2 L (λ(a:Sl Int×Sl (Sl Tr)->Option BI5) (x1:Int×(Sl Tr)) (z1:(Sl Int)×(Sl (Sl Tr)))=>
  if (decide (32<(x1.2.n:Int))) then
   some (Tj,Tq,11)
  else
   if (Va 8 (z1.1.n+(Sl.of [x1.1]:Sl Int).n))then
    if (Va 24 (z1.2.n+(Sl.of [x1.2]:Sl (Sl Tr)).n))then
     a (z1.1.push x1.1,z1.2.push x1.2)
    else none
   else none
  ) (λ(z1:(Sl Int)×(Sl (Sl Tr)))=>
   some (z1.1,z1.2,0)
  ) (x,y)=some (OH x y L)
 |[],x,y,_,_=>rfl
 |(p,v)::L,x,y,hx,hy=>by
  simp at hx hy;have ih:=An9 L (x.push p) (y.push v) (by grind) (by grind);rw[T2,OH]
  grind
def Bo6 {N:Nat}(m:3000000<=N){l:Law}(hl:Vw l)(hc:chkAll N l){w w' : Sl Tr}(b:SE w w')(a:wOk w) :∃L L',Gu N l w=some (OH Tj Tq L)/\GL N l w' = some (OH Tj Tq L')/\RL L L' /\ vL L/\L.length<=100:=by
 obtain⟨e,e1,e2,o⟩:=OC m hl;obtain rfl:e=0:=(o.resolve_right λh=>h.2 hc).1;obtain⟨e',e3,g⟩:=OB (N:=N) (by omega) (vOk a).2;obtain rfl:=(GP g).2 a;obtain⟨e'',e4,c⟩:=Ih (N:=N) (by omega) (vOk (b.wOk a)).2;obtain rfl:=(GP c).2 (b.wOk a);unfold Gu GL IM IT;rw[e1,e2,Ci2,Ci2,Jz,Jz,e3,e4];simp only[Ci2];rw[Jz,Jz];have d:=hc.f hl;obtain⟨j,_,_,hk,x,q,r,s⟩:=id d;have hn:=a.1;have t:=b.1;have key:∃L L',El N w l (l.If.n:Int) (l.Out.n:Int)=some L/\vL L/\L.length<=100/\RL L L' /\
  (ite (l.Mode==1) ((KI N l w').bind λy2=>some (y2.1,y2.2.1,y2.2.2)) (ite (l.Mode==2) ((GK N l w').bind λy3=>some (y3.1,y3.2.1,y3.2.2)) ((FU N l w').bind λy4=>some (y4.1,y4.2.1,y4.2.2))))=some (OH Tj Tq L'):=by
  unfold El;by_cases c1:l.Mode=1
  .rw[Gn,Gn];obtain⟨L,L',g1,g2,g3,g5,g4⟩:=BU0 (N:=N) (by omega) d b hn a.2 (w.n+1) 0 Tn w 0 0 (by omega) (by omega) (λ_=>⟨by rw[BJ7 rfl];exact⟨b.1,λi u=>by rw[b.2 i u];grind⟩,rfl⟩) (by omega) (by grind) a.2 (by omega) (by omega);have v:=AL5 (N:=N) (by omega) j hk (w:=w) (vOk a) 0 (by omega);refine⟨L,L', ?_,g2,by omega,g5,?_⟩
   .show ((AZ N l w ((0:Nat):Int)).bind λL1=>T2 L1 (Rd N l w) (λ_=>some []) (w,0,0))=_;rw[v,Ci2];omega
   have:KI N l w' = some _:=g4 N Tj Tq (by omega) (by grind) (by grind)
   rw[this];rfl
  rw[Jq,Kd (show ¬(l.Mode==1)=true by simp[c1])];by_cases c2:l.Mode=2
  .rw[Gn,Gn];obtain⟨L,L',g1,g2,g3,g5,g4⟩:=Bo4 (N:=N) (by omega) d (w.n+1) w w' 0 b (by omega) a.2 (by omega) (by omega);refine⟨L,L',g1 N (by omega),g2,by omega,g5,?_⟩
   have:GK N l w' = some _:=g4 N Tj Tq (by omega) (by grind) (by grind)
   rw[this];rfl
  have c3:l.Mode=3:=by omega
  rw[Jq,Kd (show ¬(l.Mode==2)=true by simp[c2]),Gn];obtain⟨L,L',g1,g2,g3,g5,g4⟩:=BD8 (N:=N) (by omega) d (w.n+1) w w' ((w.n:Int)-(l.If.n:Int)) b (by omega) a.2 (by omega) (by omega) (by omega);refine⟨L,L', ?_,g2,by omega,g5,?_⟩
  .rw[Y0];grind
  have g4:=g4 N Tj Tq (by omega) (by show 0+_<=_;omega) (by show 0+_<=_;omega)
  have:FU N l w' = some (OH Tj Tq L'):=by
   grind[FU,wrap,F0]
  rw[this];rfl
 grind[Ol,El,bind,An9]
def Bo7 (i:3000000<=N){l:Law}(hl:Vw l)(hc:chkAll N l){w w' : Sl Tr}(a:SE w w')(b:wOk w) :∃v v' e,CS N l w=some (v,e)/\GM N l w' = some (v',e)/\(e=11 \/ e=0/\SE v v' /\ wOk v):=by
 obtain⟨L,L',h1,d,j,m,z⟩:=Bo6 i hl hc a b;have hs:=BK0 L L' Tj Tq Tq j rfl (by grind);have ht:=Bo5 L Tj Tq m (by grind);generalize OH Sl.nil Sl.nil L=r at h1 hs ht;generalize OH Sl.nil Sl.nil L' = r' at d hs;obtain⟨x,y,e⟩:=r;obtain⟨x',y',e'⟩:=r';obtain⟨_,hn,hs,f⟩:=hs;dsimp only at hn hs f ht;subst f;unfold CS GM;rw[h1,d,Ci2,Ci2];dsimp only;rcases ht with rfl|⟨rfl,g,o⟩
 .grind
 rw[Jq,Kd (show ¬((0:Int) != 0)=true by decide)];have g:y.n<=0+L.length:=g;have q:=b.1;have t:=a.1;by_cases hy:y.n=0
 .rw[Jq,Gn,Gn,BJ7 (s:=Tp) rfl];unfold B3;rw[Gi]
  grind
 have hk:=o (y.n-1) (by omega);have c:=hs (y.n-1) (by omega);have hb:=hk.1;have u:=c.1;have e1:wrap .i64 ((y.n:Int)-1)=((y.n-1:Nat):Int):=Cd4 (by omega) (by omega);have e2:wrap .i64 ((y'.n:Int)-1)=((y.n-1:Nat):Int):=by rw[<- hn];omega
 rw[e1,e2,Vc,Gn,Gi,Jq,Gn,BJ7 (s:=Tp) rfl]
 grind
def contF {s:Sl Law}(c:s.n<N)(hs:s.n<1000000){f:Law->Option Bool}(d:∀i,i<s.n->f (s.g i)=some false):D5 N s f=some false:=by
 suffices h:∃y,E6 N s f=some y/\y = -1 by obtain⟨y,h,rfl⟩:=h;unfold D5;rw[h];rfl
 unfold E6;refine X6 (λi x1=>x1=(i:Int)) s.n _ c rfl ?_;rintro b i x1 j rfl a;by_cases hl:i<s.n
 .exact Bu (Ai (B4 (by rw[Vc];exact d i hl) (Eh (a hl _ (Fy)))))
 grind
def Ao0 (f:3000000<=N){laws:Sl Law}(hl:Xh laws)(a:QC N laws):Cr N laws=some 0/\Et N laws=some 0:=by
 have j:=a.1;have hc:∀i,i<laws.n->Ab N (laws.g i)=some 0/\Ae N (laws.g i)=some 0:=λi c=>by
  obtain⟨e,e1,e2,l⟩:=OC f (hl i c);obtain rfl:e=0:=(l.resolve_right λh=>h.2 (a.2 i c)).1
  grind
 constructor
 .unfold Cr;rw[Jq,contF (by omega) (by omega) λi c=>by grind[CC]];rfl
 suffices h:∃y,Et N laws=some y/\y=0 by grind
 unfold Et;refine Fv (X6 (λi x1=>x1=(i:Int)) laws.n _ (by omega) rfl ?_);rintro d i x1 c rfl hs;by_cases b:i<laws.n
 .exact Bu (Ai (B4 (by rw[Vc];exact (hc i b).2) (Fn (hs b _ (Fy)))))
 grind
def Ms (N:Nat)(c:Int)(q1:Sl Law)(a:Sl Tr->Int->Option Ak3)(x1:Sl Tr)(x2:Int):Option Ak3:= ite (decide (x2<(q1.n:Int))) (ite ((0:Int)<=x2/\x2<(q1.n:Int)) ((CS N (q1.g x2.toNat) x1).bind λy4=>ite (y4.2 != 0) (ite (y4.2=c) (some []) none) (BN (wrap .i64 (x2+1),y4.1) (a y4.1 (wrap .i64 (x2+1))))) none) (ite (c=0) (some []) none)
def GR {c:Int}{laws:Sl Law}{a:Sl Tr->Int->Option Ak3}{w:Sl Tr}{i:Nat}(d:i<laws.n)(b:laws.n<=64){y:Sl Tr×Int}(h:CS N (laws.g i) w=some y) :Ms N c laws a w (i:Int)=ite (y.2 != 0) (ite (y.2=c) (some []) none) (BN (((i+1:Nat):Int),y.1) (a y.1 ((i+1:Nat):Int))):=by unfold Ms;rw[Gn,Gi,Vc,h,Ci2,Fy]
def AY8:Sl Tr->Ak3->Sl Tr
 |w,[]=>w
 |_,(_,v)::L=>AY8 v L
def Zz:∀(L:Ak3) (w:Sl Tr),T2 L (λ(a:Sl Tr->Option (Sl Tr)) (x1:Int×(Sl Tr)) (z1:Sl Tr)=>a x1.2) (λ(z1:Sl Tr)=>some z1) w=some (AY8 w L)
 |[],w=>rfl
 |(p,v)::L,w=>Zz L v
def Bo8 (o:3000000<=N){laws:Sl Law}(hl:Xh laws)(j:QC N laws):∀(m i:Nat) (w w' : Sl Tr),SE w w' -> wOk w->i<=laws.n->laws.n<=i+m ->
 (∃L v',SE (AY8 w L) v' /\ wOk (AY8 w L)/\(∀M,m<M->V7 M (Ms N 0 laws) w i=some L)/\∀M x2,m<M->x2.n=i+1->x2.g i=w' -> ∃y,V7 M (Ow N laws) x2 i=some (y,0)/\y.n=laws.n+1/\y.g laws.n=v') \/
 ((∃L,∀M,m<M->V7 M (Ms N 0 laws) w i=none/\V7 M (Ms N 11 laws) w i=some L)/\∀M x2,m<M->x2.n=i+1->x2.g i=w' -> V7 M (Ow N laws) x2 i=some (Tq,11)):=by
 have b:=j.1;intro m
 induction m with
 |zero=>
  intro i w w' c hw q hm;refine .inl ⟨[],w',c,hw,λM d=>?_,λM x2 d hx f=>⟨x2,?_,by omega,by rw[<- f];grind⟩⟩
  .obtain⟨M,rfl⟩:∃K,M=K+1:=⟨M-1,by omega⟩;rw[H5,Ms,Jq,Kb rfl]
  obtain⟨M,rfl⟩:∃K,M=K+1:=⟨M-1,by omega⟩;rw[H5,Ow,Jq]
 |succ m ih=>
  intro i w w' c hw q hm;by_cases a:i<laws.n
  case neg=>
   refine .inl ⟨[],w',c,hw,λM d=>?_,λM x2 d hx f=>⟨x2,?_,by omega,by rw[<- f];grind⟩⟩
   .obtain⟨M,rfl⟩:∃K,M=K+1:=⟨M-1,by omega⟩;rw[H5,Ms,Jq,Kb rfl]
   obtain⟨M,rfl⟩:∃K,M=K+1:=⟨M-1,by omega⟩;rw[H5,Ow,Jq]
  obtain⟨v,v',e,h1,l,r⟩:=Bo7 o (hl i a) (j.2 i a) c hw;rcases r with rfl|⟨rfl,s,t⟩
  .refine .inr ⟨⟨[],λM d=>?_⟩,λM x2 d hx f=>?_⟩
   .obtain⟨M,rfl⟩:∃K,M=K+1:=⟨M-1,by omega⟩;rw[H5,H5,GR a b h1,GR a b h1]
    grind
   obtain⟨M,rfl⟩:∃K,M=K+1:=⟨M-1,by omega⟩;rw[H5,Ow,Gn,Gi,Vc,f,l,Ci2,Gl]
  rcases ih (i+1) v v' s t (by omega) (by omega)with⟨L,u,g1,g2,g3,g4⟩ | ⟨⟨L,g1⟩,g2⟩
  .refine .inl ⟨((i+1:Nat),v)::L,u,g1,g2,λM d=>?_,λM x2 d hx f=>?_⟩
   .obtain⟨M,rfl⟩:∃K,M=K+1:=⟨M-1,by omega⟩;rw[H5,GR a b h1,Jn]
    grind[BN,V7,Ms]
   obtain⟨M,rfl⟩:∃K,M=K+1:=⟨M-1,by omega⟩;rw[H5,Ow,Gn,Gi,Vc,f,l,Ci2,Jn,Gn,Fy]
   simp_all
  refine .inr ⟨⟨((i+1:Nat),v)::L,λM d=>?_⟩,λM x2 d hx f=>?_⟩
  .obtain⟨M,rfl⟩:∃K,M=K+1:=⟨M-1,by omega⟩;obtain⟨a1,a2⟩:=g1 M (by omega);rw[H5,H5,GR a b h1,GR a b h1,Jn,Jn]
   grind[BN,V7,Ms]
  obtain⟨M,rfl⟩:∃K,M=K+1:=⟨M-1,by omega⟩;rw[H5,Ow,Gn,Gi,Vc,f,l,Ci2,Jn,Gn,Fy]
  grind
def BE0 {w:Sl Tr}(d:w.n<N)(hs:w.n<10000000):∃y,FQ N w=some y/\SE w y:=by
 suffices h:∃y,FQ N w=some y/\y=FJ w.g w.n by obtain⟨y,h,rfl⟩:=h;exact⟨_,h,(Pw _ _).symm,λi b=>(AD5 w.g b).symm⟩
 unfold FQ;refine S3 (λi x1 x2=>x2=(i:Int)/\x1=FJ w.g i) w.n _ d ⟨rfl,rfl⟩ ?_;rintro c i x1 x2 b ⟨rfl,rfl⟩ a;by_cases hl:i<w.n
 .have:=Pw w.g i
  refine Bu (Bu (a hl _ _ ⟨Fy,by rw[Vc];rfl⟩))
 grind
def Py (l:3000000<=N){laws:Sl Law}(hl:Xh laws)(f:QC N laws){w w' : Sl Tr}(j:SE w w')(b:wOk w) :∃v v' e,O0 N laws w=some (v,e)/\Dq N laws w' = some (v',e)/\(e=11 \/ e=0/\SE v v' /\ wOk v):=by
 have r:=f.1;obtain⟨e,e3,s⟩:=OB (N:=N) (by omega) (vOk b).2;obtain rfl:=(GP s).2 b;have d:=j.wOk b;obtain⟨e',e4,m⟩:=Ih (N:=N) (by omega) (vOk d).2;obtain rfl:=(GP m).2 d;have e1:AA N laws (Sl.of [w]:Sl (Sl Tr))=some 0:=by
  suffices h:∃y,AA N laws (Sl.of [w]:Sl (Sl Tr))=some y/\y=0 by grind
  unfold AA;refine B4 (Ao0 l hl f).1 (Fn (Fv ?_));refine X6 (λi x1=>x1=(i:Int)) 1 _ (by omega) rfl ?_;rintro o i x1 x rfl hs;by_cases t:i<1
  .obtain rfl:i=0:=by omega
   exact Bu (Bu (B4 e3 (Fn (hs (by omega) _ rfl))))
  grind
 have u:=b.1;have q:=d.1;obtain⟨y4,c1,c2⟩:=BE0 (N:=N) (w:=w') (by omega) (by omega);have g:∀c,L7 N c laws w=(BN (0,w) (V7 N (Ms N c laws) w ((0:Nat):Int))).bind λL1=>T2 L1 (λ(a:Sl Tr->Option (Sl Tr)) (x1:Int×(Sl Tr)) (z1:Sl Tr)=>a x1.2) (λ(z1:Sl Tr)=>some z1) Tn:=by intro c;unfold L7 ED CD B3;rw[Ci2,Gn,Ci2];rfl
 unfold O0 Dq IU CE;rw[e1,(Ao0 l hl f).2,Ci2,Ci2,lt,Kb (show ((0:Int)==0)=true from rfl),e4,Ci2];dsimp only;rw[Jq,Jq,c1,Ci2,g,g];rcases Bo8 l hl f laws.n 0 w y4 (j.trans c2) b (by omega) (by omega)with⟨L,v',g1,g2,g3,g4⟩ | ⟨⟨L,g1⟩,g2⟩
 .obtain⟨y,d1,d2,d3⟩:=g4 N (Sl.of [y4]:Sl (Sl Tr)) (by omega) rfl rfl;rw[g3 N (by omega)]
  have:(BN (0,w) (some L)).bind (λL1=>T2 L1 (λ(a:Sl Tr->Option (Sl Tr)) (x1:Int×(Sl Tr)) (z1:Sl Tr)=>a x1.2) (λ(z1:Sl Tr)=>some z1) Tn)=some (AY8 w L):=Zz _ _
  rw[this];refine⟨_,v',0,rfl,?_,by grind⟩;show Option.bind (V7 N (Ow N laws) (Sl.of [y4]:Sl (Sl Tr)) ((0:Nat):Int)) _=_;rw[d1,Ci2,Jn];have ew:wrap .i64 ((y.n:Int)-1)=((laws.n:Nat):Int):=by rw[d2,Y0];omega
  grind
 obtain⟨g3,g4⟩:=g1 N (by omega);rw[g3,g4]
 have:(BN (0,w) (some L)).bind (λL1=>T2 L1 (λ(a:Sl Tr->Option (Sl Tr)) (x1:Int×(Sl Tr)) (z1:Sl Tr)=>a x1.2) (λ(z1:Sl Tr)=>some z1) Tn)=some (AY8 w L):=Zz _ _
 rw[this];refine⟨_,Tn,11,rfl,?_,.inl rfl⟩
 grind
def pk (h:Yv)(l:Sl Int):Nat->Sl Law
 |0=>Sl.nil
 |i+1=>(pk h l i).push (h.Laws.g (l.g i).toNat)
theorem BK1 (h:Yv)(l:Sl Int):∀i,(pk h l i).n=i
 |0=>rfl
 |i+1=>congrArg (· + 1) (BK1 h l i)
def pk_g (h:Yv)(l:Sl Int):∀{m i:Nat},i<m->(pk h l m).g i=h.Laws.g (l.g i).toNat
 |m+1,i,hi=>by
  show (ite (i<(pk h l m).n) ((pk h l m).g i) _)=_;rw[BK1];split
  .exact pk_g h l (by omega)
  grind
def lw (h:Yv)(v:Nat):Sl Law:=pk h (N6 h v) (N6 h v).n
def ZA {N:Nat}{h:Yv}(a:Aw N h):∀(m v:Nat),v<=m->v<h.Tree.n->∀i,i<(N6 h v).n->0<=(N6 h v).g i/\(N6 h v).g i<h.Laws.n
 |m,v,hm,hv,i,b=>by
  have Aq2:=(An4 a hv).2;rcases Av a.tree hv with⟨_,e⟩ | ⟨p,hp,e⟩
  .rw[AE (by omega)]at b⊢;have b:i<0+(h.On.g v).n:=b
   grind
  rw[EI e hp]at b⊢;have b:i<(N6 h p).n+(h.On.g v).n:=b;show 0<=(ite (i<(N6 h p).n) ((N6 h p).g i) ((h.On.g v).g (i-(N6 h p).n)))/\(ite (i<(N6 h p).n) ((N6 h p).g i) ((h.On.g v).g (i-(N6 h p).n)))<_;split
  .match m with
   |0=>omega
   |m+1=>exact ZA a m p (by omega) (by omega) i (by omega)
  grind
def BE1 {h:Yv}(d:P8 h)(a:Aw N h){v:Nat}(l:v<h.Tree.n):(N6 h v).n<=64/\Xh (lw h v)/\QC N (lw h v):=by
 have b:(N6 h v).n<=64:=Cx4 λf=>a.long ⟨v,by rw[a.on];omega,f⟩;have e:∀i,i<(lw h v).n->∃j,j<h.Laws.n/\(lw h v).g i=h.Laws.g j:=λi hl=>by
  have hl:i<(N6 h v).n:=by rw[<- BK1 h (N6 h v) (N6 h v).n];exact hl
  have:=ZA a v v (Ci9 _) l i hl
  exact⟨_,by omega,pk_g h _ hl⟩
 refine⟨b,λi hl=>?_,by grind[lw,BK1],λi hl=>?_⟩
 .obtain⟨j,c,e⟩:=e i hl;rw[e];exact d.laws j c
 obtain⟨j,c,e⟩:=e i hl;rw[e];exact a.laws.2 j c
def Bo9 (t:Sl Node)(v:Nat):List Nat:= if hp:0<=(t.g v).Yx/\(t.g v).Yx<v then Bo9 t (t.g v).Yx.toNat++[v]else [v]
termination_by v
decreasing_by omega
def Uf {t:Sl Node}{v:Nat}(a:(t.g v).Yx<0):Bo9 t v=[v]:=by rw[Bo9,dif_neg (by omega)]
theorem AD8 {t:Sl Node}{v p:Nat}(a:(t.g v).Yx=(p:Int))(hp:p<v):Bo9 t v=Bo9 t p++[v]:=by rw[Bo9,dif_pos (by omega),a,Vc]
def Bp0 {t:Sl Node}(ht:Bn t):∀(m v:Nat),v<=m->v<t.n->(Bo9 t v).length<=v+1/\∀x∈Bo9 t v,x<=v
 |m,v,hm,hv=>by
  rcases Av ht hv with⟨_,e⟩ | ⟨p,hp,e⟩
  .rw[Uf (by omega)]
   grind
  rw[AD8 e hp]
  match m with
  |0=>omega
  |m+1=>
   obtain⟨h1,a⟩:=Bp0 ht m p (by omega) (by omega)
   grind
theorem Ug {α : Type}(s:Sl α)(a : α):(s.push a).toList=s.toList++[a]:=by
 unfold Sl.toList;show (List.range (s.n+1)).map (λi=>ite (i<s.n) (s.g i) a)=_;rw[Cp5,Cp6]
 simp_all
def BE2 {α : Type}{x:Sl α}{m:Nat}(h:x.n=m+1):x.toList.reverse=x.g m::(x.take m).toList.reverse:=by
 grind[Sl.toList,List.range_succ,List.reverse_append]
def AL8 {x2:Sl Int}(hx:x2.n<100000):∀(k M:Nat),k<=x2.n->k<M->N3 M (λ(a:Int->Option (List Int)) (x3:Int)=>
 if (decide (0<=x3)) then
  if (((0:Int)<=x3/\x3<(x2.n:Int))/\x3.toNat<x2.n)then
   BN (x2.g x3.toNat) (
    a (wrap .i64 (x3-1))
    )
  else none
 else
  some []
 ) ((k:Int)-1)=some (x2.take k).toList.reverse
 |0,M,hk,hM=>by obtain⟨M,rfl⟩:∃K,M=K+1:=⟨M-1,by omega⟩;rw[U2,Jn];rfl
 |k+1,M,hk,hM=>by obtain⟨M,rfl⟩:∃K,M=K+1:=⟨M-1,by omega⟩;rw[show ((k+1:Nat):Int)-1=(k:Int) by omega,U2,Gl,Gi,Y0,AL8 hx k M (by omega) (by omega),Vc,BE2 (x:=x2.take (k+1)) (m:=k) rfl];rfl
def BU1 (j:3000000<=N){t:Sl Node}(ht:Bn t){v:Nat}(f:v<t.n):Y6 N (v:Int) t=some ((Bo9 t v).map λ(x:Nat)=>(x:Int)):=by
 have i:=ht.2.1;have key:∀(m c:Nat) (x2:Sl Int) (M:Nat),c<m->c<t.n->m+1<M->x2.n+c<=1000->∃y:Sl Int,y.n<=1001/\y.toList.reverse=((Bo9 t c).map λ(x:Nat)=>(x:Int))++x2.toList.reverse /\
  V7 M (λ(a:Int->Sl Int->Option (List Int)) (x1:Int) (x2:Sl Int)=>
  if (decide (0<=x1)) then
   if ((Va 8 (x2.n+(Sl.of [x1]:Sl Int).n))/\((0:Int)<=x1/\x1<(t.n:Int)))then
    a (t.g x1.toNat).Yx (x2.push x1)
   else none
  else
   N3 N (λb (x3:Int)=>
    if (decide (0<=x3)) then
     if (((0:Int)<=x3/\x3<(x2.n:Int))/\x3.toNat<x2.n)then
      BN (x2.g x3.toNat) (
       b (wrap .i64 (x3-1))
       )
     else none
    else
     some []
    ) (wrap .i64 ((x2.n:Int)-1))
  ) (c:Int) x2=some y.toList.reverse:=by
  intro m
  induction m with
  |zero=>omega
  |succ m ih=>
   intro c x2 M hc d l hx;obtain⟨M,rfl⟩:∃K,M=K+1:=⟨M-1,by omega⟩;rw[H5,Gl,Gn,Vc];rcases Av ht d with⟨_,e⟩ | ⟨p,hp,e⟩
   .obtain⟨M,rfl⟩:∃K,M=K+1:=⟨M-1,by omega⟩;refine⟨x2.push (c:Int),by grind,by rw[Ug,Cp1,Uf (by omega)];rfl,?_⟩;rw[e,H5,Jz];have hb:=AL8 (x2:=x2.push (c:Int)) (by grind) (x2.n+1) N (Ci9 _) (by omega);rw[F0 (by omega) (by grind)];omega
   obtain⟨y,y1,y2,y3⟩:=ih p (x2.push (c:Int)) M (by omega) (by omega) (by omega) (by grind)
   grind[Ug,List.reverse_append,AD8,List.append_assoc]
 obtain⟨y,_,y2,y3⟩:=key (v+1) v Tj N (by omega) f (by omega) (by grind);unfold Y6;rw[y3,y2];show some (_++[])=_;rw[Ck9]
def BU2 (h:Yv)(L:List Nat)(z:Sl Int):Sl Int:=L.foldl (λz x=>z.app (h.On.g x)) z
def Ao1 {h:Yv}(ht:Bn h.Tree):∀(m v:Nat),v<=m->v<h.Tree.n->BU2 h (Bo9 h.Tree v) Tj=N6 h v
 |m,v,hm,hv=>by
  rcases Av ht hv with⟨_,e⟩ | ⟨p,hp,e⟩
  .rw[Uf (by omega),AE (by omega)];rfl
  rw[AD8 e hp,EI e hp]
  match m with
  |0=>omega
  |m+1=>
   have:=Ao1 ht m p (by omega) (by omega)
   grind[BU2]
def Ao2 {h:Yv}(c:P8 h):∀(L:List Nat) (z:Sl Int),(∀x∈L,x<h.On.n)->z.n+L.length*1100000<=10000000000 ->
 T2 (L.map λ(x:Nat)=>(x:Int)) (λ(a:Sl Int->Option ((Sl Int)×Int)) (x1:Int) (z1:Sl Int)=>
  if (((0:Int)<=x1/\x1<(h.On.n:Int))/\(Va 8 (z1.n+(h.On.g x1.toNat).n)))then
   a (z1.app (h.On.g x1.toNat))
  else none
  ) (λ(z1:Sl Int)=>
   some (z1,0)
  ) z=some (BU2 h L z,0)
 |[],z,_,_=>rfl
 |x::L,z,hx,hz=>by have b:=hx x (by simp);have hl:=c.len x b;simp only[Cm2,Cs3]at hz;rw[Ck3,T2,Vc,Gi];exact Ao2 c L _ (by grind) (by grind)
def AL9 (g:3000000<=N){h:Yv}(c:P8 h)(a:Aw N h){v:Nat}(d:v<h.Tree.n):Cv N h (v:Int)=some (lw h v,0)/\Ia N h (v:Int)=some (lw h v,0):=by
 have hb:¬(!((decide (0<=(v:Int)))&&(decide ((v:Int)<(h.Tree.n:Int)))))=true:=by grind
 have j:=a.on;have m:=a.tree.2.1;obtain⟨h1,q⟩:=Bp0 a.tree v v (Ci9 _) d;obtain⟨o,_,_⟩:=BE1 c a d;have hl:=ZA a v v (Ci9 _) d;have e1:Ct N h (v:Int)=some (N6 h v,0):=by unfold Ct;rw[Ln g c,hres_zero.2 a,Ci2,Jz,Cs,Ci2,Kd hb,FG,Ci2];show (Y6 N (v:Int) h.Tree).bind _=_;rw[BU1 g a.tree d,Ci2,Ao2 c _ _ (by grind) (by grind),Ao1 a.tree v v (Ci9 _) d]
 have e2:HZ N h (v:Int)=some (N6 h v,0):=by unfold HZ;rw[Ij g c,hres_zero.2 a,Ci2,Jz,Eq,Ci2,Kd hb,TX c a.tree j N v (by omega) d];rfl
 unfold Cv Ia;rw[e1,e2,Ci2,Ci2];constructor
 .have:Cu N h (N6 h v)=some (lw h v):=by
   refine eqR ?_;unfold Cu;refine S3 (λi x1 x2=>x2=(i:Int)/\x1=pk h (N6 h v) i) (N6 h v).n _ (by omega) ⟨rfl,rfl⟩ ?_;rintro f i x1 x2 l ⟨rfl,rfl⟩ hs;simp only[Vc];have hn:=BK1 h (N6 h v) i;by_cases b:i<(N6 h v).n
   .have:=hl i b
    exact Bu (Ai (B4 (An3 g (c.laws _ (by omega)) (a.laws.2 _ (by omega))) (Bu (hs b _ _ ⟨Fy,rfl⟩))))
   exact Fv ⟨_,rfl,by rw[show i=(N6 h v).n by omega];rfl⟩
  grind
 refine eqR (S3 (λi x1 x2=>x2=(i:Int)/\x1=pk h (N6 h v) i) (N6 h v).n _ (by omega) ⟨rfl,rfl⟩ ?_);rintro f i x1 x2 l ⟨rfl,rfl⟩ hs;simp only[Vc];have hn:=BK1 h (N6 h v) i;by_cases b:i<(N6 h v).n
 .have:=hl i b
  exact Bu (Ai (Bu (hs b _ _ ⟨Fy,rfl⟩)))
 exact Fv ⟨_,rfl,by rw[show i=(N6 h v).n by omega];rfl⟩
noncomputable def sB {T:Type}(x y:Sl T):Bool:=@decide (SE x y) (Classical.propDecidable _)
def KR {T:Type}(x y:Sl T):sB x y=true↔SE x y:=@decide_eq_true_iff _ (Classical.propDecidable _)
def eqK {T:Type}{eb:T->T->Bool}(m:∀x y,eb x y=true↔x=y){N:Nat}{x y:Sl T}(hn:x.n=y.n)(f:x.n<N)(hs:x.n<10000000){K:Option Bool}{b:Bool}(l:K=some b):N3 N (λ(a:Int->Option Bool) (x1:Int)=>
 if (decide (x1<(x.n:Int))) then
  if (((0:Int)<=x1/\x1<(x.n:Int))/\((0:Int)<=x1/\x1<(y.n:Int)))then
   if ((eb (x.g x1.toNat) (y.g x1.toNat)) != true) then
    some false
   else
    a (wrap .i64 (x1+1))
  else none
 else K) 0=some (sB x y&&b):=by
 refine eqR (X6 (λi x1=>x1=(i:Int)/\∀j,j<i->x.g j=y.g j) x.n _ f (by grind) ?_);rintro d i x1 o ⟨rfl,h⟩ c;by_cases hl:i<x.n
 .refine Bu (Ai ?_);rw[Vc];by_cases e:x.g i=y.g i
  .exact Fv (c hl _ ⟨Fy,by grind⟩)
  have h1:eb (x.g i) (y.g i)=false:=(by grind);have q:sB x y=false:=Cq0.2 λg=>e (((KR _ _).1 g).2 i hl)
  grind
 obtain rfl:i=x.n:=by omega
 exact Eh ⟨b,l,by rw[(KR _ _).2 ⟨hn,h⟩];rfl⟩
def eqW {T:Type}{eb:T->T->Bool}(b:∀x y,eb x y=true↔x=y){N:Nat}{x y:Sl T}(c:x.n<N)(hs:x.n<10000000) :(if ((x.n:Int) != (y.n:Int)) then some false else N3 N (λ(a:Int->Option Bool) (x1:Int)=>
  if (decide (x1<(x.n:Int))) then
   if (((0:Int)<=x1/\x1<(x.n:Int))/\((0:Int)<=x1/\x1<(y.n:Int)))then
    if ((eb (x.g x1.toNat) (y.g x1.toNat)) != true) then
     some false
    else
     a (wrap .i64 (x1+1))
   else none
  else some true) 0)=some (sB x y):=by
 by_cases hn:x.n=y.n
 .rw[Jq,eqK b hn c hs rfl,Ct9]
 rw[Gn,Cq0.2 λg=>hn ((KR x y).1 g).1]
def sEq (x y:Tr):((x.Plus==y.Plus)&&(x.Minus==y.Minus))=true↔x=y:=by cases x;cases y;simp
def Bp1 {x y:Sl Tr}(a:x.n<N)(hs:x.n<10000000):∃b,Z3 N x y=some b/\(b=true↔SE x y):=by refine⟨sB x y,?_,KR x y⟩;unfold Z3 G3;rw[eqW sEq a hs];rfl
def Bp2 {x y:Sl Tr}(a:x.n<N)(hs:x.n<10000000):∃b,P5 N x y=some b/\(b=true↔SE x y):=⟨sB x y,eqW sEq a hs,KR x y⟩
def BU3 (i:3000000<=N){h:Yv}(j:P8 h)(a:Aw N h){u:Nat}(l:u<h.Tree.n){w:Sl Tr}(hw:wOk w){f:N0}(o:f.Has=true) :∃b q,F6 N (lw h u) ⟨true,w⟩ f=some b/\Li N h w (u:Int)=some q/\(lt (λz1:Bool=>some z1) λk1=>ite (q.2==0) ((P5 N q.1 f.W).bind λy4=>k1 y4) (k1 false))=some b:=by
 obtain⟨_,l1,l2⟩:=BE1 j a l;obtain⟨v,v',e,d1,d2,d3⟩:=Py i l1 l2 (SE.refl w) hw;obtain⟨e',e4,c⟩:=Ih (N:=N) (by omega) (vOk hw).2;obtain rfl:=(GP c).2 hw;have hb:¬(!((decide (0<=(u:Int)))&&(decide ((u:Int)<(h.Tree.n:Int)))))=true:=by grind
 have d:Li N h w (u:Int)=some (v',e):=by
  have m:Ib N h w=some 0:=by
   simp_all[Ib,Ij,hres_zero]
  simp_all[Li,Ro,Eq,AL9]
 have hp:F6 N (lw h u) ⟨true,w⟩ f=lt (λz1:Bool=>some z1) λk1=>ite (e==0) ((Z3 N v f.W).bind λy3=>k1 y3) (k1 false):=by
  simp_all[F6]
 rw[hp];rcases d3 with rfl|⟨rfl,d4,d5⟩
 .exact⟨false,_,rfl,d,rfl⟩
 have r:=d5.1;have s:=d4.1;obtain⟨b,b1,b2⟩:=Bp1 (N:=N) (x:=v) (y:=f.W) (by omega) (by omega);obtain⟨b',b3,b4⟩:=Bp2 (N:=N) (x:=v') (y:=f.W) (by omega) (by omega);obtain rfl:b' = b:=by rw[Cj9,b2,b4];exact⟨λg=>d4.trans g,λg=>d4.symm.trans g⟩
 refine⟨b',_,?_,d,?_⟩
 .rw[b1];rfl
 dsimp only;rw[b3];rfl
def BE3 (c:3000000<=N){h:Yv}(d:P8 h)(a:Aw N h):∃X,Q1 N h=some X/\X.n=(Q7 h.Tree h.Tree.n).n/\∀k,k<X.n->X.g k=lw h ((Q7 h.Tree h.Tree.n).g k).toNat:=by
 have j:=KO a.tree;unfold Q1;rw[(Ik c d.tree a.tree).1,Ci2];refine S3 (λi (x1:Sl (Sl Law)) x2=>x2=(i:Int)/\x1.n=i/\∀k,k<i->x1.g k=lw h ((Q7 h.Tree h.Tree.n).g k).toNat) (Q7 h.Tree h.Tree.n).n _ (by omega) (by grind) ?_;rintro f i x1 x2 l ⟨rfl,hn,o⟩ hs;simp only[Vc];by_cases b:i<(Q7 h.Tree h.Tree.n).n
 .obtain⟨v,m,e⟩:=MU h.Tree h.Tree.n i b;refine Bu (Ai (B4 (by rw[e];exact (AL9 c d a m).1) (Bu (hs b _ _ ⟨Fy,by grind,λk hk=>?_⟩))))
  grind
 grind
def ifE {R:Type}{Q:R->Prop}{p:Prop}[Decidable p]{a b:Option R}(h1:p->∃r,a=some r/\Q r)(c:¬p->∃r,b=some r/\Q r):∃r,(ite p a b)=some r/\Q r:=by
 split
 all_goals grind
def ltP {R A:Type}{Q:R->Prop}(P:A->Prop){K:A->Option R}{f:(A->Option R)->Option R}(a:∀z,P z->∃r,K z=some r/\Q r)(b:∀k:A->Option R,(∀z,P z->∃r,k z=some r/\Q r)->∃r,f k=some r/\Q r):∃r,lt K f=some r/\Q r:=b K a
def Bp3 {l:Sl N0}(hl:l.n<N)(c:l.n<1000000000):∃b,HW N l=some b/\True:=by
 unfold HW;refine X6 (λi x=>x=(i:Int)) l.n _ hl rfl ?_;rintro a i x d rfl hs;by_cases h:i<l.n
 .exact Bu (Ai (ifE (by grind) λ_=>hs h _ (Fy)))
 exact Fv ⟨_,rfl,trivial⟩
def AY9 {h:Yv}(hl:h.On.n<N)(d:h.On.n<1000000000):∃b,Fb N h=some b/\True:=by
 unfold Fb;refine S3 (λi y x=>x=(i:Int)) h.On.n _ hl rfl ?_;rintro a i y x f rfl hs;by_cases c:i<h.On.n
 .exact Bu (Ai (hs c _ _ (Fy)))
 exact Fv ⟨_,rfl,trivial⟩
def AD9 (a:3000000<=N){p:A8}(hp:MW p)(j:∀i,i<p.Yy.n->(p.Yy.g i).Yz.n<1100000):∃b,GG N p=some b/\True:=by
 unfold GG;obtain⟨b,b1,_⟩:=Bm3 a p.Yv;refine B4 b1 (ifE (by grind) λhc=>?_);have q:p.Yy.n<=5/\p.Yu.n<=5:=by grind
 obtain⟨c,c1,_⟩:=Bp3 (N:=N) (l:=p.Yu) (by omega) (by omega);refine B4 c1 (ltP (λ_=>True) (λz _=>ifE (by grind) λ_=>?_) λk hk=>ifE (λ_=>hk _ Ly) λ_=>?_)
 .refine X6 (λi x=>x=(i:Int)) p.Yy.n _ (by omega) rfl ?_;rintro f i x r rfl hs;by_cases h:i<p.Yy.n
  .have m:=j i h;refine Bu (Ai ?_);rw[Vc];obtain⟨d,d1,_⟩:=Bp3 (N:=N) (l:=(p.Yy.g i).Yz) (by omega) (by omega);exact B4 d1 (ifE (by grind) λ_=>hs h _ (Fy))
  grind
 have o:=hp.hist.on;obtain⟨d,d1,_⟩:=AY9 (N:=N) (h:=p.Yv) (by omega) (by omega);exact B4 d1 (ifE (λ_=>B4 (Ij a hp.hist) (hk _ Ly)) λ_=>hk _ Ly)
def pks (h:Yv)(l:Sl Int)(z:Sl Law):Nat->Sl Law
 |0=>z
 |i+1=>(pks h l z i).push (h.Laws.g (l.g i).toNat)
def BU4 (h:Yv)(l:Sl Int)(z:Sl Law):∀i,(pks h l z i).n=z.n+i
 |0=>rfl
 |i+1=>by show (pks h l z i).n+1=_;rw[BU4 h l z i];omega
def AM0 (h:Yv){s t:Sl Int}:∀{m:Nat},(∀i,i<m->s.g i=t.g i)->pk h s m=pk h t m
 |0,_=>rfl
 |m+1,e=>by show (pk h s m).push _=(pk h t m).push _;rw[AM0 h λi a=>e i (by omega),e m (by omega)]
def Bp4 (h:Yv)(s t:Sl Int):∀i,pk h (s.app t) (s.n+i)=pks h t (pk h s s.n) i
 |0=>AM0 h λi a=>Kb a
 |i+1=>by
  show (pk h (s.app t) (s.n+i)).push (h.Laws.g ((s.app t).g (s.n+i)).toNat)=(pks h t (pk h s s.n) i).push (h.Laws.g (t.g i).toNat);rw[Bp4 h s t i];have e:(s.app t).g (s.n+i)=t.g i:=by
   grind
  rw[e]
def cLn (h:Yv)(s:Sl Int):Nat->Sl Int
 |0=>Sl.nil
 |j+1=>(cLn h s j).app (h.On.g (s.g j).toNat)
def Uh (h:Yv){s t:Sl Int}:∀{m:Nat},(∀i,i<m->s.g i=t.g i)->cLn h s m=cLn h t m
 |0,_=>rfl
 |m+1,e=>by show (cLn h s m).app _=(cLn h t m).app _;rw[Uh h λi a=>e i (by omega),e m (by omega)]
def BU5 {h:Yv}{s:Sl Int}:∀{m:Nat},(∀i,i<m->(h.On.g (s.g i).toNat).n<=64)->(cLn h s m).n<=64*m
 |0,_=>Ci9 0
 |m+1,e=>by
  have h1:=BU5 (m:=m) λi a=>e i (by omega);have b:=e m (by omega)
  grind[cLn]
def upP (t:Sl Node)(a:Int->Option (List Int))(x1:Int):Option (List Int):= ite (decide (0<=x1)) (BN x1 (ite ((0:Int)<=x1/\x1<(t.n:Int)) (a (t.g x1.toNat).Yx) none)) (some [])
def Ui {h:Yv}(ht:Bn h.Tree):∀(M v:Nat),v+1<=M->v<h.Tree.n->∃s,Ic M h.Tree (v:Int)=some s/\s.n<=v+1/\cLn h s s.n=N6 h v/\(∀j,j<s.n->0<=s.g j/\s.g j<h.Tree.n)/\∀K,v+1<K->N3 K (upP h.Tree) (v:Int)=some s.toList.reverse
 |0,v,hM,_=>by omega
 |M+1,v,hM,hv=>by
  have b:=ht.2.1;show ∃s,Fg (Ic M) M h.Tree (v:Int)=some s/\_;unfold Fg;have up:∀K q,N3 (K+1) (upP h.Tree) (v:Int)=some q↔BN (v:Int) (N3 K (upP h.Tree) (h.Tree.g v).Yx)=some q:=λK q=>by rw[U2,upP,Gl,Gi];rfl
  by_cases c:v=0
  .subst c;have d:=(ht.2.2 0 hv).1 rfl;refine ifT rfl ⟨_,rfl,Ci9 1,?_,λj a=>?_,λK f=>?_⟩
   .rw[AE (by omega)];rfl
   .grind
   obtain⟨K,rfl⟩:∃J,K=J+2:=⟨K-2,by omega⟩;rw[up,d];rfl
  refine Fv (Ai ?_);rw[Vc];rcases Av ht hv with⟨h1,_⟩ | ⟨p,hp,e⟩
  .omega
  obtain⟨s,g1,g2,g3,g4,g5⟩:=Ui ht M p (by omega) (by omega);rw[e];refine B4 g1 (Bu ⟨_,rfl,by grind,?_,λj a=>?_,λK f=>?_⟩)
  .show (cLn h (s.push (v:Int)) s.n).app (h.On.g ((s.push (v:Int)).g s.n).toNat)=_;rw[EI e hp,<- g3,Uh h (s:=s.push (v:Int)) (t:=s) λi l=>Kb l]
   grind
  .have a:j<s.n+1:=a
   grind
  obtain⟨K,rfl⟩:∃J,K=J+1:=⟨K-1,by omega⟩;rw[up,e,g5 K (by omega),Ug,Cp1];rfl
def BU6 {N:Nat}(o:3000000<=N){h:Yv}(q:P8 h)(a:Aw N h){v:Nat}(r:v<h.Tree.n):Ie N h (v:Int) (-1)=some (lw h v):=by
 have t:=a.tree.2.1;have u:=a.on;obtain⟨e,_,e1,w⟩:=Lm o q.tree
 have:e=0:=by
  rcases w with⟨h,_⟩ | ⟨_,h⟩
  .exact h
  exact Kf a.tree h
 subst this;obtain⟨s,g1,g2,g3,g4,_⟩:=Ui a.tree N v (by omega) r;have hp:Id N h.Tree (v:Int)=some (s,0):=by
  simp_all[Id,Lk,Ci2,Kd]
 have x:∀j,j<s.n->(h.On.g (s.g j).toNat).n<=64/\∀i,i<(h.On.g (s.g j).toNat).n->0<=(h.On.g (s.g j).toNat).g i/\(h.On.g (s.g j).toNat).g i<h.Laws.n:=λj f=>An4 a (by have:=g4 j f;omega);refine eqR ?_;unfold Ie;refine B4 hp ?_;refine S3 (λj x3 x4=>x4=(j:Int)/\x3=pk h (cLn h s j) (cLn h s j).n) s.n _ (by omega) ⟨rfl,rfl⟩ ?_;rintro l j x3 x4 f ⟨rfl,rfl⟩ hs;simp only[Vc];by_cases hl:j<s.n
 .have z:=g4 j hl;obtain⟨o1,o2⟩:=x j hl;have hc:=BU5 (h:=h) (s:=s) (m:=j) (by grind);refine Bu (Ai ?_);refine S3 (λi x7 x8=>x8=(i:Int)/\x7=pks h (h.On.g (s.g j).toNat) (pk h (cLn h s j) (cLn h s j).n) i) (h.On.g (s.g j).toNat).n _ (by omega) ⟨rfl,rfl⟩ ?_;rintro c i x7 x8 y ⟨rfl,rfl⟩ d;simp only[Vc];have hn:=BU4 h (h.On.g (s.g j).toNat) (pk h (cLn h s j) (cLn h s j).n) i;rw[BK1]at hn;by_cases b:i<(h.On.g (s.g j).toNat).n
  .have:=o2 i b
   exact Bu (Ai (Bu (Ai (Bu (d b _ _ ⟨Fy,rfl⟩)))))
  obtain rfl:i=(h.On.g (s.g j).toNat).n:=by omega
  exact Eh (hs hl _ _ ⟨Fy,(Bp4 h _ _ _).symm⟩)
 obtain rfl:j=s.n:=by omega
 exact Eh ⟨_,rfl,by rw[g3];rfl⟩
def BE4 {N:Nat}{h:Yv}{p:N0}(hp:p.Has=false)(k w:Int):I1 N h p k w=some (⟨false,Tn⟩:N0):=by
 simp_all[I1,Kb]
def der26 {N:Nat}(d:3000000<=N){h:Yv}(f:P8 h)(a:Aw N h){k u:Nat}(hk:k<(Q7 h.Tree h.Tree.n).n)(i:u<h.Tree.n)(e:(Q7 h.Tree h.Tree.n).g k=(u:Int)){p:N0}(l:p.Has=true){w:Sl Tr}(hw:wOk w)(b:SE w p.W) :∃v v' c,O0 N (lw h u) w=some (v,c)/\((c=11/\I1 N h p (k:Int) (-1)=some (⟨false,Tn⟩:N0)) \/ (c=0/\SE v v' /\ wOk v/\I1 N h p (k:Int) (-1)=some (⟨true,v'⟩:N0))):=by
 obtain⟨_,l1,l2⟩:=BE1 f a i;obtain⟨v,v',c,d1,d2,d3⟩:=Py d l1 l2 b hw;refine⟨v,v',c,d1,?_⟩;have j:I1 N h p (k:Int) (-1)=ite (c != 0) (some (⟨false,Tn⟩:N0)) (some (⟨true,v'⟩:N0)):=by
  unfold I1;rw[Jq,(Ik d f.tree a.tree).2,Ci2]
  simp_all[Kb,Vc,BU6,Ci2]
 rw[j]
 grind
def BU7 {x:Sl Int}(hn:x.n<100000)(b:x.n<N):∃s,I9 N x=some s/\(s.n=x.n/\∀j,j<x.n->s.g j=x.g (x.n-1-j)):=by
 unfold I9;refine Al9 (λi (x1:Sl Int) x2 x3=>x2=(i:Int)/\x3=(x.n:Int)-1-(i:Int)/\x1.n=x.n/\i<=x.n-i/\∀j,j<x.n->x1.g j=ite (j<i \/ x.n<=j+i) (x.g (x.n-1-j)) (x.g j)) x.n _ b ⟨rfl,(Y0).trans (by omega),rfl,by omega,by omega⟩ ?_;rintro a i x1 x2 x3 d ⟨rfl,rfl,hx,hle,f⟩ hs;by_cases hl:(i:Int)<(x.n:Int)-1-(i:Int)
 .have e3:((x.n:Int)-1-(i:Int)).toNat=x.n-1-i:=by omega
  refine Bu (ifT (by rw[Sl.upd];grind) ?_);rw[Vc,e3];refine hs (by omega) _ _ _ ⟨Fy,by rw[Y0];omega,hx,by omega,λj c=>?_⟩
  grind
 grind
def Ao3:∀(L:List Int) (z:Sl Int),z.n+L.length<=100000->∃s,T2 L (λ(a:Sl Int->Option (Sl Int)) (x1:Int) (z1:Sl Int)=>
 if (Va 8 (z1.n+(Sl.of [x1]:Sl Int).n))then
  a (z1.push x1)
 else none
 ) (λ(z1:Sl Int)=>some z1) z=some s/\s.toList=z.toList++L
 |[],z,_=>⟨z,rfl,by simp⟩
 |x::L,z,h=>by simp at h;obtain⟨s,s1,s2⟩:=Ao3 L (z.push x) (by grind);exact⟨s,(Gn).trans s1,by rw[s2,Ug];simp⟩
def tPath (c:3000000<=N){h:Yv}(a:P8 h)(ht:Bn h.Tree){v:Nat}(d:v<h.Tree.n):∃s,Gy N h.Tree (v:Int)=some (s,0)/\s.n<=v+1/\cLn h s s.n=N6 h v/\∀j,j<s.n->0<=s.g j/\s.g j<h.Tree.n:=by
 have f:=ht.2.1;obtain⟨e,e1,_,m⟩:=Lm c a.tree;obtain rfl:e=0:=by grind[AC5]
 obtain⟨s,_,g2,g3,g4,g5⟩:=Ui ht N v (by omega) d;have hc:EW N h.Tree (Sl.of [(v:Int)]:Sl Int)=some 0:=by
  unfold EW;rw[e1,Ci2,Jz];refine eqR (X6 (λi x=>x=(i:Int)) 1 _ (by omega) rfl ?_);rintro b i x a rfl hs;by_cases hl:i<1
  .obtain rfl:i=0:=by omega
   exact Ak (Ak (Fv (hs hl _ (Fy))))
  grind
 obtain⟨z,z1,z2⟩:=Ao3 s.toList.reverse Tj (by rw[Cz4,Z0];grind);have z2:z.toList=s.toList.reverse:=z2;have zn:z.n=s.n:=by have:=congrArg List.length z2;rwa [Z0,Cz4,Z0]at this
 obtain⟨r,r1,r2,r3⟩:=BU7 (N:=N) (x:=z) (by omega) (by omega);have l:∀j,j<s.n->r.g j=s.g j:=λj o=>by
  have e2:z.toList[z.n-1-j]? = s.toList.reverse[z.n-1-j]?:=by rw[z2]
  rw[r3 j (by omega)];rw[List.getElem?_reverse (by rw[Z0];omega),Z0,show s.n-1-(z.n-1-j)=j by omega]at e2
  grind[Sl.toList,List.getElem?_range,Option.some.injEq]
 refine⟨r,?_,by omega,by rw[r2,zn,Uh h l,g3],by grind⟩;unfold Gy;rw[hc,Ci2,Jz,Oo,Ci2];show (Gw N (v:Int) h.Tree).bind _=_;rw[show Gw N (v:Int) h.Tree=some s.toList.reverse from g5 N (by omega),Ci2]
 grind[W5,K3]
def lX (h:Yv)(X:Sl (Sl Law)):Prop:=X.n=(Q7 h.Tree h.Tree.n).n/\∀k,k<X.n->X.g k=lw h ((Q7 h.Tree h.Tree.n).g k).toNat
def AE0 (hN:3000000<=N){h:Yv}(hi:P8 h)(a:Aw N h):∃X,Ap N h (-1)=some X/\lX h X:=by
 have t:=KO a.tree;have hon:=a.on;have f:∀k,k<(Q7 h.Tree h.Tree.n).n->∃u:Nat,u<h.Tree.n/\(Q7 h.Tree h.Tree.n).g k=(u:Int):=λk hk=>MU h.Tree h.Tree.n k hk;unfold Ap lX;refine B4 (Ik hN hi.tree a.tree).1 ?_;generalize Q7 h.Tree h.Tree.n=s at t f;refine Bu (Bu ?_);dsimp only;refine Al9 (λi (K:Nat) (X:Sl (Sl Law)) y=>i=K/\y=(i:Int)/\X.n=s.n/\∀k,(k<i->X.g k=lw h (s.g k).toNat)/\(i<=k->X.g k=Sl.nil)) s.n _ (by omega) (by grind) ?_;rintro self i K X y hle ⟨rfl,rfl,hX,v⟩ hs;by_cases hl:i<s.n
 case neg=>grind
 obtain⟨u,hu,x⟩:=f i hl;obtain⟨w,w1,w2,w3,w4⟩:=tPath hN hi a.tree hu;have ht63:=a.tree.2.1;have hO:∀j,j<w.n->(h.On.g (w.g j).toNat).n<=64/\∀i,i<(h.On.g (w.g j).toNat).n->0<=(h.On.g (w.g j).toNat).g i/\(h.On.g (w.g j).toNat).g i<h.Laws.n:=λj hj=>An4 a (by have:=w4 j hj;omega);refine Bu (Ai ?_);rw[Vc,x];refine B4 w1 ?_;dsimp only;refine S3 (λm (X' : Sl (Sl Law)) z=>z=(m:Int)/\X'.n=s.n/\X'.g i=pk h (cLn h w m) (cLn h w m).n/\∀k,k≠i->X'.g k=X.g k) w.n _ (by omega) ⟨rfl,hX,(v i).2 (Ci9 i),λk _=>rfl⟩ ?_;rintro a0 m X' z hm ⟨rfl,l,a1,a2⟩ a3;by_cases d:m<w.n
 case neg=>
  obtain rfl:m=w.n:=by omega
  refine Eh (ifT ⟨rfl,hl⟩ (hs hl _ _ _ ⟨rfl,Fy,l,λk=>?_⟩));have e:lw h u=pk h (cLn h w w.n) (cLn h w w.n).n:=by rw[w3];rfl
  grind
 have hw4:=w4 m d;obtain⟨o1,o2⟩:=hO m d;have hc:=BU5 (h:=h) (s:=w) (m:=m) (by grind);refine Bu ?_;rw[Vc];refine Ai ?_;refine S3 (λq (X'' : Sl (Sl Law)) z=>z=(q:Int)/\X''.n=s.n/\X''.g i=pks h (h.On.g (w.g m).toNat) (pk h (cLn h w m) (cLn h w m).n) q/\∀k,k≠i->X''.g k=X.g k) (h.On.g (w.g m).toNat).n _ (by omega) ⟨rfl,l,a1,a2⟩ ?_;rintro a4 q X'' z hq ⟨rfl,c,b,o⟩ a5;by_cases r:q<(h.On.g (w.g m).toNat).n
 case neg=>
  obtain rfl:q=(h.On.g (w.g m).toNat).n:=by omega
  exact Eh (a3 d _ _ ⟨Fy,c,by rw[b];exact (Bp4 h _ _ _).symm,o⟩)
 have hvq:=o2 q r;have hb:=BU4 h (h.On.g (w.g m).toNat) (pk h (cLn h w m) (cLn h w m).n) q;rw[BK1,<- b]at hb;refine Bu (Ai ?_);rw[Vc];refine Bu (Ai (Ai (Ai (a5 r _ _ ⟨Fy,c, ?_,λk hk=>?_⟩))))
 .show (ite (i=i) ((X''.g i).push _) _)=_;rw[Kb rfl,b];rfl
 grind
def Bp5 (n:Nat):IntKind.u8.wrap (n:Int)=((n % 256:Nat):Int):=by
 have h1:((n:Int) % (2 ^ 8:Int))=((n % 256:Nat):Int):=by omega
 simp_all[wrap,IntKind.bits,IntKind.signed,Cr2,Ci8,Lw]
def AE1 (p k:Nat):UInt8:=UInt8.ofNat (p / 2 ^ k % 256)
def BE5 (p:Int):List UInt8:=[AE1 p.toNat 0,AE1 p.toNat 8,AE1 p.toNat 16]
def Ch9 (s:Tr):List UInt8:=BE5 s.Plus++BE5 s.Minus
def Ao4 (w:Sl Tr):Nat->Str
 |0=>[]
 |m+1=>Ao4 w m++Ch9 (w.g m)
def ZB {p q k:Nat}(h:AE1 p k=AE1 q k):p / 2 ^ k % 256=q / 2 ^ k % 256:=by
 have:=congrArg UInt8.toNat h
 grind[AE1,UInt8.toNat_ofNat']
def AM1 {p q:Nat}(hp:p<16777216)(a:q<16777216)(h:BE5 (p:Int)=BE5 (q:Int)):p=q:=by simp only[BE5,Cp3,and_true,Vc]at h;have b:=ZB h.1;have h1:=ZB h.2.1;have c:=ZB h.2.2;omega
theorem BE6 {s t:Tr}(hs:vS s)(ht:vS t)(h:Ch9 s=Ch9 t):s=t:=by obtain⟨p,m,rfl,b⟩:=hs;obtain⟨p',m',rfl,a⟩:=ht;obtain⟨_,a1,a2⟩:=(Bk0 p m).1 b;obtain⟨_,b1,b2⟩:=(Bk0 p' m').1 a;obtain⟨h1,c⟩:=List.append_inj h rfl;rw[Cl2 (AM1 a1 b1 h1),Cl2 (AM1 a2 b2 c)]
def Ao5 (w:Sl Tr):∀m,(Ao4 w m).length=6*m
 |0=>rfl
 |m+1=>by rw[Ao4,Ck6,Ao5 w m];show _+6=_;omega
def AM2 {w v:Sl Tr}:∀m,(∀i,i<m->vS (w.g i)/\vS (v.g i))->Ao4 w m=Ao4 v m->∀i,i<m->w.g i=v.g i
 |0,_,_,i,hi=>by omega
 |m+1,hv,h,i,hi=>by
  obtain⟨h1,a⟩:=List.append_inj h (by rw[Ao5,Ao5]);by_cases e:i=m
  .grind[BE6]
  exact AM2 m (by grind) h1 i (by omega)
def BU8 {w v:Sl Tr}(hw:wOk w)(a:wOk v)(h:Ao4 w w.n=Ao4 v v.n):SE w v:=by
 have e:=congrArg List.length h;rw[Ao5,Ao5]at e;have e:w.n=v.n:=by omega
 rw[<- e]at h;exact⟨e,AM2 w.n (λi b=>⟨hw.2 i b,a.2 i (by omega)⟩) h⟩
def Bp6 (p:BitVec 32)(k:Nat)(hk:k<=32):wrap .u8 (shI .shr .u32 (p.toNat:Int) (k:Int))=((p.toNat / 2 ^ k % 256:Nat):Int):=by rw[Bf1,Bp5,Cr6,Cr3]
def Cf1 {α : Type}(s t:Sl α):(s.app t).toList=s.toList++t.toList:=by
 show (List.range (s.n+t.n)).map (λi=>ite (i<s.n) (s.g i) (t.g (i-s.n)))=_;rw[List.range_add,Cp6,Cq9];congr 1
 .exact Ck4 (by grind)
 refine Ck4 λi a=>?_
 grind
def Ao6 (s t:Sl Int):At2 (s.app t)=At2 s++At2 t:=by
 have e:∀s:Sl Int,At2 s=s.toList.map λi=>UInt8.ofNat i.toNat:=λs=>by show _=((List.range s.n).map s.g).map _;rw[Cq9];rfl
 rw[e,e,e,Cf1,Cp6]
def str3 (p:BitVec 32):At2 (Sl.of [wrap .u8 (p.toNat:Int),wrap .u8 (shI .shr .u32 (p.toNat:Int) 8),wrap .u8 (shI .shr .u32 (p.toNat:Int) 16)]:Sl Int)=BE5 (p.toNat:Int):=by have e8:=Bp6 p 8 (by omega);have e16:=Bp6 p 16 (by omega);have e0:=Bp5 p.toNat;show [UInt8.ofNat (wrap .u8 (p.toNat:Int)).toNat,UInt8.ofNat (wrap .u8 (shI .shr .u32 (p.toNat:Int) 8)).toNat,UInt8.ofNat (wrap .u8 (shI .shr .u32 (p.toNat:Int) 16)).toNat]=_;rw[e0,show wrap .u8 (shI .shr .u32 (p.toNat:Int) 8)=_ from e8,show wrap .u8 (shI .shr .u32 (p.toNat:Int) 16)=_ from e16];simp only[Vc,BE5,AE1,Nat.pow_zero,CA4]
def BU9 {N:Nat}(c:3000000<=N){w:Sl Tr}(hw:wOk w):EY N w=some (Ao4 w w.n):=by
 have b:=hw.1;refine eqR ?_;unfold EY;refine S3 (λm (x1:Sl Int) x2=>x2=(m:Int)/\At2 x1=Ao4 w m/\x1.n=6*m) w.n _ (by omega) ⟨rfl,rfl,rfl⟩ ?_;rintro a m x1 x2 hm ⟨rfl,h1,d⟩ hs;by_cases hl:m<w.n
 .refine Bu (Ai ?_);rw[Vc];obtain⟨p,q,e,_⟩:=hw.2 m hl;have e1:(w.g m).Plus=(p.toNat:Int):=congrArg Tr.Plus e;have e2:(w.g m).Minus=(q.toNat:Int):=(by grind);have e3:Ao4 w (m+1)=Ao4 w m++(BE5 (p.toNat:Int)++BE5 (q.toNat:Int)):=by rw[Ao4,Ch9,e1,e2]
  rw[e1,e2];exact Bu (Bu (hs hl _ _ ⟨Fy,by rw[Ao6,Ao6,str3,str3,h1,Cv0,e3],by grind⟩))
 grind
def AZ0 (N:Nat)(X:Sl (Sl Law))(M:Sl (List (Str×N0))):Prop:=M.n=X.n/\∀k,∀e∈M.g k,∃w c,wOk w/\Ao4 w w.n=e.1/\O0 N (X.g k) w=some (e.2.W,c)/\e.2.Has=(c==0)
def Ao7 {k:Str}{v:N0}:∀{es:List (Str×N0)},K4 eqS k es=some v->(k,v)∈es
 |[],h=>by cases h
 |(a,x)::es,h=>by
  unfold K4 at h;by_cases e:eqS k a=true
  .rw[Kb e]at h;rw[show k=a by grind,Cm9 h];simp
  rw[Kd e]at h;exact Cn1 _ (Ao7 h)
def AM3 {k:Str}{v:N0}{y:Str×N0}:∀{es:List (Str×N0)},y∈Fj eqS k v es->y∈es \/ y=(k,v)
 |[],h=>.inr (Co7.1 h)
 |(b,x)::es,h=>by
  unfold Fj at h;by_cases e:eqS k b=true
  .rw[Kb e]at h
   grind
  rw[Kd e]at h;rcases Cm6.1 h with h|h
  .grind
  exact (AM3 h).imp (by grind) id
def BE7 {N:Nat}(j:3000000<=N){h:Yv}(m:P8 h)(i:Aw N h){X:Sl (Sl Law)}(s:lX h X){p:N0}(hw:wOk p.W){k:Nat}(hk:k<X.n){M:Sl (List (Str×N0))}(a:AZ0 N X M) :∃v b M' d,R8 N p (k:Int) M X=some (v,b,M')/\AZ0 N X M' /\ I1 N h p (k:Int) (-1)=some ⟨b,d⟩/\(b=true->SE v d/\wOk v):=by
 have l:=a.1;obtain⟨x1,x2⟩:=s;have x2:=x2 k hk;rw[x1]at hk l;obtain⟨u,o,e⟩:=MU h.Tree h.Tree.n k hk;rw[e,Vc]at x2;unfold R8;by_cases r:p.Has=true
 case neg=>exact⟨_,_,_,_,Kb (by simpa using r),a,BE4 (by grind) _ _,λg=>by cases g⟩
 have go:∀{w:Sl Tr}{f:N0}{c:Int},wOk w->Ao4 w w.n=Ao4 p.W p.W.n->O0 N (X.g k) w=some (f.W,c)->f.Has=(c==0)->∃d,I1 N h p (k:Int) (-1)=some ⟨f.Has,d⟩/\(f.Has=true->SE f.W d/\wOk f.W):=λa1 a2 a3 a4=>by
  obtain⟨v,v',c,d1,d2⟩:=der26 j m i hk o e r a1 (BU8 a1 hw a2);rw[x2,d1]at a3
  grind
 rw[Jq,Vc,Gi,Gi,BU9 j hw,Ci2];cases ha:K4 eqS (Ao4 p.W p.W.n) (M.g k)with
 |some v=>obtain⟨w0,c,b1,b2,b3,b4⟩:=a.2 k _ (Ao7 ha);obtain⟨d,d1,d2⟩:=go b1 b2 b3 b4;exact⟨_,_,_,d,rfl,a,d1,d2⟩
 |none=>
  obtain⟨_,l1,l2⟩:=BE1 m i o;obtain⟨v,_,c,r1,_⟩:=Py j l1 l2 (SE.refl p.W) hw;rw[<- x2]at r1;obtain⟨d,d1,d2⟩:=go (f:=⟨c==0,v⟩) hw rfl r1 rfl;rw[K5,Gi,r1,Ci2];refine⟨_,_,_,d,rfl,⟨a.1,λq y hy=>?_⟩,d1,d2⟩;have hy:y∈(ite (q=k) (Fj eqS (Ao4 p.W p.W.n) (⟨c==0,v⟩:N0) (M.g k)) (M.g q)):=hy;by_cases g:q=k
  .subst g;rw[Kb rfl]at hy;rcases AM3 hy with hy|rfl
   .exact a.2 q y hy
   grind
  rw[Kd g]at hy;exact a.2 q y hy
def ro {B:Type}(g:Nat->Option B):Nat->Nat->List B
 |0,_=>[]
 |m+1,k=>(g k).toList++ro g m (k+1)
def gr {B:Type}(g:Nat->Nat->Option B)(w:Nat->Nat):Nat->Nat->List B
 |0,_=>[]
 |m+1,i=>ro (g i) (w i) 0++gr g w m (i+1)
theorem BK2 {B:Type}{g:Nat->Option B}{b:B}:∀{m k:Nat},b∈ro g m k->∃a,k<=a/\a<k+m/\g a=some b
 |m+1,k,h=>by
  rcases Cy7.1 h with h|h
  .grind
  obtain⟨a,_,_,h⟩:=BK2 h
  grind
theorem AM4 {B:Type}{g:Nat->Nat->Option B}{w:Nat->Nat}{b:B}:∀{m i:Nat},b∈gr g w m i->∃a k,a<i+m/\k<w a/\g a k=some b
 |m+1,i,h=>by
  rcases Cy7.1 h with h|h
  .grind[BK2]
  obtain⟨a,k,_,h⟩:=AM4 h
  grind
def ro_n {B:Type}(g:Nat->Option B):∀m k,(ro g m k).length<=m
 |0,_=>Ci9 0
 |m+1,k=>by
  have:=ro_n g m (k+1)
  have:(g k).toList.length<=1:=by cases g k<;>simp
  rw[ro,Ck6];omega
def Cf2 {B:Type}(g:Nat->Nat->Option B){w:Nat->Nat}{c:Nat}:∀m i,(∀a,a<i+m->w a<=c)->(gr g w m i).length<=m*c
 |0,_,_=>Cr0 _
 |m+1,i,hw=>by
  have:=Cf2 g m (i+1) λa ha=>hw a (by omega)
  have:=ro_n (g i) (w i) 0
  have:=hw i (by omega)
  rw[gr,Ck6,Cs3];omega
def AM5 {B:Type}{g g' : Nat->Option B}:∀{m k},(∀a,a<k+m->g a=g' a)->ro g m k=ro g' m k
 |0,_,_=>rfl
 |m+1,k,h=>by rw[ro,ro,h k (by omega),AM5 λa ha=>h a (by omega)]
def AM6 {B:Type}{g g' : Nat->Nat->Option B}{w:Nat->Nat}:∀{m i},(∀a k,a<i+m->k<w a->g a k=g' a k)->gr g w m i=gr g' w m i
 |0,_,_=>rfl
 |m+1,i,h=>by rw[gr,gr,AM5 λk hk=>h i k (by omega) (by omega),AM6 λa k ha=>h a k (by omega)]
def Cf3 {B C:Type}(g:Nat->Option B)(f:B->Option C):∀m k,(ro g m k).filterMap f=ro (λk=>(g k).bind f) m k
 |0,_=>rfl
 |m+1,k=>by rw[ro,ro,Cy9,Cf3 g f m];cases g k<;>grind
def BE8 {B C:Type}(g:Nat->Nat->Option B)(f:B->Option C)(w:Nat->Nat):∀m i,(gr g w m i).filterMap f=gr (λi k=>(g i k).bind f) w m i
 |0,_=>rfl
 |m+1,i=>by rw[gr,gr,Cy9,BE8 g f w m,Cf3]
def BE9 {B R:Type}{N n:Nat}{w:Nat->Nat}(g:Nat->Nat->Option B)(step:B->Option R->Option R){e:Option R}{F:(Int->Option R)->Int->Option R}{G:Nat->(Int->Option R)->(Int->Option R)->Int->Option R}(hn:n<N)(hw:∀i,i<n->w i<N)
 (h1:∀a i,i<n->F a (i:Int)=N3 N (G i a) 0) (f:∀a,F a (n:Int)=e)
 (j:∀i a self2,i<n->G i a self2 (w i:Int)=a ((i+1:Nat):Int))
 (l:∀i k a self2,i<n->k<w i->G i a self2 (k:Int)=match g i k with|some b=>step b (self2 ((k+1:Nat):Int))|none=>self2 ((k+1:Nat):Int)):N3 N F 0=(gr g w n 0).foldr step e:=by
 have row:∀i a,i<n->∀q k M,k+q=w i->q<M->N3 M (G i a) (k:Int)=(ro (g i) q k).foldr step (a ((i+1:Nat):Int)):=λi a c q=>by
  induction q with
  |zero=>
   intro k M hk d;obtain⟨M,rfl⟩:∃K,M=K+1:=⟨M-1,by omega⟩;obtain rfl:k=w i:=by omega
   rw[U2,j _ _ _ c];rfl
  |succ q ih=>intro k M hk d;obtain⟨M,rfl⟩:∃K,M=K+1:=⟨M-1,by omega⟩;rw[U2,l _ _ _ _ c (by omega),ih (k+1) M (by omega) (by omega),ro];cases g i k<;>rfl
 have all:∀m i M,i+m=n->m<M->N3 M F (i:Int)=(gr g w m i).foldr step e:=λm=>by
  induction m with
  |zero=>
   intro i M c d;obtain⟨M,rfl⟩:∃K,M=K+1:=⟨M-1,by omega⟩;obtain rfl:i=n:=by omega
   rw[U2,f];rfl
  |succ m ih=>
   intro i M c d;obtain⟨M,rfl⟩:∃K,M=K+1:=⟨M-1,by omega⟩;rw[U2,h1 _ _ (by omega),gr,List.foldr_append,<- ih (i+1) M (by omega) (by omega)]
   grind
 grind
def foldr_cons {B:Type}:∀L:List B,L.foldr BN (some [])=some L
 |[]=>rfl
 |b::L=>by rw[List.foldr_cons,foldr_cons L];rfl
abbrev Hy {B:Type}(z:Sl B)(L:List B):Sl B:=L.foldl Sl.push z
theorem Uj {B:Type}:∀(L:List B) (z:Sl B),(Hy z L).n=z.n+L.length
 |[],z=>rfl
 |b::L,z=>by show (Hy (z.push b) L).n=_;rw[Uj L];grind
def Cf4 {B R:Type}{N n c:Nat}{w:Nat->Nat}(g:Nat->Nat->Option B){E:Sl B->Option R}{z:Sl B}{F:(Sl B->Int->Option R)->Sl B->Int->Option R}{G:Nat->(Sl B->Int->Option R)->(Sl B->Int->Option R)->Sl B->Int->Option R}(hn:n<N)(hw:∀i,i<n->w i<=c)(hc:c<N)(r:z.n+n*c<=100000)
 (h1:∀a x i,i<n->F a x (i:Int)=V7 N (G i a) x 0) (j:∀a x,F a x (n:Int)=E x)
 (l:∀i a self2 x,i<n->G i a self2 x (w i:Int)=a x ((i+1:Nat):Int))
 (o:∀i k a self2 x,i<n->k<w i->x.n<=100000->G i a self2 x (k:Int)=match g i k with|some b=>self2 (x.push b) ((k+1:Nat):Int)|none=>self2 x ((k+1:Nat):Int)):V7 N F z 0=E (Hy z (gr g w n 0)):=by
 have row:∀i a,i<n->∀q k M x,k+q=w i->q<M->x.n+q<=100000->V7 M (G i a) x (k:Int)=a (Hy x (ro (g i) q k)) ((i+1:Nat):Int):=λi a d q=>by
  induction q with
  |zero=>
   intro k M x hk f hx;obtain⟨M,rfl⟩:∃K,M=K+1:=⟨M-1,by omega⟩;obtain rfl:k=w i:=by omega
   rw[H5,l _ _ _ _ d];rfl
  |succ q ih=>
   intro k M x hk f hx;obtain⟨M,rfl⟩:∃K,M=K+1:=⟨M-1,by omega⟩;rw[H5,o _ _ _ _ _ d (by omega) (by omega),ro];cases g i k with
   |none=>exact ih (k+1) M x (by omega) (by omega) (by omega)
   |some b=>exact ih (k+1) M (x.push b) (by omega) (by omega) (by grind)
 have all:∀m i M x,i+m=n->m<M->x.n+m*c<=100000->V7 M F x (i:Int)=E (Hy x (gr g w m i)):=λm=>by
  induction m with
  |zero=>
   intro i M x d f hx;obtain⟨M,rfl⟩:∃K,M=K+1:=⟨M-1,by omega⟩;obtain rfl:i=n:=by omega
   rw[H5,j];rfl
  |succ m ih=>intro i M x d f hx;obtain⟨M,rfl⟩:∃K,M=K+1:=⟨M-1,by omega⟩;have s:=hw i (by omega);have t:=ro_n (g i) (w i) 0;rw[Cs3]at hx;rw[H5,h1 _ _ _ (by omega),gr,Hy,List.foldl_append];refine (row i _ (by omega) (w i) 0 N x (by omega) (by omega) (by omega)).trans (ih (i+1) M _ (by omega) (by omega) ?_);rw[Uj];omega
 grind
abbrev frm (l:Sl Z1)(i k:Nat):N0:=(l.g i).Yz.g k
abbrev fwL (l:Sl Z1)(i:Nat):Nat:=(l.g i).Yz.n
def Bp7 (l:Sl Z1)(i k:Nat):Option (place×Sl Tr):=ite ((frm l i k).Has) (some (⟨(i:Int),(k:Int)⟩,(frm l i k).W)) none
def BF0 {N:Nat}{l:Sl Z1}(hn:l.n<N)(f:l.n<=256)(d:∀i,i<l.n->fwL l i<N/\fwL l i<=63):V2 N l=some (gr (Bp7 l) (fwL l) l.n 0):=by
 rw[<- foldr_cons];unfold V2;refine BE9 (Bp7 l) BN hn (by grind) (λa i c=>(Kb (by simp;omega)).trans (Gi)) (by grind) (λi a b c=>?_) λi k a b c hk=>?_
 .have:=d i c
  rw[Vc,Jn,Fy]
 have d:(l.g i).Yz.n<N/\(l.g i).Yz.n<=63:=d i c;have hk:k<(l.g i).Yz.n:=hk;rw[Vc,Gn,Gi,Fy,Vc,Bp7];split<;>rfl
def BK3 (N:Nat)(h:Yv)(p:Sl N0)(c:Int)(q:place×Sl Tr):Option A5:= (I1 N h (p.g q.1.entry.toNat) q.1.leaf (-1)).bind λd=>ite d.Has (ite (P5 N d.W q.2=some true) none (some ⟨q.1.entry,q.1.leaf,1,c⟩)) (some ⟨q.1.entry,q.1.leaf,2,c⟩)
def BV0 {N:Nat}(hN:3000000<=N){h:Yv}(a:P8 h){p:Sl N0}{l:Sl Z1}(hp:IX p)(hl:Xi l)(ha:Vy N h p l){c:Int}(hc:0<=c/\c<=1073741824) :∃b,EZ N h p l c=some (b,0)/\KJ N h p l c=some (b,0)/\b.n<=100000:=by
 have h63:=KO ha.hist.tree;have hn:=ha.n;have hpn:=ha.pn;have hw:∀i,i<l.n->fwL l i<N/\fwL l i<=63:=λi a=>by have:=ha.fn i a;grind
 have o:¬((decide (c<0))||(decide (1073741824<c)))=true:=by grind
 have e0:=(Bm2 (N:=N) (by omega) hp hl).2 ha;obtain⟨X,x1,x2⟩:=AE0 hN a ha.hist;have hX:=x2.1;generalize hT:Hy (Sl.nil:Sl A5) (gr (λi k=>(Bp7 l i k).bind (BK3 N h p c)) (fwL l) l.n 0)=T;have hlen:=λ(B:Type) (g:Nat->Nat->Option B)=>Cf2 (c:=63) g (w:=fwL l) l.n 0 (by grind);have key:∀i k,i<l.n->k<fwL l i->∀M,AZ0 N X M->∃v b M' d,R8 N (p.g i) (k:Int) M X=some (v,b,M')/\AZ0 N X M' /\ I1 N h (p.g i) (k:Int) (-1)=some ⟨b,d⟩/\(b=true->∃t,Z3 N v (frm l i k).W=some t/\P5 N d (frm l i k).W=some t):=λi k j hk M hM=>by
  have:=ha.fn i j
  have hk:k<(l.g i).Yz.n:=hk;obtain⟨v,b,M',d,d1,d2,d3,d4⟩:=BE7 hN a ha.hist x2 (ha.pw i (by omega)) (k:=k) (by omega) hM;refine⟨v,b,M',d,d1,d2,d3,λhb=>?_⟩;obtain⟨s1,s2⟩:=d4 hb;have h5:=s2.1;have h4:=s1.1;obtain⟨t,b1,b2⟩:=Bp1 (N:=N) (x:=v) (y:=(frm l i k).W) (by omega) (by omega);obtain⟨t',b3,b4⟩:=Bp2 (N:=N) (x:=d) (y:=(frm l i k).W) (by omega) (by omega);obtain rfl:t' = t:=by rw[Cj9,b2,b4];exact⟨λg=>s1.trans g,λg=>s1.symm.trans g⟩
  grind
 have r:AZ0 N X ⟨X.n,λ_=>[]⟩:=⟨rfl,by grind⟩;refine⟨T,?_,?_,?_⟩
 .refine eqR ?_;unfold EZ BF;refine B4 (Xl hN a hp hl) (Fv (ifF o (B4 x1 (B4 rfl (B4 (BF0 (by omega) hn hw) ?_)))));refine AX3 (λR (s:Sl (List (Str×N0))×Sl A5)=>AZ0 N X s.1/\s.2.n+R.length<=100000/\(∀q∈R,∃i k,i<l.n/\k<fwL l i/\Bp7 l i k=some q)/\Hy s.2 (R.filterMap (BK3 N h p c))=T) (by grind) ?_ _ _ ⟨r,?_,λq hq=>?_,by rw[BE8];omega⟩
  .rintro q R ⟨M,z⟩ f ⟨m1,m2,m3,m4⟩ hs;obtain⟨i,k,j,hk,hq⟩:=m3 q (by simp);obtain⟨v,b,M',d,d1,d2,d3,d4⟩:=key i k j hk M m1;unfold Bp7 at hq;split at hq
   case isFalse=>grind
   obtain rfl:=Cm9 hq;simp at m2;have m2:z.n+(R.length+1)<=100000:=m2;have m4:Hy z (_::R |>.filterMap (BK3 N h p c))=T:=m4;have hx:BK3 N h p c (⟨(i:Int),(k:Int)⟩,(frm l i k).W)=ite b (ite (P5 N d (frm l i k).W=some true) none (some ⟨(i:Int),(k:Int),1,c⟩)) (some ⟨(i:Int),(k:Int),2,c⟩):=by
    grind[BK3,Int.toNat_natCast]
   rw[Cv8,hx]at m4;have m3' : ∀q∈R,∃i k,i<l.n/\k<fwL l i/\Bp7 l i k=some q:=(by grind);refine Bu (B4 (by dsimp only;rw[Vc];exact d1) ?_);dsimp only;cases b
   .exact ifT rfl (Bu (hs (M',z.push _) (by grind)))
   obtain⟨t,t1,t2⟩:=d4 rfl;rw[t2]at m4;refine Fn (B4 t1 ?_);cases t
   .exact ifT rfl (Bu (hs (M',z.push _) (by grind)))
   exact Fn (hs (M',z) (by grind))
  all_goals grind[Bp7,AM4]
 .unfold KJ;rw[TZ hN a hp hl,e0,Ci2,Jz,Kd o,<- hT];refine Cf4 (c:=63) _ (E:=λx=>some (x,0)) (by omega) (by grind) (by omega) (by grind) (λf x i a=>Kb (by simp;omega)) (by grind) (λi f m x a=>?_) λi k f m x a hk hx=>?_
  .rw[Vc,Gi,Jn,Fy]
  have hk63:=hw i a;have hk' : k<(l.g i).Yz.n:=hk;obtain⟨v,b,M',d,_,_,d3,d4⟩:=key i k a hk _ r;have u:DT N h (p.g i) (k:Int) ((l.g i).Yz.g k) (-1)=ite b (P5 N d (frm l i k).W) (some false):=by
   unfold DT;rw[d3,Ci2];cases b
   .rfl
   obtain⟨t,_,t2⟩:=d4 rfl;show (P5 N d (frm l i k).W).bind _=P5 N d (frm l i k).W;rw[t2];rfl
  have hx:((Bp7 l i k).bind (BK3 N h p c))=ite ((frm l i k).Has) (ite b (ite (P5 N d (frm l i k).W=some true) none (some ⟨(i:Int),(k:Int),1,c⟩)) (some ⟨(i:Int),(k:Int),2,c⟩)) none:=by
   grind[Bp7,BK3,Int.toNat_natCast]
  rw[Vc,Vc,Gi,Gn,Gi,Fy];by_cases hf:(frm l i k).Has=true
  case neg=>rw[hx,Gn,Kd hf]
  have sz:∀e:A5,(x.n+(Sl.of [e]:Sl A5).n)*32<=140737488355328/\x.n+(Sl.of [e]:Sl A5).n<=140737488355328:=λe=>by show (x.n+1)*32<=_/\x.n+1<=_;omega
  rw[Jq,Gi,u,hx,Kb hf];cases b
  .grind
  grind
 grind[Bp7,bind,BK3,Uj]
def Pz {B:Type}[Inhabited B](f:Nat->B):Nat->Sl B
 |0=>Sl.nil
 |m+1=>(Pz f m).push (f m)
def MY {B:Type}[Inhabited B](f:Nat->B):∀m,(Pz f m).n=m
 |0=>rfl
 |m+1=>congrArg (· + 1) (MY f m)
theorem Uk {B:Type}[Inhabited B](f:Nat->B):∀{m i:Nat},i<m->(Pz f m).g i=f i
 |m+1,i,hi=>by
  show (ite (i<(Pz f m).n) ((Pz f m).g i) _)=_;rw[MY];split
  .exact Uk f (by omega)
  grind
def swL (s:Sl Int)(k:Nat):Sl Int:=(s.upd k (s.g (k+1))).upd (k+1) (s.g k)
def swO (h:Yv)(u k:Nat):Sl (Sl Int):=(Pz h.On.g h.On.n).upd u (swL (h.On.g u) k)
def swD (h:Yv)(u k:Nat):Yv:=⟨h.Tree,h.Laws,swO h u k⟩
def swP (h:Yv)(u k:Nat):Yv:=⟨h.Tree,Pz h.Laws.g h.Laws.n,swO h u k⟩
def swO_n (h:Yv)(u k:Nat):(swO h u k).n=h.On.n:=MY _ _
def Cf5 {h:Yv}{u k v:Nat}(a:v<h.On.n):((swO h u k).g v).n=(h.On.g v).n/\∀j,k+1<(h.On.g u).n->j<(h.On.g v).n->∃i,i<(h.On.g v).n/\((swO h u k).g v).g j=(h.On.g v).g i:=by
 have e:(swO h u k).g v=ite (v=u) (swL (h.On.g u) k) (h.On.g v):=by show (ite (v=u) _ ((Pz h.On.g h.On.n).g v))=_;rw[Uk _ a]
 rw[e];by_cases g:v=u
 .subst g;rw[Kb rfl];refine⟨rfl,λj hk b=>⟨ite (j=k+1) k (ite (j=k) (k+1) j),by grind,?_⟩⟩;show (ite (j=k+1) _ (ite (j=k) _ _))=_
  grind
 rw[Kd g]
 grind
def swI (h:Yv)(v i:Int):Prop:=∃u k:Nat,v=(u:Int)/\i=(k:Int)/\u<h.Tree.n/\k+1<(h.On.g u).n
def BK4 {h:Yv}{v place:Int}(a:h.On.n=h.Tree.n):(!((decide (0<=v))&&(decide (v<(h.Tree.n:Int)))))=false->((decide (place<0))=false->((0:Int)<=v/\v<(h.On.n:Int))):=by grind
def Rq (q:3000000<=N){h:Yv}(d:P8 h)(a:Aw N h){u k:Nat}(w:u<h.Tree.n)(hk:k+1<(h.On.g u).n):T9 N h (u:Int) (k:Int)=some (swP h u k,0)/\Dr N h (u:Int) (k:Int)=some (swD h u k,0):=by
 have y:=a.tree.2.1;have t:=a.laws.1;have z:=a.on;have ho:=(An4 a w).1;have eP:wrap .i64 (((h.On.g u).n:Int)-1)=(((h.On.g u).n-1:Nat):Int):=Cd4 (by omega) (by omega);have eK:wrap .i64 ((k:Int)+1)=((k+1:Nat):Int):=Fy;have c:((decide (0<=(u:Int)))&&(decide ((u:Int)<(h.Tree.n:Int))))=true:=by grind
 have rn:=MY h.On.g;have ru:=Uk h.On.g (m:=h.On.n) (i:=u) (by omega);unfold T9 Dr;rw[Ln q d,Ij q d,hres_zero.2 a];simp only[Ci2,Vc,eP,eK];refine⟨eqR (Fn (B4 rfl ?_)),eqR (Fn (B4 rfl ?_))⟩<;>rw[c]<;>refine ifT (λ_ _=>by omega) (Ci ?_)
 .refine B4 (x:=h.Tree) (Gi) ?_;refine S3 (λi (x1:Sl Law) x2=>x2=(i:Int)/\x1=Pz h.Laws.g i) h.Laws.n _ (by omega) ⟨rfl,rfl⟩ ?_;rintro f i x1 x2 hle ⟨rfl,rfl⟩ hs;have hn:=MY h.Laws.g i;by_cases b:i<h.Laws.n
  .refine Bu (Ai ?_);rw[Vc];exact B4 (An3 q (d.laws i b) (a.laws.2 i b)) (Bu (hs b _ _ ⟨Fy,rfl⟩))
  obtain rfl:i=h.Laws.n:=by omega
  refine Eh ?_;refine S3 (λv (x3:Sl (Sl Int)) x4=>x4=(v:Int)/\x3=Pz h.On.g v) h.On.n _ (by omega) ⟨rfl,rfl⟩ ?_;rintro r v x3 x4 hv ⟨rfl,rfl⟩ s;have j:=rn v;by_cases l:v<h.On.n
  .have o:=d.len v l;refine Bu (Ai ?_);rw[Vc];exact B4 (x:=h.On.g v) (Gi) (Bu (s l _ _ ⟨Fy,rfl⟩))
  obtain rfl:v=h.On.n:=by omega
  rw[ru];exact Eh (Ai (Ai ⟨_,rfl,rfl⟩))
 refine B4 (x:=⟨h.Tree,h.Laws,Pz h.On.g h.On.n⟩) (eqR ?_) ?_
 .unfold Lj;refine Ai (Ai ?_);refine S3 (λi x (X:Sl (Sl Int))=>x=(i:Int)/\X=Pz h.On.g i) h.On.n _ (by omega) ⟨rfl,rfl⟩ ?_;rintro f i x X hle ⟨rfl,rfl⟩ hs;have j:=rn i;by_cases b:i<h.On.n
  .have o:=d.len i b;refine Bu (Ai ?_);rw[Vc];exact Ai (Ai (hs b _ _ ⟨Fy,rfl⟩))
  grind
 have j:=rn h.On.n;dsimp only;rw[ru];exact Ai (Ai ⟨_,rfl,rfl⟩)
def BV1 (b:3000000<=N){h:Yv}(c:P8 h)(a:Aw N h){v place:Int}(hs:¬swI h v place):∃g,T9 N h v place=some (g,3)/\Dr N h v place=some (g,3):=by
 have hb:(((!((decide (0<=v))&&(decide (v<(h.Tree.n:Int)))))||(decide (place<0)))||(decide ((wrap .i64 (((h.On.g v.toNat).n:Int)-1))<=place)))=true:=by
  by_cases d:0<=v/\v<(h.Tree.n:Int)
  .obtain⟨u,rfl⟩:∃u:Nat,v=(u:Int):=⟨v.toNat,by omega⟩;have f:=(An4 a (x:=u) (by omega)).1;rw[Vc,show wrap .i64 (((h.On.g u).n:Int)-1)=((h.On.g u).n:Int)-1 from Y0];by_cases hp:place<0
   .grind
   have:((h.On.g u).n:Int)-1<=place:=Co0 λhc=>hs ⟨u,place.toNat,rfl,by omega,by omega,by omega⟩
   grind
  grind
 refine⟨⟨Sl.nil,Sl.nil,Sl.nil⟩,?_,?_⟩
 .unfold T9;rw[Ln b c,hres_zero.2 a];exact eqR (B4 rfl (Fn (B4 rfl (ifT (BK4 a.on) (by grind)))))
 unfold Dr;rw[Ij b c,hres_zero.2 a];exact eqR (B4 rfl (Fn (B4 rfl (ifT (BK4 a.on) (by grind)))))
def AE2 {h:Yv}(ht:Bn h.Tree)(a:h.On.n=h.Tree.n){u k:Nat}{L:Sl Law}:∀(m v:Nat),v<=m->v<h.Tree.n->N6 ⟨h.Tree,L,swO h u k⟩ v=N6 (swD h u k) v/\(N6 (swD h u k) v).n=(N6 h v).n
 |m,v,hm,hv=>by
  have e:=(Cf5 (h:=h) (u:=u) (k:=k) (v:=v) (by omega)).1;rcases Av ht hv with⟨_,p⟩ | ⟨p,hp,e⟩
  .rw[AE (h:=h) (by omega),AE (h:=⟨h.Tree,L,swO h u k⟩) (by grind),AE (h:=swD h u k) (by show (h.Tree.g v).Yx<0;omega)];exact⟨rfl,by show 0+((swO h u k).g v).n=0+_;omega⟩
  rw[EI (h:=h) e hp,EI (h:=⟨h.Tree,L,swO h u k⟩) e hp,EI (h:=swD h u k) e hp]
  match m with
  |0=>omega
  |m+1=>obtain⟨i1,i2⟩:=AE2 ht a (u:=u) (k:=k) (L:=L) m p (by omega) (by omega);exact⟨by rw[i1];rfl,by show _+((swO h u k).g v).n=_+_;omega⟩
def Cf6 {h:Yv}(l:P8 h)(c:Aw N h){u k:Nat}(hk:k+1<(h.On.g u).n){L:Sl Law}(hn:L.n=h.Laws.n)(m:∀i,i<L.n->L.g i=h.Laws.g i):P8 ⟨h.Tree,L,swO h u k⟩/\Aw N ⟨h.Tree,L,swO h u k⟩:=by
 have f:=c.on;have r:=swO_n h u k;have hR:=λv (d:v<h.On.n)=>Cf5 (h:=h) (u:=u) (k:=k) d;refine⟨⟨λi hl=>?_,l.tree,by show (swO h u k).n<_;rw[r];exact l.on,λv d=>?_⟩,⟨c.tree,⟨by show L.n<=64;rw[hn];exact c.laws.1,λi hl=>?_⟩,?_,r.trans f,?_,λv d=>?_⟩⟩
 .have hl:i<L.n:=hl;show Vw (L.g i);rw[m i hl];exact l.laws i (by omega)
 .have d:v<(swO h u k).n:=d;show ((swO h u k).g v).n<_;rw[(hR v (by omega)).1];exact l.len v (by omega)
 .have hl:i<L.n:=hl;show chkAll N (L.g i);rw[m i hl];exact c.laws.2 i (by omega)
 .rintro⟨a,b,h1,q,o⟩;have q:b<L.n:=q;have o:(L.g a).Name=(L.g b).Name:=o;rw[m a (by omega),m b q]at o;exact c.dup ⟨a,b,h1,by omega,o⟩
 .rintro⟨v,d,hl⟩;have d:v<(swO h u k).n:=d;obtain⟨l1,l2⟩:=AE2 c.tree f (u:=u) (k:=k) (L:=L) v v (Ci9 _) (by omega);rw[l1,l2]at hl;exact c.long ⟨v,by omega,hl⟩
 have d:v<(swO h u k).n:=d;rintro⟨j,s,hb⟩;have s:j<((swO h u k).g v).n:=s;obtain⟨r1,r2⟩:=hR v (by omega);obtain⟨i,i1,i2⟩:=r2 j hk (by omega);have hb:((swO h u k).g v).g j<0 \/ (L.n:Int)<=((swO h u k).g v).g j:=hb;rw[i2,hn]at hb;exact c.bad v (by omega) ⟨i,i1,hb⟩
def Bp8 {h:Yv}(b:P8 h)(a:Aw N h){u k:Nat}(hk:k+1<(h.On.g u).n):P8 (swD h u k)/\Aw N (swD h u k):=Cf6 b a hk rfl λ_ _=>rfl
def BK5 {h:Yv}(b:P8 h)(a:Aw N h){u k:Nat}(hk:k+1<(h.On.g u).n):P8 (swP h u k)/\Aw N (swP h u k):=Cf6 b a hk (MY _ _) λi hl=>Uk _ (by rwa [MY]at hl)
def lw_sw {h:Yv}(c:P8 h)(a:Aw N h){u k:Nat}(hk:k+1<(h.On.g u).n){v:Nat}(b:v<h.Tree.n):lw (swP h u k) v=lw (swD h u k) v:=by
 have hl:=ZA (Bp8 c a hk).2 v v (Ci9 _) b;have e:N6 (swP h u k) v=N6 (swD h u k) v:=(AE2 a.tree a.on v v (Ci9 _) b).1
 have:∀m,m<=(N6 (swD h u k) v).n->pk (swP h u k) (N6 (swD h u k) v) m=pk (swD h u k) (N6 (swD h u k) v) m:=λm=>by
  induction m with
  |zero=>exact λ_=>rfl
  |succ m ih=>
   grind[N6,swD,pk,swP,Pz,Uk]
 simp_all[lw,Ci9]
def Bp9 (b:3000000<=N){p:A8}(hp:MW p)(a:Ub N p=0):Vy N p.Yv p.Yu p.Yy:=by
 unfold Ub at a;split at a
 .omega
 split at a
 .omega
 exact (Bm2 (by omega) hp.pro hp.ent).1 a
noncomputable def rg (N:Nat) (p:A8) (g:Yv) (i k:Nat):Bool:=F6 N (lw g ((Q7 p.Yv.Tree p.Yv.Tree.n).g k).toNat) (p.Yu.g i) (frm p.Yy i k)==some true
theorem Bq0 (d:3000000<=N){p:A8}(ha:Vy N p.Yv p.Yu p.Yy){g:Yv}(f:P8 g)(a:Aw N g)(ht:g.Tree=p.Yv.Tree){i k:Nat}(c:i<p.Yy.n)(hk:k<fwL p.Yy i) :F6 N (lw g ((Q7 p.Yv.Tree p.Yv.Tree.n).g k).toNat) (p.Yu.g i) (frm p.Yy i k)=some (rg N p g i k)/\Af N p g (i:Int) (k:Int)=some (rg N p g i k):=by
 have r:=ha.fn i c;have j:=ha.pn;have hk:k<(p.Yy.g i).Yz.n:=hk;obtain⟨u,s,e⟩:=MU p.Yv.Tree p.Yv.Tree.n k (by omega);have l:=KO ha.hist.tree;have key:∃b,F6 N (lw g ((Q7 p.Yv.Tree p.Yv.Tree.n).g k).toNat) (p.Yu.g i) (frm p.Yy i k)=some b/\Af N p g (i:Int) (k:Int)=some b:=by
  unfold Af;simp only[Vc];rw[Gi];by_cases m:(p.Yu.g i).Has=true/\(frm p.Yy i k).Has=true
  case neg=>
   refine⟨false,?_,Gn⟩
   simp_all[F6,Kb]
  obtain⟨b,q,b1,b2,b3⟩:=BU3 d f a (u:=u) (by rw[ht];omega) (ha.pw i (by omega)) m.2;have o:p.Yu.g i=⟨true,(p.Yu.g i).W⟩:=by cases h:p.Yu.g i;grind
  rw[e,Vc];refine⟨b,by rw[o];omega,?_⟩;rw[Jq,(Ik d (ht ▸ f.tree) (ht ▸ a.tree)).2,Ci2,ht]
  grind
 obtain⟨b,b1,b2⟩:=key
 have:rg N p g i k=b:=by grind[rg]
 rw[this]
 grind
def rgG (P:Nat->Nat->Bool)(i k:Nat):Option C8:=bif P i k then some ⟨(i:Int),(k:Int)⟩else none
noncomputable def chg (N:Nat) (p:A8) (g:Yv):Option C8:=(gr (rgG λi k=>rg N p p.Yv i k && !rg N p g i k) (fwL p.Yy) p.Yy.n 0).head?
def AZ1 {B R:Type}(f:B->Option R)(e:Option R):∀L:List B,L.foldr (λb _=>f b) e=L.head?.elim e f
 |[]=>rfl
 |b::L=>rfl
def Ul (c:3000000<=N){p:A8}(hp:P8 p.Yv)(ha:Vy N p.Yv p.Yu p.Yy){g:Yv}(d:P8 g)(b:Aw N g)(ht:g.Tree=p.Yv.Tree){i k:Nat}(a:i<p.Yy.n)(hk:k<fwL p.Yy i) :Ag N p g (i:Int) (k:Int)=some (rg N p p.Yv i k && !rg N p g i k):=by unfold Ag;rw[(Bq0 c ha hp ha.hist rfl a hk).2,(Bq0 c ha d b ht a hk).2,Ci2];cases rg N p p.Yv i k<;>rfl
def Bq1 (j:3000000<=N){p:A8}(hp:P8 p.Yv)(ha:Vy N p.Yv p.Yu p.Yy){g:Yv}(l:P8 g)(f:Aw N g)(ht:g.Tree=p.Yv.Tree) :GN N p g=(chg N p g).elim (some (0,0,false)) λb=>some (b.a0,b.a1,true):=by
 have m:=KO ha.hist.tree;have hn:=ha.n;unfold chg;rw[<- AZ1 (λb:C8=>some (b.a0,b.a1,true))];unfold GN;refine BE9 _ _ (by omega) (λi a=>by have:=ha.fn i a;grind) (λc i a=>Kb (by simp;omega)) (by grind) (λi c d a=>?_) λi k c d a hk=>?_
 .rw[Vc,Gi,Jn,Fy]
 have o : k<(p.Yy.g i).Yz.n:=hk
 have:=ha.fn i a
 rw[Vc,Gi,Gn,Ul j hp ha l f ht a hk,Ci2,Fy,rgG];cases rg N p p.Yv i k && !rg N p g i k<;>rfl
abbrev sP (p:A8)(v:Nat):Nat:=(p.Yv.On.g v).n-1
noncomputable def swG (N:Nat) (p:A8) (v i:Nat):Option Br:=(chg N p (swD p.Yv v i)).map λb=>⟨(v:Int),(i:Int),b.a0,b.a1⟩
def AZ2 (f:3000000<=N){p:A8}(hp:MW p)(ha:Vy N p.Yv p.Yu p.Yy)(l:Ub N p=0):GO N p=some (Hy Sl.nil (gr (swG N p) (sP p) p.Yv.On.n 0),0):=by
 have m:=ha.hist.on;have o:=ha.hist.tree.2.1;have j:∀i,i<p.Yv.On.n->(p.Yv.On.g i).n<=64:=λi d=>(An4 ha.hist (x:=i) (by omega)).1;unfold GO;rw[rChk f hp,l,Ci2,Jz];refine Cf4 (c:=64) (swG N p) (E:=λx=>some (x,0)) (by omega) (by grind) (by omega) (by grind) (λa x i d=>Kb (by simp;omega)) (by grind) (λi a b x d=>?_) λi k a b x d hk hx=>?_
 .have:=j i d
  have e:sP p i=(p.Yv.On.g i).n-1:=rfl;rw[Vc,Gi,Fy,Jq,Fy]
 have:=j i d
 have hk:k<(p.Yv.On.g i).n-1:=hk;obtain⟨g1,g2⟩:=Bp8 hp.hist ha.hist (u:=i) (k:=k) (by omega);rw[Vc,Gi,Fy,Gn,(Rq f hp.hist ha.hist (by omega) (by omega)).2,Ci2];dsimp only;rw[Bq1 f hp.hist ha g1 g2 rfl,swG];cases chg N p (swD p.Yv i k)<;>grind
def Cf7 {p:A8}(b:P8 p.Yv)(ha:Vy N p.Yv p.Yu p.Yy){u v:Nat}(c:v+1<(p.Yv.On.g u).n){i k:Nat}(a:i<p.Yy.n)(hk:k<fwL p.Yy i):rg N p (swP p.Yv u v) i k=rg N p (swD p.Yv u v) i k:=by have hk:k<(p.Yy.g i).Yz.n:=hk;obtain⟨w,hw,e⟩:=MU p.Yv.Tree p.Yv.Tree.n k (by rw[<- ha.fn i a];omega);unfold rg;rw[e,Vc,lw_sw b ha.hist c hw]
def OI (c:3000000<=N){p:A8}(ha:Vy N p.Yv p.Yu p.Yy){g:Yv}(d:P8 g)(a:Aw N g)(ht:g.Tree=p.Yv.Tree):∃X,Q1 N g=some X/\X.n=(Q7 p.Yv.Tree p.Yv.Tree.n).n/\∀i k,i<p.Yy.n->k<fwL p.Yy i->F6 N (X.g k) (p.Yu.g i) (frm p.Yy i k)=some (rg N p g i k):=by
 obtain⟨X,x1,x2,x3⟩:=BE3 c d a;rw[ht]at x2 x3;refine⟨X,x1,x2,λi k b hk=>?_⟩;rw[x3 k (by have:=ha.fn i b;have hk:k<(p.Yy.g i).Yz.n:=hk;omega)]
 grind[Bq0]
theorem BK6:∀(L:List C8) (z:Sl C8),z.n+L.length<=100000->T2 L (λa (x1:C8) (z1:Sl C8)=>
 if (Va 16 (z1.n+(Sl.of [x1]:Sl C8).n))then
  a (z1.push x1)
 else none
 ) (λ(z1:Sl C8)=>some z1) z=some (Hy z L)
 |[],z,_=>rfl
 |x::L,z,h=>by simp at h;exact (Gn).trans (BK6 L (z.push x) (by grind))
def AM7 {B:Type}:∀(L:List B) (z:Sl B),(Hy z L).toList=z.toList++L
 |[],z=>by simp
 |b::L,z=>by show (Hy (z.push b) L).toList=_;rw[AM7 L,Ug];simp
def AZ3 (hN:3000000<=N){p:A8}(hp:MW p)(ha:Vy N p.Yv p.Yu p.Yy)(h0:Ub N p=0):DP N p=some (Hy Sl.nil (gr (swG N p) (sP p) p.Yv.On.n 0),0):=by
 have hon:=ha.hist.on;have h63:=ha.hist.tree.2.1;have hl63:=KO ha.hist.tree;have hn:=ha.n;have hpn:=ha.pn;have ho:∀i,i<p.Yv.On.n->(p.Yv.On.g i).n<=64:=λi o=>(An4 ha.hist (x:=i) (by omega)).1;have hF:∀i,i<p.Yy.n->fwL p.Yy i<=63:=λi hil=>by have:=ha.fn i hil;grind
 obtain⟨X,x1,x2,x3⟩:=OI hN ha hp.hist ha.hist rfl;generalize hL:gr (rgG (rg N p p.Yv)) (fwL p.Yy) p.Yy.n 0=L;have hLn:L.length<=p.Yy.n*63:=by rw[<- hL];exact Cf2 _ _ _ (by grind)
 have r:Bi N p X=some L:=by
  rw[<- foldr_cons,<- hL];unfold Bi;refine BE9 _ _ (by omega) (by grind) (λd i o=>(Kb (by simp;omega)).trans (Gi)) (by grind) (λi d l o=>?_) λi k d l o hk=>?_
  .rw[Vc,Jn,Fy]
  have:=hF i o
  have hf:=ha.fn i o;have hk' : k<(p.Yy.g i).Yz.n:=hk;rw[Vc,Gn,Gi,Gi,Vc,x3 i k o hk,Ci2,Fy,rgG];cases rg N p p.Yv i k<;>rfl
 have hex:V4 N p=some (gr (λv i=>some ((⟨(v:Int),(i:Int)⟩:C8),swP p.Yv v i)) (sP p) p.Yv.On.n 0):=by
  rw[<- foldr_cons];unfold V4;refine BE9 _ _ (by omega) (by grind) (λd i o=>(Kb (by simp;omega)).trans (Gi)) (by grind) (λi d l o=>?_) λi k d l o hk=>?_
  .have:=ho i o
   have e:sP p i=(p.Yv.On.g i).n-1:=rfl;rw[Vc,Kd (by rw[Y0];grind),Fy]
  have:=ho i o
  have hk:k<(p.Yv.On.g i).n-1:=hk;rw[Vc,Kb (by rw[Y0];grind),(Rq hN hp.hist ha.hist (by omega) (by omega)).1,Ci2,Fy]
 have m:(Hy (Sl.nil:Sl C8) L).toList=L:=by rw[AM7];rfl
 have hgn:(Hy (Sl.nil:Sl C8) L).n=L.length:=by rw[Uj];grind
 have t:∀b∈L,∃i k:Nat,b=⟨(i:Int),(k:Int)⟩/\i<p.Yy.n/\k<fwL p.Yy i:=λb hb=>by
  rw[<- hL]at hb
  grind[AM4,rgG,rg,Option.some.inj]
 have hc:O2 N L=some (Hy Sl.nil L):=by
  grind[O2,H8,BK6]
 generalize hY:Hy (Sl.nil:Sl C8) L=Y at m hgn hc;refine eqR ?_;unfold DP FI BG;refine B4 (pChk hN hp) (Fv (B4 x1 (B4 rfl (B4 r (B4 hc (B4 rfl (B4 hex ?_)))))));generalize hT:Hy (Sl.nil:Sl Br) (gr (swG N p) (sP p) p.Yv.On.n 0)=T;have hch:∀{v i},i+1<(p.Yv.On.g v).n->(L.filterMap λb=>bif rg N p (swP p.Yv v i) b.a0.toNat b.a1.toNat then none else some b).head? = chg N p (swD p.Yv v i):=λ{v i} o=>by
  rw[<- hL,BE8];unfold chg;rw[AM6 λa k h1 h2=>?_]
  have:=Cf7 hp.hist ha o (i:=a) (k:=k) (by omega) h2
  unfold rgG;dsimp only;rw[<- this];cases rg N p p.Yv a k
  all_goals simp_all
 have s:=Cf2 (c:=64) (λv i=>some ((⟨(v:Int),(i:Int)⟩:C8),swP p.Yv v i)) (w:=sP p) p.Yv.On.n 0 (by grind);have s:(Sl.nil:Sl Br).n+(gr (λv i=>some ((⟨(v:Int),(i:Int)⟩:C8),swP p.Yv v i)) (sP p) p.Yv.On.n 0).length<=100000:=by grind
 refine AX3 (λR (z:Sl Br)=>z.n+R.length<=100000/\(∀q∈R,∃v i:Nat,v<p.Yv.On.n/\i<sP p v/\q=((⟨(v:Int),(i:Int)⟩:C8),swP p.Yv v i))/\Hy z (R.filterMap λq=>swG N p q.1.a0.toNat q.1.a1.toNat)=T) (by grind) ?_ _ _ ⟨s,λq hq=>?_,?_⟩
 .rintro q R z d ⟨m1,m2,m3⟩ hs;obtain⟨v,i,hv,y,rfl⟩:=m2 q (by simp);simp at m1;have y:i<(p.Yv.On.g v).n-1:=y;have hl64:=ho v hv;obtain⟨g1,g2⟩:=BK5 hp.hist ha.hist (u:=v) (k:=i) (by omega);obtain⟨X',y1,y2,y3⟩:=OI hN ha g1 g2 rfl;have hC:=hch (v:=v) (i:=i) (by omega);have m3:Hy z (_::R |>.filterMap λq=>swG N p q.1.a0.toNat q.1.a1.toNat)=T:=m3;rw[Cv8]at m3;simp only[Vc,swG]at m3;have m2':=λq hq=>m2 q (Cn1 _ hq);refine B4 y1 ?_;refine X6 (λj x=>x=(j:Int)/\((L.drop j).filterMap λb=>bif rg N p (swP p.Yv v i) b.a0.toNat b.a1.toNat then none else some b).head? = chg N p (swD p.Yv v i)) Y.n _ (by omega) ⟨rfl,hC⟩ ?_;rintro self4 j x hj ⟨rfl,f⟩ hs4;by_cases hl:j<Y.n
  case neg=>rw[Cq1 (by omega)]at f;rw[<- f]at m3;exact Fv (hs z ⟨by omega,m2',m3⟩)
  have hd:=IW Y hl;rw[m]at hd;obtain⟨a,k,hb,h1,h2⟩:=t (Y.g j) (m ▸ Po hl);rw[hd,Cv8,hb]at f;have hf:=ha.fn a h1;have h2' : k<(p.Yy.g a).Yz.n:=h2;simp only[Vc]at f⊢;refine Bu (Ai ?_);rw[hb];simp only[Vc];refine Ai (B4 (y3 a k h1 h2) ?_);cases e:rg N p (swP p.Yv v i) a k
  .rw[e]at f;rw[<- f]at m3;exact ifT rfl (Bu (hs (z.push _) ⟨by grind,m2',m3⟩))
  rw[e]at f;exact Fn (hs4 hl _ ⟨Fy,f⟩)
 .grind[AM4,Option.some.inj]
 simp_all[BE8]
def AM8 (d:3000000<=N){p:A8}(hp:MW p)(price:Int):∃c e,Z6 N p price=some (c,e)/\Eu N p price=some (c,e)/\c.Bad.n<=100000/\c.Yw.n<=100000:=by
 unfold Z6 Eu DN IV;rw[pChk d hp,rChk d hp];simp only[Ci2];by_cases f:Ub N p=0
 case neg=>
  have hb:(Ub N p != 0)=true:=by grind
  simp_all
 have ha:=Bp9 d hp f;rw[f,Jz];by_cases g:0<=price/\price<=1073741824
 case neg=>
  rw[Gn]
  simp_all
 obtain⟨b,b1,b2,b3⟩:=BV0 d hp.hist hp.pro hp.ent ha g;rw[Jq,Ci2,b1,b2,AZ3 d hp ha f,AZ2 d hp ha f];refine⟨_,_,rfl,rfl,b3,?_⟩;have i:=ha.hist.tree.2.1;have j:=ha.hist.on
 have:=Cf2 (c:=64) (swG N p) (w:=sP p) p.Yv.On.n 0 λa h=>by have:=(An4 ha.hist (x:=a) (by omega)).1;grind
 grind[Uj]
def Cf8 (x y:A5):((x.Z1==y.Z1)&&((x.Ys==y.Ys)&&((x.Kind==y.Kind)&&(x.Cost==y.Cost))))=true↔x=y:=by cases x;cases y;simp
def Cf9 (x y:Br):((x.Node==y.Node)&&((x.Place==y.Place)&&((x.Z1==y.Z1)&&(x.Ys==y.Ys))))=true↔x=y:=by cases x;cases y;simp
def Bq2 {T:Type}(x y:Sl T):sB x y=sB y x:=by
 rw[Cj9,KR,KR]
 grind[SE.symm]
def AM9 (c:3000000<=N){a b:Z9}(h1:a.Bad.n<=100000)(d:a.Yw.n<=100000):FV N a b=some (sB a.Bad b.Bad&&sB a.Yw b.Yw):=by
 unfold FV;by_cases hn:a.Bad.n=b.Bad.n/\a.Yw.n=b.Yw.n
 .rw[Jq];refine eqK Cf8 hn.1 (by omega) (by omega) ?_;rw[<- Ct9 (sB a.Yw b.Yw)];exact eqK Cf9 hn.2 (by omega) (by omega) rfl
 rw[Gn];congr 1;rw[eq_comm,Cy8,Cq0,Cq0,Ne,Ne,KR,KR];have g1:SE a.Bad b.Bad->a.Bad.n=b.Bad.n:=λh=>h.1;have g2:SE a.Yw b.Yw->a.Yw.n=b.Yw.n:=λh=>h.1
 grind
def AZ4 (a:3000000<=N){p:A8}(hp:MW p)(price:Int){c:Z9}(h1:c.Bad.n<=300)(d:c.Yw.n<=300):∃r,X3 N p price c=some r/\Fh N p price c=some r:=by
 obtain⟨o,e,m1,m2,m3,m4⟩:=AM8 a hp price;unfold X3 Fh;rw[m1,m2,Ci2,Ci2];by_cases b:(e != 0)=true
 .simp_all
 refine⟨(sB c.Bad o.Bad&&sB c.Yw o.Yw,0),?_,?_⟩
 .rw[Kd b,show E4 N o.Bad c.Bad=_ from eqW Cf8 (by omega) (by omega),show H3 N o.Yw c.Yw=_ from eqW Cf9 (by omega) (by omega),Bq2 o.Bad,Bq2 o.Yw];cases sB c.Bad o.Bad<;>rfl
 rw[Kd b,AM9 a (by omega) (by omega)];rfl
def Ci0 (p:A8)(e l:Int):Bool:=(((decide (0<=e))&&(decide (e<(p.Yy.n:Int))))&&(decide (0<=l)))&&(decide (l<((p.Yy.g e.toNat).Yz.n:Int)))
def Bq3 {p:A8}(e l:Int):GA N p e l=some (Ci0 p e l)/\Ll N p e l=some (Ci0 p e l):=by
 have h:(decide (0<=e))=true->((decide (e<(p.Yy.n:Int)))=true->((decide (0<=l))=true->((0:Int)<=e/\e<(p.Yy.n:Int)))):=by grind
 exact⟨Kb h,Kb h⟩
def BF1 (b:3000000<=N){p:A8}(hp:MW p)(x:Br):∃r,Dl N p x=some r/\Ig N p x=some r:=by
 unfold Dl Ig Bh;rw[pChk b hp,rChk b hp,Ci2,Ci2];by_cases f:Ub N p=0
 case neg=>simp_all
 have ha:=Bp9 b hp f;rw[f,Jz,Jz];by_cases hs:swI p.Yv x.Node x.Place
 case neg=>obtain⟨g,g1,g2⟩:=BV1 b hp.hist ha.hist hs;rw[g1,g2];exact⟨_,rfl,rfl⟩
 obtain⟨u,k,e1,e2,l,hk⟩:=hs;rw[e1,e2,(Rq b hp.hist ha.hist l hk).1,(Rq b hp.hist ha.hist l hk).2];simp only[Ci2,lt,(Bq3 x.Z1 x.Ys).1,(Bq3 x.Z1 x.Ys).2,bne_self_eq_false,Ci8,Lw];by_cases d:Ci0 p x.Z1 x.Ys=true
 case neg=>
  rw[Cq0.2 d]
  simp_all
 rw[d];simp[Ci0]at d;obtain⟨i,m⟩:∃i:Nat,x.Z1=(i:Int):=(by grind);obtain⟨j,o⟩:∃j:Nat,x.Ys=(j:Int):=⟨x.Ys.toNat,by omega⟩;rw[m,o]at d⊢;rw[Vc]at d;have q:=ha.pn;have a:i<p.Yy.n:=by omega
 have c:j<fwL p.Yy i:=by grind
 have s:=ha.fn i a;obtain⟨a1,a2⟩:=BK5 hp.hist ha.hist hk;obtain⟨b1,b2⟩:=Bp8 hp.hist ha.hist hk;obtain⟨X,x1,x2,x3⟩:=OI b ha hp.hist ha.hist rfl;obtain⟨Y,y1,y2,y3⟩:=OI b ha a1 a2 rfl;refine⟨(rg N p p.Yv i j && !rg N p (swD p.Yv u k) i j,0),?_,?_⟩
 .simp only[Vc,Cq8,Ci8,Lw,Ci2];rw[Jz,Gi,x1,Ci2,Gi,x3 i j a c,Ci2];cases rg N p p.Yv i j
  .rfl
  rw[Kb rfl,y1,Ci2,Gi,y3 i j a c,Cf7 hp.hist ha hk a c];rfl
 show (Ag N p (swD p.Yv u k) (i:Int) (j:Int)).bind _=_;rw[Ul b hp.hist ha b1 b2 rfl a c];rfl
abbrev mpE:=List (C8×Int)
def ndK:mpE->Prop
 |[]=>True
 |(a,_)::es=>(∀e∈es,e.1≠a)/\ndK es
def eqK2 {a b:C8}:G0 a b=true↔a=b:=⟨AJ8 a b,by grind⟩
def Ao8 {k:C8}{v:Int}:∀{m:mpE},ndK m->ndK (Fj G0 k v m)/\∀e,e∈Fj G0 k v m↔e=(k,v) \/ (e∈m/\e.1≠k)
 |[],_=>⟨⟨by simp,trivial⟩,λe=>by simp[Fj]⟩
 |(a,x)::es,⟨h1,h2⟩=>by
  have:=Ao8 (k:=k) (v:=v) h2
  have:=@eqK2 k a
  grind[Fj,ndK]
def Bq4 {k:C8}:∀{m:mpE},ndK m->∀v,K4 G0 k m=some v↔(k,v)∈m
 |[],_,v=>by simp[K4]
 |(a,x)::es,⟨h1,h2⟩,v=>by
  have:=Bq4 (k:=k) h2 v
  have:=@eqK2 k a
  grind[K4]
abbrev ZC (e:A5):C8:=⟨e.Z1,e.Ys⟩
def Bq5 (a b:Sl A5)(m:Nat):Prop:=∀i,i<m->∃j,j<b.n/\ZC (a.g i)=ZC (b.g j)
noncomputable def exB (b c:Sl A5):Bool:=@decide (Bq5 b c b.n/\Bq5 c b c.n) (Classical.propDecidable _)
def ZD (b c:Sl A5):exB b c=true↔Bq5 b c b.n/\Bq5 c b c.n:=@decide_eq_true_iff _ (Classical.propDecidable _)
def AZ5 (hN:3000000<=N){p:A8}{o c:Z9}(hb:o.Bad.n<=100000)(hc:c.Bad.n<=300)(w:Z6 N p 0=some (o,0)):W6 N p c=some (exB o.Bad c.Bad,0):=by
 refine eqR ?_;unfold W6;refine B4 w (Eh ?_);generalize o.Bad=b at hb;refine S3 (λj (m:mpE) x2=>x2=(j:Int)/\ndK m/\∀e,e∈m↔e.2=0/\∃i,i<j/\e.1=ZC (b.g i)) b.n _ (by omega) ⟨rfl,trivial,by grind⟩ ?_;rintro a j m x2 l ⟨rfl,hm,f⟩ hs;by_cases hl:j<b.n
 .refine Bu (Ai (hs hl _ _ ⟨Fy,(Ao8 hm).1,λe=>?_⟩));rw[Vc,(Ao8 hm).2,f]
  grind
 refine Fv ?_;obtain rfl:j=b.n:=by omega
 refine S3 (λj (m:mpE) x2=>x2=(j:Int)/\ndK m/\(∀e,e∈m->(0<=e.2/\e.2<=j)/\(∃i,i<b.n/\e.1=ZC (b.g i))/\(0<e.2 ↔ ∃q,q<j/\e.1=ZC (c.Bad.g q)))/\(∀i,i<b.n->∃v,(ZC (b.g i),v)∈m)/\Bq5 c.Bad b j) c.Bad.n _ (by omega) ⟨rfl,hm,by grind,λi d=>⟨0,by grind⟩,λj l=>by omega⟩ ?_;clear hs hm f;rintro a j m x4 l ⟨rfl,hm,f,x,s⟩ hs;by_cases hl:j<c.Bad.n
 .refine Bu (Ai ?_);rw[Vc];show ∃r,JA (K4 G0 (ZC (c.Bad.g j)) m) _ _=_/\_;have hL:=Bq4 (k:=ZC (c.Bad.g j)) hm;cases hk:K4 G0 (ZC (c.Bad.g j)) m with
  |none=>
   refine⟨_,rfl,?_⟩
   have:exB b c.Bad=false:=Cq0.2 λg=>by
    obtain⟨i,d,e⟩:=((ZD _ _).1 g).2 j hl
    grind
   rw[this]
  |some v=>
   have y:=(hL v).1 hk;have z:=f _ y;have ew:wrap .i64 (v+1)=v+1:=F0 (by grind) (by grind);show ∃r,a (Fj G0 (ZC (c.Bad.g j)) (wrap .i64 (v+1)) m) _=_/\_;rw[ew];have u2:=(Ao8 (k:=ZC (c.Bad.g j)) (v:=v+1) hm).2;refine hs hl _ _ ⟨Fy,(Ao8 hm).1,λe t=>?_,λi d=>?_,λq u=>?_⟩
   .grind
   .have:=x i d
    grind
   by_cases g:q=j
   .grind
   exact s q (by omega)
 obtain rfl:j=c.Bad.n:=by omega
 refine Eh ⟨_,rfl,?_⟩
 have:(!(m.any λe=>e.2==0))=exB b c.Bad:=by
  rw[Cj9,Ck1,List.any_eq_false,ZD];constructor
  .refine λh=>⟨λi d=>?_,s⟩
   grind
  intro h e t h2;obtain⟨_,⟨i,d,e1⟩,h3⟩:=f e t;obtain⟨q,u,e2⟩:=h.1 i d
  have:=h3.2 ⟨q,u,e1.trans e2⟩
  grind
 rw[this]
def Um {l:Sl A5}(c:l.n<N)(hn:l.n<=100000)(e:A5):∃b,Ev N l e.Z1 e.Ys=some b/\(b=true ↔ ∃j,j<l.n/\ZC e=ZC (l.g j)):=by
 unfold Ev;refine X6 (λi x=>x=(i:Int)/\∀j,j<i->ZC e≠ZC (l.g j)) l.n _ c (by grind) ?_;rintro a i x d ⟨rfl,h⟩ hs;by_cases hl:i<l.n
 .refine Bu (Ai (ifT (λ_=>by omega) ?_));rw[Vc];by_cases g:ZC e=ZC (l.g i)
  .refine ifT ?_ (by grind)
   grind
  refine ifF (λq=>g ?_) (hs hl _ ⟨Fy,by grind⟩)
  grind
 exact Fv (by grind)
def Cg0 {a b:Sl A5}{m:Nat}(h:Bq5 a b m)(c:∃j,j<b.n/\ZC (a.g m)=ZC (b.g j)):Bq5 a b (m+1):=λi d=>by
 by_cases e:i=m
 .grind
 exact h i (by omega)
def AZ6 (u:3000000<=N){p:A8}{o c:Z9}(hb:o.Bad.n<=100000)(hc:c.Bad.n<=300)(q:Eu N p 0=some (o,0)):Db N p c=some (exB o.Bad c.Bad,0):=by
 refine eqR ?_;unfold Db;refine B4 q (Eh ?_);dsimp only;generalize o.Bad=b at hb;have no:¬(Bq5 b c.Bad b.n/\Bq5 c.Bad b c.Bad.n)->exB b c.Bad=false:=λh=>Cq0.2 λg=>h ((ZD _ _).1 g);refine X6 (λi x=>x=(i:Int)/\Bq5 b c.Bad i) b.n _ (by omega) ⟨rfl,λj r=>by omega⟩ ?_;rintro f i x s ⟨rfl,h⟩ hs;by_cases hl:i<b.n
 .obtain⟨t,t1,t2⟩:=Um (N:=N) (l:=c.Bad) (by omega) (by omega) (b.g i);refine Bu (Ai ?_);rw[Vc];refine B4 t1 ?_;cases t
  .exact ifT rfl ⟨_,rfl,by rw[no λg=>Kf (t2.2 (g.1 i hl)) (by decide)]⟩
  exact Fn (hs hl _ ⟨Fy,Cg0 h (t2.1 rfl)⟩)
 obtain rfl:i=b.n:=by omega
 refine Eh ?_;refine X6 (λi x=>x=(i:Int)/\Bq5 c.Bad b i) c.Bad.n _ (by omega) ⟨rfl,λj r=>by omega⟩ ?_;rintro a i x s ⟨rfl,m⟩ d;by_cases hl:i<c.Bad.n
 .obtain⟨t,t1,t2⟩:=Um (N:=N) (l:=b) (by omega) hb (c.Bad.g i);refine Bu (Ai ?_);rw[Vc];refine B4 t1 ?_;cases t
  .exact ifT rfl ⟨_,rfl,by rw[no λg=>Kf (t2.2 (g.2 i hl)) (by decide)]⟩
  exact Fn (d hl _ ⟨Fy,Cg0 m (t2.1 rfl)⟩)
 obtain rfl:i=c.Bad.n:=by omega
 exact Eh ⟨_,rfl,by rw[show exB b c.Bad=true from (ZD _ _).2 ⟨h,m⟩]⟩
def Bq6 (a:3000000<=N){p:A8}(hp:MW p){c:Z9}(hc:c.Bad.n<=300):∃r,W6 N p c=some r/\Db N p c=some r:=by
 obtain⟨o,e,m1,m2,m3,m4⟩:=AM8 a hp 0;by_cases b:e=0
 .subst b;exact⟨_,AZ5 a m3 hc m1,AZ6 a m3 hc m2⟩
 have h1:(e != 0)=true:=by grind
 refine⟨_,by unfold W6;rw[m1,Ci2];exact Kb h1,by simp_all[Db,Ci2,Kb]⟩
def Rs (f:3000000<=N)(hw:CX N=some true){p:A8}(hp:MW p)(j:∀i,i<p.Yy.n->(p.Yy.g i).Yz.n<1100000)(price:Int)(c:Z9)(x:Br):BL N p price c x=some true:=by
 refine eqR ?_;unfold BL;obtain⟨b,b1,_⟩:=AD9 f hp j;have wk:∃r,((CX N).bind λy=>some y)=some r/\r=true:=(by grind);refine B4 b1 (ifE (λ_=>wk) λl=>?_);have d:c.Bad.n<=300/\c.Yw.n<=300:=by grind
 rw[BJ7 (s:=(Sl.of []:Sl A5)) rfl,BJ7 (s:=(Sl.of []:Sl Br)) rfl];obtain⟨r1,v1,v2⟩:=AZ4 f hp price d.1 d.2;obtain⟨r2,t1,t2⟩:=BF1 f hp x;obtain⟨r3,e1,e2⟩:=Bq6 f hp d.1;refine Bu (B4 v1 (B4 v2 (B4 t1 (B4 t2 (B4 e1 (B4 e2 (ltX ?_)))))));have hS:=AM9 f (a:=c) (b:=c) (by omega) (by omega);rw[(KR c.Bad c.Bad).2 (SE.refl _),(KR c.Yw c.Yw).2 (SE.refl _)]at hS
 simp_all
set_option maxRecDepth 100000
def AN3:CX 4194304=some true:=by decide +kernel
end Go.AM
