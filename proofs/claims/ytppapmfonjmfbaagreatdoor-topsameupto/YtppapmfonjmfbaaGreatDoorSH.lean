/- Part 8. -/
import Derived.Test.YtppapmfonjmfbaaGreatDoorSG
import Derived.Test.YtppapmfonjmfbaaGreatDoorSF
set_option linter.defProp false
set_option linter.unusedSimpArgs false
set_option linter.unusedVariables false
set_option linter.unusedSectionVars false
namespace Go.AM
variable {N:Nat}
def Ld:=@decide_eq_true_eq
def Gw{c:Prop}{i:Decidable c}{α:Sort _}{a b:α}(h:¬c:=by simp;omega):(if c then a else b)=b:=Hf h
def Gt{c:Prop}{i:Decidable c}{α:Sort _}{a b:α}(h:¬c:=by omega):(if c then a else b)=b:=Hf h
def G9{c:Prop}{i:Decidable c}{α:Sort _}{a b:α}(h:c:=by simp;omega):(if c then a else b)=a:=He h
def Dp{c:Prop}{i:Decidable c}{α:Sort _}{a b:α}(h:c:=by omega):(if c then a else b)=a:=He h
open IntKind (wrap)
def AS4:=@BitVec.getLsbD_not
def AV6:=@Classical.axiomOfChoice
def AV8:=@List.reverse_append
def AW7:=@Bool.or_eq_false_iff
def Ba7:=@Bool.not_eq_true
def Ba8:=@List.mem_reverse
def Bb6:=@BitVec.getLsbD_zero
def Bc5:=@List.mem_range'_1
def Bc8:=@Nat.testBit_two_pow_mul
def Bc9:=@List.filter_cons_of_pos
def Bd0:=@List.filter_cons_of_neg
def Bd4:=@Nat.testBit_lt_two_pow
def Bd5:=@List.filter_eq_nil_iff
def Bd6:=@List.reverse_singleton
def Be2:=@Bool.and_eq_false_iff
def Be3:=@List.singleton_append
def Be8:=@BitVec.getLsbD_of_ge
def Bf0:=@Nat.div_eq_zero_iff
def Bg0:=@Nat.lt_of_le_of_lt
open Go.Proofs
abbrev sOf (x y:BitVec 32):Qz:=⟨(x.toNat:Int),(y.toNat:Int)⟩
def okS (s:Qz):Prop:=∃p m:BitVec 32,s=sOf p m
def eq0 (x:BitVec 32):((x.toNat:Int)==0)=decide (x=0#32):=by
 rw[AQ4];simp only[beq_iff_eq,Ld];constructor
 .intro h;apply AR1;show x.toNat=0;omega
 rintro rfl;rfl
def z32 (x:BitVec 32):x=0#32 ↔ ∀i,i<32->x.getLsbD i=false:=by
 constructor
 .rintro rfl i a;simp
 intro h;apply AS6;intro i a;rw[h i a];simp
def Jq {x y:BitVec 32}(h:∀b,b<32->x.getLsbD b=y.getLsbD b):x=y:=AS6 h
def WC (x:BitVec 32)(i:Nat):(G3 .and .u32 (shI .shr .u32 (x.toNat:Int) (i:Int)) 1==1)=x.getLsbD i:=by
 rw[Ar0,show (1:Int)=((1#32).toNat:Int) from rfl,Ff];have h:(x >>> i &&& 1#32)=(BitVec.ofBool (x.getLsbD i)).setWidth 32:=by
  apply AS6;intro j hj;simp only[AO8,Bb9,Bc7,Be1];by_cases a:j=0
  .subst a;simp
  have:(1#32).getLsbD j=false:=by rw[Bc0];simp[a]
  simp[this,a]
 rw[h];cases x.getLsbD i<;>rfl
def AA4 (i:Nat):shI .shl .u32 1 (i:Int)=((1#32 <<< i).toNat:Int):=by rw[show (1:Int)=((1#32).toNat:Int) from rfl,AG8]
def ZT {i j:Nat}(hj:j<32):(1#32 <<< i).getLsbD j=decide (j=i):=by
 rw[Bc4,Bc0];by_cases h:j=i
 .subst h;simp[hj]
 by_cases a:j<i
 .simp[h,a]
 have:j-i≠0:=by omega
 simp[h,this]
def GI (x:BitVec 32):x.toNat<16777216 ↔ ∀i,24<=i->i<32->x.getLsbD i=false:=by
 constructor
 .intro h i a b;exact Bd4 (AP2 h (AW6 (n:=2) (i:=24) (by omega) a))
 intro h;refine Nat.lt_pow_two_of_testBit (n:=24) _ fun i a=>?_;by_cases c:i<32
 .exact h i a c
 exact Bd4 (AP2 x.isLt (AW6 (by omega) (by omega)))
def vB (p m:BitVec 32):Bool:=decide (∀i:Fin 32,¬(p.getLsbD i=true/\m.getLsbD i=true)/\(24<=i.1->p.getLsbD i=false/\m.getLsbD i=false))
def FQ (p m:BitVec 32):vB p m=true ↔ ∀i,i<32->¬(p.getLsbD i=true/\m.getLsbD i=true)/\(24<=i->p.getLsbD i=false/\m.getLsbD i=false):=by rw[vB,Ld];exact⟨fun h i a=>h ⟨i,a⟩,fun h i=>h i.1 i.2⟩
def WD (p m:BitVec 32):p &&& m=0#32 ↔ ∀i,i<32->¬(p.getLsbD i=true/\m.getLsbD i=true):=by rw[z32];refine forall_congr' fun i=>forall_congr' fun a=>?_;rw[AO8,Be2];cases p.getLsbD i<;>cases m.getLsbD i<;>simp
def AK6 (p m:BitVec 32):vB p m=true↔p &&& m=0#32/\(p ||| m).toNat<16777216:=by
 rw[FQ,WD,GI];constructor
 .intro h;refine⟨fun i a=>(h i a).1,fun i h1 b=>?_⟩
  have:=(h i b).2 h1
  rw[AO7,this.1,this.2];rfl
 rintro⟨h1,b⟩ i a;refine⟨h1 i a,fun c=>?_⟩
 have:=b i c a
 rw[AO7,AW7]at this;exact this
def AK7 (p m:BitVec 32):vB p m=true↔p &&& m=0#32/\p.toNat<16777216/\m.toNat<16777216:=by rw[FQ,WD,GI,GI];exact⟨fun h=>⟨fun i a=>(h i a).1,fun i h1 b=>((h i b).2 h1).1,fun i h1 b=>((h i b).2 h1).2⟩,fun⟨h1,b,d⟩ i a=>⟨h1 i a,fun c=>⟨b i c a,d i c a⟩⟩⟩
def BK (p m:BitVec 32):F3 N (sOf p m)=some (vB p m):=by unfold F3;rw[Ff,KB,eq0];congr 1;rw[AQ4,AK6];simp only[AN1,Ld];exact⟨fun h=>⟨h.1,by have:=h.2;omega⟩,fun h=>⟨h.1,by have:=h.2;omega⟩⟩
def shr24 (x:BitVec 32):(shI .shr .u32 (x.toNat:Int) 24==0)=decide (x.toNat<16777216):=by
 rw[show (24:Int)=((24:Nat):Int) from rfl,Ar0,AQ4];simp only[beq_iff_eq,Ld,AZ4,AY5]
 have:=Bf0 (a:=x.toNat) (b:=2 ^ 24)
 omega
def Tn (p m:BitVec 32):Bk N (sOf p m)=some (vB p m):=by unfold Bk;rw[Ff,KB,eq0,shr24];congr 1;rw[AQ4,AK6];simp only[AN1,Ld]
def To (p m:BitVec 32):O5 N (sOf p m)=some (vB p m):=Tn (N:=N) p m
def Pr (p m:BitVec 32):Y8 N (sOf p m)=some (vB p m):=by unfold Y8;rw[Ff,eq0];congr 1;rw[AQ4,AK7];simp only[AN1,Ld];exact⟨fun h=>⟨h.1.1,by have:=h.1.2;omega,by have:=h.2;omega⟩,fun h=>⟨⟨h.1,by have:=h.2.1;omega⟩,by have:=h.2.2;omega⟩⟩
def An (p m:BitVec 32)(l:1000<=N):J5 N (sOf p m)=some (vB p m):=by
 suffices h:∃r,J5 N (sOf p m)=some r/\r=vB p m by obtain⟨r,h,rfl⟩:=h;exact h
 unfold J5;refine BN (fun i x1=>x1=(i:Int)/\∀j,j<i->¬(p.getLsbD j=true/\m.getLsbD j=true)/\(24<=j->p.getLsbD j=false/\m.getLsbD j=false)) 32 _ (by omega) ⟨rfl,fun j hj=>Ia hj (by omega)⟩ ?_;rintro f i x1 n ⟨rfl,h1⟩ hs;by_cases hl:i<32
 .refine Ar (Ab ?_);simp only[WC];have e24:decide ((24:Int)<=(i:Int))=decide (24<=i):=decide_eq_decide.2 (by omega);rw[e24];by_cases hb:¬(p.getLsbD i=true/\m.getLsbD i=true)/\(24<=i->p.getLsbD i=false/\m.getLsbD i=false)
  .refine ifF ?_ (hs hl _ ⟨Dn,fun j hj=>?_⟩)
   .intro h;obtain⟨g,d⟩:=hb;revert h g d;by_cases c:24<=i
    .intro h g d;obtain⟨a,b⟩:=d c;simp[a,b]at h
    cases p.getLsbD i<;>cases m.getLsbD i<;>simp[c]
   by_cases e:j=i
   .subst e;exact hb
   exact h1 j (by omega)
  refine ifT ?_ ⟨false,rfl,?_⟩
  .revert hb;by_cases c:24<=i
   .cases p.getLsbD i<;>cases m.getLsbD i<;>simp[c]
   cases p.getLsbD i<;>cases m.getLsbD i<;>simp[c]
  symm;rw[<- Ba7,FQ];exact fun h=>hb (h i hl)
 refine Bv ⟨true,rfl,?_⟩;symm;rw[FQ];exact fun j hj=>h1 j (by omega)
def gB (p m:BitVec 32)(f:Nat):Int:=if p.getLsbD f then 1 else if m.getLsbD f then -1 else 0
def WE (p m:BitVec 32)(a:vB p m=true)(f:Nat)(c:f<24)(b:1000<=N):BG N (sOf p m) (f:Int)=some (gB p m f):=by
 unfold BG;rw[An p m b];simp only[AN2,lt,Jl,WC,gB,a];rw[He (by omega:(0:Int)<=(f:Int)),He (by omega:(0:Int)<=(f:Int))];have e:(decide ((0:Int)<=(f:Int))&&decide ((f:Int)<24))=true:=by simp;omega
 rw[e];cases h1:p.getLsbD f<;>cases d:m.getLsbD f<;>simp
def gB_eq {p m a b:BitVec 32}(g:vB p m=true)(c : vB a b=true)(f:Nat)(d:f<32):(gB a b f≠0->gB p m f=gB a b f)↔((a.getLsbD f=true->p.getLsbD f=true)/\(b.getLsbD f=true->m.getLsbD f=true)):=by have h1:=((FQ p m).1 g f d).1;have i:=((FQ a b).1 c f d).1;revert h1 i;simp only[gB];cases a.getLsbD f<;>cases b.getLsbD f<;>cases p.getLsbD f<;>cases m.getLsbD f<;>simp
def Yr (p m a b:BitVec 32):Bool:=vB p m&&(vB a b&&decide (∀i:Fin 32,(a.getLsbD i=true->p.getLsbD i=true)/\(b.getLsbD i=true->m.getLsbD i=true)))
def AA5 (a p:BitVec 32):a &&& ~~~ p=0#32 ↔ ∀i,i<32->(a.getLsbD i=true->p.getLsbD i=true):=by rw[z32];refine forall_congr' fun i=>forall_congr' fun b=>?_;rw[AO8,AS4];cases a.getLsbD i<;>cases p.getLsbD i<;>simp[b]
def AA6 (p m a b:BitVec 32):J4 N (sOf p m) (sOf a b)=some (Yr p m a b):=by
 unfold J4;rw[BK];simp only[AN2,lt,BK,EF,eq0,Yr];cases h1:vB p m
 .simp
 cases d:vB a b
 .simp
 simp only[J8,AZ8];have key:(decide (∀i:Fin 32,(a.getLsbD i=true->p.getLsbD i=true)/\(b.getLsbD i=true->m.getLsbD i=true)))=(decide (a &&& ~~~ p=0#32)&&decide (b &&& ~~~ m=0#32)):=by rw[AQ4];simp only[AN1,Ld,AA5];exact⟨fun h=>⟨fun i c=>(h ⟨i,c⟩).1,fun i c=>(h ⟨i,c⟩).2⟩,fun h i=>⟨h.1 i.1 i.2,h.2 i.1 i.2⟩⟩
 rw[key];by_cases h:a &&& ~~~ p=0#32
 .simp[h]
 simp[h]
def AA7 (p m a b:BitVec 32)(f:1000<=N):Y6 N (sOf p m) (sOf a b)=some (Yr p m a b):=by
 suffices h:∃r,Y6 N (sOf p m) (sOf a b)=some r/\r=Yr p m a b by obtain⟨r,h,rfl⟩:=h;exact h
 unfold Y6;rw[An p m f];refine B0 rfl (ltX ?_);cases h1:vB p m
 .exact Au (ifT rfl ⟨false,rfl,by simp[Yr,h1]⟩)
 refine Bx ?_;rw[An a b f];refine B0 rfl ?_;cases c:vB a b
 .exact Au ⟨false,rfl,by simp[Yr,c]⟩
 refine Bx ?_;refine BN (fun i x3=>x3=(i:Int)/\∀j,j<i->((a.getLsbD j=true->p.getLsbD j=true)/\(b.getLsbD j=true->m.getLsbD j=true))) 24 _ (by omega) ⟨rfl,fun j hj=>Ia hj (by omega)⟩ ?_;rintro d i x3 o ⟨rfl,n⟩ hs;by_cases hl:i<24
 .refine Ar (B0 (WE a b c i hl f) (ltX ?_));have key:=gB_eq h1 c i (by omega);have fin:(¬(gB a b i≠0->gB p m i=gB a b i))->false=Yr p m a b:=fun hn=>by symm;simp only[Yr,h1,c,AZ8];rw[<- Ba7,Ld];intro h;exact hn (key.2 (h ⟨i,by omega⟩))
  have go:(gB a b i≠0->gB p m i=gB a b i)->∃r,d (wrap .i64 ((i:Int)+1))=some r/\r=Yr p m a b:=fun hp=>hs hl _ ⟨Dn,fun j hj=>by
   by_cases e:j=i
   .subst e;exact key.1 hp
   exact n j (by omega)⟩
  by_cases g:gB a b i=0
  .exact ifF (by simp[g]) (Bx (go fun h=>Ia g h))
  refine ifT (by simp[g]) (B0 (WE p m h1 i hl f) ?_);by_cases l:gB p m i=gB a b i
  .exact ifF (by simp[l]) (go fun _=>l)
  exact ifT (by simp[l]) ⟨false,rfl,fin fun h=>l (h g)⟩
 refine Bv ⟨true,rfl,?_⟩;symm;simp only[Yr,h1,c,AZ8,Ld];intro j;by_cases hj:j.1<24
 .exact n j.1 (by omega)
 have:=((FQ a b).1 c j.1 j.2).2 (by omega)
 exact⟨fun h=>by rw[this.1]at h;exact Ia h (by simp),fun h=>by rw[this.2]at h;exact Ia h (by simp)⟩
def Rw (x y s:BitVec 32):BitVec 32:=(x &&& ~~~ s) ||| (y &&& s)
def As8 (p m a b s:BitVec 32):BV N (sOf p m) (sOf a b) (s.toNat:Int)=some (sOf (Rw p a s) (Rw m b s)):=by unfold BV;simp only[EF,Ff,KB,Rw]
def AK8 (x:BitVec 32)(f:Nat)(on:Bool):BitVec 32:=if on then (x &&& ~~~ (1#32 <<< f)) ||| (1#32 <<< f)else x &&& ~~~ (1#32 <<< f)
def GZ (x:BitVec 32)(f:Nat)(on:Bool){j:Nat}(hj:j<32):(AK8 x f on).getLsbD j=if j=f then on else x.getLsbD j:=by
 unfold AK8;cases on
 .rw[Hf (by simp),AO8,AS4,ZT hj];by_cases e:j=f<;>simp[e,hj]
 rw[He rfl,AO7,AO8,AS4,ZT hj];by_cases e:j=f<;>simp[e,hj]
def ZU (p m:BitVec 32)(f:Nat)(v:Int):EP N (sOf p m) (f:Int) v=some (sOf (AK8 p f (v==1)) (AK8 m f (v == -1))):=by unfold EP;rw[Dp];simp only[AA4,EF,KB];cases h1:v==1<;>cases a:v == -1<;>simp[AK8]
def Al9 (p m c a b:BitVec 32):Qz×Int:=if vB p m=true/\vB a b then (if c.toNat<16777216/\c &&& (a ||| b)=0#32 then (sOf (Rw p a (c ||| (a ||| b))) (Rw m b (c ||| (a ||| b))),0)else (⟨0,0⟩,2))else (⟨0,0⟩,14)
def XS (p m c a b:BitVec 32):O4 N (sOf p m) (c.toNat:Int) (sOf a b)=some (Al9 p m c a b):=by
 unfold O4 Al9;rw[BK];simp only[AN2,lt,BK,Ds,KB,Ff,As8];cases h1:vB p m
 .simp
 cases g:vB a b
 .simp
 by_cases d:c.toNat<16777216
 .have e:((c &&& (a ||| b)).toNat:Int) != 0 ↔ ¬(c &&& (a ||| b)=0#32):=by
   have:=eq0 (c &&& (a ||| b))
   simp only[bne_iff_ne,ne_eq];rw[<- Ld (p:=c &&& (a ||| b)=0#32),<- this];simp
  by_cases f:c &&& (a ||| b)=0#32
  .simp[d,f];omega
  have e':=e.2 f;rw[Hf (by simp<;>omega),e'];simp[d,f]
 simp[d];omega
def XT (p m c a b:BitVec 32)(s:1000<=N):Y7 N (sOf p m) (c.toNat:Int) (sOf a b)=some (Al9 p m c a b):=by
 suffices h:∃r,Y7 N (sOf p m) (c.toNat:Int) (sOf a b)=some r/\r=Al9 p m c a b by obtain⟨r,h,rfl⟩:=h;exact h
 unfold Y7;rw[An p m s];refine B0 rfl (ltX ?_);cases h1:vB p m
 .exact Au (ifT rfl ⟨_,rfl,by simp[Al9,h1]⟩)
 refine Bx ?_;rw[An a b s];refine B0 rfl ?_;cases n:vB a b
 .exact Au ⟨_,rfl,by simp[Al9,n]⟩
 refine Bx ?_;rw[KB,Ff];by_cases hc:c.toNat<16777216/\c &&& (a ||| b)=0#32
 .obtain⟨o,l⟩:=hc;refine ifF (by rw[l];simp;omega) ?_;have x:∀j,j<32->¬(c.getLsbD j=true/\(a.getLsbD j=true \/ b.getLsbD j=true)):=fun j hj=>by
   have:=(z32 _).1 l j hj
   rw[AO8,AO7]at this;revert this;cases c.getLsbD j<;>cases a.getLsbD j<;>cases b.getLsbD j<;>simp
  refine XR (fun i x2 x3 x4=>x4=(i:Int)/\∃P M:BitVec 32,x2=(P.toNat:Int)/\x3=(M.toNat:Int)/\∀j,j<32 ->
   P.getLsbD j=(if j<i/\(c.getLsbD j=true \/ a.getLsbD j=true \/ b.getLsbD j=true)then a.getLsbD j else p.getLsbD j)/\M.getLsbD j=(if j<i/\(c.getLsbD j=true \/ a.getLsbD j=true \/ b.getLsbD j=true)then b.getLsbD j else m.getLsbD j)) 24 _ (by omega)
   ⟨rfl,p,m,rfl,rfl,fun j hj=>by simp⟩ ?_
  rintro v i x2 x3 x4 hi ⟨rfl,P,M,rfl,rfl,d⟩ hs;by_cases hl:i<24
  .refine Ar (Ab ?_);rw[WC];have t:=WE (N:=N) a b n i hl s;have u:=((FQ a b).1 n i (by omega)).1;have y:=x i (by omega);by_cases g:c.getLsbD i=true
   .refine ifT g (B0 (ZU P M i 0) (B0 t ?_));have ea:a.getLsbD i=false:=by cases e:a.getLsbD i<;>simp_all
    have eb:b.getLsbD i=false:=by cases e:b.getLsbD i<;>simp_all
    refine ifF (by simp[gB,ea,eb]) (hs hl _ _ _ ⟨Dn,_,_,rfl,rfl,fun j hj=>?_⟩);rw[GZ _ _ _ hj,GZ _ _ _ hj];by_cases e:j=i
    .subst e;simp[g,ea,eb]
    have:=d j hj
    have e2:j<i+1↔j<i:=by omega
    simp only[e,Jc,e2];exact this
   refine ifF g (B0 t ?_);by_cases q:gB a b i=0
   .have ea:a.getLsbD i=false:=by revert q;simp only[gB];cases a.getLsbD i<;>simp
    have eb:b.getLsbD i=false:=by revert q;simp only[gB,ea];cases b.getLsbD i<;>simp
    refine ifF (by simp[q]) (hs hl _ _ _ ⟨Dn,P,M,rfl,rfl,fun j hj=>?_⟩);by_cases e:j=i
    .subst e;have:=d j hj;simpa[g,ea,eb]using this
    have:=d j hj
    have e2:j<i+1↔j<i:=by omega
    simp only[e2];exact this
   refine ifT (by simp[q]) (B0 t (B0 (ZU P M i _) (hs hl _ _ _ ⟨Dn,_,_,rfl,rfl,fun j hj=>?_⟩)));rw[GZ _ _ _ hj,GZ _ _ _ hj];by_cases e:j=i
   .subst e;revert q u;simp only[gB];cases a.getLsbD j<;>cases b.getLsbD j<;>simp
   have:=d j hj
   have e2:j<i+1↔j<i:=by omega
   simp only[e,Jc,e2];exact this
  obtain rfl:i=24:=by omega
  refine Bx ⟨_,rfl,?_⟩;simp only[Al9,h1,n,o,l,and_self,J8];have hp:=(FQ p m).1 h1;have w:=(FQ a b).1 n;have z:=(GI c).1 o;have eP:P=Rw p a (c ||| (a ||| b)):=Jq fun j hj=>by
   rw[(d j hj).1,Rw,AO7,AO8,AO8,AS4,AO7,AO7];by_cases f:j<24
   .cases c.getLsbD j<;>cases a.getLsbD j<;>cases b.getLsbD j<;>cases p.getLsbD j<;>simp[f,hj]
   have g1:=(hp j hj).2 (by omega);have g2:=(w j hj).2 (by omega);simp[f,g1.1,g2.1]
  have eM:M=Rw m b (c ||| (a ||| b)):=Jq fun j hj=>by
   rw[(d j hj).2,Rw,AO7,AO8,AO8,AS4,AO7,AO7];by_cases f:j<24
   .cases c.getLsbD j<;>cases a.getLsbD j<;>cases b.getLsbD j<;>cases m.getLsbD j<;>simp[f,hj]
   have g1:=(hp j hj).2 (by omega);have g2:=(w j hj).2 (by omega);simp[f,g1.2,g2.2]
  rw[eP,eM]
 refine ifT ?_ ⟨_,rfl,?_⟩
 .rw[AO9,Ld,bne_iff_ne];by_cases h:c.toNat<16777216
  .right
   intro h0;exact hc ⟨h,AR1 (by show _=0;omega)⟩
  left;omega
 simp only[Al9,h1,n,and_self,J8];rw[Hf hc]
def Am0 (p m a b s:BitVec 32):Qz×Int:=if vB p m=true/\vB a b then (if s.toNat<16777216 then (sOf (Rw p a s) (Rw m b s),0)else (⟨0,0⟩,2))else (⟨0,0⟩,14)
def Am1 (p m a b s:BitVec 32):S4 N (sOf p m) (sOf a b) (s.toNat:Int)=some (Am0 p m a b s):=by
 unfold S4 Am0;rw[BK];simp only[AN2,lt,BK,As8];cases h1:vB p m
 .simp
 cases d:vB a b
 .simp
 by_cases c:s.toNat<16777216
 .simp[c];omega
 simp[c];omega
def Am2 (p m a b s:BitVec 32)(n:1000<=N):BY N (sOf p m) (sOf a b) (s.toNat:Int)=some (Am0 p m a b s):=by
 suffices h:∃r,BY N (sOf p m) (sOf a b) (s.toNat:Int)=some r/\r=Am0 p m a b s by obtain⟨r,h,rfl⟩:=h;exact h
 unfold BY;rw[An p m n];refine B0 rfl (ltX ?_);cases h1:vB p m
 .exact Au (ifT rfl ⟨_,rfl,by simp[Am0,h1]⟩)
 refine Bx ?_;rw[An a b n];refine B0 rfl ?_;cases g:vB a b
 .exact Au ⟨_,rfl,by simp[Am0,g]⟩
 refine Bx ?_;by_cases hc:s.toNat<16777216
 .refine Bv ?_;refine XR (fun i x2 x3 x4=>x4=(i:Int)/\∃P M:BitVec 32,x2=(P.toNat:Int)/\x3=(M.toNat:Int)/\∀j,j<32 ->
   P.getLsbD j=(if j<i/\s.getLsbD j then a.getLsbD j else p.getLsbD j)/\M.getLsbD j=(if j<i/\s.getLsbD j then b.getLsbD j else m.getLsbD j)) 24 _ (by omega)
   ⟨rfl,p,m,rfl,rfl,fun j hj=>by simp⟩ ?_
  rintro q i x2 x3 x4 t ⟨rfl,P,M,rfl,rfl,c⟩ hs;by_cases hl:i<24
  .refine Ar (Ab ?_);rw[WC];have o:=((FQ a b).1 g i (by omega)).1;by_cases f:s.getLsbD i=true
   .refine ifT f (B0 (WE (N:=N) a b g i hl n) (B0 (ZU P M i _) (hs hl _ _ _ ⟨Dn,_,_,rfl,rfl,fun j hj=>?_⟩)));rw[GZ _ _ _ hj,GZ _ _ _ hj];by_cases e:j=i
    .subst e;revert o;simp only[gB,f];cases a.getLsbD j<;>cases b.getLsbD j<;>simp
    have:=c j hj
    have e2:j<i+1↔j<i:=by omega
    simp only[e,Jc,e2];exact this
   refine ifF f (hs hl _ _ _ ⟨Dn,P,M,rfl,rfl,fun j hj=>?_⟩);by_cases e:j=i
   .subst e;have:=c j hj;simpa[f]using this
   have:=c j hj
   have e2:j<i+1↔j<i:=by omega
   simp only[e2];exact this
  obtain rfl:i=24:=by omega
  refine Bx ⟨_,rfl,?_⟩;simp only[Am0,h1,g,hc,and_self,J8];have l:=(GI s).1 hc;have eP:P=Rw p a s:=Jq fun j hj=>by
   rw[(c j hj).1,Rw,AO7,AO8,AO8,AS4];by_cases d:j<24
   .cases s.getLsbD j<;>cases a.getLsbD j<;>cases p.getLsbD j<;>simp[d,hj]
   rw[Hf (by simp[d]),l j (by omega) hj];simp[hj]
  have eM:M=Rw m b s:=Jq fun j hj=>by
   rw[(c j hj).2,Rw,AO7,AO8,AO8,AS4];by_cases d:j<24
   .cases s.getLsbD j<;>cases b.getLsbD j<;>cases m.getLsbD j<;>simp[d,hj]
   rw[Hf (by simp[d]),l j (by omega) hj];simp[hj]
  rw[eP,eM]
 exact Ar ⟨_,rfl,by simp[Am0,h1,g,hc]⟩
end Go.AM
namespace Go.AM
open Go.Proofs
def vS (s:Qz):Prop:=∃p m:BitVec 32,s=sOf p m/\vB p m=true
def Hh (p:Pat):Prop:= (0<=p.Kind/\p.Kind<=6)/\(p.Kind≠1->(p.Is.Plus=0/\p.Is.Minus=0)/\p.Not=false)/\(p.Kind≠3->p.Kind≠4->p.Kind≠5->p.L.n=0)/\(p.Kind≠5->p.Min=0/\p.Max=0) /\ (p.Kind=5->p.L.n=1/\0<=p.Min/\p.Min<=32/\(p.Max = -1 \/ (p.Min<=p.Max/\p.Max<=32)))/\vS p.Is
def Vd {s:Qz}{p m:BitVec 32}(h:s=sOf p m):vS s↔vB p m=true:=by
 constructor
 .rintro⟨q,r,e,a⟩;rw[h]at e;have e1:(p.toNat:Int)=q.toNat:=congrArg Qz.Plus e;have e2:(m.toNat:Int)=r.toNat:=congrArg Qz.Minus e;rw[AR1 (show p.toNat=q.toNat by omega),AR1 (show m.toNat=r.toNat by omega)];exact a
 exact fun a=>⟨p,m,h,a⟩
def okPS:Pat->Prop
 |.nil=>True
 |.mk _ is _ _ _ n g=>okS is/\∀i,i<n->okPS (g i)
def okPS.is {p:Pat}(h:okPS p):okS p.Is:=by
 cases p with
 |nil=>exact⟨0#32,0#32,rfl⟩
 |mk _ is _ _ _ n g=>exact h.1
def okPS.L {p:Pat}(h:okPS p){i:Nat}(a:i<p.L.n):okPS (p.L.g i):=by
 cases p with
 |nil=>exact Ia a (by show ¬i<0;omega)
 |mk _ is _ _ _ n g=>exact h.2 i a
def chk:Nat->List Pat->Prop
 |0,l=>l=[]
 |_+1,[]=>True
 |k+1,p::l=>Hh p/\chk k (p.L.toList++l)
def ZV:∀k,chk k []
 |0=>rfl
 |_+1=>trivial
def Nk:∀(k:Nat) (l:List Pat),chk k l->l.length<=k
 |0,l,h=>by rw[show l=[] from h];exact AN3 _
 |k+1,[],_=>AV7 _
 |k+1,p::l,⟨_,h⟩=>by
  have:=Nk k _ h
  rw[AR4]at this;simp only[AP8];omega
def WF:∀(d:Nat) (p:Pat),okP d p->okP (d+1) p
 |0,_,h=>h.elim
 |d+1,p,⟨h1,h2,h3⟩=>⟨h1,h2,fun i a=>WF d _ (h3 i a)⟩
def Ps {α : Type}{s:Sl α}{i:Nat}(h:i<s.n):s.g i∈s.toList:=AT6.2 ⟨i,AT1.2 h,rfl⟩
def Bl {α : Type}(s:Sl α):s.toList.length=s.n:=by simp[Sl.toList]
def Nl:∀(k:Nat) (l:List Pat),k<=40->chk k l->∀p∈l,okP k p
 |0,l,_,h,p,hp=>by rw[show l=[] from h]at hp;cases hp
 |k+1,[],_,_,p,hp=>by cases hp
 |k+1,q::l,hk,⟨hn,h⟩,p,hp=>by
  have ih:=Nl k _ (by omega) h;rcases AQ5.1 hp with rfl|hp
  .have hl:=Nk k _ h;rw[AR4,Bl]at hl;exact⟨by omega,fun a=>hn.2.2.2.2.1 a,fun i b=>ih _ (AP7 _ (Ps b))⟩
  exact WF k p (ih p (AO5 _ hp))
def Am3 {N:Nat}{p:Pat}(hp:okS p.Is):∃e,JW N p=some e/\(e=0↔Hh p):=by
 obtain⟨a,b,f⟩:=hp;have i:=Vd f;unfold JW Hh;by_cases h1:0<=p.Kind/\p.Kind<=6
 case neg=>exact Ar ⟨2,rfl,by simp;omega⟩
 refine Bv ?_;have e0:((p.Is.Plus==0)&&(p.Is.Minus==0))=decide (p.Is.Plus=0/\p.Is.Minus=0):=by rw[AQ4];simp
 rw[e0];by_cases c:p.Kind≠1->(p.Is.Plus=0/\p.Is.Minus=0)/\p.Not=false
 case neg=>
  refine ifT ?_ ⟨2,rfl,by simp[c]⟩;simp only[AN1,AO9,bne_iff_ne,ne_eq,Ba7,decide_eq_false_iff_not];rw[Classical.not_imp]at c;refine⟨c.1,?_⟩;by_cases h:p.Is.Plus=0/\p.Is.Minus=0
  .right
   cases hn:p.Not
   .exact Ia ⟨h,hn⟩ c.2
   rfl
  exact .inl h
 refine ifF ?_ (ltX ?_)
 .simp only[AN1,AO9,bne_iff_ne,ne_eq,Ba7,decide_eq_false_iff_not];rintro⟨g1,g2⟩;obtain⟨g3,g4⟩:=c g1;rcases g2 with g2|g2
  .exact g2 g3
  rw[g4]at g2;cases g2
 have rest:(p.Kind≠3->p.Kind≠4->p.Kind≠5->p.L.n=0)->∃e,(if ((p.Kind != 5)&&((p.Min != 0)||(p.Max != 0))) then some (2:Int)else
  lt (fun (z2:Bool)=>if z2 then some 2 else (Y8 N p.Is).bind fun y1=>if (!y1) then some 14 else some 0) fun k2=>
   if (p.Kind==5) then if (((p.L.n:Nat):Int) != 1) then k2 true else if (decide (p.Min<0)) then k2 true else if (decide (32<p.Min)) then k2 true else
    if (p.Max != (-1)) then if (decide (p.Max<p.Min)) then k2 true else k2 (decide (32<p.Max))else k2 false else k2 false)=some e /\
  (e=0↔(0<=p.Kind/\p.Kind<=6)/\(p.Kind≠1->(p.Is.Plus=0/\p.Is.Minus=0)/\p.Not=false)/\(p.Kind≠3->p.Kind≠4->p.Kind≠5->p.L.n=0)/\(p.Kind≠5->p.Min=0/\p.Max=0) /\
   (p.Kind=5->p.L.n=1/\0<=p.Min/\p.Min<=32/\(p.Max = -1 \/ (p.Min<=p.Max/\p.Max<=32)))/\vS p.Is):=by
  intro j;by_cases d:p.Kind≠5->p.Min=0/\p.Max=0
  case neg=>refine ifT ?_ ⟨2,rfl,by simp[d]⟩;rw[Classical.not_imp]at d;simp only[AN1,AO9,bne_iff_ne,ne_eq];omega
  refine ifF ?_ (ltX ?_)
  .simp only[AN1,AO9,bne_iff_ne,ne_eq];rintro⟨g1,g2⟩
   have:=d g1
   omega
  have last:(p.Kind=5->p.L.n=1/\0<=p.Min/\p.Min<=32/\(p.Max = -1 \/ (p.Min<=p.Max/\p.Max<=32)))->∃e,(if false then some (2:Int)else (Y8 N p.Is).bind fun y1=>if (!y1) then some 14 else some 0)=some e /\
   (e=0↔(0<=p.Kind/\p.Kind<=6)/\(p.Kind≠1->(p.Is.Plus=0/\p.Is.Minus=0)/\p.Not=false)/\(p.Kind≠3->p.Kind≠4->p.Kind≠5->p.L.n=0)/\(p.Kind≠5->p.Min=0/\p.Max=0) /\
    (p.Kind=5->p.L.n=1/\0<=p.Min/\p.Min<=32/\(p.Max = -1 \/ (p.Min<=p.Max/\p.Max<=32)))/\vS p.Is):=by
   intro g;refine Bx ?_;rw[i,f,Pr];refine B0 rfl ?_;cases l:vB a b
   .exact ifT rfl ⟨14,rfl,by simp⟩
   exact Bx ⟨0,rfl,by rw[<- f];exact⟨fun _=>⟨h1,c,j,d,g,rfl⟩,fun _=>rfl⟩⟩
  have bad:¬(p.Kind=5->p.L.n=1/\0<=p.Min/\p.Min<=32/\(p.Max = -1 \/ (p.Min<=p.Max/\p.Max<=32)))->∃e,(if true then some (2:Int)else (Y8 N p.Is).bind fun y1=>if (!y1) then some 14 else some 0)=some e /\
   (e=0↔(0<=p.Kind/\p.Kind<=6)/\(p.Kind≠1->(p.Is.Plus=0/\p.Is.Minus=0)/\p.Not=false)/\(p.Kind≠3->p.Kind≠4->p.Kind≠5->p.L.n=0)/\(p.Kind≠5->p.Min=0/\p.Max=0) /\
    (p.Kind=5->p.L.n=1/\0<=p.Min/\p.Min<=32/\(p.Max = -1 \/ (p.Min<=p.Max/\p.Max<=32)))/\vS p.Is):=fun g=>ifT rfl ⟨2,rfl,⟨fun h=>Ia h (by decide),fun h=>Ia h.2.2.2.2.1 g⟩⟩
  by_cases k5:p.Kind=5
  .refine ifT (by simp[k5]) ?_;by_cases g1:p.L.n=1
   case neg=>exact Ar (bad fun h=>g1 (h k5).1)
   refine Bv ?_;by_cases g2:p.Min<0
   .exact ifT (by simpa using g2) (bad fun h=>by have:=h k5;omega)
   refine ifF (by simpa using g2) ?_;by_cases g3:32<p.Min
   .exact ifT (by simpa using g3) (bad fun h=>by have:=h k5;omega)
   refine ifF (by simpa using g3) ?_;by_cases g4:p.Max = -1
   .exact ifF (by simp[g4]) (last fun _=>⟨g1,by omega,by omega,.inl g4⟩)
   refine ifT (by simp[g4]) ?_;by_cases g5:p.Max<p.Min
   .exact ifT (by simpa using g5) (bad fun h=>by have:=h k5;omega)
   refine ifF (by simpa using g5) ?_;by_cases g6:32<p.Max
   .rw[decide_eq_true g6];exact bad fun h=>by have:=h k5;omega
   rw[decide_eq_false g6];exact last fun _=>⟨g1,by omega,by omega,.inr ⟨by omega,by omega⟩⟩
  exact ifF (by simp[k5]) (last fun h=>Ia h k5)
 by_cases k3:p.Kind=3
 .exact ifF (by simp[k3]) (Bx (rest fun h=>Ia k3 h))
 refine ifT (by simp[k3]) ?_;by_cases k4:p.Kind=4
 .exact ifF (by simp[k4]) (Bx (rest fun _ h=>Ia k4 h))
 refine ifT (by simp[k4]) ?_;by_cases k5:p.Kind=5
 .exact ifF (by simp[k5]) (Bx (rest fun _ _ h=>Ia k5 h))
 refine ifT (by simp[k5]) ?_;by_cases hn:p.L.n=0
 .exact Bv (rest fun _ _ _=>hn)
 exact Ar ⟨2,rfl,⟨fun h=>Ia h (by decide),fun h=>Ia (h.2.2.1 k3 k4 k5) hn⟩⟩
def DK {α : Type}(s:Sl α){i:Nat}(h:i<s.n):s.toList.drop i=s.g i::s.toList.drop (i+1):=by
 have hl:i<s.toList.length:=by rw[Bl];exact h
 rw[AW4 hl];simp[Sl.toList]
def BL {α : Type}(s:Sl α):s.toList.drop s.n=[]:=AU4 (by rw[Bl];exact AN3 _)
def ZW {N:Nat}(o:1000<=N):∀(d:Nat),d<=40->∀(p:Pat),okPS p->∀M,N+d+1<=M->∃r,EQ M p ((40-d:Nat):Int)=some r /\
 ∃k:Nat,r.1=(k:Int)/\40-d<=k/\k<=40/\(r.2=0->40-d<k/\∀l,chk d (p::l)↔chk (40-k) l)/\(r.2≠0->∀l,¬chk d (p::l))
 |d,hd,p,hp,0,hM=>by omega
 |0,hd,p,hp,M+1,hM=>by show ∃r,Ct (EQ M) M p _=some r/\_;unfold Ct;exact Au ⟨_,rfl,40,rfl,by omega,by omega,fun h=>Ia h (by decide),fun _ l h=>by cases h⟩
 |d+1,hd,p,hp,M+1,hM=>by
  show ∃r,Ct (EQ M) M p _=some r/\_;unfold Ct;refine Bv ?_;obtain⟨e,q,hn⟩:=Am3 (N:=M) hp.is;refine B0 q ?_;by_cases c:e=0
  case neg=>exact ifT (by simp[c]) ⟨_,rfl,40-(d+1),rfl,AN3 _,by omega,fun h=>Ia h c,fun _ l h=>c (hn.2 h.1)⟩
  refine ifF (by simp[c]) ?_;have a:=hn.1 c;rw[Dn];refine U2 (fun i x1 x2=>x2=(i:Int)/\∃k:Nat,x1=(k:Int)/\40-(d+1)+1+i<=k/\k<=40/\i<=p.L.n/\∀l,chk (d+1) (p::l)↔chk (40-k) (p.L.toList.drop i++l)) 41 _ (by omega)
   ⟨rfl,40-(d+1)+1,rfl,by omega,by omega,by omega,fun l=>by rw[show 40-(40-(d+1)+1)=d by omega];exact⟨fun h=>h.2,fun h=>⟨a,h⟩⟩⟩ ?_
  rintro j i x1 x2 t ⟨rfl,k,rfl,h1,s,u,f⟩ hs;by_cases hl:i<p.L.n
  .refine Ar (Ab ?_);obtain⟨r,m,k',r1,r2,r3,r4,r5⟩:=ZW o (40-k) (by omega) (p.L.g i) (hp.L hl) M (by omega);rw[show ((40-(40-k):Nat):Int)=(k:Int) by omega]at m;refine B0 (by rw[AM9];exact m) ?_;by_cases b:r.2=0
   .refine ifF (by simp[b]) (hs (by omega) _ _ ⟨Dn,k',r1,by have:=(r4 b).1;omega,r3,by omega,fun l=>?_⟩);rw[f,DK _ hl,AR3];exact (r4 b).2 _
   refine ifT (by simp[b]) ⟨_,rfl,k',r1,by omega,r3,fun h=>Ia h b,fun _ l hc=>?_⟩;rw[f,DK _ hl,AR3]at hc;exact r5 b _ hc
  obtain rfl:i=p.L.n:=by omega
  refine Bx ⟨_,rfl,k,rfl,by omega,s,fun _=>⟨by omega,fun l=>?_⟩,fun h=>Ia rfl h⟩;rw[f,BL];rfl
def Nm {N:Nat}(f:2000<=N){p:Pat}(hp:okPS p):∃e,Dx N p=some e/\(e=0↔chk 40 [p]):=by
 obtain⟨r,b,k,h1,g,i,c,d⟩:=ZW (N:=1500) (by omega) 40 (AN3 _) p hp N (by omega);unfold Dx;refine B0 b ⟨_,rfl,fun h=>?_,fun h=>?_⟩
 .exact ((c h).2 []).2 (ZV _)
 by_cases a:r.2=0
 .exact a
 exact Ia h (d a [])
end Go.AM
namespace Go.AM
open Go.Proofs
def ZX (x:BitVec 64)(h:x≠0#64):Lib.ctz 64 x.toNat<64/\x.getLsbD (Lib.ctz 64 x.toNat)=true/\∀j,j<Lib.ctz 64 x.toNat->x.getLsbD j=false:=by
 have b:x.toNat≠0:=fun e=>h (AR1 (by simpa using e));obtain⟨m,hm,a⟩:=Lib.ctzFrom_spec 64 x.toNat (by omega) x.isLt;have e:Lib.ctz 64 x.toNat=Lib.ctzFrom 64 x.toNat:=by unfold Lib.ctz;rw[Hf b]
 rw[e];refine⟨a,?_,fun j hj=>?_⟩
 .show x.toNat.testBit _=true;rw[hm,Bc8];simp[<- hm,Nat.testBit_zero]
 show x.toNat.testBit _=false;rw[hm,Bc8];simp[<- hm];omega
def FC (x:BitVec 64)(i:Nat):List Int:=((List.range' i (64-i)).filter fun j=>x.getLsbD j).map fun (j:Nat)=>(j:Int)
def Ke {x:BitVec 64}{i:Nat}(h:∀j,j<64->x.getLsbD j=false):FC x i=[]:=by
 unfold FC;rw[Bd5.2 fun j hj=>by
  have:=List.mem_range'.1 hj
  simp;exact h j (by omega)]
 rfl
def Pt {x:BitVec 64}{t:Nat}:∀(k i:Nat),t=i+k->t<64->x.getLsbD t=true->(∀j,j<t->x.getLsbD j=false)->FC x i=(t:Int)::FC x (t+1)
 |0,i,h,ht,hb,hl=>by
  obtain rfl:t=i:=by omega
  unfold FC;rw[show 64-t=(64-(t+1))+1 by omega,AY8,Bc9 hb];rfl
 |k+1,i,h,ht,hb,hl=>by rw[<- Pt k (i+1) (by omega) ht hb hl];unfold FC;rw[show 64-i=(64-(i+1))+1 by omega,AY8,Bd0 (by simp;exact hl i (by omega))]
def Ve {x y:BitVec 64}{i:Nat}(h:∀j,i<=j->x.getLsbD j=y.getLsbD j):FC x i=FC y i:=by unfold FC;rw[List.filter_congr fun j hj=>h j (by have:=List.mem_range'.1 hj;omega)]
def AM4 (M:Nat)(a:Int->Option (List Int))(x1:Int):Option (List Int):= if (x1 != 0) then (F9 M x1).bind fun y3=>if (0:Int)<=y3 then Aq y3 (a (G3 .andNot .u64 x1 (shI .shl .u64 1 y3))) else none else some []
def ZY {x:BitVec 64}{M:Nat}{a:Int->Option (List Int)}(hx:x≠0#64):AM4 M a (U x)=Aq ((Lib.ctz 64 x.toNat:Nat):Int) (a (U (x &&& ~~~(1#64 <<< Lib.ctz 64 x.toNat)))):=by
 have c:x.toNat≠0:=fun e=>hx (AR1 (by simpa using e));have b:=x.isLt;unfold AM4;rw[G9]
 have:F9 M (U x)=some ((Lib.ctz 64 x.toNat:Nat):Int):=by unfold F9;rw[He ⟨show (0:Int)<=(x.toNat:Int) by omega,show (x.toNat:Int)<18446744073709551616 by omega⟩];rfl
 rw[this,AN2,Dp,SW _ (ZX x hx).1,Al2]
def Tp {M:Nat}{a:Int->Option (List Int)}:AM4 M a (U 0#64)=some []:=rfl
def AA8 (M:Nat):∀(k i:Nat) (x:BitVec 64),64-i<=k->(∀j,j<i->x.getLsbD j=false)->∀N,k<N->S9 N (AM4 M) (U x)=some (FC x i):=by
 intro k
 induction k with
 |zero=>
  intro i x hk hl N a;have f:x=0#64:=AS6 fun j hj=>by simp;exact hl j (by omega)
  subst f
  match N,a with
  |N+1,_=>rw[Ke fun j hj=>by simp,Bt,Tp]
 |succ k ih=>
  intro i x hk hl N a
  match N,a with
  |N+1,a=>
   by_cases hx:x=0#64
   .subst hx;rw[Ke fun j hj=>by simp,Bt,Tp]
   obtain⟨h1,b,c⟩:=ZX x hx;have g:i<=Lib.ctz 64 x.toNat:=by
    by_cases l:Lib.ctz 64 x.toNat<i
    .rw[hl _ l]at b;cases b
    omega
   rw[Pt (Lib.ctz 64 x.toNat-i) i (by omega) h1 b c,Bt,ZY hx];generalize Lib.ctz 64 x.toNat=t at h1 b c g;have hb:∀j,j<64->(x &&& ~~~(1#64 <<< t)).getLsbD j=(x.getLsbD j && !decide (j=t)):=fun j hj=>by rw[AO8,AS4,Gy h1 hj];simp[hj]
   have hc:FC x (t+1)=FC (x &&& ~~~(1#64 <<< t)) (t+1):=Ve fun j hj=>by
    by_cases d:j<64
    .rw[hb j d];have:¬j=t:=by omega
     simp[this]
    rw[Be8 _ _ (by omega),Be8 _ _ (by omega)]
   rw[ih (t+1) (x &&& ~~~(1#64 <<< t)) (by omega) (fun j hj=>by
    rw[hb j (by omega)];by_cases e:j=t
    .simp[e]
    rw[c j (by omega)];rfl) N (by omega),<- hc]
   rfl
def Ij (x:BitVec 64){N:Nat}(a:100<=N):P9 N (U x)=some (FC x 0):=
 AA8 N 64 0 x (by omega) (fun j hj=>Ia hj (by omega)) N (by omega)
def mem_bitsF {x:BitVec 64}{i:Nat}{y:Int}:y∈FC x i ↔ ∃j:Nat,y=(j:Int)/\i<=j/\j<64/\x.getLsbD j=true:=by
 unfold FC;simp only[AT6,Ba0,Bc5];constructor
 .rintro⟨j,⟨h1,a⟩,rfl⟩;exact⟨j,rfl,h1.1,by omega,a⟩
 rintro⟨j,rfl,h1,a,b⟩;exact⟨j,⟨⟨h1,by omega⟩,b⟩,rfl⟩
def Am4 {T A R:Type}{body:(A->Option R)->T->A->Option R}{k:A->Option R}{I3:R->Prop}(J:List T->A->Prop)(c:∀a,J [] a->∃r,k a=some r/\I3 r)
 (b:∀t L a self,J (t::L) a->(∀a',J L a' -> ∃r,self a' = some r/\I3 r)->∃r,body self t a=some r/\I3 r):∀(L:List T) (a:A),J L a->∃r,O6 L body k a=some r/\I3 r
 |[],a,h=>c a h
 |t::L,a,h=>b t L a _ h fun a' h'=>Am4 J c b L a' h'
def TabA (n:Nat)(R:Nat->Nat->Prop)(f:Nat->Int):Prop:=TabR n R f/\∀a,n<a->f a=0
def TabA.congr {n:Nat}{R R' : Nat->Nat->Prop}{f:Nat->Int}(h:TabA n R f)(c:∀a b,a<=n->b<=n->(R a b↔R' a b)):TabA n R' f:=⟨h.1.congr c,h.2⟩
def zeroA (n:Nat):TabA n (fun _ _=>False) (fun _=>0):=⟨Al8 fun _ _=>rfl,fun _ _=>rfl⟩
def Eh (f:Nat->Int)(i:Nat)(v:Int)(a:Nat):Ht f i v a=if a=i then v else f a:=rfl
def As9 {N n:Nat}{R S:Nat->Nat->Prop}{x y:Nat->Int}(hn:n<=32)(f:1000<=N)(hR:TabA n R x)(hS:TabA n S y) :∃s,M9 N x y=some s/\TabA n (fun a b=>R a b \/ S a b) s:=by
 unfold M9;refine U2 (fun i x1 x2=>x2=(i:Int)/\∀a,x1 a=if a<i then G3 .or .u64 (x a) (y a)else x a) 33 _ (by omega) ⟨rfl,fun a=>by rw[Gt]⟩ ?_;rintro d i x1 x2 g ⟨rfl,c⟩ hs;by_cases hl:i<33
 .refine Ar (Ab (Ab (hs (by omega) _ _ ⟨Dn,fun a=>?_⟩)));rw[Eh,AM9,AQ0,AS2];by_cases e:a=i
  .subst e;rw[He rfl,Dp,c a,Gt]
  rw[Hf e,c a];by_cases e2:a<i
  .rw[He e2,Dp]
  rw[Hf e2,Gt]
 refine Bv ⟨x1,rfl,fun a ha=>?_,fun a ha=>?_⟩
 .obtain⟨u,e1,g1⟩:=hR.1 a ha;obtain⟨v,e2,g2⟩:=hS.1 a ha;refine⟨u ||| v,by rw[c a,Dp,e1,e2,AM3],fun b hb=>?_⟩;rw[AO7,AO9,g1 b hb,g2 b hb];constructor
  .rintro (⟨h1,c⟩ | ⟨h1,c⟩)
   .exact⟨h1,.inl c⟩
   exact⟨h1,.inr c⟩
  rintro⟨h1,c|c⟩
  .exact .inl ⟨h1,c⟩
  exact .inr ⟨h1,c⟩
 rw[c a];split
 .rw[hR.2 a ha,hS.2 a ha];rfl
 exact hR.2 a ha
def GJ {N n:Nat}(hn:n<=32)(f:1000<=N):∃s,P1 N (n:Int)=some s/\TabA n (fun a b=>a=b) s:=by
 unfold P1;rw[Dn];refine U2 (fun i x1 x2=>x2=(i:Int)/\∀a,x1 a=if a<i then U (1#64 <<< a)else 0) (n+1) _ (by omega) ⟨rfl,fun a=>rfl⟩ ?_;rintro d i x1 x2 g ⟨rfl,c⟩ hs;by_cases hl:i<=n
 .refine Ar (Ab (hs (by omega) _ _ ⟨Dn,fun a=>?_⟩));rw[Eh,AM9,AQ0,AS2];by_cases e:a=i
  .subst e;rw[He rfl,Dp,SW _ (by omega)]
  rw[Hf e,c a];by_cases e2:a<i
  .rw[He e2,Dp]
  rw[Hf e2,Gt]
 refine Bv ⟨x1,rfl,fun a ha=>⟨1#64 <<< a,by rw[c a,Dp],fun b hb=>?_⟩,fun a ha=>by rw[c a,Gt]⟩;rw[Gy (by omega) hb,Ld];omega
def LF {N n:Nat}{R S:Nat->Nat->Prop}{x y:Nat->Int}(hn:n<=32)(hN:1000<=N)(hR:TabA n R x)(hS:TabA n S y) :∃s,D0 N x y=some s/\TabA n (fun a b=>∃c,c<=n/\R a c/\S c b) s:=by
 unfold D0;refine U2 (fun i x3 x4=>x4=(i:Int)/\(∀a,a<i->a<=n->∃z:BitVec 64,x3 a=U z/\∀b,b<64->(z.getLsbD b=true↔b<=n/\∃c,c<=n/\R a c/\S c b))/\∀a,i<=a \/ n<a->x3 a=0) 33 _ (by omega)
  ⟨rfl,fun a ha=>Ia ha (by omega),fun a _=>rfl⟩ ?_
 rintro a0 i x3 x4 hi ⟨rfl,o,m⟩ hs;by_cases hl:i<33
 .refine Ar (Ab ?_);rw[AM9,AQ0,AS2];refine B0 (x:=x i) rfl ?_;by_cases q:i<=n
  .obtain⟨u,e1,g1⟩:=hR.1 i q;refine B0 (x:=FC u 0) (by rw[e1];exact Ij u (by omega)) ?_;refine Am4 (fun L z=>(∀a,a≠i->z a=x3 a)/\(∀t∈L,∃c:Nat,t=(c:Int)/\c<=n/\R i c)/\∃v:BitVec 64,z i=U v/\∀b,b<64->((v.getLsbD b=true \/ ∃c:Nat,(c:Int)∈L/\b<=n/\S c b)↔(b<=n/\∃c,c<=n/\R i c/\S c b))) ?_ ?_ _ _ ?_
   .rintro z ⟨k1,k2,v,k3,k4⟩;refine hs (by omega) _ _ ⟨Dn,fun a ha f=>?_,fun a ha=>?_⟩
    .by_cases e:a=i
     .subst e;exact⟨v,k3,fun b hb=>by rw[<- k4 b hb];simp⟩
     obtain⟨z',p1,p2⟩:=o a (by omega) f;exact⟨z',by rw[k1 a e];exact p1,p2⟩
    rw[k1 a (by omega)];exact m a (by omega)
   .rintro t L z r ⟨k1,k2,v,k3,k4⟩ w;obtain⟨c,rfl,hc,a1⟩:=k2 t (by simp);refine Ab (w _ ⟨fun a ha=>?_,fun t ht=>k2 t (by simp[ht]),?_⟩)
    .rw[Eh,Gt];exact k1 a ha
    obtain⟨yc,e2,g2⟩:=hS.1 c hc;refine⟨v ||| yc,?_,fun b hb=>?_⟩
    .rw[Eh,Dp];simp only[AM9,AQ0,AS2];rw[k3,e2,AM3]
    rw[<- k4 b hb,AO7,AO9,g2 b hb];constructor
    .rintro ((h|⟨h,h'⟩)|⟨c',h,h'⟩)
     .exact .inl h
     .exact .inr ⟨c,by simp,h,h'⟩
     exact .inr ⟨c',by simp[h],h'⟩
    rintro (h|⟨c',h,h',d⟩)
    .exact .inl (.inl h)
    rcases AQ5.1 h with h|h
    .have:c' = c:=by omega
     subst this;exact .inl (.inr ⟨h',d⟩)
    exact .inr ⟨c',h,h',d⟩
   refine⟨fun _ _=>rfl,fun t ht=>?_,0#64,m i (.inl (AN3 _)),fun b hb=>?_⟩
   .obtain⟨j,rfl,_,hj,hb⟩:=mem_bitsF.1 ht;exact⟨j,rfl,((g1 j hj).1 hb).1,((g1 j hj).1 hb).2⟩
   simp only[Bb6,AN5,false_or];constructor
   .rintro⟨c,hc,h,h'⟩;obtain⟨j,hj,_,g,l⟩:=mem_bitsF.1 hc;obtain rfl:c=j:=by omega
    exact⟨h,c,((g1 c g).1 l).1,((g1 c g).1 l).2,h'⟩
   rintro⟨h,c,hc,h',d⟩;exact⟨c,mem_bitsF.2 ⟨c,rfl,by omega,by omega,(g1 c (by omega)).2 ⟨hc,h'⟩⟩,h,d⟩
  refine B0 (x:=[]) (by rw[hR.2 i (by omega)];exact (Ij 0#64 (by omega)).trans (by rw[Ke fun j hj=>by simp])) ?_;exact hs (by omega) _ _ ⟨Dn,fun a ha f=>o a (by omega) f,fun a ha=>m a (by omega)⟩
 exact Bv ⟨x3,rfl,fun a ha=>o a (by omega) ha,fun a ha=>m a (.inr ha)⟩
def Am5 (N:Nat)(x:Nat->Int):I2 N x=D0 N x x:=rfl
end Go.AM
namespace Go.AM
variable {N:Nat}
open Go.Proofs
def AK9:∀m:Fin 33,(G3 .and .i64 ((m.val:Nat):Int) 1==1)=decide (m.val % 2=1)/\shI .shr .i64 ((m.val:Nat):Int) 1=((m.val / 2:Nat):Int):=by decide +kernel
def Tq {N n:Nat}{R:Nat->Nat->Prop}{x:Nat->Int}(hn:n<=32)(o:1000<=N)(u:Fwd n R)(hR:TabA n R x){k:Nat}(hk:k<=32) :∃s,E7 N x (k:Int) (n:Int)=some s/\TabA n (HF n R k) s:=by
 unfold E7;obtain⟨y1,e1,h1⟩:=GJ (N:=N) hn o;refine B0 e1 ?_;refine XR (fun i x1 x2 x3=>x1=((k / 2 ^ i:Nat):Int)/\TabA n (HF n R (2 ^ i)) x2/\TabA n (HF n R (k % 2 ^ i)) x3) 6 _ (by omega) ⟨by simp,?_,?_⟩ ?_
 .exact hR.congr fun a b ha hb=>⟨fun h=>⟨a,ha,rfl,h⟩,fun⟨c,hc,(h:a=c),h'⟩=>h ▸ h'⟩
 .rw[Nat.pow_zero,Bg5];exact h1
 rintro v i x1 x2 x3 w ⟨rfl,q,l⟩ hs;have hm:k / 2 ^ i<=32:=AS8 (Nat.div_le_self _ _) hk;obtain⟨b1,b2⟩:=AK9 ⟨k / 2 ^ i,by omega⟩;simp only at b1 b2;have f:k / 2 ^ i / 2=k / 2 ^ (i+1):=by rw[Nat.div_div_eq_div_mul,Nat.pow_succ]
 have g:k % 2 ^ (i+1)=k % 2 ^ i+2 ^ i*(k / 2 ^ i % 2):=Nat.mod_pow_succ;have d:∃s,I2 N x2=some s/\TabA n (HF n R (2 ^ (i+1))) s:=by obtain⟨s,e,h⟩:=LF hn o q q;refine⟨s,(Am5 N x2).trans e,h.congr fun a b ha hb=>?_⟩;rw[show 2 ^ (i+1)=2 ^ i+2 ^ i by rw[Nat.pow_succ];omega];exact (Ea u (2 ^ i) ha (2 ^ i) b).symm
 obtain⟨sq,esq,d⟩:=d;by_cases m:k / 2 ^ i=0
 .refine ifF (by simp[m]) ⟨x3,rfl,?_⟩
  have:k % 2 ^ i=k:=AU2 (by
   have:=Bf0.1 m
   rcases this with h|h
   .exact Ia h (Nat.ne_of_gt (Nat.two_pow_pos i))
   exact h)
  rw[this]at l;exact l
 have j:i<6:=by
  by_cases h:i<6
  .exact h
  exact Ia (AV3 (Bg0 hk (AP2 (by decide:32<2 ^ 6) (AW6 (by omega) (by omega))))) m
 refine ifT (decide_eq_true (Int.natCast_pos.2 (Bf1 m))) ?_;by_cases r:k / 2 ^ i % 2=1
 .refine ifT (by rw[b1];simp[r]) ?_;obtain⟨t,et,ht⟩:=LF hn o l q;refine B0 et (B0 esq (hs j _ _ _ ⟨by rw[b2,f],d,ht.congr fun a b ha hb=>?_⟩));rw[g,r,AS2];exact (Ea u (k % 2 ^ i) ha (2 ^ i) b).symm
 refine ifF (by rw[b1];simp[r]) (B0 esq (hs j _ _ _ ⟨by rw[b2,f],d,?_⟩));rw[g,show k / 2 ^ i % 2=0 by omega,Nat.mul_zero,AU1];exact l
def AA9 {s c:Qz}(hs:okS s)(hc:okS c):((G3 .or .u32 (G3 .andNot .u32 c.Plus s.Plus) (G3 .andNot .u32 c.Minus s.Minus))==0)=UQ s c:=by
 obtain⟨p,m,rfl⟩:=hs;obtain⟨a,b,rfl⟩:=hc;have e:∀x y:BitVec 32,((G3 .and .u32 (x.toNat:Int) (y.toNat:Int))==(y.toNat:Int))=decide (y &&& ~~~ x=0#32):=by
  intro x y;rw[Ff,AQ4];simp only[beq_iff_eq,Ld];constructor
  .intro h;have h:x &&& y=y:=AR1 (by omega);refine (z32 _).2 fun i d=>?_
   have:=congrArg (·.getLsbD i) h
   simp only[AO8,AS4,d,decide_true,AZ8]at this⊢;cases hx:x.getLsbD i<;>cases hy:y.getLsbD i<;>simp_all
  intro h
  have:x &&& y=y:=Jq fun i d=>by
   have:=(z32 _).1 h i d
   simp only[AO8,AS4,d,decide_true,AZ8]at this⊢;cases hx:x.getLsbD i<;>cases hy:y.getLsbD i<;>simp_all
  rw[this]
 unfold UQ;simp only[e,EF,KB,eq0];rw[AQ4];simp only[AN1,Ld];constructor
 .intro h;have h:=(z32 _).1 h;exact⟨(z32 _).2 fun i d=>by have:=h i d;rw[AO7,AW7]at this;exact this.1,(z32 _).2 fun i d=>by have:=h i d;rw[AO7,AW7]at this;exact this.2⟩
 rintro⟨h1,f⟩;rw[h1,f];rfl
def ZZ (q:1000<=N){w:Sl Qz}(hw:w.n<=32)(l:∀i,i<w.n->okS (w.g i)){c:Qz}(hc:okS c)(no:Bool) :∃f,Y0 N ⟨c,no⟩ w=some f/\TabA w.n (fun a b=>a<w.n/\b=a+1/\(UQ (w.g a) c != no)=true) f:=by
 unfold Y0;refine U2 (fun i x1 x2=>x2=(i:Int)/\∀a,x1 a=if a<i/\(UQ (w.g a) c != no) then U (1#64 <<< (a+1))else 0) w.n _ (by omega) ⟨rfl,fun a=>by rw[Gt]⟩ ?_;rintro m i x1 x2 r ⟨rfl,d⟩ hs;by_cases hl:i<w.n
 .refine Ar (Ab ?_);rw[AM9,AA9 (l i hl) hc];by_cases hb:(UQ (w.g i) c != no)=true
  .refine ifT (by revert hb;cases UQ (w.g i) c<;>cases no<;>simp) ?_;rw[Dn];refine Ab (hs hl _ _ ⟨rfl,fun a=>?_⟩);rw[Eh,AQ0,AS2,SW _ (by omega)];by_cases e:a=i
   .subst e;rw[He rfl,He ⟨by omega,hb⟩]
   rw[Hf e,d a];by_cases e2:a<i
   .simp only[e2,show a<i+1 by omega,true_and]
   rw[Gt,Gt]
  refine ifF (by revert hb;cases UQ (w.g i) c<;>cases no<;>simp) (hs hl _ _ ⟨Dn,fun a=>?_⟩);rw[d a];by_cases e:a=i
  .subst e;rw[Gt,Hf (fun h=>hb h.2)]
  by_cases e2:a<i
  .simp only[e2,show a<i+1 by omega,true_and]
  rw[Gt,Gt]
 refine Bv ⟨x1,rfl,fun a ha=>?_,fun a ha=>by rw[d a,Gt]⟩;by_cases hb:a<w.n/\(UQ (w.g a) c != no)=true
 .refine⟨1#64 <<< (a+1),by rw[d a,He ⟨by omega,hb.2⟩],fun b j=>?_⟩;rw[Gy (by omega) j,Ld];exact⟨fun h=>⟨by omega,hb.1,h,hb.2⟩,fun h=>h.2.2.1⟩
 refine⟨0#64,by rw[d a,Hf (fun h=>hb ⟨by omega,h.2⟩)];rfl,fun b j=>?_⟩;simp only[Bb6,AN5,false_iff];rintro⟨_,h1,d,o⟩;exact hb ⟨h1,o⟩
def Aa0 {n a0 b0:Nat}(ha:a0<=n)(hb:b0<=n)(hn:n<=32):TabA n (fun a b=>a=a0/\b=b0) (Ht (fun _=>0) a0 (U (1#64 <<< b0))):=by
 refine⟨fun a d=>?_,fun a d=>by rw[Eh,Gt]⟩;by_cases e:a=a0
 .refine⟨1#64 <<< b0,by rw[Eh,He e],fun b c=>?_⟩;rw[Gy (by omega) c,Ld];omega
 refine⟨0#64,by rw[Eh,Hf e];rfl,fun b c=>?_⟩;simp only[Bb6,AN5,false_iff];exact fun h=>e h.2.1
def WG {w:Sl Qz}(hw:w.n<=32)(e:Bool):∃f,AP N ⟨e⟩ w=some f/\TabA w.n (fun a b=>a=(if e then w.n else 0)/\b=(if e then w.n else 0)) f:=by
 unfold AP;cases e
 .refine Bx (Av ⟨_,rfl,?_⟩);exact Aa0 (n:=w.n) (a0:=0) (b0:=0) (by omega) (by omega) hw
 refine ifT rfl (Ab ⟨_,rfl,?_⟩);rw[AM9,AQ0,AS2,SW _ (by omega)];exact Aa0 (AN3 _) (AN3 _) hw
def AB0 (a:1000<=N){w:Sl Qz}(hw:w.n<=32){rec:Part->Sl Qz->Option (Nat->Int)}{m:Nat}(hm:m<=40){g:Nat->Part}{Q:Nat->Nat->Nat->Prop}
 (hc:∀i,i<m->∃f,rec (g i) w=some f/\TabA w.n (Q i) f):∃f,Bz rec N ⟨⟨m,g⟩⟩ w=some f/\TabA w.n (XN w.n Q m) f:=by
 unfold Bz;obtain⟨y1,e1,h1⟩:=GJ (N:=N) hw a;refine B0 e1 ?_;refine U2 (fun i x1 x2=>x2=(i:Int)/\i<=m/\TabA w.n (XN w.n Q i) x1) m _ (by omega) ⟨rfl,by omega,h1⟩ ?_;rintro b i x1 x2 o ⟨rfl,d,c⟩ hs;by_cases hl:i<m
 .refine Ar (ifT (by show (0:Int)<=i/\(i:Int)<m;omega) ?_);obtain⟨f,e2,j⟩:=hc i hl;refine B0 (by rw[AM9];exact e2) ?_;obtain⟨s,e3,l⟩:=LF hw a c j;exact B0 e3 (hs hl _ _ ⟨Dn,hl,l⟩)
 obtain rfl:i=m:=by omega
 exact Bx ⟨x1,rfl,c⟩
def AB1 (l:1000<=N){w:Sl Qz}(hw:w.n<=32){rec:Part->Sl Qz->Option (Nat->Int)}{m:Nat}(hm:m<=40){g:Nat->Part}{Q:Nat->Nat->Nat->Prop}
 (hc:∀i,i<m->∃f,rec (g i) w=some f/\TabA w.n (Q i) f):∃f,BA rec N ⟨⟨m,g⟩⟩ w=some f/\TabA w.n (fun a b=>∃i,i<m/\Q i a b) f:=by
 unfold BA;refine U2 (fun i x1 x2=>x2=(i:Int)/\i<=m/\TabA w.n (fun a b=>∃j,j<i/\Q j a b) x1) m _ (by omega) ⟨rfl,by omega,(zeroA _).congr fun a b _ _=>⟨False.elim,fun⟨j,h,_⟩=>Ia h (by omega)⟩⟩ ?_;rintro c i x1 x2 t ⟨rfl,o,d⟩ hs;by_cases hl:i<m
 .refine Ar (ifT (by show (0:Int)<=i/\(i:Int)<m;omega) ?_);obtain⟨f,e2,q⟩:=hc i hl;refine B0 (by rw[AM9];exact e2) ?_;obtain⟨s,e3,r⟩:=As9 hw l d q;refine B0 e3 (hs hl _ _ ⟨Dn,hl,r.congr fun a b _ _=>⟨?_,?_⟩⟩)
  .rintro (⟨j,h,h'⟩ | h)
   .exact⟨j,by omega,h'⟩
   exact⟨i,by omega,h⟩
  rintro⟨j,h,h'⟩;by_cases e:j=i
  .subst e;exact .inr h'
  exact .inl ⟨j,by omega,h'⟩
 obtain rfl:i=m:=by omega
 exact Bx ⟨x1,rfl,d⟩
end Go.AM
namespace Go.AM
open Go.Proofs
def AB2 {N:Nat}(i:1000<=N){w:Sl Qz}(hw:w.n<=32){rec:Part->Sl Qz->Option (Nat->Int)}{pt:Part}{Q:Nat->Nat->Prop}(d:Fwd w.n Q){f:Nat->Int}(r:rec pt w=some f)(q:TabA w.n Q f)
 {mn mx:Int}(x:0<=mn) (h1:mn<=32) (y:mx = -1 \/ (mn<=mx/\mx<=32)) :
 ∃s,BB rec N ⟨pt,mn,mx⟩ w=some s/\TabA w.n (fun a b=>∃k:Nat,mn<=k/\(mx = -1 \/ (k:Int)<=mx)/\HF w.n Q k a b) s:=by
 obtain⟨m,rfl⟩:∃m:Nat,mn=(m:Int):=⟨mn.toNat,by omega⟩;unfold BB;refine B0 r ?_;obtain⟨y2,e2,t2⟩:=Tq hw i d q (k:=m) (by omega);refine B0 e2 ?_;obtain⟨y3,e3,t3⟩:=GJ (N:=N) hw i;refine B0 e3 ?_;obtain⟨y4,e4,t4⟩:=As9 hw i q t3;refine B0 e4 ?_;have l : Fwd w.n (fun a b=>Q a b \/ a=b):=fun a b ha h=>by
  rcases h with h|h
  .exact d a b ha h
  omega
 have key:∀(K:Nat),K<=32->∃s,((E7 N y4 (K:Int) (w.n:Int)).bind fun y5=>(D0 N y2 y5).bind fun y6=>some y6)=some s/\TabA w.n (fun a b=>∃j,j<=K/\HF w.n Q (m+j) a b) s:=by
  intro K u;obtain⟨y5,e5,t5⟩:=Tq hw i l t4 (k:=K) u;refine B0 e5 ?_;obtain⟨y6,e6,t6⟩:=LF hw i t2 t5;refine B0 e6 ⟨y6,rfl,t6.congr fun a b ha hb=>?_⟩;constructor
  .rintro⟨c,hc,g1,g2⟩;obtain⟨j,hj,g3⟩:=(MN d hc K b).1 g2;exact⟨j,hj,(Ea d m ha j b).2 ⟨c,hc,g1,g3⟩⟩
  rintro⟨j,hj,g⟩;obtain⟨c,hc,g1,g3⟩:=(Ea d m ha j b).1 g;exact⟨c,hc,g1,(MN d hc K b).2 ⟨j,hj,g3⟩⟩
 by_cases hx:mx<0
 .refine ifT (decide_eq_true hx) ?_;obtain⟨s,e,t⟩:=key w.n hw;refine⟨s,e,t.congr fun a b ha hb=>?_⟩;constructor
  .rintro⟨j,hj,g⟩;exact⟨m+j,by omega,.inl (by omega),g⟩
  rintro⟨k,hk,_,g⟩;obtain⟨c,hc,g1,g3⟩:=(Ea d m ha (k-m) b).1 (by rw[show m+(k-m)=k by omega];exact g);obtain⟨j,hj,g4⟩:=SY d hc (k-m) g3;exact⟨j,hj,(Ea d m ha j b).2 ⟨c,hc,g1,g4⟩⟩
 refine ifF (by simpa using hx) ?_;obtain⟨M,rfl⟩:∃M:Nat,mx=(M:Int):=⟨mx.toNat,by omega⟩;have o:IntKind.i64.wrap ((M:Int)-(m:Int))=((M-m:Nat):Int):=by rw[D7 (by omega) (by omega)];omega
 rw[show IntKind.i64.wrap ((⟨pt,(m:Int),(M:Int)⟩:AK1).max-(⟨pt,(m:Int),(M:Int)⟩:AK1).min)=((M-m:Nat):Int) from o];obtain⟨s,e,t⟩:=key (M-m) (by omega);refine⟨s,e,t.congr fun a b ha hb=>?_⟩;constructor
 .rintro⟨j,hj,g⟩;exact⟨m+j,by omega,.inr (by omega),g⟩
 rintro⟨k,hk,v,g⟩;exact⟨k-m,by omega,by rw[show m+(k-m)=k by omega];exact g⟩
def okQ:Nat->Pat->Prop
 |0,_=>False
 |d+1,p=>Hh p/\p.L.n<=40/\∀i,i<p.L.n->okQ d (p.L.g i)
def WH:∀(d:Nat) (p:Pat),okQ d p->okQ (d+1) p
 |0,_,h=>h.elim
 |d+1,p,⟨h1,h2,h3⟩=>⟨h1,h2,fun i a=>WH d _ (h3 i a)⟩
def Aa1:∀(k:Nat) (l:List Pat),k<=40->chk k l->∀p∈l,okQ k p
 |0,l,_,h,p,hp=>by rw[show l=[] from h]at hp;cases hp
 |k+1,[],_,_,p,hp=>by cases hp
 |k+1,q::l,hk,⟨hn,h⟩,p,hp=>by
  have ih:=Aa1 k _ (by omega) h;rcases AQ5.1 hp with rfl|hp
  .have hl:=Nk k _ h;rw[AR4,Bl]at hl;exact⟨hn,by omega,fun i a=>ih _ (AP7 _ (Ps a))⟩
  exact WH k p (ih p (AO5 _ hp))
def vS.ok {s:Qz}(h:vS s):okS s:=by obtain⟨p,m,e,_⟩:=h;exact⟨p,m,e⟩
def AB3 (K:Nat)(p:Pat)(pt:Part):Prop:=∀(w:Sl Qz),w.n<=32->(∀i,i<w.n->okS (w.g i))->∀M,K<=M->∃f,AR M pt w=some f/\TabA w.n (PR w p) f
def Nn {N:Nat}(v:1000<=N):∀(d:Nat),d<=40->∀(p:Pat),okQ d p->∀M,N+d<=M->∃pt,AQ M p=some pt/\AB3 (N+d) p pt
 |0,_,p,h,_,_=>h.elim
 |d+1,hd,p,⟨hn,hc,hch⟩,0,hM=>by omega
 |d+1,hd,p,⟨hn,hc,hch⟩,M+1,hM=>by
  show ∃pt,T8 (AQ M) M p=some pt/\_;unfold T8;refine U2 (fun i x1 x2=>x2=(i:Int)/\i<=p.L.n/\x1.n=i/\∀j,j<i->AB3 (N+d) (p.L.g j) (x1.g j)) p.L.n _ (by omega) ⟨rfl,by omega,rfl,fun j hj=>Ia hj (by omega)⟩ ?_;rintro t i x1 x2 u ⟨rfl,h1,q,o⟩ hs;by_cases hl:i<p.L.n
  .refine Ar (Ab ?_);obtain⟨pt,e,hg⟩:=Nn v d (by omega) (p.L.g i) (hch i hl) M (by omega);refine B0 (by rw[AM9];exact e) ?_;refine ifT (by show (x1.n+1)*16<=_/\x1.n+1<=_;omega) (hs hl _ _ ⟨Dn,hl,by show x1.n+1=i+1;omega,fun j hj=>?_⟩);by_cases e2:j=i
   .subst e2
    have:(x1.push pt).g j=pt:=by simp[Sl.push,q]
    rw[this];exact hg
   have:(x1.push pt).g j=x1.g j:=by simp[Sl.push];omega
   rw[this];exact o j (by omega)
  obtain rfl:i=p.L.n:=by omega
  have fin:∀(pt:Part),(∀(w:Sl Qz),w.n<=32->(∀i,i<w.n->okS (w.g i))->∀M,N+d<=M->∃f,AR (M+1) pt w=some f/\TabA w.n (PR w p) f)->∃r,some pt=some r/\AB3 (N+(d+1)) p r:=by intro pt h;refine⟨pt,rfl,fun w hw c M' l=>?_⟩;obtain⟨M'',rfl⟩:∃M'',M' = M'' + 1:=⟨M' - 1,by omega⟩;exact h w hw c M'' (by omega)
  refine Bx ?_;obtain⟨⟨k0,k6⟩,n1,n2,n3,n4,n5⟩:=hn;by_cases k1:p.Kind=1
  .refine ifT (by simp[k1]) (fin _ fun w hw c M' l=>?_);obtain⟨f,e,h⟩:=ZZ (N:=M') (by omega) hw c n5.ok p.Not;refine⟨f,e,h.congr fun a b _ _=>?_⟩;rw[Lo];simp[k1]
  refine ifF (by simp[k1]) ?_;by_cases k2:p.Kind=2
  .refine ifT (by simp[k2]) (fin _ fun w hw c M' l=>?_);obtain⟨f,e,h⟩:=WG (N:=M') hw false;refine⟨f,e,h.congr fun a b _ _=>?_⟩;rw[Lo];simp[k2]
  refine ifF (by simp[k2]) ?_;by_cases k6:p.Kind=6
  .refine ifT (by simp[k6]) (fin _ fun w hw c M' l=>?_);obtain⟨f,e,h⟩:=WG (N:=M') hw true;refine⟨f,e,h.congr fun a b _ _=>?_⟩;rw[Lo];simp[k6]
  refine ifF (by simp[k6]) ?_;by_cases k4:p.Kind=4
  .refine ifT (by simp[k4]) (fin _ fun w hw c M' l=>?_);obtain⟨f,e,h⟩:=AB1 (N:=M') (by omega) hw (rec:=AR M') (m:=x1.n) (g:=x1.g) (Q:=fun i=>PR w (p.L.g i)) (by omega) fun i u=>o i (by omega) w hw c M' (by omega);refine⟨f,e,h.congr fun a b _ _=>?_⟩;rw[Lo,q];simp[k4]
  refine ifF (by simp[k4]) ?_;by_cases k5:p.Kind=5
  .obtain⟨g1,g2,g3,g4⟩:=n4 k5;refine ifT (by simp[k5]) (Ab (fin _ fun w hw c M' l=>?_));obtain⟨f,e,h⟩:=o 0 (by omega) w hw c M' (by omega);obtain⟨s,e2,x⟩:=AB2 (N:=M') (by omega) hw (rec:=AR M') (SZ w (p.L.g 0)) e h g2 g3 g4;refine⟨s,e2,x.congr fun a b _ _=>?_⟩;rw[Lo];simp[k5]
  refine ifF (by simp[k5]) (fin _ fun w hw c M' l=>?_);obtain⟨f,e,h⟩:=AB0 (N:=M') (by omega) hw (rec:=AR M') (m:=x1.n) (g:=x1.g) (Q:=fun i=>PR w (p.L.g i)) (by omega) fun i u=>o i (by omega) w hw c M' (by omega);refine⟨f,e,h.congr fun a b _ _=>?_⟩;rw[Lo,q];by_cases k3:p.Kind=3
  .simp[k3]
  have k0' : p.Kind=0:=by omega
  rw[n2 k3 k4 k5];simp[k0',XN]
end Go.AM
namespace Go.AM
variable {N:Nat}
open IntKind (wrap)
open Go.Proofs
def XU {p:Pat}(hp:okS p.Is):∃e,AN N p=some e/\(e=0↔Hh p):=by
 obtain⟨a,b,i⟩:=hp;have m:=Vd i;have V:O5 N p.Is=some (vB a b):=by rw[i];exact To a b
 have e0:((p.Is.Plus==0)&&(p.Is.Minus==0))=decide (p.Is.Plus=0/\p.Is.Minus=0):=by rw[AQ4];simp
 have fin:(Hh p↔vS p.Is)->∃e,((O5 N p.Is).bind fun y1=>if (!y1) then some (14:Int)else some 0)=some e/\(e=0↔Hh p):=by
  intro c;rw[V];refine B0 rfl ?_;rw[c,m];cases vB a b
  .exact ifT rfl ⟨14,rfl,by simp⟩
  exact Bx ⟨0,rfl,by simp⟩
 have bad:∀{x:Int},x≠0->¬Hh p->∃e,some x=some e/\(e=0↔Hh p):=fun hx h=>⟨_,rfl,fun d=>Ia d hx,fun d=>Ia d h⟩;unfold AN;by_cases hk:p.Kind=0 \/ p.Kind=2 \/ p.Kind=6
 .refine ifT (by rcases hk with h|h|h<;>simp[h]) (ltX ?_);rw[e0];by_cases g1:p.Is.Plus=0/\p.Is.Minus=0
  case neg=>exact ifT (by simp[g1]) (ifT rfl (bad (by decide) fun h=>g1 (h.2.1 (by omega)).1))
  refine ifF (by simp[g1]) ?_;by_cases g2:p.Not=true
  .exact ifT g2 (ifT rfl (bad (by decide) fun h=>by have:=(h.2.1 (by omega)).2;rw[g2]at this;cases this))
  refine ifF g2 ?_;by_cases g3:p.Min=0
  case neg=>exact ifT (by simp[g3]) (ifT rfl (bad (by decide) fun h=>g3 (h.2.2.2.1 (by omega)).1))
  refine ifF (by simp[g3]) ?_;by_cases g4:p.Max=0
  case neg=>exact ifT (by simp[g4]) (ifT rfl (bad (by decide) fun h=>g4 (h.2.2.2.1 (by omega)).2))
  refine ifF (by simp[g4]) ?_;by_cases g5:p.L.n=0
  case neg=>exact Ar (bad (by decide) fun h=>g5 (h.2.2.1 (by omega) (by omega) (by omega)))
  refine Bv (fin ?_);exact⟨fun h=>h.2.2.2.2.2,fun h=>⟨by omega,fun _=>⟨g1,by simpa using g2⟩,fun _ _ _=>g5,fun _=>⟨g3,g4⟩,fun f=>by omega,h⟩⟩
 refine ifF (by simp only[not_or]at hk;simp[hk]) ?_;by_cases k1:p.Kind=1
 .refine ifT (by simp[k1]) (ltX ?_);refine Bx ?_;by_cases g3:p.Min=0
  case neg=>exact ifT (by simp[g3]) (ifT rfl (bad (by decide) fun h=>g3 (h.2.2.2.1 (by omega)).1))
  refine ifF (by simp[g3]) ?_;by_cases g4:p.Max=0
  case neg=>exact ifT (by simp[g4]) (ifT rfl (bad (by decide) fun h=>g4 (h.2.2.2.1 (by omega)).2))
  refine ifF (by simp[g4]) ?_;by_cases g5:p.L.n=0
  case neg=>exact Ar (bad (by decide) fun h=>g5 (h.2.2.1 (by omega) (by omega) (by omega)))
  refine Bv (fin ?_);exact⟨fun h=>h.2.2.2.2.2,fun h=>⟨by omega,fun h1=>Ia k1 h1,fun _ _ _=>g5,fun _=>⟨g3,g4⟩,fun f=>by omega,h⟩⟩
 refine ifF (by simp[k1]) (ltX ?_);rw[e0];have tail:∀(x y:Int),(Hh p↔(p.Is.Plus=0/\p.Is.Minus=0)/\p.Not=false/\x=0/\y=0/\vS p.Is)->∃e,(if (((((decide (p.Is.Plus=0/\p.Is.Minus=0) != true)||p.Not)||(x != 0))||(y != 0))||(decide (0<0))) then some (2:Int)else
  (O5 N p.Is).bind fun y3=>if (!y3) then some 14 else some 0)=some e/\(e=0↔Hh p):=by
  intro x y c;by_cases g:(p.Is.Plus=0/\p.Is.Minus=0)/\p.Not=false/\x=0/\y=0
  .obtain⟨g1,g2,g3,g4⟩:=g;exact ifF (by simp[g1,g2,g3,g4]) (fin (c.trans ⟨fun h=>h.2.2.2.2,fun h=>⟨g1,g2,g3,g4,h⟩⟩))
  refine ifT ?_ (bad (by decide) fun h=>g ⟨(c.1 h).1,(c.1 h).2.1,(c.1 h).2.2.1,(c.1 h).2.2.2.1⟩);simp only[AO9,bne_iff_ne,ne_eq,Ld];by_cases g1:p.Is.Plus=0/\p.Is.Minus=0
  .by_cases g2:p.Not=true
   .simp[g2]
   by_cases g3:x=0
   .have:¬y=0:=fun g4=>g ⟨g1,by simpa using g2,g3,g4⟩
    simp[this]
   simp[g3]
  simp[g1]
 by_cases k34:p.Kind=3 \/ p.Kind=4
 .refine ifT (by rcases k34 with h|h<;>simp[h]) (tail _ _ ?_);constructor
  .exact fun h=>⟨(h.2.1 k1).1,(h.2.1 k1).2,(h.2.2.2.1 (by omega)).1,(h.2.2.2.1 (by omega)).2,h.2.2.2.2.2⟩
  rintro⟨h1,d,j,l,f⟩;exact⟨by omega,fun _=>⟨h1,d⟩,fun h h'=>by omega,fun _=>⟨j,l⟩,fun h=>by omega,f⟩
 refine ifF (by simp only[not_or]at k34;simp[k34]) ?_;by_cases k5:p.Kind=5
 .refine ifT (by simp[k5]) ?_;by_cases g:p.L.n=1/\0<=p.Min/\p.Min<=32/\(p.Max = -1 \/ (p.Min<=p.Max/\p.Max<=32))
  .refine ifF (by simp only[AO9,AN1,bne_iff_ne,ne_eq,Ld];omega) (tail 0 0 ?_);constructor
   .exact fun h=>⟨(h.2.1 k1).1,(h.2.1 k1).2,rfl,rfl,h.2.2.2.2.2⟩
   rintro⟨h1,d,j,l,f⟩;exact⟨by omega,fun _=>⟨h1,d⟩,fun _ _ h=>Ia k5 h,fun h=>Ia k5 h,fun _=>g,f⟩
  exact ifT (by simp only[AO9,AN1,bne_iff_ne,ne_eq,Ld];omega) (bad (by decide) fun h=>g (h.2.2.2.2.1 k5))
 exact ifF (by simp[k5]) (bad (by decide) fun h=>by have:=h.1;omega)
def Aa2 {x:Sl Pat}{m:Nat}(h:x.n=m+1):x.toList.reverse=x.g m::(x.take m).toList.reverse:=by unfold Sl.toList;rw[h,AX3,AX4,AV8];rfl
def Am6 (z:Sl Pat)(q:Pat):((z.push Pat.nil).upd z.n q).toList.reverse=q::z.toList.reverse:=by
 rw[Aa2 (m:=z.n) rfl];have e1:((z.push Pat.nil).upd z.n q).g z.n=q:=by simp
 have e2:(((z.push Pat.nil).upd z.n q).take z.n).toList=z.toList:=by
  unfold Sl.toList;refine AP4 fun i a=>?_
  have:i<z.n:=AT1.1 a
  show (if i=z.n then q else if i<z.n then z.g i else Pat.nil)=z.g i;rw[Gt,He this]
 rw[e1,e2]
def Vf (q:Sl Pat)(c:q.n<N)(hs:q.n<1000000):C4 N q=some ((List.range q.n).reverse.map fun (i:Nat)=>((i:Int),q.g i)):=by
 unfold C4;have h:∀(m:Nat),m<=q.n->∀F,m<F->S9 F (fun (a:Int->Option (List (Int×Pat))) (x1:Int)=>
  if (decide (0<=x1)) then
   if ((0:Int)<=x1/\x1<(q.n:Int))then
    Aq (x1,q.g x1.toNat) (
     a (wrap .i64 (x1-1))
     )
   else none
  else
   some []) ((m:Int)-1)=some ((List.range m).reverse.map fun (i:Nat)=>((i:Int),q.g i)):=by
  intro m
  induction m with
  |zero=>
   intro _ F b
   match F,b with
   |F+1,_=>rfl
  |succ m ih=>
   intro hm F b
   match F,b with
   |F+1,b=>rw[Bt];rw[show ((m+1:Nat):Int)-1=(m:Int) by omega,He (by simp),Dp,D7 (by omega) (by omega),ih (by omega) F (by omega),AM9,AX3,AV8,Bd6,Be3,AO4];rfl
 rw[D7 (by omega) (by omega)];exact h q.n (AN3 _) N c
def AB4 {k:Nat}(hk:k<=40){c:Sl Pat}{l:List Pat}:chk k ((c.take (min 41 c.n)).toList++l)↔chk k (c.toList++l):=by
 by_cases h:c.n<=41
 .rw[Ba6 h]
 constructor
 .intro a
  have:=Nk _ _ a
  rw[AR4,Bl]at this
  have:(c.take (min 41 c.n)).n=41:=AU5 (by omega)
  omega
 intro a
 have:=Nk _ _ a
 rw[AR4,Bl]at this;omega
def Rh (hN:2000<=N){p:Pat}(hp:okPS p):∃e,Y1 N p=some e/\(e=0↔chk 40 [p]):=by
 unfold Y1;refine U2 (fun i x3 x4=>x4=(i:Int)/\x3.n<=1+41*i/\(∀q∈x3.toList.reverse,okPS q)/\(chk 40 [p]↔chk (40-i) x3.toList.reverse)) 40 _ (by omega)
  ⟨rfl,by show 1<=_;omega,fun q l=>by rw[show (Sl.of [p]:Sl Pat).toList.reverse=[p] from rfl]at l;rw[AW2.1 l];exact hp,AW3⟩ ?_
 rintro x i x3 x4 hi ⟨rfl,h1,c,f⟩ hs;rcases hn:x3.n with _|m
 .refine Bx ⟨0,rfl,fun _=>f.2 ?_,fun _=>rfl⟩
  have:x3.toList.reverse=[]:=by unfold Sl.toList;rw[hn];rfl
  rw[this];exact ZV _
 rw[Aa2 hn]at f c;refine ifT (decide_eq_true (by omega)) ?_;by_cases r:i=40
 .subst r;refine Au ⟨12,rfl,fun h=>Ia h (by decide),fun h=>?_⟩
  have:(x3.g m::(x3.take m).toList.reverse)=[]:=f.1 h
  cases this
 refine Bv ?_;have hw:IntKind.i64.wrap (((m+1:Nat):Int)-1)=(m:Int):=by rw[D7 (by omega) (by omega)];omega
 simp only[hw,AM9];refine Ab (Ab ?_);obtain⟨e,y,a⟩:=XU (N:=N) (c (x3.g m) (by simp)).is;refine B0 y ?_;rw[show 40-i=(39-i)+1 by omega]at f;by_cases o:e=0
 case neg=>exact ifT (by simp[o]) ⟨e,rfl,fun h=>Ia h o,fun h=>Ia (a.2 (f.1 h).1) o⟩
 refine ifF (by simp[o]) ?_;have hc:(if (41:Int)<((x3.g m).L.n:Int)then (41:Int)else ((x3.g m).L.n:Int))=((min 41 (x3.g m).L.n:Nat):Int):=by split<;>omega
 simp only[hc,AM9];refine Ab (B0 rfl (B0 (Vf _ (by show min 41 _<N;omega) (by show min 41 _<1000000;omega)) ?_));generalize s:(x3.g m).L.take (min 41 (x3.g m).L.n)=C;have a0:C.n<=41:=by rw[<- s];exact Nat.min_le_left _ _
 refine Am4 (fun L z=>∃j,j<=C.n/\L=((List.range j).reverse.map fun (i:Nat)=>((i:Int),C.g i))/\z.n=m+(C.n-j)/\z.toList.reverse=C.toList.drop j++(x3.take m).toList.reverse) ?_ ?_ _ _ ⟨C.n,AN3 _,rfl,by show m=_;omega,by rw[BL];rfl⟩
 .rintro z ⟨j,hj,hL,hz,b⟩;have u:j=0:=by
   cases j with
   |zero=>rfl
   |succ j=>simp[AX3]at hL
  subst u;rw[Bc2]at b;refine hs (by omega) _ _ ⟨Dn,by omega,fun q l=>?_,?_⟩
  .rw[b]at l;rcases List.mem_append.1 l with h|h
   .obtain⟨i',d,rfl⟩:=AT6.1 h;have d:=AT1.1 d;rw[<- s]at d⊢;exact (c (x3.g m) (by simp)).L (AP2 d (Nat.min_le_right _ _))
   exact c q (by simp[h])
  rw[b,f,show 40-(i+1)=39-i by omega,<- s,AB4 (by omega)];exact⟨fun h=>h.2,fun h=>⟨a.1 o,h⟩⟩
 rintro t L z v ⟨j,hj,hL,hz,b⟩ w;cases j with
 |zero=>simp at hL
 |succ j=>rw[AX3,AV8,Bd6,Be3,AO4]at hL;obtain⟨rfl,rfl⟩:=List.cons.inj hL;have e1:(z.n:Int).toNat=z.n:=AM9 _;refine ifT ⟨⟨⟨by show (z.n+1)*64<=_;omega,by show z.n+1<=_;omega⟩,by show (0:Int)<=_/\(z.n:Int)<((z.n+1:Nat):Int);omega⟩,by show z.n<z.n+1;omega⟩ ?_;refine w _ ⟨j,by omega,rfl,by show z.n+1=_;omega,?_⟩;rw[Am6,b,DK C (i:=j) (by omega),AR3]
end Go.AM
namespace Go.AM
open IntKind (wrap)
open Go.Proofs
def wOk (w:Sl Qz):Prop:=w.n<=32/\∀i,i<w.n->vS (w.g i)
def KV {N:Nat}{w:Sl Qz}(l:w.n<N)(hs:w.n<1000000){f:Qz->Option Bool}{b:Nat->Bool}(m:∀i,i<w.n->f (w.g i)=some (b i)) :∃r,A8 N w f=some r/\(r=true ↔ ∃i,i<w.n/\b i=true):=by
 unfold A8 C9
 have:∃y,S9 N (fun (a:Int->Option Int) (x1:Int)=>
  if (decide (x1<(w.n:Int))) then
   if ((0:Int)<=x1/\x1<(w.n:Int))then
    (f (w.g x1.toNat)).bind fun y3=>
    if y3 then
     some x1
    else
     a (wrap .i64 (x1+1))
   else none
  else
   some (-1)) 0=some y/\(0<=y ↔ ∃i,i<w.n/\b i=true):=by
  refine BN (fun i x1=>x1=(i:Int)/\∀j,j<i->b j=false) w.n _ l ⟨rfl,fun j hj=>Ia hj (by omega)⟩ ?_;rintro d i x1 o ⟨rfl,h⟩ c;by_cases hl:i<w.n
  .refine Ar (Ab (B0 (by rw[AM9];exact m i hl) ?_));cases hb:b i
   .refine Bx (c hl _ ⟨Dn,fun j hj=>?_⟩);by_cases e:j=i
    .subst e;exact hb
    exact h j (by omega)
   exact ifT rfl ⟨i,rfl,fun _=>⟨i,hl,hb⟩,fun _=>by omega⟩
  refine Bv ⟨-1,rfl,fun h=>Ia h (by decide),?_⟩;rintro⟨j,hj,hb⟩;rw[h j (by omega)]at hb;cases hb
 obtain⟨y,e,hy⟩:=this;exact B0 e ⟨_,rfl,by rw[Ld];exact hy⟩
def Pu {N:Nat}(v:3000<=N){p:Pat}(hp:okPS p){w:Sl Qz}(hs:w.n<1000000/\w.n+1000<N)(hw:∀i,i<w.n->okS (w.g i)) :∃r,Af N p w=some r/\(r.2=0↔chk 40 [p]/\wOk w)/\(r.2=0->TabA w.n (PR w p) r.1):=by
 unfold Af;obtain⟨e,l,hc⟩:=Rh (N:=N) (by omega) hp;refine B0 l ?_;by_cases d:e=0
 case neg=>exact ifT (by simp[d]) ⟨_,rfl,⟨fun h=>Ia h d,fun h=>Ia (hc.2 h.1) d⟩,fun h=>Ia h d⟩
 refine ifF (by simp[d]) ?_;by_cases hn:32<w.n
 .exact Ar ⟨_,rfl,⟨fun h=>Ia h (by decide),fun h=>by have:=h.2.1;omega⟩,fun h=>Ia h (by decide)⟩
 refine Bv ?_;have s:∀i,∃b:Bool,i<w.n->R8 N (w.g i)=some b/\(b=true ↔ ¬vS (w.g i)):=by
  intro i;by_cases a:i<w.n
  .obtain⟨x,y,l⟩:=hw i a;refine⟨!vB x y,fun _=>⟨?_,?_⟩⟩
   .unfold R8;rw[l,To];rfl
   rw[Vd l];cases vB x y<;>simp
  exact⟨false,fun h=>Ia h a⟩
 obtain⟨b,hb⟩:=AV6 s;obtain⟨r,t,j⟩:=KV (N:=N) (by omega) hs.1 (f:=fun u1=>R8 N u1) fun i a=>(hb i a).1;refine B0 t ?_;by_cases c:r=true
 .refine ifT c ⟨_,rfl,⟨fun h=>Ia h (by decide),fun h=>?_⟩,fun h=>Ia h (by decide)⟩;obtain⟨i,a,m⟩:=j.1 c;exact Ia (h.2.2 i a) ((hb i a).2.1 m)
 refine ifF c ?_;have o:wOk w:=⟨by omega,fun i a=>AR0 fun q=>c (j.2 ⟨i,a,(hb i a).2.2 q⟩)⟩;obtain⟨pt,ep,hg⟩:=Nn (N:=1000) (by omega) 40 (AN3 _) p (Aa1 40 [p] (AN3 _) (hc.1 d) p (by simp)) N (by omega);refine B0 ep ?_;obtain⟨f,ef,u⟩:=hg w (by omega) hw N (by omega);exact B0 ef ⟨_,rfl,⟨fun _=>⟨hc.1 d,o⟩,fun _=>rfl⟩,fun _=>u⟩
end Go.AM
namespace Go.AM
variable {N:Nat}
open Go.Proofs
def XV (o:3000<=N){p:Pat}(hp:okPS p){w:Sl Qz}(hs:w.n<1000000/\w.n+1000<N)(hw:∀i,i<w.n->okS (w.g i))(at_:Int) :∃r,BC N p w at_=some r/\(0<r.1.n↔chk 40 [p]/\wOk w/\0<=at_/\at_<=w.n/\∃a,a<=w.n/\PR w p a at_.toNat):=by
 unfold BC;obtain⟨y,e,h1,q⟩:=Pu o hp hs hw;refine B0 e (ltX ?_);by_cases c:y.2=0
 case neg=>refine ifF (by simp[c]) (ifT (by simp[c]) ⟨_,rfl,fun h=>Ia h (by show ¬ 0<0;omega),fun h=>Ia (h1.2 ⟨h.1,h.2.1⟩) c⟩)
 refine ifT (by simp[c]) ?_;obtain⟨hc,d⟩:=h1.1 c;have s:=q c;have hn:=d.1;unfold Ad;by_cases f:at_<0 \/ (w.n:Int)<at_
 .rw[He (by simpa using f)];refine B0 rfl (Av ⟨_,rfl,fun h=>Ia h (by show ¬ 0<0;omega),fun h=>by omega⟩)
 rw[Hf (by simpa using f)];refine B0 rfl (Bx ?_);obtain⟨k,rfl⟩:∃k:Nat,at_=(k:Int):=⟨at_.toNat,by omega⟩;rw[Dn,AM9];refine U2 (fun i x2 x3=>x3=(i:Int)/\x2.n<=i/\(0<x2.n ↔ ∃a,a<i/\PR w p a k)) (w.n+1) _ (by omega) ⟨rfl,AN3 _,fun h=>Ia h (by show ¬ 0<0;omega),fun⟨a,h,_⟩=>Ia h (by omega)⟩ ?_;rintro m i x2 x3 t ⟨rfl,g1,g2⟩ j;by_cases hl:i<=w.n
 .refine Ar (Ab ?_);rw[AM9,AQ0,AS2];have hb:=s.1.bit hl (b:=k) (by omega);by_cases l:PR w p i k
  .refine ifT (hb.2 ⟨by omega,l⟩) (ifT (by show (x2.n+1)*8<=_/\x2.n+1<=_;omega) (j (by omega) _ _ ⟨Dn,by show x2.n+1<=_;omega,fun _=>⟨i,by omega,l⟩,fun _=>by show 0<x2.n+1;omega⟩))
  refine ifF (fun h=>l (hb.1 h).2) (j (by omega) _ _ ⟨Dn,by omega,fun h=>?_,fun⟨a,ha,h⟩=>?_⟩)
  .obtain⟨a,ha,h'⟩:=g2.1 h;exact⟨a,by omega,h'⟩
  by_cases e2:a=i
  .subst e2;exact Ia h l
  exact g2.2 ⟨a,by omega,h⟩
 refine Bv ⟨_,rfl,fun h=>?_,fun h=>?_⟩
 .obtain⟨a,ha,h'⟩:=g2.1 h;exact⟨hc,d,by omega,by omega,a,by omega,h'⟩
 obtain⟨a,ha,h'⟩:=h.2.2.2.2;exact g2.2 ⟨a,by omega,h'⟩
def Vg (L:List Int)(hL:L.length<1000):∃s,L0 N L=some s/\s.n=L.length:=by
 unfold L0 H3
 have:∃s:Sl Int,O6 L (fun (a:Sl Int->Option (Sl Int)) (x1:Int) (z1:Sl Int)=>
  if ((z1.n+(Sl.of [x1]:Sl Int).n)*8<=140737488355328/\z1.n+(Sl.of [x1]:Sl Int).n<=140737488355328)then
   a (z1.push x1)
  else none
  ) (fun (z1:Sl Int)=>some z1) Mv=some s/\s.n=L.length:=by
  refine Am4 (fun l z=>z.n+l.length=L.length) (fun z h=>⟨z,rfl,by simpa using h⟩) (fun t l z b h hs=>?_) L _ (by simp);simp only[AP8]at h;exact ifT (by show (z.n+1)*8<=_/\z.n+1<=_;omega) (hs _ (by show z.n+1+l.length=_;omega))
 obtain⟨s,e,hn⟩:=this;exact B0 e ⟨s,rfl,hn⟩
def Am7 (l:3000<=N){p:Pat}(hp:okPS p){w:Sl Qz}(hs:w.n<1000000/\w.n+1000<N)(hw:∀i,i<w.n->okS (w.g i))(at_:Int) :∃r,Du N p w at_=some r/\(0<r.1.n↔chk 40 [p]/\wOk w/\0<=at_/\at_<=w.n/\∃b,b<=w.n/\PR w p at_.toNat b):=by
 unfold Du;obtain⟨y,e,h1,m⟩:=Pu l hp hs hw;refine B0 e (ltX ?_);by_cases c:y.2=0
 case neg=>refine ifF (by simp[c]) (ifT (by simp[c]) ⟨_,rfl,fun h=>Ia h (by show ¬ 0<0;omega),fun h=>Ia (h1.2 ⟨h.1,h.2.1⟩) c⟩)
 refine ifT (by simp[c]) ?_;obtain⟨hc,d⟩:=h1.1 c;have o:=m c;have hn:=d.1;unfold Ad;by_cases f:at_<0 \/ (w.n:Int)<at_
 .rw[He (by simpa using f)];refine B0 rfl (Av ⟨_,rfl,fun h=>Ia h (by show ¬ 0<0;omega),fun h=>by omega⟩)
 rw[Hf (by simpa using f)];refine B0 rfl (Bx ?_);obtain⟨k,rfl⟩:∃k:Nat,at_=(k:Int):=⟨at_.toNat,by omega⟩;refine Ab ?_;rw[AM9,AQ0,AS2];obtain⟨u,e1,g1⟩:=o.1 k (by omega);refine B0 (x:=y.1 k) rfl (B0 (x:=FC u 0) (by rw[e1];exact Ij u (by omega)) ?_);obtain⟨s,es,j⟩:=Vg (N:=N) (FC u 0) (by unfold FC;rw[AS1];exact Bg0 (List.length_filter_le _ _) (by simp))
 refine B0 es ⟨_,rfl,?_⟩;show 0<s.n↔_;rw[j,List.length_pos_iff_exists_mem];constructor
 .rintro⟨t,ht⟩;obtain⟨b,rfl,_,hb,a⟩:=mem_bitsF.1 ht;exact⟨hc,d,by omega,by omega,b,((g1 b hb).1 a).1,((g1 b hb).1 a).2⟩
 rintro⟨_,_,_,_,b,hb,h⟩;exact⟨(b:Int),mem_bitsF.2 ⟨b,rfl,by omega,by omega,(g1 b (by omega)).2 ⟨hb,h⟩⟩⟩
end Go.AM
namespace Go.AM
variable {N:Nat}
open IntKind (wrap)
open Go.Proofs
def XW (w:Sl Qz)(e:Int):Prop:=(32<w.n/\e=11) \/ (w.n<=32/\(∃i,i<w.n/\¬vS (w.g i))/\e=14) \/ (wOk w/\e=0)
def Aa3 {w:Sl Qz}{e e' : Int}(h:XW w e)(h' : XW w e'):e=e':=by
 rcases h with⟨h1,a⟩ | ⟨h1,⟨i,b,c⟩,a⟩ | ⟨h1,a⟩<;>rcases h' with⟨g1,g2⟩ | ⟨g1,⟨j,hj,gv⟩,g2⟩ | ⟨g1,g2⟩
 .omega
 .omega
 .have:=g1.1;omega
 .omega
 .omega
 .exact Ia (g1.2 i b) c
 .have:=h1.1;omega
 .exact Ia (h1.2 j hj) gv
 omega
def GK {w:Sl Qz}{e:Int}(h:XW w e):e=0↔wOk w:=by
 rcases h with⟨h1,a⟩ | ⟨h1,⟨i,b,c⟩,a⟩ | ⟨h1,a⟩
 .exact⟨fun h=>by omega,fun h=>by have:=h.1;omega⟩
 .exact⟨fun h=>by omega,fun h=>Ia (h.2 i b) c⟩
 exact⟨fun _=>h1,fun _=>a⟩
def Tr (l:1000<=N){w:Sl Qz}(hw:∀i,i<w.n->okS (w.g i))(V:Qz->Option Bool)(d:∀p m:BitVec 32,V (sOf p m)=some (vB p m)) :∃e,(if (decide (32<(w.n:Int))) then
 some (11:Int)
 else
  S9 N (fun a (x1:Int)=>
   if (decide (x1<(w.n:Int))) then
    if ((0:Int)<=x1/\x1<(w.n:Int))then
     (V (w.g x1.toNat)).bind fun y3=>
     if (!y3) then
      some 14
     else
      a (wrap .i64 (x1+1))
    else none
   else
    some 0
   ) 0)=some e/\XW w e:=by
 by_cases hn:32<w.n
 .exact Ar ⟨11,rfl,.inl ⟨hn,rfl⟩⟩
 refine Bv ?_;refine BN (fun i x1=>x1=(i:Int)/\∀j,j<i->vS (w.g j)) w.n _ (by omega) ⟨rfl,fun j hj=>Ia hj (by omega)⟩ ?_;rintro c i x1 o ⟨rfl,h⟩ hs;by_cases hl:i<w.n
 .obtain⟨p,m,b⟩:=hw i hl;refine Ar (Ab (B0 (by rw[AM9,b];exact d p m) ?_));cases hb:vB p m
  .refine ifT rfl ⟨14,rfl,.inr (.inl ⟨by omega,⟨i,hl,fun f=>?_⟩,rfl⟩)⟩
   have:=(Vd b).1 f;rw[hb]at this;cases this
  refine Bx (hs hl _ ⟨Dn,fun j hj=>?_⟩);by_cases e:j=i
  .subst e;exact (Vd b).2 hb
  exact h j (by omega)
 exact Bv ⟨0,rfl,.inr (.inr ⟨⟨by omega,fun j hj=>h j (by omega)⟩,rfl⟩)⟩
def Ts (a:1000<=N){w:Sl Qz}(hw:∀i,i<w.n->okS (w.g i)):∃e,S5 N w=some e/\XW w e:=
 Tr a hw (Bk N) fun p m=>Tn p m
def Pv (a:1000<=N){w:Sl Qz}(hw:∀i,i<w.n->okS (w.g i)):∃e,Ic N w=some e/\XW w e:=
 Tr a hw (Y8 N) fun p m=>Pr p m
def WI (d:2000<=N){p:Pat}(hp:okPS p){w:Sl Qz}(hw:∀i,i<w.n->okS (w.g i)):∃e,GW N p w=some e/\(e=0↔chk 40 [p]/\wOk w):=by
 unfold GW;obtain⟨e,f,hc⟩:=Nm d hp;refine B0 f ?_;by_cases a:e=0
 .obtain⟨e2,b,c⟩:=Pv (N:=N) (by omega) hw;exact ifT (by simp[a]) (B0 b ⟨e2,rfl,(GK c).trans ⟨fun h=>⟨hc.1 a,h⟩,fun h=>h.2⟩⟩)
 exact ifF (by simp[a]) ⟨e,rfl,fun h=>Ia h a,fun h=>Ia (hc.2 h.1) a⟩
def Vh (s:3000<=N){p:Pat}(hp:okPS p){w:Sl Qz}(hw:∀i,i<w.n->okS (w.g i))(at_:Int) :∃r,GE N p w at_=some r/\(0<r.1.n↔chk 40 [p]/\wOk w/\0<=at_/\at_<=w.n/\∃a,a<=w.n/\PR w p a at_.toNat):=by
 unfold GE;obtain⟨e,o,h1⟩:=WI (N:=N) (by omega) hp hw;refine B0 o ?_;by_cases j:e=0
 case neg=>exact ifT (by simp[j]) ⟨_,rfl,fun h=>Ia h (by show ¬ 0<0;omega),fun h=>Ia (h1.2 ⟨h.1,h.2.1⟩) j⟩
 refine ifF (by simp[j]) ?_;obtain⟨hc,c⟩:=h1.1 j;have hn:=c.1;by_cases d:at_<0 \/ (w.n:Int)<at_
 .exact ifT (by simpa using d) ⟨_,rfl,fun h=>Ia h (by show ¬ 0<0;omega),fun h=>by omega⟩
 refine ifF (by simpa using d) ?_;obtain⟨k,rfl⟩:∃k:Nat,at_=(k:Int):=⟨at_.toNat,by omega⟩;obtain⟨t,et,tn,q⟩:=Nj (N:=1000) (by omega) hn 40 p (Nl 40 [p] (AN3 _) hc p (by simp)) N (by omega);refine B0 et ?_;rw[AM9];refine U2 (fun i x2 x3=>x3=(i:Int)/\x2.n<=i/\(0<x2.n ↔ ∃a,a<i/\PR w p a k)) (w.n+1) _ (by omega) ⟨rfl,AN3 _,fun h=>Ia h (by show ¬ 0<0;omega),fun⟨a,h,_⟩=>Ia h (by omega)⟩ ?_;rintro m i x2 x3 u ⟨rfl,g1,g2⟩ f;by_cases hl:i<=w.n
 .refine Ar (Ab ?_);rw[AM9];have hb:=q.bit hl (b:=k) (by omega);by_cases l:PR w p i k
  .refine ifT (hb.2 ⟨by omega,l⟩) (ifT (by show (x2.n+1)*8<=_/\x2.n+1<=_;omega) (f (by omega) _ _ ⟨Dn,by show x2.n+1<=_;omega,fun _=>⟨i,by omega,l⟩,fun _=>by show 0<x2.n+1;omega⟩))
  refine ifF (fun h=>l (hb.1 h).2) (f (by omega) _ _ ⟨Dn,by omega,fun h=>?_,fun⟨a,ha,h⟩=>?_⟩)
  .obtain⟨a,ha,h'⟩:=g2.1 h;exact⟨a,by omega,h'⟩
  by_cases e2:a=i
  .subst e2;exact Ia h l
  exact g2.2 ⟨a,by omega,h⟩
 refine Bv ⟨_,rfl,fun h=>?_,fun h=>?_⟩
 .obtain⟨a,ha,h'⟩:=g2.1 h;exact⟨hc,c,by omega,by omega,a,by omega,h'⟩
 obtain⟨a,ha,h'⟩:=h.2.2.2.2;exact g2.2 ⟨a,by omega,h'⟩
def Aa4 (s:3000<=N){p:Pat}(hp:okPS p){w:Sl Qz}(hw:∀i,i<w.n->okS (w.g i))(at_:Int) :∃r,JY N p w at_=some r/\(0<r.1.n↔chk 40 [p]/\wOk w/\0<=at_/\at_<=w.n/\∃b,b<=w.n/\PR w p at_.toNat b):=by
 unfold JY;obtain⟨e,o,h1⟩:=WI (N:=N) (by omega) hp hw;refine B0 o ?_;by_cases j:e=0
 case neg=>exact ifT (by simp[j]) ⟨_,rfl,fun h=>Ia h (by show ¬ 0<0;omega),fun h=>Ia (h1.2 ⟨h.1,h.2.1⟩) j⟩
 refine ifF (by simp[j]) ?_;obtain⟨hc,c⟩:=h1.1 j;have hn:=c.1;by_cases d:at_<0 \/ (w.n:Int)<at_
 .exact ifT (by simpa using d) ⟨_,rfl,fun h=>Ia h (by show ¬ 0<0;omega),fun h=>by omega⟩
 refine ifF (by simpa using d) ?_;obtain⟨k,rfl⟩:∃k:Nat,at_=(k:Int):=⟨at_.toNat,by omega⟩;obtain⟨t,et,tn,q⟩:=Nj (N:=1000) (by omega) hn 40 p (Nl 40 [p] (AN3 _) hc p (by simp)) N (by omega);refine B0 et ?_;rw[AM9];refine U2 (fun i x2 x3=>x3=(i:Int)/\x2.n<=i/\(0<x2.n ↔ ∃b,b<i/\PR w p k b)) (w.n+1) _ (by omega) ⟨rfl,AN3 _,fun h=>Ia h (by show ¬ 0<0;omega),fun⟨a,h,_⟩=>Ia h (by omega)⟩ ?_;rintro m i x2 x3 u ⟨rfl,g1,g2⟩ f;by_cases hl:i<=w.n
 .refine Ar (Ab ?_);have hb:=q.bit (a:=k) (by omega) (b:=i) (by omega);by_cases l:PR w p k i
  .refine ifT (hb.2 ⟨by omega,l⟩) (ifT (by show (x2.n+1)*8<=_/\x2.n+1<=_;omega) (f (by omega) _ _ ⟨Dn,by show x2.n+1<=_;omega,fun _=>⟨i,by omega,l⟩,fun _=>by show 0<x2.n+1;omega⟩))
  refine ifF (fun h=>l (hb.1 h).2) (f (by omega) _ _ ⟨Dn,by omega,fun h=>?_,fun⟨a,ha,h⟩=>?_⟩)
  .obtain⟨a,ha,h'⟩:=g2.1 h;exact⟨a,by omega,h'⟩
  by_cases e2:a=i
  .subst e2;exact Ia h l
  exact g2.2 ⟨a,by omega,h⟩
 refine Bv ⟨_,rfl,fun h=>?_,fun h=>?_⟩
 .obtain⟨a,ha,h'⟩:=g2.1 h;exact⟨hc,c,by omega,by omega,a,by omega,h'⟩
 obtain⟨a,ha,h'⟩:=h.2.2.2.2;exact g2.2 ⟨a,by omega,h'⟩
end Go.AM
namespace Go.AM
variable {N:Nat}
open Go.Proofs
def AE2 (s c:Qz):Prop:=∃p m a b:BitVec 32,s=sOf p m/\c=sOf a b/\Yr p m a b=true
def Aa5 {p m a b:BitVec 32}(h:sOf p m=sOf a b):p=a/\m=b:=by have e1:(p.toNat:Int)=a.toNat:=congrArg Qz.Plus h;have e2:(m.toNat:Int)=b.toNat:=congrArg Qz.Minus h;exact⟨AR1 (by omega),AR1 (by omega)⟩
def satS_of {p m a b:BitVec 32}:AE2 (sOf p m) (sOf a b)↔Yr p m a b=true:=by
 constructor
 .rintro⟨p',m',a',b',h1,c,d⟩;obtain⟨rfl,rfl⟩:=Aa5 h1;obtain⟨rfl,rfl⟩:=Aa5 c;exact d
 exact fun h=>⟨_,_,_,_,rfl,rfl,h⟩
def Am8 {s c:Qz}(hs:okS s)(hc:okS c):∃b,J4 N s c=some b/\(b=true↔AE2 s c):=by obtain⟨p,m,rfl⟩:=hs;obtain⟨a,b,rfl⟩:=hc;exact⟨_,AA6 p m a b,satS_of.symm⟩
def Am9 (d:1000<=N){s c:Qz}(hs:okS s)(hc:okS c):∃b,Y6 N s c=some b/\(b=true↔AE2 s c):=by obtain⟨p,m,rfl⟩:=hs;obtain⟨a,b,rfl⟩:=hc;exact⟨_,AA7 p m a b d,satS_of.symm⟩
def okL (l:Law):Prop:=okPS l.Left/\okPS l.Right/\∀i,i<l.If.n->okS (l.If.g i)
def arP (l:Law)(w:Sl Qz)(i:Nat):Prop:=chk 40 [l.Left]/\chk 40 [l.Right]/\wOk w/\i+l.If.n<=w.n/\(∃a,a<=w.n/\PR w l.Left a i)/\∃b,b<=w.n/\PR w l.Right (i+l.If.n) b
def Pw (l:Law)(w:Sl Qz)(i:Nat):Prop:=i+l.If.n<=w.n/\(∀j,j<l.If.n->AE2 (w.g (i+j)) (l.If.g j))/\arP l w i
def okW (w:Sl Qz):Prop:=w.n<1000/\∀i,i<w.n->okS (w.g i)
def XX (c:3000<=N){l:Law}(hl:okL l)(hk:l.If.n<=4){w:Sl Qz}(hw:okW w)(i:Nat)(f:i<2000) :∃b,U5 N (i:Int) l w=some b/\(b=true↔arP l w i):=by
 unfold U5;obtain⟨y1,e1,h1⟩:=XV (N:=N) c hl.1 (w:=w) ⟨by have:=hw.1;omega,by have:=hw.1;omega⟩ hw.2 (i:Int);refine B0 e1 ?_;rw[AM9]at h1;by_cases d:y1.1.n=0
 .refine ifT (by simp[d]) ⟨false,rfl,by simp,fun h=>?_⟩
  have:=h1.2 ⟨h.1,h.2.2.1,by omega,by have:=h.2.2.2.1;omega,h.2.2.2.2.1⟩
  omega
 refine Bv ?_;rw[DO (by omega)];obtain⟨y2,e2,a⟩:=Am7 (N:=N) c hl.2.1 (w:=w) ⟨by have:=hw.1;omega,by have:=hw.1;omega⟩ hw.2 ((i+l.If.n:Nat):Int);rw[AM9]at a;refine B0 e2 ⟨_,rfl,?_⟩;have h1:=h1.1 (by omega);rw[Ld];constructor
 .intro h;have a:=a.1 (by omega);exact⟨h1.1,a.1,h1.2.1,by omega,h1.2.2.2.2,a.2.2.2.2⟩
 intro h
 have:=a.2 ⟨h.2.1,h.2.2.1,by omega,by have:=h.2.2.2.1;omega,h.2.2.2.2.2⟩
 omega
def Ri (f:3000<=N){l:Law}(hl:okL l)(hk:l.If.n<=4){w:Sl Qz}(hw:okW w)(i:Nat)(o:i<2000) :∃b,Cu N l w (i:Int)=some b/\(b=true↔Pw l w i):=by
 unfold Cu;rw[DO (by omega)];by_cases hn:w.n<i+l.If.n
 .exact Ar ⟨false,rfl,by simp,fun h=>by have:=h.1;omega⟩
 refine Bv ?_;refine BN (fun j x1=>x1=(j:Int)/\∀k,k<j->AE2 (w.g (i+k)) (l.If.g k)) l.If.n _ (by omega) ⟨rfl,fun k hk=>Ia hk (by omega)⟩ ?_;rintro m j x1 hj ⟨rfl,h⟩ hs;by_cases c:j<l.If.n
 .rw[DO (by omega)];refine Ar (Ab ?_);obtain⟨b,eb,hb⟩:=Am9 (N:=N) (by omega) (hw.2 (i+j) (by omega)) (hl.2.2 j c);refine B0 (by rw[AM9,AM9];exact eb) ?_;cases b
  .refine ifT rfl ⟨false,rfl,by simp,fun a=>?_⟩
   have:=hb.2 (a.2.1 j c);cases this
  refine Bx (hs c _ ⟨Dn,fun k d=>?_⟩);by_cases e:k=j
  .subst e;exact hb.1 rfl
  exact h k (by omega)
 refine Bv ?_;obtain⟨y1,e1,h1⟩:=Vh (N:=N) f hl.1 (w:=w) hw.2 (i:Int);obtain⟨y2,e2,a⟩:=Aa4 (N:=N) f hl.2.1 (w:=w) hw.2 ((i+l.If.n:Nat):Int);rw[AM9]at h1 a;refine B0 e1 (B0 e2 ⟨_,rfl,?_⟩);simp only[AN1,Ld];constructor
 .rintro⟨g1,g2⟩;have h1:=h1.1 (by omega);have a:=a.1 (by omega);exact⟨by omega,fun k d=>h k (by omega),h1.1,a.1,h1.2.1,by omega,h1.2.2.2.2,a.2.2.2.2⟩
 intro g;have a1:=h1.2 ⟨g.2.2.1,g.2.2.2.2.1,by omega,by omega,g.2.2.2.2.2.2.1⟩;have a2:=a.2 ⟨g.2.2.2.1,g.2.2.2.2.1,by omega,by omega,g.2.2.2.2.2.2.2⟩;exact⟨by omega,by omega⟩
end Go.AM
namespace Go.AM
open IntKind (wrap)
open Go.Proofs
open Classical in
noncomputable def hitB (l:Law) (w:Sl Qz) (i:Nat):Bool:=decide (Pw l w i)
def hitB_iff {l:Law}{w:Sl Qz}{i:Nat}:hitB l w i=true↔Pw l w i:=by simp[hitB]
noncomputable def Eu (l:Law) (w:Sl Qz) (i:Nat):List Int:=((List.range' i (w.n+1-i)).filter (hitB l w)).map fun (j:Nat)=>(j:Int)
def Kf {l:Law}{w:Sl Qz}{i:Nat}(h:w.n<i+l.If.n):Eu l w i=[]:=by
 unfold Eu;rw[Bd5.2 fun j hj hb=>by
  have:=Bc5.1 hj
  have:=(hitB_iff.1 hb).1
  omega]
 rfl
def Jr {l:Law}{w:Sl Qz}{i:Nat}(a:i<=w.n)(h:Pw l w i):Eu l w i=(i:Int)::Eu l w (i+1):=by unfold Eu;rw[show w.n+1-i=(w.n+1-(i+1))+1 by omega,AY8,Bc9 (hitB_iff.2 h)];rfl
def Js {l:Law}{w:Sl Qz}{i:Nat}(h:¬Pw l w i):Eu l w i=Eu l w (i+1):=by
 unfold Eu;by_cases a:i<=w.n
 .rw[show w.n+1-i=(w.n+1-(i+1))+1 by omega,AY8,Bd0 fun hb=>h (hitB_iff.1 hb)]
 rw[show w.n+1-i=0 by omega,show w.n+1-(i+1)=0 by omega];rfl
def An0 {l:Law}{w:Sl Qz}{i:Nat}{y:Int}(h:y∈Eu l w i):(i:Int)<=y:=by
 obtain⟨j,hj,rfl⟩:=AT6.1 h
 have:=Bc5.1 (Ba0.1 hj).1
 omega
def WJ {N:Nat}(z:3000<=N){l:Law}(hl:okL l)(hk:l.If.n<=4){w:Sl Qz}(hw:okW w)(i:Nat)(v:i<1500):Y3 N l w (i:Int)=some (Eu l w i):=by
 unfold Y3;show (some (l,w)).bind _=_;rw[AN2];simp only[]
 suffices h:∀(k i:Nat),i<1501->w.n+1-i<=k->∀F,k<F->∃r,S9 F (fun (a:Int->Option (List Int)) (x2:Int)=>
  if (decide ((wrap .i64 (x2+(l.If.n:Int)))<=(w.n:Int))) then
   S9 N (fun (d:Int->Option (List Int)) (x4:Int)=>
    if (decide (x4<(l.If.n:Int))) then
     if ((0:Int)<=x4/\x4<(l.If.n:Int))then
      if ((0:Int)<=(wrap .i64 (x2+x4))/\(wrap .i64 (x2+x4))<(w.n:Int))then
       (J4 N (w.g (wrap .i64 (x2+x4)).toNat) (l.If.g x4.toNat)).bind fun s=>
       if (!s) then
        a (wrap .i64 (x2+1))
       else
        d (wrap .i64 (x4+1))
      else none
     else none
    else
     (U5 N x2 l w).bind fun t=>
     if t then
      Aq x2 (
       a (wrap .i64 (x2+1))
       )
     else
      a (wrap .i64 (x2+1))
    ) 0
  else
   some []
  ) (i:Int)=some r/\r=Eu l w i by
  obtain⟨r,h1,rfl⟩:=h (w.n+1-i) i (by omega) (AN3 _) N (by have:=hw.1;omega);exact h1
 intro k
 induction k with
 |zero=>
  intro i v f F q
  match F,q with
  |F+1,_=>rw[Bt,DO (by omega)];exact Bv ⟨_,rfl,(Kf (by omega)).symm⟩
 |succ k ih=>
  intro i v f F q
  match F,q with
  |F+1,q=>
   rw[Bt,DO (by omega)];by_cases hn:i+l.If.n<=w.n
   case neg=>exact Bv ⟨_,rfl,(Kf (by omega)).symm⟩
   refine Ar ?_;have a0:=hw.1;obtain⟨r,x,o⟩:=ih (i+1) (by omega) (by omega) F (by omega);have c:∀(Q:List Int->Prop),Q (Eu l w (i+1))->∃r,S9 F _ (IntKind.i64.wrap ((i:Int)+1))=some r/\Q r:=fun Q hQ=>⟨r,by rw[Dn];exact x,by rw[o];exact hQ⟩;refine BN (fun j x1=>x1=(j:Int)/\∀k,k<j->AE2 (w.g (i+k)) (l.If.g k)) l.If.n _ (by omega) ⟨rfl,fun k hk=>Ia hk (by omega)⟩ ?_;rintro y j x1 hj ⟨rfl,h⟩ hs;by_cases m:j<l.If.n
   .rw[DO (by omega)];refine Ar (Ab (Ab ?_));obtain⟨b,eb,hb⟩:=Am8 (N:=N) (hw.2 (i+j) (by omega)) (hl.2.2 j m);refine B0 (by rw[AM9,AM9];exact eb) ?_;cases b
    .refine ifT rfl (c _ ?_);exact (Js fun u=>by have:=hb.2 (u.2.1 j m);cases this).symm
    refine Bx (hs m _ ⟨Dn,fun k f=>?_⟩);by_cases e:k=j
    .subst e;exact hb.1 rfl
    exact h k (by omega)
   refine Bv ?_;obtain⟨b,eb,hb⟩:=XX z hl hk hw i (by omega);refine B0 eb ?_;cases b
   .refine Bx (c _ ?_);exact (Js fun u=>by have:=hb.2 u.2.2;cases this).symm
   refine ifT rfl ?_;have hh:Pw l w i:=⟨hn,fun k f=>h k (by omega),hb.1 rfl⟩;refine⟨(i:Int)::Eu l w (i+1),?_,(Jr (by omega) hh).symm⟩;rw[Dn,x,o];rfl
def Aa6 {N:Nat}(a:3000<=N){l:Law}(hl:okL l)(hk:l.If.n<=4){w:Sl Qz}(hw:okW w)(i:Nat)(c:i<1500) :∃b,Cq N l w (i:Int)=some b/\(b=true↔Pw l w i):=by
 unfold Cq;refine B0 (x:=(l,w,(i:Int))) rfl (B0 (WJ a hl hk hw i c) ?_);by_cases h:Pw l w i
 .rw[Jr (by have:=h.1;omega) h];exact⟨true,by simp[O6],by simp[h]⟩
 rw[Js h];rcases hL:Eu l w (i+1)with _|⟨t,L⟩
 .exact⟨false,rfl,by simp[h]⟩
 have:((i+1:Nat):Int)<=t:=An0 (l:=l) (w:=w) (by rw[hL];simp)
 exact⟨false,by show some (t==(i:Int))=some false;congr 1;simp;omega,by simp[h]⟩
end Go.AM
namespace Go.AM
variable {N:Nat}
open IntKind (wrap)
open Go.Proofs
def okO (x:IJ):Prop:=okS x.Set/\(∃c:BitVec 32,x.Clear=(c.toNat:Int))/\∃t:BitVec 32,x.Take=(t.toNat:Int)
def At0 {p m a b s:BitVec 32}(h1:vB p m=true)(d:vB a b=true):vB (Rw p a s) (Rw m b s)=true:=by rw[FQ]at *;intro i c;have g1:=h1 i c;have g2:=d i c;simp only[Rw,AO7,AO8,AS4];revert g1 g2;cases s.getLsbD i<;>cases p.getLsbD i<;>cases m.getLsbD i<;>cases a.getLsbD i<;>cases b.getLsbD i<;>simp[c]
def vS0:vS (⟨0,0⟩:Qz):=⟨0#32,0#32,rfl,by decide +kernel⟩
def Vi (f:1000<=N){s t:Qz}{c:Int}(hs:okS s)(hc:∃b:BitVec 32,c=(b.toNat:Int))(ht:okS t):∃y,O4 N s c t=some y/\Y7 N s c t=some y/\vS y.1:=by
 obtain⟨p,m,rfl⟩:=hs;obtain⟨a,b,rfl⟩:=ht;obtain⟨d,rfl⟩:=hc;refine⟨_,XS p m d a b,XT p m d a b f,?_⟩;unfold Al9;split
 .rename_i h;split
  .exact⟨_,_,rfl,At0 h.1 h.2⟩
  exact vS0
 exact vS0
def Aa7 (f:1000<=N){s t:Qz}{c:Int}(hs:okS s)(hc:∃b:BitVec 32,c=(b.toNat:Int))(ht:okS t):∃y,S4 N s t c=some y/\BY N s t c=some y/\vS y.1:=by
 obtain⟨p,m,rfl⟩:=hs;obtain⟨a,b,rfl⟩:=ht;obtain⟨d,rfl⟩:=hc;refine⟨_,Am1 p m a b d,Am2 p m a b d f,?_⟩;unfold Am0;split
 .rename_i h;split
  .exact⟨_,_,rfl,At0 h.1 h.2⟩
  exact vS0
 exact vS0
def AE3 (l:Law):Prop:=l.Out.n<=6/\∀i,i<l.Out.n->okO (l.Out.g i)/\(l.Out.g i).From<l.If.n/\((l.Out.g i).Take≠0->0<=(l.Out.g i).Of/\(l.Out.g i).Of<l.If.n)
def eqX {R:Type}{Q:R->Prop}{o o' : Option R}(h:o=o')(a:∃r,o' = some r/\Q r):∃r,o=some r/\Q r:=by rw[h];exact a
def CV (f:Nat->Qz):Nat->Sl Qz
 |0=>Sl.nil
 |m+1=>(CV f m).push (f m)
def No (f:Nat->Qz):∀m,(CV f m).n=m
 |0=>rfl
 |m+1=>by show (CV f m).n+1=_;rw[No f m]
def Aa8 (f:Nat->Qz):∀{m i:Nat},i<m->(CV f m).g i=f i
 |0,i,h=>by omega
 |m+1,i,h=>by
  show (if i<(CV f m).n then (CV f m).g i else f m)=f i;rw[No];by_cases e:i<m
  .rw[He e,Aa8 f e]
  rw[Hf e,show i=m by omega]
abbrev srcS (l:Law)(cut:Sl Qz)(i:Nat):Qz:=⟨(if (decide (0<=(l.Out.g i).From)) then (cut.g (l.Out.g i).From.toNat).Plus else 0),(if (decide (0<=(l.Out.g i).From)) then (cut.g (l.Out.g i).From.toNat).Minus else 0)⟩
def AB5 (t:1000<=N){l:Law}(u:AE3 l){cut:Sl Qz}(hn:cut.n=l.If.n)(hc:∀i,i<cut.n->okS (cut.g i)) :∃s,O0 N l cut=some s/\Dz N l cut=some s/\s.n=l.Out.n/\∀i,i<s.n->vS (s.g i):=by
 have one:∀i,∃y:Qz,i<l.Out.n->vS y/\∀(R:Type) (k:Qz->Option R),
  (∀(Ch:Nat->Qz->Int->Qz->Option (Qz×Int)) (Ta:Nat->Qz->Qz->Int->Option (Qz×Int)),(Ch=O4/\Ta=S4) \/ (Ch=Y7/\Ta=BY) ->
  (if ((decide (0<=(l.Out.g i).From))=true->((0:Int)<=(l.Out.g i).From/\(l.Out.g i).From<(cut.n:Int)))then
   (Ch N (⟨(if (decide (0<=(l.Out.g i).From)) then (cut.g (l.Out.g i).From.toNat).Plus else 0),(if (decide (0<=(l.Out.g i).From)) then (cut.g (l.Out.g i).From.toNat).Minus else 0)⟩:Qz) (l.Out.g i).Clear (l.Out.g i).Set).bind fun y5=>
   if ((l.Out.g i).Take != 0) then
    if ((0:Int)<=(l.Out.g i).Of/\(l.Out.g i).Of<(cut.n:Int))then
     (Ta N y5.1 (cut.g (l.Out.g i).Of.toNat) (l.Out.g i).Take).bind fun y6=>k y6.1
    else none
   else k y5.1
   else none)=k y):=by
  intro i;by_cases d:i<l.Out.n
  case neg=>exact⟨default,fun h=>Ia h d⟩
  obtain⟨⟨j,m,o⟩,w,q⟩:=u.2 i d;have hs:okS (⟨(if (decide (0<=(l.Out.g i).From)) then (cut.g (l.Out.g i).From.toNat).Plus else 0),(if (decide (0<=(l.Out.g i).From)) then (cut.g (l.Out.g i).From.toNat).Minus else 0)⟩:Qz):=by
   by_cases v:0<=(l.Out.g i).From
   .simp only[v,decide_true,J8];exact hc _ (by omega)
   simp only[v,decide_false,AN5,Jc];exact⟨0#32,0#32,rfl⟩
  obtain⟨y,e1,e2,hy⟩:=Vi t hs m j;by_cases ht:(l.Out.g i).Take=0
  .refine⟨y.1,fun _=>⟨hy,fun R k Ch Ta h=>?_⟩⟩;rw[He (fun h=>by have:=of_decide_eq_true h;omega)]
   have:Ch N (srcS l cut i) (l.Out.g i).Clear (l.Out.g i).Set=some y:=by
    rcases h with⟨rfl,rfl⟩ | ⟨rfl,rfl⟩
    .exact e1
    exact e2
   rw[this,AN2,Hf (by simp[ht])]
  obtain⟨g1,g2⟩:=q ht;obtain⟨z,e3,e4,x⟩:=Aa7 t hy.ok o (hc (l.Out.g i).Of.toNat (by omega));refine⟨z.1,fun _=>⟨x,fun R k Ch Ta h=>?_⟩⟩;rw[He (fun h=>by have:=of_decide_eq_true h;omega)]
  have:Ch N (srcS l cut i) (l.Out.g i).Clear (l.Out.g i).Set=some y:=by
   rcases h with⟨rfl,rfl⟩ | ⟨rfl,rfl⟩
   .exact e1
   exact e2
  rw[this,AN2,He (by simp[ht]),Dp]
  have:Ta N y.1 (cut.g (l.Out.g i).Of.toNat) (l.Out.g i).Take=some z:=by
   rcases h with⟨rfl,rfl⟩ | ⟨rfl,rfl⟩
   .exact e3
   exact e4
  rw[this,AN2]
 obtain⟨out,f⟩:=AV6 one;have a0:=u.1;have b:∀(Ch:Nat->Qz->Int->Qz->Option (Qz×Int)) (Ta:Nat->Qz->Qz->Int->Option (Qz×Int)),(Ch=O4/\Ta=S4) \/ (Ch=Y7/\Ta=BY) ->
  ∀(a:Sl Qz->Int->Option (Sl Qz)) (i:Nat),i<l.Out.n->(∃r,a ((CV out i).push (out i)) (wrap .i64 ((i:Int)+1))=some r/\r=CV out l.Out.n) ->
  ∃r,(if ((decide (0<=(l.Out.g i).From))=true->((0:Int)<=(l.Out.g i).From/\(l.Out.g i).From<(cut.n:Int)))then
   (Ch N (srcS l cut i) (l.Out.g i).Clear (l.Out.g i).Set).bind fun y5=>
   if ((l.Out.g i).Take != 0) then
    if ((0:Int)<=(l.Out.g i).Of/\(l.Out.g i).Of<(cut.n:Int))then
     (Ta N y5.1 (cut.g (l.Out.g i).Of.toNat) (l.Out.g i).Take).bind fun y6=>
     if (((CV out i).n+(Sl.of [y6.1]:Sl Qz).n)*8<=140737488355328/\(CV out i).n+(Sl.of [y6.1]:Sl Qz).n<=140737488355328)then
      a ((CV out i).push y6.1) (wrap .i64 ((i:Int)+1))
     else none
    else none
   else
    if (((CV out i).n+(Sl.of [y5.1]:Sl Qz).n)*8<=140737488355328/\(CV out i).n+(Sl.of [y5.1]:Sl Qz).n<=140737488355328)then
     a ((CV out i).push y5.1) (wrap .i64 ((i:Int)+1))
    else none
   else none)=some r/\r=CV out l.Out.n:=by
  intro Ch Ta h a i d hr;have e:=(f i d).2 (Sl Qz) (fun y=>if (((CV out i).n+(Sl.of [y]:Sl Qz).n)*8<=140737488355328/\(CV out i).n+(Sl.of [y]:Sl Qz).n<=140737488355328)then a ((CV out i).push y) (wrap .i64 ((i:Int)+1))else none) Ch Ta h;refine eqX e (ifT ?_ hr)
  have:=No out i
  show ((CV out i).n+1)*8<=_/\(CV out i).n+1<=_;omega
 have h1:∃r,O0 N l cut=some r/\r=CV out l.Out.n:=by
  unfold O0;refine U2 (fun i x1 x2=>x2=(i:Int)/\x1=CV out i) l.Out.n _ (by omega) ⟨rfl,rfl⟩ ?_;rintro a i x1 x2 d ⟨rfl,rfl⟩ hs;by_cases c:i<l.Out.n
  .refine Ar (Ab ?_);rw[AM9];exact b _ _ (.inl ⟨rfl,rfl⟩) a i c (hs c _ _ ⟨Dn,rfl⟩)
  exact Bv ⟨_,rfl,by congr 1;omega⟩
 have h2:∃r,Dz N l cut=some r/\r=CV out l.Out.n:=by
  unfold Dz;refine U2 (fun i x1 x2=>x2=(i:Int)/\x1=CV out i) l.Out.n _ (by omega) ⟨rfl,rfl⟩ ?_;rintro a i x1 x2 d ⟨rfl,rfl⟩ hs;by_cases c:i<l.Out.n
  .refine Ar (Ab ?_);rw[AM9];exact b _ _ (.inr ⟨rfl,rfl⟩) a i c (hs c _ _ ⟨Dn,rfl⟩)
  exact Bv ⟨_,rfl,by congr 1;omega⟩
 obtain⟨r,e1,rfl⟩:=h1;obtain⟨r,e2,rfl⟩:=h2;exact⟨_,e1,e2,No out _,fun i d=>by rw[No]at d;rw[Aa8 out d];exact (f i d).1⟩
end Go.AM
namespace Go.AM
open Go.Proofs
def ne0 (x:BitVec 32):((x.toNat:Int) != 0)=decide (x≠0#32):=by rw[bne,eq0];simp
def or0 (x y:BitVec 32):x ||| y=0#32↔x=0#32/\y=0#32:=by
 constructor
 .intro h;have h:=(z32 _).1 h;exact⟨(z32 _).2 fun i a=>by have:=h i a;rw[AO7,AW7]at this;exact this.1,(z32 _).2 fun i a=>by have:=h i a;rw[AO7,AW7]at this;exact this.2⟩
 rintro⟨rfl,rfl⟩;rfl
def AL0 (x y z:BitVec 32):x &&& (y ||| z)=(x &&& y) ||| (x &&& z):=by apply AS6;intro i a;simp only[AO8,AO7];cases x.getLsbD i<;>simp
def AL1 (x y z:BitVec 32):(x ||| y) &&& z=(x &&& z) ||| (y &&& z):=by apply AS6;intro i a;simp only[AO8,AO7];cases z.getLsbD i<;>simp
def WK {N:Nat}(j:1000<=N){x:IJ}(hx:okO x)(k:Int):∃b,U4 N x k=some b/\JX N x k=some b:=by
 obtain⟨⟨a,b,d⟩,⟨c,hc⟩,t,ht⟩:=hx;have f:(16777215:Int)=((16777215#32).toNat:Int):=rfl;unfold U4 JX;simp only[lt,d,hc,ht,BK,An a b j,AN2];rw[f];simp only[Ff,KB,EF,ne0];by_cases h1:x.From < -1
 .simp[h1]
 by_cases g:k<=x.From
 .simp[h1,g]
 by_cases i:vB a b=true
 case neg=>simp[h1,g,i]
 simp only[h1,g,i,decide_false,AN5,Jc,AZ6];rw[AL1,AL0 t];generalize ~~~16777215#32=M;by_cases g1:c &&& M=0#32
 case neg=>simp[g1,or0]
 by_cases g2:t &&& M=0#32
 case neg=>simp[g1,g2,or0]
 by_cases g3:c &&& (a ||| b)=0#32
 case neg=>simp[g1,g2,g3,or0]
 by_cases g4:t &&& (a ||| b)=0#32
 case neg=>simp[g1,g2,g3,g4,or0]
 by_cases g5:t &&& c=0#32
 case neg=>simp[g1,g2,g3,g4,g5,or0]
 simp[g1,g2,g3,g4,g5,or0];by_cases g6:t.toNat=0
 .simp only[g6,J8];cases x.Of==0<;>simp
 simp only[g6,Jc];cases (decide (0<=x.Of)&&decide (x.Of<k))<;>simp
end Go.AM
namespace Go.AM
open Go.Proofs
abbrev nameC:Str:=[97,98,99,100,101,102,103,104,105,106,107,108,109,110,111,112,113,114,115,116,117,118,119,120,121,122,65,66,67,68,69,70,71,72,73,74,75,76,77,78,79,80,81,82,83,84,85,86,87,88,89,90,48,49,50,51,52,53,54,55,56,57,45]
def Aa9 {p:UInt8->Bool}:∀{l:Str},l.dropWhile p=[] ↔ ∀x∈l,p x=true
 |[]=>by simp
 |a::l=>by
  rw[List.dropWhile_cons];by_cases h:p a=true
  .rw[He h,Aa9];simp[h]
  rw[Hf h];simp[h]
def An1 (l cs:Str):Lib.trimS l cs=[] ↔ ∀b∈l,cs.contains b=true:=by
 unfold Lib.trimS Lib.trimLeftS Lib.trimRightS;rw[Aa9];constructor
 .intro h;have h:∀x∈l.reverse.dropWhile (cs.contains ·),cs.contains x=true:=fun x hx=>h x (Ba8.2 hx);have a:l.reverse.dropWhile (cs.contains ·)=[]:=by
   rcases e:l.reverse.dropWhile (cs.contains ·)with _|⟨y,r⟩
   .rfl
   have c:=h y (by rw[e];simp);have d:¬cs.contains y=true:=by
    have:=List.head_dropWhile_not (cs.contains ·) (l:=l.reverse) (by rw[e];simp)
    simp only[e,List.head_cons]at this;rw[this];exact Bool.false_ne_true
   exact Ia c d
  rw[Aa9]at a;exact fun b hb=>a b (Ba8.2 hb)
 intro h x hx;have hx:=Ba8.1 hx;exact h x (Ba8.1 ((List.dropWhile_sublist _).mem hx))
abbrev Rj (y:Int):Bool:=((((decide (97<=y))&&(decide (y<=122)))||((decide (65<=y))&&(decide (y<=90))))||((decide (48<=y))&&(decide (y<=57))))||(y==45)
def Ab0:∀k:Fin 256,nameC.contains (UInt8.ofNat k.val)=Rj ((k.val:Nat):Int):=by decide +kernel
def Ab1 (b:UInt8):nameC.contains b=Rj ((b.toNat:Nat):Int):=by
 have:=Ab0 ⟨b.toNat,b.toNat_lt⟩
 rw[show UInt8.ofNat b.toNat=b by simp]at this;exact this
def Tt {N:Nat}{s:Str}(m:s.length<N)(hs:s.length<1000000000):∃b,BW N s=some b/\ER N s=some b:=by
 have n:∃b,ER N s=some b/\(b=true↔(∀c∈s,nameC.contains c=true)/\1<=s.length/\s.length<=24):=by
  unfold ER;refine BN (fun i x1=>x1=(i:Int)/\∀j (h:j<s.length),j<i->nameC.contains s[j]=true) s.length _ m ⟨rfl,fun j _ hj=>Ia hj (by omega)⟩ ?_;rintro g i x1 u ⟨rfl,h⟩ d;by_cases hl:i<s.length
  .refine Ar (Ab ?_);have eb:Cm s (i:Int)=((s[i].toNat:Nat):Int):=by simp[Cm,hl]
   by_cases hb:nameC.contains s[i]=true
   .refine ifF (by rw[eb];show ¬(!(Rj ((s[i].toNat:Nat):Int)))=true;rw[<- Ab1,hb];simp) (d hl _ ⟨Dn,fun j hj o=>?_⟩);by_cases e:j=i
    .subst e;exact hb
    exact h j hj (by omega)
   refine ifT ?_ ⟨false,rfl,by simp,fun q=>Ia (q.1 s[i] (AZ0 hl)) hb⟩;rw[eb];show (!(Rj ((s[i].toNat:Nat):Int)))=true;rw[<- Ab1];simpa using hb
  refine Bv ⟨_,rfl,?_⟩;simp only[AN1,Ld];constructor
  .rintro⟨g1,g2⟩;refine⟨fun c hc=>?_,by omega,by omega⟩;obtain⟨j,hj,rfl⟩:=AZ1 hc;exact h j hj (by omega)
  rintro⟨_,g1,g2⟩;exact⟨by omega,by omega⟩
 obtain⟨b,e,hb⟩:=n;refine⟨b,?_,e⟩
 suffices h:∃r,BW N s=some r/\(r=true↔(∀c∈s,nameC.contains c=true)/\1<=s.length/\s.length<=24) by obtain⟨r,t,f⟩:=h;rw[t,show r=b by rw[AQ4,f,hb]]
 unfold BW;refine ltX ?_;by_cases a:s=[]
 .exact ifF (by simp[a]) ⟨false,rfl,by simp[a]⟩
 refine ifT (by simp[a]) ?_;have l:0<s.length:=List.length_pos_iff.2 a;by_cases h1:s.length<=24
 .refine Ar (B0 (x:=Lib.trimS s nameC) ?_ ⟨_,rfl,?_⟩)
  .unfold Er;rw[He ⟨by omega,by decide,by decide⟩]
  rw[<- An1];constructor
  .intro h;exact⟨by simpa using h,by omega,h1⟩
  rintro⟨h,_⟩;simp[h]
 exact Bv ⟨false,rfl,by simp;intro _ _;omega⟩
end Go.AM
namespace Go.AM
variable {N:Nat}
open IntKind (wrap)
open Go.Proofs
def Tu {s:Sl IJ}(l:s.n<N)(hs:s.n<1000000){f:IJ->Option Bool}{b:Nat->Bool}(m:∀i,i<s.n->f (s.g i)=some (b i)) :∃r,B7 N s f=some r/\(r=true ↔ ∃i,i<s.n/\b i=true):=by
 unfold B7 E3
 have:∃y,S9 N (fun (a:Int->Option Int) (x1:Int)=>
  if (decide (x1<(s.n:Int))) then
   if ((0:Int)<=x1/\x1<(s.n:Int))then
    (f (s.g x1.toNat)).bind fun y3=>
    if y3 then
     some x1
    else
     a (wrap .i64 (x1+1))
   else none
  else
   some (-1)) 0=some y/\(0<=y ↔ ∃i,i<s.n/\b i=true):=by
  refine BN (fun i x1=>x1=(i:Int)/\∀j,j<i->b j=false) s.n _ l ⟨rfl,fun j hj=>Ia hj (by omega)⟩ ?_;rintro d i x1 o ⟨rfl,h⟩ c;by_cases hl:i<s.n
  .refine Ar (Ab (B0 (by rw[AM9];exact m i hl) ?_));cases hb:b i
   .refine Bx (c hl _ ⟨Dn,fun j hj=>?_⟩);by_cases e:j=i
    .subst e;exact hb
    exact h j (by omega)
   exact ifT rfl ⟨i,rfl,fun _=>⟨i,hl,hb⟩,fun _=>by omega⟩
  refine Bv ⟨-1,rfl,fun h=>Ia h (by decide),?_⟩;rintro⟨j,hj,hb⟩;rw[h j (by omega)]at hb;cases hb
 obtain⟨y,e,hy⟩:=this;exact B0 e ⟨_,rfl,by rw[Ld];exact hy⟩
def Lp (l:Law):Prop:=okL l/\l.Name.length<1100000/\l.If.n<1100000/\l.Out.n<1100000/\∀i,i<l.Out.n->okO (l.Out.g i)
def XY {s:Qz}(hs:okS s):∃b,F3 N s=some b/\(b=true↔vS s):=by obtain⟨p,m,e⟩:=hs;exact⟨vB p m,by rw[e];exact BK p m,(Vd e).symm⟩
def XZ (a:1000<=N){s:Qz}(hs:okS s):∃b,J5 N s=some b/\(b=true↔vS s):=by obtain⟨p,m,e⟩:=hs;exact⟨vB p m,by rw[e];exact An p m a,(Vd e).symm⟩
def An2 {x:IJ}(hx:okO x){k:Int}(h:U4 N x k=some true):x.From<k/\(x.Take≠0->0<=x.Of/\x.Of<k):=by
 obtain⟨⟨a,b,c⟩,_,_⟩:=hx;unfold U4 at h;simp only[lt,c,BK,AN2]at h;by_cases h1:x.From < -1
 .simp[h1]at h
 by_cases d:k<=x.From
 .simp[h1,d]at h
 refine⟨by omega,fun ht=>?_⟩;simp only[h1,d,decide_false,AN5,Jc]at h;by_cases f:(!vB a b)=true
 .rw[He f]at h;cases h
 rw[Hf f]at h;split at h
 .cases h
 rw[Hf (by simp[ht])]at h;simpa using h
def chkAll (N:Nat)(l:Law):Prop:=ER N l.Name=some true/\chk 40 [l.Left]/\chk 40 [l.Right]/\l.If.n<=4/\l.Out.n<=6/\l.If.n+l.Out.n≠0/\1<=l.Mode/\l.Mode<=3/\(∀i,i<l.If.n->vS (l.If.g i))/\∀i,i<l.Out.n->U4 N (l.Out.g i) l.If.n=some true
def AB6 (N:Nat)(l:Law)(e:Int):Prop:=(e=0/\chkAll N l) \/ (e=17/\¬chkAll N l)
def AE4 (l:Law):Prop:=okL l/\chk 40 [l.Left]/\chk 40 [l.Right]/\l.If.n<=4/\AE3 l/\l.If.n+l.Out.n≠0/\1<=l.Mode/\l.Mode<=3
def chkAll.f {N:Nat}{l:Law}(hl:Lp l)(h:chkAll N l):AE4 l:=by obtain⟨_,h1,b,c,d,g,j,m,o,n⟩:=h;exact⟨hl.1,h1,b,c,⟨d,fun i a=>⟨hl.2.2.2.2 i a,An2 (hl.2.2.2.2 i a) (n i a)⟩⟩,g,j,m⟩
def Ya (z:3000000<=N){l:Law}(hl:Lp l):∃e,Y2 N l=some e/\AB6 N l e:=by
 have t:=hl.2.1;have u:=hl.2.2.1;have v:=hl.2.2.2.1;unfold Y2;obtain⟨b0,e0,e0'⟩:=Tt (N:=N) (s:=l.Name) (by omega) (by omega);refine B0 e0 ?_;cases b0
 .exact ifT rfl ⟨17,rfl,.inr ⟨rfl,fun h=>by have:=h.1;rw[e0']at this;cases this⟩⟩
 refine Bx ?_;obtain⟨y2,e2,m⟩:=Rh (N:=N) (by omega) hl.1.1;refine B0 e2 ?_;by_cases c2:y2=0
 case neg=>exact ifT (by simpa using c2) ⟨17,rfl,.inr ⟨rfl,fun h=>c2 (m.2 h.2.1)⟩⟩
 refine ifF (by simp[c2]) ?_;obtain⟨y3,e3,o⟩:=Rh (N:=N) (by omega) hl.1.2.1;refine B0 e3 ?_;by_cases c3:y3=0
 case neg=>exact ifT (by simpa using c3) ⟨17,rfl,.inr ⟨rfl,fun h=>c3 (o.2 h.2.2.1)⟩⟩
 refine ifF (by simp[c3]) ?_;by_cases c4:4<l.If.n
 .exact Ar ⟨17,rfl,.inr ⟨rfl,fun h=>by have:=h.2.2.2.1;omega⟩⟩
 refine Bv ?_;by_cases c5:6<l.Out.n
 .exact Ar ⟨17,rfl,.inr ⟨rfl,fun h=>by have:=h.2.2.2.2.1;omega⟩⟩
 refine Bv ?_;rw[DO (by omega)];by_cases c6:l.If.n+l.Out.n=0
 .exact ifT (by rw[c6];rfl) ⟨17,rfl,.inr ⟨rfl,fun h=>h.2.2.2.2.2.1 c6⟩⟩
 refine Bv ?_;by_cases c7:l.Mode<1 \/ 3<l.Mode
 .exact Ar ⟨17,rfl,.inr ⟨rfl,fun h=>by have g1:=h.2.2.2.2.2.2.1;have g2:=h.2.2.2.2.2.2.2.1;omega⟩⟩
 refine Bv ?_;have x:∀i,∃b,i<l.If.n->Ah N (l.If.g i)=some b/\(b=true ↔ ¬vS (l.If.g i)):=by
  intro i;by_cases a:i<l.If.n
  .obtain⟨b,eb,hb⟩:=XY (N:=N) (hl.1.2.2 i a);refine⟨!b,fun _=>⟨by unfold Ah;rw[eb];rfl,?_⟩⟩;rw[<- hb];simp
  exact⟨false,fun h=>Ia h a⟩
 obtain⟨f,j⟩:=AV6 x;obtain⟨y4,e4,q⟩:=KV (N:=N) (w:=l.If) (by omega) (by omega) (f:=fun u1=>Ah N u1) (fun i a=>(j i a).1);refine B0 e4 ?_;cases c:y4
 case true=>obtain⟨i,a,hb⟩:=q.1 c;exact ifT rfl ⟨17,rfl,.inr ⟨rfl,fun h=>(j i a).2.1 hb (h.2.2.2.2.2.2.2.2.1 i a)⟩⟩
 refine Bx ?_;have y:∀i,∃b,i<l.Out.n->Ag N (l.Out.g i) (l.If.n:Int)=some b/\(b=true ↔ ¬U4 N (l.Out.g i) l.If.n=some true):=by
  intro i;by_cases a:i<l.Out.n
  .obtain⟨b,eb,_⟩:=WK (N:=N) (by omega) (hl.2.2.2.2 i a) (l.If.n:Int);refine⟨!b,fun _=>⟨by unfold Ag;rw[eb];rfl,?_⟩⟩;rw[eb];simp
  exact⟨false,fun h=>Ia h a⟩
 obtain⟨g,hg⟩:=AV6 y;obtain⟨y5,e5,r⟩:=Tu (N:=N) (s:=l.Out) (by omega) (by omega) (f:=fun u2=>Ag N u2 (l.If.n:Int)) (fun i a=>(hg i a).1);refine B0 e5 ?_;cases d:y5
 case true=>obtain⟨i,a,hb⟩:=r.1 d;exact ifT rfl ⟨17,rfl,.inr ⟨rfl,fun h=>(hg i a).2.1 hb (h.2.2.2.2.2.2.2.2.2 i a)⟩⟩
 refine Bx ⟨0,rfl,.inl ⟨rfl,e0',m.1 c2,o.1 c3,by omega,by omega,c6,by omega,by omega,fun i a=>?_,fun i a=>?_⟩⟩
 .refine AR0 fun hn=>?_
  have:=q.2 ⟨i,a,(j i a).2.2 hn⟩
  rw[c]at this;cases this
 refine AR0 fun hn=>?_
 have:=r.2 ⟨i,a,(hg i a).2.2 hn⟩
 rw[d]at this;cases this
def Yb (x:3000000<=N){l:Law}(hl:Lp l):∃e,BZ N l=some e/\AB6 N l e:=by
 have t:=hl.2.1;have u:=hl.2.2.1;have v:=hl.2.2.2.1;unfold BZ;obtain⟨b0,e0,e0'⟩:=Tt (N:=N) (s:=l.Name) (by omega) (by omega);refine B0 e0' (ltX ?_);cases b0
 .exact ifT rfl (ifT rfl ⟨17,rfl,.inr ⟨rfl,fun h=>by have:=h.1;rw[e0']at this;cases this⟩⟩)
 refine Bx ?_;obtain⟨y2,e2,o⟩:=Nm (N:=N) (by omega) hl.1.1;refine B0 e2 ?_;by_cases c2:y2=0
 case neg=>exact ifT (by simpa using c2) (ifT rfl ⟨17,rfl,.inr ⟨rfl,fun h=>c2 (o.2 h.2.1)⟩⟩)
 refine ifF (by simp[c2]) ?_;obtain⟨y3,e3,q⟩:=Nm (N:=N) (by omega) hl.1.2.1;refine B0 e3 ?_;by_cases c3:y3=0
 case neg=>exact ifT (by simpa using c3) ⟨17,rfl,.inr ⟨rfl,fun h=>c3 (q.2 h.2.2.1)⟩⟩
 refine ifF (by simp[c3]) ?_;rw[DO (by omega)];by_cases a:l.If.n<=4/\l.Out.n<=6/\l.If.n+l.Out.n≠0/\1<=l.Mode/\l.Mode<=3
 case neg=>refine ifT ?_ ⟨17,rfl,.inr ⟨rfl,fun h=>a ⟨h.2.2.2.1,h.2.2.2.2.1,h.2.2.2.2.2.1,h.2.2.2.2.2.2.1,h.2.2.2.2.2.2.2.1⟩⟩⟩;simp only[AO9,Ld,beq_iff_eq];omega
 refine ifF (by simp only[AO9,Ld,beq_iff_eq];omega) ?_;obtain⟨c4,c5,c6,c7,c8⟩:=a;refine BN (fun i x1=>x1=(i:Int)/\∀j,j<i->vS (l.If.g j)) l.If.n _ (by omega) ⟨rfl,fun j hj=>Ia hj (by omega)⟩ ?_;rintro r i x1 y ⟨rfl,h⟩ hs;by_cases c:i<l.If.n
 .obtain⟨b,eb,hb⟩:=XZ (N:=N) (by omega) (hl.1.2.2 i c);refine Ar (Ab (B0 (by rw[AM9];exact eb) ?_));cases b
  .exact ifT rfl ⟨17,rfl,.inr ⟨rfl,fun h=>by have:=hb.2 (h.2.2.2.2.2.2.2.2.1 i c);cases this⟩⟩
  refine Bx (hs c _ ⟨Dn,fun j hj=>?_⟩);by_cases e:j=i
  .subst e;exact hb.1 rfl
  exact h j (by omega)
 refine Bv ?_;have w:∀j,j<l.If.n->vS (l.If.g j):=fun j hj=>h j (by omega);refine BN (fun i x1=>x1=(i:Int)/\∀j,j<i->U4 N (l.Out.g j) l.If.n=some true) l.Out.n _ (by omega) ⟨rfl,fun j hj=>Ia hj (by omega)⟩ ?_;rintro f k x2 hk ⟨rfl,h'⟩ m;by_cases d:k<l.Out.n
 .obtain⟨b,eb,eb'⟩:=WK (N:=N) (by omega) (hl.2.2.2.2 k d) (l.If.n:Int);refine Ar (Ab (B0 (by rw[AM9];exact eb') ?_));cases b
  .exact ifT rfl ⟨17,rfl,.inr ⟨rfl,fun h=>by have:=h.2.2.2.2.2.2.2.2.2 k d;rw[eb]at this;cases this⟩⟩
  refine Bx (m d _ ⟨Dn,fun j hj=>?_⟩);by_cases e:j=k
  .subst e;exact eb
  exact h' j (by omega)
 exact Bv ⟨0,rfl,.inl ⟨rfl,e0',o.1 c2,q.1 c3,c4,c5,c6,c7,c8,w,fun j hj=>h' j (by omega)⟩⟩
def Tv {l:Law}{e e' : Int}(h:AB6 N l e)(h' : AB6 N l e'):e=e':=by
 rcases h with⟨rfl,h⟩ | ⟨rfl,h⟩<;>rcases h' with⟨rfl,h'⟩ | ⟨rfl,h'⟩
 .rfl
 .exact Ia h h'
 .exact Ia h' h
 rfl
def ES (a:3000000<=N){l:Law}(hl:Lp l):∃e,Y2 N l=some e/\BZ N l=some e/\AB6 N l e:=by obtain⟨e,h,c⟩:=Ya a hl;obtain⟨e',h',c'⟩:=Yb a hl;obtain rfl:=Tv c c';exact⟨_,h,h',c⟩
end Go.AM
namespace Go.AM
open Go.Proofs
def PE:Pat->Pat->Prop
 |.nil,q=>q.Kind=0/\q.Is=default/\q.Not=false/\q.Min=0/\q.Max=0/\q.L.n=0
 |.mk k is no mn mx n g,q=>q.Kind=k/\q.Is=is/\q.Not=no/\q.Min=mn/\q.Max=mx/\q.L.n=n/\∀i,i<n->PE (g i) (q.L.g i)
def PE_of {p q:Pat}:PE p q↔q.Kind=p.Kind/\q.Is=p.Is/\q.Not=p.Not/\q.Min=p.Min/\q.Max=p.Max/\q.L.n=p.L.n/\∀i,i<p.L.n->PE (p.L.g i) (q.L.g i):=by
 cases p with
 |nil=>exact⟨fun h=>⟨h.1,h.2.1,h.2.2.1,h.2.2.2.1,h.2.2.2.2.1,h.2.2.2.2.2,fun i a=>Ia a (AQ3 i)⟩,fun h=>⟨h.1,h.2.1,h.2.2.1,h.2.2.2.1,h.2.2.2.2.1,h.2.2.2.2.2.1⟩⟩
 |mk k is no mn mx n g=>exact AW3
def Vj:∀p:Pat,PE p p
 |.nil=>⟨rfl,rfl,rfl,rfl,rfl,rfl⟩
 |.mk k is no mn mx n g=>⟨rfl,rfl,rfl,rfl,rfl,rfl,fun i _=>Vj (g i)⟩
def Vk:∀{p q:Pat},PE p q->PE q p
 |.nil,q,h=>PE_of.2 ⟨h.1.symm,h.2.1.symm,h.2.2.1.symm,h.2.2.2.1.symm,h.2.2.2.2.1.symm,h.2.2.2.2.2.symm,fun i a=>Ia a (by rw[h.2.2.2.2.2];exact AQ3 i)⟩
 |.mk k is no mn mx n g,q,h=>PE_of.2 ⟨h.1.symm,h.2.1.symm,h.2.2.1.symm,h.2.2.2.1.symm,h.2.2.2.2.1.symm,h.2.2.2.2.2.1.symm,fun i a=>Vk (h.2.2.2.2.2.2 i (by rw[<- h.2.2.2.2.2.1];exact a))⟩
def Px {n:Nat}{Q Q' : Nat->Nat->Nat->Prop}:∀{m:Nat},(∀i,i<m->Q i=Q' i)->XN n Q m=XN n Q' m
 |0,_=>rfl
 |m+1,h=>by funext a b;simp only[XN];rw[Px fun i c=>h i (by omega),h m (by omega)]
def AB7 {w:Sl Qz}:∀(d:Nat) {p q:Pat},okP d p->PE p q->PR w p=PR w q
 |0,p,q,h,_=>h.elim
 |d+1,p,q,h,e=>by
  obtain⟨e1,e2,e3,e4,e5,e6,e7⟩:=PE_of.1 e;have ih:∀i,i<p.L.n->PR w (p.L.g i)=PR w (q.L.g i):=fun i c=>AB7 d (h.2.2 i c) (e7 i c);funext a b;apply propext;rw[Lo,Lo,e1,e2,e3,e4,e5,e6];have j:XN w.n (fun i=>PR w (p.L.g i)) p.L.n=XN w.n (fun i=>PR w (q.L.g i)) p.L.n:=Px ih;have l:(∃i,i<p.L.n/\PR w (p.L.g i) a b) ↔ ∃i,i<p.L.n/\PR w (q.L.g i) a b:=⟨fun⟨i,c,g⟩=>⟨i,c,by rw[<- ih i c];exact g⟩,fun⟨i,c,g⟩=>⟨i,c,by rw[ih i c];exact g⟩⟩;rw[j,l];by_cases f:p.Kind=5
  .have:=(h.2.1 f).1
   rw[ih 0 (by omega)]
  simp[f]
def An3 {p q:Pat}(e:PE p q):Hh p↔Hh q:=by obtain⟨e1,e2,e3,e4,e5,e6,_⟩:=PE_of.1 e;unfold Hh;rw[e1,e2,e3,e4,e5,e6]
def PEs:List Pat->List Pat->Prop
 |[],[]=>True
 |p::l,q::m=>PE p q/\PEs l m
 |_,_=>False
def Ab2:∀{a b c d:List Pat},PEs a b->PEs c d->PEs (a++c) (b++d)
 |[],[],_,_,_,h=>h
 |_::_,_::_,_,_,⟨h1,h2⟩,h=>⟨h1,Ab2 h2 h⟩
 |[],_::_,_,_,h,_=>h.elim
 |_::_,[],_,_,h,_=>h.elim
def Tw {f g:Nat->Pat}:∀(l:List Nat),(∀i∈l,PE (f i) (g i))->PEs (l.map f) (l.map g)
 |[],_=>trivial
 |i::l,h=>⟨h i (by simp),Tw l fun j hj=>h j (by simp[hj])⟩
def At1:∀(k:Nat) (l m:List Pat),PEs l m->(chk k l↔chk k m)
 |0,[],[],_=>AW3
 |0,p::l,q::m,_=>⟨fun h=>(by cases h),fun h=>by cases h⟩
 |k+1,[],[],_=>AW3
 |k+1,p::l,q::m,⟨h1,h2⟩=>by
  obtain⟨_,_,_,_,_,e6,e7⟩:=PE_of.1 h1;show Hh p/\chk k (p.L.toList++l)↔Hh q/\chk k (q.L.toList++m);rw[An3 h1,At1 k _ _ (Ab2 (c:=l) (d:=m) (show PEs p.L.toList q.L.toList by unfold Sl.toList;rw[e6];exact Tw _ fun i a=>e7 i (AT1.1 a)) h2)]
 |_,[],_::_,h=>h.elim
 |_,_::_,[],h=>h.elim
def Kg {p q:Pat}(h:PE p q):chk 40 [p]↔chk 40 [q]:=At1 40 [p] [q] ⟨h,trivial⟩
def okPS_of {p:Pat}:okPS p↔okS p.Is/\∀i,i<p.L.n->okPS (p.L.g i):=by
 cases p with
 |nil=>exact⟨fun _=>⟨⟨0#32,0#32,rfl⟩,fun i a=>Ia a (AQ3 i)⟩,fun _=>trivial⟩
 |mk k is no mn mx n g=>exact AW3
def Np:∀{p q:Pat},PE p q->okPS p->okPS q
 |.nil,q,h,_=>okPS_of.2 ⟨by rw[h.2.1];exact⟨0#32,0#32,rfl⟩,fun i a=>Ia a (by rw[h.2.2.2.2.2];exact AQ3 i)⟩
 |.mk k is no mn mx n g,q,h,hp=>okPS_of.2 ⟨by rw[h.2.1];exact hp.1,fun i a=>by
  have a:i<n:=by rw[<- h.2.2.2.2.2.1];exact a
  exact Np (h.2.2.2.2.2.2 i a) (hp.2 i a)⟩
end Go.AM
namespace Go.AM
variable {N:Nat}
open IntKind (wrap)
open Go.Proofs
def nf:(!false)=true:=rfl
def AB8 {α : Type}{s t:Sl α}(h:s.n=0):s.app t=t:=by cases t;simp[Sl.app,h]
def At2 {α : Type}[Inhabited α](s:Sl (Sl α)):Nat->Sl α
 |0=>Sl.nil
 |k+1=>(At2 s k).app (s.g k)
def At3 {α : Type}[Inhabited α](s:Sl (Sl α)){B:Nat}:∀k,(∀i,i<k->(s.g i).n<=B)->(At2 s k).n<=k*B
 |0,_=>by simp[At2]
 |k+1,h=>by
  have:=At3 s k fun i a=>h i (by omega)
  have:=h k (by omega)
  show (At2 s k).n+(s.g k).n<=_;rw[Ba5];omega
def Vl {s:Sl (Sl Qz)}(hn:s.n<1000)(d:1000<=N)(hs:∀i,i<s.n->(s.g i).n<=3000000) :A7 N s=some (At2 s s.n):=by
 suffices h:∃r,A7 N s=some r/\r=At2 s s.n by obtain⟨r,h,rfl⟩:=h;exact h
 unfold A7;refine U2 (fun (i:Nat) (x1 x2:Int)=>x2=(i:Int)/\0<=x1/\x1<=(i:Int)*3000000) s.n _ (by omega) ⟨rfl,Int.le_refl 0,by simp⟩ ?_;rintro b i x1 x2 c ⟨rfl,f,h1⟩ a;by_cases hl:i<s.n
 .have:=hs i hl
  refine Ar (Ab ?_);rw[AM9,D7 (by omega) (by omega)];exact Bv (a hl _ _ ⟨Dn,by omega,by omega⟩)
 refine Bv (B0 (x:=Sl.nil) ?_ ?_)
 .unfold H8;rw[Dp]
 refine U2 (fun i x1 x2=>x2=(i:Int)/\x1=At2 s i) s.n _ (by omega) ⟨rfl,rfl⟩ ?_;rintro b i x1 x2 c ⟨rfl,rfl⟩ a;by_cases hl:i<s.n
 .have g1:=hs i hl;have g2:=At3 s i (B:=3000000) fun j hj=>hs j (by omega);refine Ar (ifT ⟨by omega,?_⟩ (a hl _ _ ⟨Dn,?_⟩))
  .rw[AM9];omega
  rw[AM9];rfl
 exact Bv ⟨_,rfl,by congr 1;omega⟩
def AE5 (w:Sl Qz)(i k:Nat)(y:Sl Qz):Sl Qz:=((w.take i).app y).app (w.drop (i+k))
def Ab3 {w y:Sl Qz}{i k:Nat}(a:i+k<=w.n)(hw:∀j,j<w.n->vS (w.g j))(hy:∀j,j<y.n->vS (y.g j)):(AE5 w i k y).n=w.n-k+y.n/\∀j,j<(AE5 w i k y).n->vS ((AE5 w i k y).g j):=by
 have hn:(AE5 w i k y).n=w.n-k+y.n:=by show i+y.n+(w.n-(i+k))=_;omega
 refine⟨hn,fun j hj=>?_⟩;rw[hn]at hj;show vS (if j<i+y.n then (if j<i then w.g j else y.g (j-i))else w.g (i+k+(j-(i+y.n))));split
 .split
  .exact hw _ (by omega)
  exact hy _ (by omega)
 exact hw _ (by omega)
def Hi (N:Nat)(l:Law)(w:Sl Qz)(i:Nat):Sl Qz:=(O0 N l (w.sub i (i+l.If.n))).getD Sl.nil
def Z1 (N:Nat)(l:Law)(w:Sl Qz)(i:Nat):Sl Qz:=AE5 w i l.If.n (Hi N l w i)
def vOk {w:Sl Qz}(h:wOk w):okW w:=⟨by have:=h.1;omega,fun i a=>(h.2 i a).ok⟩
def GL (a:1000<=N){l:Law}(b:AE3 l){w:Sl Qz}(hw:∀j,j<w.n->vS (w.g j)){i:Nat}(m:i+l.If.n<=w.n) :O0 N l (w.sub i (i+l.If.n))=some (Hi N l w i)/\Dz N l (w.sub i (i+l.If.n))=some (Hi N l w i)/\(Hi N l w i).n=l.Out.n/\∀j,j<(Hi N l w i).n->vS ((Hi N l w i).g j):=by
 obtain⟨s,h1,c,d,f⟩:=AB5 a b (cut:=w.sub i (i+l.If.n)) (by show i+l.If.n-i=_;omega) fun j hj=>(hw (i+j) (by have:j<i+l.If.n-i:=hj;omega)).ok;have e:Hi N l w i=s:=by unfold Hi;rw[h1];rfl
 rw[e];exact⟨h1,c,d,f⟩
def cat3 (a b c:Sl Qz):At2 (Sl.of [a,b,c]:Sl (Sl Qz)) 3=(a.app b).app c:=by show ((Mw.app a).app b).app c=_;rw[AB8 (s:=Mw) rfl]
def Ab4 (d:1000<=N){a b c:Sl Qz}(ha:a.n<=3000000)(hb:b.n<=3000000)(hc:c.n<=3000000):A7 N (Sl.of [a,b,c]:Sl (Sl Qz))=some ((a.app b).app c):=by
 have h:=Vl (N:=N) (s:=(Sl.of [a,b,c]:Sl (Sl Qz))) (by show 3<1000;omega) d fun i f=>by
  match i,f with
  |0,_=>exact ha
  |1,_=>exact hb
  |2,_=>exact hc
 rw[h];exact congrArg some (cat3 a b c)
def FD (a:1000<=N){l:Law}(b:AE3 l){w:Sl Qz}(c:w.n<1000)(hw:∀j,j<w.n->vS (w.g j)){i:Nat}(d:i+l.If.n<=w.n) :Q3 N l w i=some (Z1 N l w i)/\Aj N l w i=some (Z1 N l w i):=by
 obtain⟨h1,f,m,o⟩:=GL a b hw d;have q:=b.1;constructor
 .unfold Q3;rw[DO (by omega),Dp,AM9,AM9,h1,AN2,Dp,
   Ab4 a (by show i<=_;omega) (by omega) (by show w.n-(i+l.If.n)<=_;omega)]
  rfl
 unfold Aj;rw[DO (by omega),AM9,AM9,AB8 (s:=Mx) rfl,He ⟨by omega,by show (0+i)*8<=_/\0+i<=_;omega⟩,Dp,f,AN2,
  He (by show (i+(Hi N l w i).n)*8<=_/\i+(Hi N l w i).n<=_;omega),He ⟨by omega,by show (i+(Hi N l w i).n+(w.n-(i+l.If.n)))*8<=_/\i+(Hi N l w i).n+(w.n-(i+l.If.n))<=_;omega⟩]
 rfl
def SE {α : Type}(s t:Sl α):Prop:=s.n=t.n/\∀i,i<s.n->s.g i=t.g i
def SE.refl {α : Type}(s:Sl α):SE s s:=⟨rfl,fun _ _=>rfl⟩
def SE.symm {α : Type}{s t:Sl α}(h:SE s t):SE t s:=⟨h.1.symm,fun i a=>(h.2 i (by rw[h.1];exact a)).symm⟩
def SE.trans {α : Type}{s t u:Sl α}(h:SE s t)(h' : SE t u):SE s u:=⟨h.1.trans h'.1,fun i a=>(h.2 i a).trans (h'.2 i (by rw[<- h.1];exact a))⟩
def SE.app {α : Type}{s t u v:Sl α}(h:SE s t)(h' : SE u v):SE (s.app u) (t.app v):=⟨by show s.n+u.n=t.n+v.n;rw[h.1,h'.1],fun i a=>by
 show (if i<s.n then s.g i else u.g (i-s.n))=if i<t.n then t.g i else v.g (i-t.n)
 have a:i<s.n+u.n:=a;rw[<- h.1];split
 .exact h.2 i (by assumption)
 exact h'.2 _ (by omega)⟩
def SE.drop {α : Type}{s t:Sl α}(h:SE s t)(k:Nat):SE (s.drop k) (t.drop k):=⟨by show s.n-k=t.n-k;rw[h.1],fun i a=>by have a:i<s.n-k:=a;exact h.2 _ (by omega)⟩
def SE.take {α : Type}{s t:Sl α}(h:SE s t){k:Nat}(hk:k<=s.n):SE (s.take k) (t.take k):=⟨rfl,fun i a=>h.2 i (by have a:i<k:=a;omega)⟩
def SE.sub {α : Type}{s t:Sl α}(h:SE s t){a b:Nat}(hk:b<=s.n):SE (s.sub a b) (t.sub a b):=⟨rfl,fun i c=>h.2 _ (by have c:i<b-a:=c;omega)⟩
def SE.v {s t:Sl Qz}(h:SE s t)(a:∀j,j<s.n->vS (s.g j)):∀j,j<t.n->vS (t.g j):=fun j hj=>by rw[<- h.2 j (by rw[h.1];exact hj)];exact a j (by rw[h.1];exact hj)
def SE.wOk {s t:Sl Qz}(h:SE s t)(a:wOk s):wOk t:=⟨by rw[<- h.1];exact a.1,h.v a.2⟩
def Rk {w w' : Sl Qz}(h:SE w w'):∀p:Pat,PR w p=PR w' p
 |.nil=>rfl
 |.mk kind is no mn mx m g=>by
  have ih:(fun i=>PR w (g i))=fun i=>PR w' (g i):=funext fun i=>Rk h (g i);have ih1:∀i,PR w (g i)=PR w' (g i):=fun i=>congrFun ih i;have e1:∀a,(a<w.n↔a<w'.n):=fun a=>by rw[h.1]
  funext a b;unfold PR;rw[ih];simp only[ih1,<- h.1];by_cases ha:a<w.n
  .rw[h.2 a ha]
  simp[ha]
def Yc {l:Law}{w w' : Sl Qz}(h:SE w w'){i:Nat}:Pw l w i↔Pw l w' i:=by
 suffices H:∀{w w' : Sl Qz},SE w w' -> Pw l w i->Pw l w' i by exact⟨H h,H h.symm⟩
 intro w w' h;rintro⟨h1,f,g,m,n,o,⟨a,ha,c⟩,b,hb,d⟩;have hn:=h.1;refine⟨by omega,fun j hj=>?_,g,m,h.wOk n,by omega,⟨a,by omega,?_⟩,b,by omega,?_⟩
 .rw[<- h.2 (i+j) (by omega)];exact f j hj
 .rw[<- Rk h];exact c
 rw[<- Rk h];exact d
structure LE (l l' : Law):Prop where
 name:l'.Name=l.Name
 left:PE l.Left l'.Left
 right:PE l.Right l'.Right
 cond:SE l.If l'.If
 out:SE l.Out l'.Out
 mode:l'.Mode=l.Mode
def LE.refl (l:Law):LE l l:=⟨rfl,Vj _,Vj _,SE.refl _,SE.refl _,rfl⟩
def LE.symm {l l' : Law}(h:LE l l'):LE l' l:=⟨h.name.symm,Vk h.left,Vk h.right,h.cond.symm,h.out.symm,h.mode.symm⟩
def AB9 {l l' : Law}(h:LE l l'){w:Sl Qz}{i:Nat}:Pw l w i↔Pw l' w i:=by
 suffices H:∀{l l' : Law},LE l l' -> Pw l w i->Pw l' w i by exact⟨H h,H h.symm⟩
 intro l l' h;rintro⟨h1,m,f,g,n,o,⟨a,ha,c⟩,b,hb,d⟩;have hn:=h.cond.1;refine⟨by omega,fun j hj=>?_,(Kg h.left).1 f,(Kg h.right).1 g,n,by omega,⟨a,ha,?_⟩,b,hb,?_⟩
 .rw[<- h.cond.2 j (by omega)];exact m j (by omega)
 .rw[<- AB7 40 (Nl 40 _ (by omega) f _ (by simp)) h.left];exact c
 rw[<- hn,<- AB7 40 (Nl 40 _ (by omega) g _ (by simp)) h.right];exact d
def Ik {l l' : Law}(e:LE l l'){w w' : Sl Qz}(h:SE w w'){i:Nat}:Pw l w i↔Pw l' w' i:=(AB9 e).trans (Yc h)
def LG {l l' : Law}(h:LE l l')(hl:Lp l):Lp l':=by obtain⟨⟨h1,a,b⟩,c,f,g,d⟩:=hl;have j:=h.cond.1;have m:=h.out.1;exact⟨⟨Np h.left h1,Np h.right a,fun i hj=>by rw[<- h.cond.2 i (by omega)];exact b i (by omega)⟩,by rw[h.name];exact c,by omega,by omega,fun i hj=>by rw[<- h.out.2 i (by omega)];exact d i (by omega)⟩
def AC0 {l l' : Law}(h:LE l l')(hl:AE3 l):AE3 l':=by have a:=h.cond.1;have b:=h.out.1;exact⟨by rw[<- b];exact hl.1,fun i hj=>by rw[<- h.out.2 i (by omega),<- a];exact hl.2 i (by omega)⟩
def Vm {l l' : Law}(h:LE l l')(hl:AE4 l):AE4 l':=by obtain⟨⟨h1,a,b⟩,c,d,j,f,m,n,g⟩:=hl;have o:=h.cond.1;have q:=h.out.1;have hm:=h.mode;exact⟨⟨Np h.left h1,Np h.right a,fun i hj=>by rw[<- h.cond.2 i (by omega)];exact b i (by omega)⟩,(Kg h.left).1 c,(Kg h.right).1 d,by omega,AC0 h f,by omega,by omega,by omega⟩
def Jt {l l' : Law}(h:LE l l'):chkAll N l↔chkAll N l':=by
 suffices H:∀{l l' : Law},LE l l' -> chkAll N l->chkAll N l' by exact⟨H h,H h.symm⟩
 rintro l l' h ⟨h1,b,c,g,j,m,n,o,d,a⟩;have f:=h.cond.1;have q:=h.out.1;have hm:=h.mode;exact⟨by rw[h.name];exact h1,(Kg h.left).1 b,(Kg h.right).1 c,by omega,by omega,by omega,by omega,by omega,
  fun i hj=>by rw[<- h.cond.2 i (by omega)];exact d i (by omega),fun i hj=>by rw[<- h.out.2 i (by omega),<- f];exact a i (by omega)⟩
def AC1 {l l' : Law}(h:LE l l'){e:Int}(b:AB6 N l e):AB6 N l' e:=by
 rcases b with⟨h1,a⟩ | ⟨h1,a⟩
 .exact .inl ⟨h1,(Jt h).1 a⟩
 exact .inr ⟨h1,fun g=>a ((Jt h).2 g)⟩
def Ab5 {l:Law}{c c' : Sl Qz}(h:SE c c'):O0 N l c=O0 N l c':=by
 unfold O0;congr 1;funext self x1 x2;by_cases h1:(decide (x2<(l.Out.n:Int)))=true
 case neg=>rw[Hf h1,Hf h1]
 rw[He h1,He h1,<- h.1];have e1:∀y:Int,(0:Int)<=y->y<(c.n:Int)->c.g y.toNat=c'.g y.toNat:=fun y i h1=>h.2 _ (by omega);by_cases b:(0:Int)<=x2/\x2<(l.Out.n:Int)
 case neg=>rw[Hf b,Hf b]
 rw[He b,He b];split
 .rename_i f;have e2:(⟨(if (decide (0<=(l.Out.g x2.toNat).From)) then (c.g (l.Out.g x2.toNat).From.toNat).Plus else 0),(if (decide (0<=(l.Out.g x2.toNat).From)) then (c.g (l.Out.g x2.toNat).From.toNat).Minus else 0)⟩:Qz) =
   ⟨(if (decide (0<=(l.Out.g x2.toNat).From)) then (c'.g (l.Out.g x2.toNat).From.toNat).Plus else 0),(if (decide (0<=(l.Out.g x2.toNat).From)) then (c'.g (l.Out.g x2.toNat).From.toNat).Minus else 0)⟩:=by
   by_cases a:decide (0<=(l.Out.g x2.toNat).From)=true
   .have:=f a
    rw[He a,He a,He a,He a,e1 _ this.1 this.2]
   rw[Hf a,Hf a,Hf a,Hf a]
  rw[e2];congr 1;funext y5;split
  .split
   .rename_i d;rw[e1 _ d.1 d.2]
   rfl
  rfl
 rfl
def Yd {l l' : Law}(h:SE l.Out l'.Out)(c:Sl Qz):O0 N l c=O0 N l' c:=by
 unfold O0;congr 1;funext self x1 x2;rw[<- h.1];by_cases h1:(0:Int)<=x2/\x2<(l.Out.n:Int)
 .rw[h.2 x2.toNat (by omega)]
 by_cases a:(decide (x2<(l.Out.n:Int)))=true
 .rw[He a,He a,Hf h1,Hf h1]
 rw[Hf a,Hf a]
def Nq {l l' : Law}(e:LE l l'){w w' : Sl Qz}(h:SE w w'){i:Nat}(a:i+l.If.n<=w.n):Hi N l w i=Hi N l' w' i:=by unfold Hi;rw[Ab5 (h.sub a),Yd e.out,<- e.cond.1]
def KW {l l' : Law}(e:LE l l'){w w' : Sl Qz}(h:SE w w'){i:Nat}(a:i+l.If.n<=w.n):SE (Z1 N l w i) (Z1 N l' w' i):=by unfold Z1 AE5;rw[Nq e h a,<- e.cond.1];exact ((h.take (by omega)).app (SE.refl _)).app (h.drop _)
def RL:List (Int×Sl Qz)->List (Int×Sl Qz)->Prop
 |[],[]=>True
 |(p,v)::L,(q,u)::M=>p=q/\SE v u/\RL L M
 |_,_=>False
def Kh:Sl Int->Sl (Sl Qz)->List (Int×Sl Qz)->Sl Int×Sl (Sl Qz)×Int
 |x,y,[]=>(x,y,0)
 |x,y,(p,v)::L=>if 32<v.n then (Sl.nil,Sl.nil,11)else Kh (x.push p) (y.push v) L
abbrev Tx:=List (Int×Sl Qz)
def vL (L:Tx):Prop:=∀x∈L,∀j,j<x.2.n->vS (x.2.g j)
def Ty:vL []:=fun x hx=>Ia hx (by simp)
def Vn {x:Int×Sl Qz}{L:Tx}(h:∀j,j<x.2.n->vS (x.2.g j))(hL:vL L):vL (x::L):=fun y hy=>by
 rcases AQ5.1 hy with rfl|hy
 .exact h
 exact hL y hy
def Tz (N:Nat)(l:Law)(a:Sl Qz->Int->Option Tx)(x5:Sl Qz)(x6:Int):Option Tx:= if (decide ((wrap .i64 (x6+(l.If.n:Int)))<=(x5.n:Int))) then (Cq N l x5 x6).bind fun c=>if (!c) then a x5 (wrap .i64 (x6+1)) else (Q3 N l x5 x6).bind fun b=>Aq (x6,b) (if ((l.If.n:Int)==0) then a b (wrap .i64 ((wrap .i64 (x6+(l.Out.n:Int)))+1)) else a b (wrap .i64 (x6+(l.Out.n:Int)))) else some []
abbrev An4:=(Sl Int)×(Sl (Sl Qz))×Int
def TA (N:Nat)(l:Law)(a:Sl Qz->Sl Int->Sl (Sl Qz)->Int->Option An4)(x1:Sl Qz)(x2:Sl Int)(x3:Sl (Sl Qz))(x4:Int):Option An4:= if (decide ((wrap .i64 (x4+(l.If.n:Int)))<=(x1.n:Int))) then (Cu N l x1 x4).bind fun y5=>if (!y5) then a x1 x2 x3 (wrap .i64 (x4+1)) else (Aj N l x1 x4).bind fun y6=>if (decide (32<(y6.n:Int))) then some (Mv,Mz,11) else if (((x2.n+(Sl.of [x4]:Sl Int).n)*8<=140737488355328/\x2.n+(Sl.of [x4]:Sl Int).n<=140737488355328)/\((x3.n+(Sl.of [y6]:Sl (Sl Qz)).n)*24<=140737488355328/\x3.n+(Sl.of [y6]:Sl (Sl Qz)).n<=140737488355328))then if ((l.If.n:Int)==0) then a y6 (x2.push x4) (x3.push y6) (wrap .i64 ((wrap .i64 (x4+(l.Out.n:Int)))+1)) else a y6 (x2.push x4) (x3.push y6) (wrap .i64 (x4+(l.Out.n:Int))) else none else some (x2,x3,0)
def Ab6 (hN:3000<=N){l l' : Law}(hf:AE4 l)(s:LE l l'):∀(m:Nat) (w w' : Sl Qz) (i:Nat),SE w w' -> w.n<=100->(∀j,j<w.n->vS (w.g j))->i<=200->w.n+1<=i+m ->
 ∃L L',(∀M,m<M->X4 M (Tz N l) w i=some L)/\vL L/\L.length<=m/\RL L L' /\ ∀M x2 x3,m<M->x2.n+m<=1000->x3.n+m<=1000->Ai5 M (TA N l') w' x2 x3 i=some (Kh x2 x3 L'):=by
 obtain⟨hl,_,_,hk,x,y,_,_⟩:=hf;have h6:=x.1;obtain⟨z,_,_,a0,a1,_,_,_⟩:=Vm s ⟨hl,‹_›, ‹_›,hk,x,y,‹_›, ‹_›⟩;have c:l'.If.n=l.If.n:=s.cond.1.symm;have d:l'.Out.n=l.Out.n:=s.out.1.symm;intro m
 induction m with
 |zero=>
  intro w w' i a hn o hi hm;have a2:=a.1;refine⟨[],[],fun M q=>?_,Ty,AN3 _,trivial,fun M x2 x3 q _ _=>?_⟩
  .obtain⟨M,rfl⟩:∃K,M=K+1:=⟨M-1,by omega⟩;rw[K7,Tz,DO (by omega),Gw]
  obtain⟨M,rfl⟩:∃K,M=K+1:=⟨M-1,by omega⟩;rw[T2,TA,c,d,DO (by omega),Gw,Kh]
 |succ m ih=>
  intro w w' i a hn o hi hm;have a2:=a.1;by_cases hle:i+l.If.n<=w.n
  case neg=>
   refine⟨[],[],fun M q=>?_,Ty,by simp,trivial,fun M x2 x3 q _ _=>?_⟩
   .obtain⟨M,rfl⟩:∃K,M=K+1:=⟨M-1,by omega⟩;rw[K7,Tz,DO (by omega),Gw]
   obtain⟨M,rfl⟩:∃K,M=K+1:=⟨M-1,by omega⟩;rw[T2,TA,c,d,DO (by omega),Gw,Kh]
  have hw:okW w:=⟨by omega,fun j hj=>(o j hj).ok⟩;have t:=a.v o;have a3 : okW w':=⟨by omega,fun j hj=>(t j hj).ok⟩;obtain⟨b,e1,h1⟩:=Aa6 hN hl hk hw i (by omega);obtain⟨b',e2,h2⟩:=Ri hN z a0 a3 i (by omega);obtain rfl:b' = b:=by rw[AQ4,h1,h2,Ik s a]
  cases b'
  .obtain⟨L,L',g1,g2,g3,g5,g4⟩:=ih w w' (i+1) a hn o (by omega) (by omega);refine⟨L,L',fun M q=>?_,g2,by omega,g5,fun M x2 x3 q hx hy=>?_⟩
   .obtain⟨M,rfl⟩:∃K,M=K+1:=⟨M-1,by omega⟩;rw[K7,Tz,DO (by omega),G9,e1,AN2,He nf,Dn];exact g1 M (by omega)
   obtain⟨M,rfl⟩:∃K,M=K+1:=⟨M-1,by omega⟩;rw[T2,TA,c,d,DO (by omega),G9,e2,AN2,He nf,Dn];exact g4 M x2 x3 (by omega) (by omega) (by omega)
  have a4:=h1.1 rfl;have hw32:=a4.2.2.2.2.1.1;have r1:=(FD (N:=N) (by omega) x (by omega) o hle).1;have r2:=(FD (N:=N) (l:=l') (w:=w') (i:=i) (by omega) a1 (by omega) t (by omega)).2;have r:=KW (N:=N) s a hle;have hrn:=r.1;obtain⟨_,_,p3,p4⟩:=GL (N:=N) (by omega) x o hle;obtain⟨q1,q2⟩:=Ab3 hle o p4;have q1:(Z1 N l w i).n=w.n-l.If.n+l.Out.n:=by rw[<- p3];exact q1
  have q2:∀j,j<(Z1 N l w i).n->vS ((Z1 N l w i).g j):=q2;obtain⟨L,L',g1,g2,g3,g5,g4⟩:=ih (Z1 N l w i) (Z1 N l' w' i) (if l.If.n=0 then i+l.Out.n+1 else i+l.Out.n) r (by omega) q2 (by split<;>omega) (by split<;>omega);refine⟨((i:Int),Z1 N l w i)::L,((i:Int),Z1 N l' w' i)::L',fun M q=>?_,Vn q2 g2,by simp;omega,⟨rfl,r,g5⟩,fun M x2 x3 q hx hy=>?_⟩
  .obtain⟨M,rfl⟩:∃K,M=K+1:=⟨M-1,by omega⟩;rw[K7,Tz,DO (by omega),G9,e1,AN2,Hf (by simp),r1,AN2,DO (by omega),Dn];have g1:=g1 M (by omega);by_cases f:l.If.n=0
   .rw[He f]at g1;rw[He (by simp[f]),g1];rfl
   rw[Hf f]at g1;rw[Hf (by simp[f]),g1];rfl
  obtain⟨M,rfl⟩:∃K,M=K+1:=⟨M-1,by omega⟩;rw[T2,TA,c,d,DO (by omega),G9,e2,AN2,Hf (by simp),r2,AN2,DO (by omega),Dn,Kh];by_cases u:32<(Z1 N l' w' i).n
  .rw[G9,He u]
  rw[Gw,Hf u,He (by show ((x2.n+1)*8<=_/\x2.n+1<=_)/\(x3.n+1)*24<=_/\x3.n+1<=_;omega)];have g4:=g4 M (x2.push (i:Int)) (x3.push (Z1 N l' w' i)) (by omega) (by show x2.n+1+m<=_;omega) (by show x3.n+1+m<=_;omega);by_cases f:l.If.n=0
  .rw[He f]at g4;rw[He (by simp[f]),g4]
  rw[Hf f]at g4;rw[Hf (by simp[f]),g4]
def Ab7 (N:Nat)(l:Law)(a:Sl Qz->Int->Option Tx)(x7:Sl Qz)(x8:Int):Option Tx:= if (decide (0<=x8)) then (Cq N l x7 x8).bind fun c=>if (!c) then a x7 (wrap .i64 (x8-1)) else (Q3 N l x7 x8).bind fun b=>Aq (x8,b) (a b (wrap .i64 (x8-(if (l.If.n:Int)<1 then 1 else (l.If.n:Int))))) else some []
def Ab8 (N:Nat)(l:Law)(a:Sl Qz->Sl Int->Sl (Sl Qz)->Int->Option An4)(x1:Sl Qz)(x2:Sl Int)(x3:Sl (Sl Qz))(x4:Int):Option An4:= if (decide (0<=x4)) then (Cu N l x1 x4).bind fun y5=>if (!y5) then a x1 x2 x3 (wrap .i64 (x4-1)) else (Aj N l x1 x4).bind fun y6=>if (decide (32<(y6.n:Int))) then some (Mv,Mz,11) else if (((x2.n+(Sl.of [x4]:Sl Int).n)*8<=140737488355328/\x2.n+(Sl.of [x4]:Sl Int).n<=140737488355328)/\((x3.n+(Sl.of [y6]:Sl (Sl Qz)).n)*24<=140737488355328/\x3.n+(Sl.of [y6]:Sl (Sl Qz)).n<=140737488355328))then if ((l.If.n:Int)==0) then a y6 (x2.push x4) (x3.push y6) (wrap .i64 ((wrap .i64 (x4-(l.If.n:Int)))-1)) else a y6 (x2.push x4) (x3.push y6) (wrap .i64 (x4-(l.If.n:Int))) else none else some (x2,x3,0)
def An5 (hN:3000<=N){l l' : Law}(hf:AE4 l)(r:LE l l'):∀(m:Nat) (w w' : Sl Qz) (i:Int),SE w w' -> w.n<=100->(∀j,j<w.n->vS (w.g j)) -> -100<=i->i+1<=m->m<=200 ->
 ∃L L',(∀M,m<M->X4 M (Ab7 N l) w i=some L)/\vL L/\L.length<=m/\RL L L' /\ ∀M x2 x3,m<M->x2.n+m<=1000->x3.n+m<=1000->Ai5 M (Ab8 N l') w' x2 x3 i=some (Kh x2 x3 L'):=by
 obtain⟨hl,_,_,hk,x,y,_,_⟩:=hf;have h6:=x.1;obtain⟨z,_,_,a0,a1,_,_,_⟩:=Vm r ⟨hl,‹_›, ‹_›,hk,x,y,‹_›, ‹_›⟩;have c:l'.If.n=l.If.n:=r.cond.1.symm;have hof:l'.Out.n=l.Out.n:=r.out.1.symm;intro m
 induction m with
 |zero=>
  intro w w' i a hn d hi hm a2;have a3:=a.1;refine⟨[],[],fun M f=>?_,Ty,AN3 _,trivial,fun M x2 x3 f _ _=>?_⟩
  .obtain⟨M,rfl⟩:∃K,M=K+1:=⟨M-1,by omega⟩;rw[K7,Ab7,Gw]
  obtain⟨M,rfl⟩:∃K,M=K+1:=⟨M-1,by omega⟩;rw[T2,Ab8,c,Gw,Kh]
 |succ m ih=>
  intro w w' i a hn d hi hm a2;have a3:=a.1;by_cases hle:0<=i
  case neg=>
   refine⟨[],[],fun M f=>?_,Ty,by simp,trivial,fun M x2 x3 f _ _=>?_⟩
   .obtain⟨M,rfl⟩:∃K,M=K+1:=⟨M-1,by omega⟩;rw[K7,Ab7,Gw]
   obtain⟨M,rfl⟩:∃K,M=K+1:=⟨M-1,by omega⟩;rw[T2,Ab8,c,Gw,Kh]
  obtain⟨k,rfl⟩:∃k:Nat,i=(k:Int):=⟨i.toNat,by omega⟩;have hw:okW w:=⟨by omega,fun j hj=>(d j hj).ok⟩;have s:=a.v d;have a4 : okW w':=⟨by omega,fun j hj=>(s j hj).ok⟩;obtain⟨b,e1,h1⟩:=Aa6 hN hl hk hw k (by omega);obtain⟨b',e2,h2⟩:=Ri hN z a0 a4 k (by omega);obtain rfl:b' = b:=by rw[AQ4,h1,h2,Ik r a]
  cases b'
  .obtain⟨L,L',g1,g2,g3,g5,g4⟩:=ih w w' ((k:Int)-1) a hn d (by omega) (by omega) (by omega);refine⟨L,L',fun M f=>?_,g2,by omega,g5,fun M x2 x3 f hx hy=>?_⟩
   .obtain⟨M,rfl⟩:∃K,M=K+1:=⟨M-1,by omega⟩;rw[K7,Ab7,He (by simp),e1,AN2,He nf,D7 (by omega) (by omega)];exact g1 M (by omega)
   obtain⟨M,rfl⟩:∃K,M=K+1:=⟨M-1,by omega⟩;rw[T2,Ab8,c,He (by simp),e2,AN2,He nf,D7 (by omega) (by omega)];exact g4 M x2 x3 (by omega) (by omega) (by omega)
  have t:=h1.1 rfl;have hle:=t.1;have hw32:=t.2.2.2.2.1.1;have r1:=(FD (N:=N) (by omega) x (by omega) d hle).1;have r2:=(FD (N:=N) (l:=l') (w:=w') (i:=k) (by omega) a1 (by omega) s (by omega)).2;have o:=KW (N:=N) r a hle;have hrn:=o.1;obtain⟨_,_,p3,p4⟩:=GL (N:=N) (by omega) x d hle;obtain⟨q1,q2⟩:=Ab3 hle d p4;have q1:(Z1 N l w k).n=w.n-l.If.n+l.Out.n:=by rw[<- p3];exact q1
  have q2:∀j,j<(Z1 N l w k).n->vS ((Z1 N l w k).g j):=q2;obtain⟨L,L',g1,g2,g3,g5,g4⟩:=ih (Z1 N l w k) (Z1 N l' w' k) (if l.If.n=0 then (k:Int)-1 else (k:Int)-l.If.n) o (by omega) q2 (by split<;>omega) (by split<;>omega) (by omega);refine⟨((k:Int),Z1 N l w k)::L,((k:Int),Z1 N l' w' k)::L',fun M f=>?_,Vn q2 g2,by simp;omega,⟨rfl,o,g5⟩,fun M x2 x3 f hx hy=>?_⟩
  .obtain⟨M,rfl⟩:∃K,M=K+1:=⟨M-1,by omega⟩;rw[K7,Ab7,He (by simp),e1,AN2,Hf (by simp),r1,AN2];have g1:=g1 M (by omega);by_cases q:l.If.n=0
   .rw[He q]at g1;rw[Dp,D7 (by omega) (by omega),g1];rfl
   rw[Hf q]at g1;rw[Gt,D7 (by omega) (by omega),g1];rfl
  obtain⟨M,rfl⟩:∃K,M=K+1:=⟨M-1,by omega⟩;rw[T2,Ab8,c,He (by simp),e2,AN2,Hf (by simp),r2,AN2,Kh];by_cases u:32<(Z1 N l' w' k).n
  .rw[G9,He u]
  rw[Gw,Hf u,He (by show ((x2.n+1)*8<=_/\x2.n+1<=_)/\(x3.n+1)*24<=_/\x3.n+1<=_;omega)];have g4:=g4 M (x2.push (k:Int)) (x3.push (Z1 N l' w' k)) (by omega) (by show x2.n+1+m<=_;omega) (by show x3.n+1+m<=_;omega);rw[D7 (n:=(k:Int)-(l.If.n:Int)) (by omega) (by omega)];by_cases q:l.If.n=0
  .rw[He q]at g4;rw[He (by simp[q]),D7 (by omega) (by omega),show (k:Int)-(l.If.n:Int)-1=(k:Int)-1 by omega,g4]
  rw[Hf q]at g4;rw[Hf (by simp[q]),g4]
end Go.AM
namespace Go.AM
open IntKind (wrap)
open Go.Proofs
abbrev AllS:=Sl Qz×Int×Int
def Lq (N:Nat)(l:Law)(q0:Sl Qz)(a:AllS->Option Tx)(x1:Int)(z1:AllS):Option Tx:= if (decide (x1<z1.2.1)) then a (z1.1,z1.2.1,z1.2.2) else if (((0:Int)<=(wrap .i64 (x1+z1.2.2))/\(wrap .i64 (x1+z1.2.2))<=(z1.1.n:Int))/\((0:Int)<=x1/\x1<=(wrap .i64 (x1+(l.If.n:Int)))/\(wrap .i64 (x1+(l.If.n:Int)))<=(q0.n:Int)))then (O0 N l (q0.sub x1.toNat (wrap .i64 (x1+(l.If.n:Int))).toNat)).bind fun y6=>if ((0:Int)<=(wrap .i64 (x1+(l.If.n:Int)))/\(wrap .i64 (x1+(l.If.n:Int)))<=(q0.n:Int))then (A7 N (Sl.of [z1.1.take (wrap .i64 (x1+z1.2.2)).toNat,y6,q0.drop (wrap .i64 (x1+(l.If.n:Int))).toNat]:Sl (Sl Qz))).bind fun y7=>Aq (x1,y7) (a (y7,wrap .i64 (x1+(if (l.If.n:Int)<1 then 1 else (l.If.n:Int))),wrap .i64 ((wrap .i64 (z1.2.2+(l.Out.n:Int)))-(l.If.n:Int)))) else none else none
def AE6 (N:Nat)(a:Law)(b:Sl Qz)(c:Sl Int->Sl (Sl Qz)->Sl Qz->Int->Option An4)(x2:Sl Int)(x3:Sl (Sl Qz))(x4:Sl Qz)(x5:Int):Option An4:= if (decide (x5<=(b.n:Int))) then (Cu N a b x5).bind fun y5=>if (!y5) then lt (fun (z3:Sl Qz)=>c x2 x3 z3 (wrap .i64 (x5+1))) fun k3=>if (decide (x5<(b.n:Int))) then if (((0:Int)<=x5/\x5<(b.n:Int))/\((x4.n+(Sl.of [b.g x5.toNat]:Sl Qz).n)*8<=140737488355328/\x4.n+(Sl.of [b.g x5.toNat]:Sl Qz).n<=140737488355328))then k3 (x4.push (b.g x5.toNat)) else none else k3 x4 else if ((0:Int)<=x5/\x5<=(wrap .i64 (x5+(a.If.n:Int)))/\(wrap .i64 (x5+(a.If.n:Int)))<=(b.n:Int))then (Dz N a (b.sub x5.toNat (wrap .i64 (x5+(a.If.n:Int))).toNat)).bind fun y6=>if ((x4.n+y6.n)*8<=140737488355328/\x4.n+y6.n<=140737488355328)then if ((x2.n+(Sl.of [x5]:Sl Int).n)*8<=140737488355328/\x2.n+(Sl.of [x5]:Sl Int).n<=140737488355328)then if ((((Mx.n+(x4.app y6).n)*8<=140737488355328/\Mx.n+(x4.app y6).n<=140737488355328)/\((0:Int)<=(wrap .i64 (x5+(a.If.n:Int)))/\(wrap .i64 (x5+(a.If.n:Int)))<=(b.n:Int)))/\(((Mx.app (x4.app y6)).n+(b.drop (wrap .i64 (x5+(a.If.n:Int))).toNat).n)*8<=140737488355328/\(Mx.app (x4.app y6)).n+(b.drop (wrap .i64 (x5+(a.If.n:Int))).toNat).n<=140737488355328))then if (decide (32<(((Mx.app (x4.app y6)).app (b.drop (wrap .i64 (x5+(a.If.n:Int))).toNat)).n:Int))) then some (Mv,Mz,11) else if ((x3.n+(Sl.of [(Mx.app (x4.app y6)).app (b.drop (wrap .i64 (x5+(a.If.n:Int))).toNat)]:Sl (Sl Qz)).n)*24<=140737488355328/\x3.n+(Sl.of [(Mx.app (x4.app y6)).app (b.drop (wrap .i64 (x5+(a.If.n:Int))).toNat)]:Sl (Sl Qz)).n<=140737488355328)then if ((a.If.n:Int)==0) then if (decide ((wrap .i64 (x5+(a.If.n:Int)))<(b.n:Int))) then if (((0:Int)<=(wrap .i64 (x5+(a.If.n:Int)))/\(wrap .i64 (x5+(a.If.n:Int)))<(b.n:Int))/\(((x4.app y6).n+(Sl.of [b.g (wrap .i64 (x5+(a.If.n:Int))).toNat]:Sl Qz).n)*8<=140737488355328/\(x4.app y6).n+(Sl.of [b.g (wrap .i64 (x5+(a.If.n:Int))).toNat]:Sl Qz).n<=140737488355328))then c (x2.push x5) (x3.push ((Mx.app (x4.app y6)).app (b.drop (wrap .i64 (x5+(a.If.n:Int))).toNat))) ((x4.app y6).push (b.g (wrap .i64 (x5+(a.If.n:Int))).toNat)) (wrap .i64 ((wrap .i64 (x5+(a.If.n:Int)))+1)) else none else c (x2.push x5) (x3.push ((Mx.app (x4.app y6)).app (b.drop (wrap .i64 (x5+(a.If.n:Int))).toNat))) (x4.app y6) (wrap .i64 ((wrap .i64 (x5+(a.If.n:Int)))+1)) else c (x2.push x5) (x3.push ((Mx.app (x4.app y6)).app (b.drop (wrap .i64 (x5+(a.If.n:Int))).toNat))) (x4.app y6) (wrap .i64 (x5+(a.If.n:Int))) else none else none else none else none else none else some (x2,x3,0)
abbrev vW (s:Sl Qz):Prop:=∀j,j<s.n->vS (s.g j)
def At4 {s t:Sl Qz}(h:vW s)(h' : vW t):vW (s.app t):=fun j hj=>by
 have hj:j<s.n+t.n:=hj;show vS (if j<s.n then s.g j else t.g (j-s.n));split
 .exact h j (by assumption)
 exact h' _ (by omega)
def AC2 {s:Sl Qz}(h:vW s)(k:Nat):vW (s.drop k):=fun j hj=>h _ (by have hj:j<s.n-k:=hj;omega)
def AC3 {s:Sl Qz}(h:vW s){k:Nat}(hk:k<=s.n):vW (s.take k):=fun j hj=>h _ (by have hj:j<k:=hj;omega)
def TB {x s:Sl Qz}{i:Nat}(b:i<s.n):SE (x.app (s.drop i)) ((x.push (s.g i)).app (s.drop (i+1))):=⟨by show x.n+(s.n-i)=x.n+1+(s.n-(i+1));omega,fun j _=>by
 show (if j<x.n then x.g j else s.g (i+(j-x.n)))=if j<x.n+1 then (if j<x.n then x.g j else s.g i)else s.g (i+1+(j-(x.n+1)))
 by_cases h1:j<x.n
 .rw[He h1,Dp,He h1]
 rw[Hf h1];by_cases a:j=x.n
 .rw[Dp,Hf h1,a];simp
 rw[Gt];congr 1;omega⟩
def An6 {a x t:Sl Qz}(h:SE a (x.app t)):SE (a.take x.n) x:=⟨rfl,fun j hj=>by
 have hj:j<x.n:=hj;have hn:a.n=x.n+t.n:=h.1;have e:a.g j=if j<x.n then x.g j else t.g (j-x.n):=h.2 j (by omega)
 rw[He hj]at e;exact e⟩
def WL {N:Nat}{l:Law}{w:Sl Qz}{K:AllS->Option Tx}{acc:Sl Qz}{next sh:Int}:∀(d i:Nat),((i+d:Nat):Int)<=next->O6 (Eu l w i) (Lq N l w) K (acc,next,sh)=O6 (Eu l w (i+d)) (Lq N l w) K (acc,next,sh)
 |0,i,_=>rfl
 |d+1,i,h=>by
  have ih:=WL (N:=N) (l:=l) (w:=w) (K:=K) (acc:=acc) (next:=next) (sh:=sh) d (i+1) (by omega);rw[show i+(d+1)=i+1+d by omega,<- ih];by_cases a:Pw l w i
  .rw[Jr (by have:=a.1;omega) a];show Lq N l w (O6 (Eu l w (i+1)) (Lq N l w) K) (i:Int) (acc,next,sh)=_;unfold Lq;rw[G9]
  rw[Js a]
def AC4 {N:Nat}(hN:3000<=N){l l' : Law}(hf:AE4 l)(he:LE l l'){w w' : Sl Qz}(b:SE w w')(hn:w.n<=32)(hv:vW w):∀(m i:Nat) (x4 acc:Sl Qz) (sh next:Int),i<=w.n+1->w.n+1<=i+m ->
 (i<=w.n->SE acc (x4.app (w'.drop i))/\(x4.n:Int)=i+sh)->next<=i->x4.n<=7*i->vW acc -> -1000<=sh->sh<=1000 ->
 ∃L L',O6 (Eu l w i) (Lq N l w) (fun _=>some []) (acc,next,sh)=some L/\vL L/\L.length<=m/\RL L L' /\ ∀M x2 x3,m<M->x2.n+m<=1000->x3.n+m<=1000->Ai5 M (AE6 N l' w') x2 x3 x4 i=some (Kh x2 x3 L'):=by
 obtain⟨hl,_,_,hk,ho,hko,_,_⟩:=hf;have h6:=ho.1;obtain⟨hl',_,_,hk',ho',_,_,_⟩:=Vm he ⟨hl,‹_›, ‹_›,hk,ho,hko,‹_›, ‹_›⟩;have d:l'.If.n=l.If.n:=he.cond.1.symm;have hn':=b.1;have hw:okW w:=⟨by omega,fun j hj=>(hv j hj).ok⟩;have r : vW w':=b.v hv;have hw' : okW w':=⟨by omega,fun j hj=>(r j hj).ok⟩;have fin:∀(m i:Nat) (x4 acc:Sl Qz) (sh next:Int),w.n<i->∃L L',O6 (Eu l w i) (Lq N l w) (fun _=>some []) (acc,next,sh)=some L/\vL L/\L.length<=m/\RL L L' /\ ∀M x2 x3,m<M->x2.n+m<=1000->x3.n+m<=1000->Ai5 M (AE6 N l' w') x2 x3 x4 i=some (Kh x2 x3 L'):=by
  intro m i x4 acc sh next hi
  refine⟨[],[],by rw[Kf (by omega)];rfl,Ty,by simp,trivial,fun M x2 x3 hM _ _=>?_⟩;obtain⟨M,rfl⟩:∃K,M=K+1:=⟨M-1,by omega⟩;rw[T2,AE6,Gw,Kh]
 intro m
 induction m with
 |zero=>exact fun i x4 acc sh next h1 t _ _ _ _ _ _=>fin 0 i x4 acc sh next (by omega)
 |succ m ih=>
  intro i x4 acc sh next hi hm hx hnx h7 f u x
  by_cases hle:i<=w.n
  case neg=>exact fin _ i x4 acc sh next (by omega)
  obtain⟨o,hnn⟩:=hx hle;have han:acc.n=x4.n+(w.n-i):=by rw[o.1];show x4.n+(w'.n-i)=_;omega
  obtain⟨b',e2,t⟩:=Ri hN hl' hk' hw' i (by omega);have t:=t.trans (Ik he b).symm;cases b'
  .have hno:¬Pw l w i:=fun h=>by have:=t.2 h;cases this
   rw[Js hno];by_cases y:i<w.n
   .obtain⟨L,L',g1,g2,g3,g5,g4⟩:=ih (i+1) (x4.push (w'.g i)) acc sh next (by omega) (by omega) (fun _=>⟨o.trans (TB (by omega)),by show ((x4.n+1:Nat):Int)=_;omega⟩) (by omega) (by show x4.n+1<=_;omega) f u x
    refine⟨L,L',g1,g2,by omega,g5,fun M x2 x3 hM hx hy=>?_⟩;obtain⟨M,rfl⟩:∃K,M=K+1:=⟨M-1,by omega⟩;rw[T2,AE6,d,G9,e2,AN2,He nf,lt,G9,He ⟨by omega,by show (x4.n+1)*8<=_/\x4.n+1<=_;omega⟩,Dn,AM9];exact g4 M x2 x3 (by omega) (by omega) (by omega)
   obtain⟨L,L',g1,g2,g3,g5,g4⟩:=ih (i+1) x4 acc sh next (by omega) (by omega) (fun h=>by omega) (by omega) (by omega) f u x
   refine⟨L,L',g1,g2,by omega,g5,fun M x2 x3 hM hx hy=>?_⟩;obtain⟨M,rfl⟩:∃K,M=K+1:=⟨M-1,by omega⟩;rw[T2,AE6,d,G9,e2,AN2,He nf,lt,Gw,Dn];exact g4 M x2 x3 (by omega) (by omega) (by omega)
  have z:=t.1 rfl;have a0:=z.1;rw[Jr hle z];obtain⟨p1,_,p3,p4⟩:=GL (N:=N) (by omega) ho hv a0;obtain⟨_,p2,_,_⟩:=GL (N:=N) (l:=l') (i:=i) (by omega) ho' r (by omega);rw[<- Nq he b a0,d]at p2;generalize hY:Hi N l w i=Y at p1 p2 p3 p4;have c:SE (((acc.take x4.n).app Y).app (w.drop (i+l.If.n))) ((x4.app Y).app (w'.drop (i+l.If.n))):=((An6 o).app (SE.refl _)).app (b.drop _);have q:vW (((acc.take x4.n).app Y).app (w.drop (i+l.If.n))):=At4 (At4 (AC3 f (by omega)) p4) (AC2 hv _);generalize hZ:(((acc.take x4.n).app Y).app (w.drop (i+l.If.n)))=Z at c q;have hZn:Z.n=x4.n+Y.n+(w.n-(i+l.If.n)):=by rw[<- hZ]
  obtain⟨L,L',g1,g2,g3,g5,g4⟩:=ih (if l.If.n=0 then i+1 else i+l.If.n) (if l.If.n=0/\i<w.n then (x4.app Y).push (w'.g i)else x4.app Y) Z (sh+l.Out.n-l.If.n) (if l.If.n=0 then i+1 else i+l.If.n:Nat)
   (by split<;>omega) (by split<;>omega)
   (fun h=>by
    by_cases a:l.If.n=0
    .rw[He a]at h;rw[He a,He ⟨a,by omega⟩];rw[a]at c;exact⟨c.trans (TB (by omega)),by show ((x4.n+Y.n+1:Nat):Int)=_;omega⟩
    rw[Hf a,Gt];exact⟨c,by show ((x4.n+Y.n:Nat):Int)=_;omega⟩)
   (by omega)
   (by
    by_cases a:l.If.n=0
    .rw[He a];split
     .show x4.n+Y.n+1<=_;omega
     show x4.n+Y.n<=_;omega
    rw[Hf a,Gt];show x4.n+Y.n<=_;omega)
   q (by omega) (by omega)
  refine⟨((i:Int),Z)::L,((i:Int),(x4.app Y).app (w'.drop (i+l.If.n)))::L', ?_,Vn q g2,by simp;omega,⟨rfl,c,g5⟩,fun M x2 x3 hM hx hy=>?_⟩
  .show Lq N l w (O6 (Eu l w (i+1)) (Lq N l w) fun _=>some []) (i:Int) (acc,next,sh)=_;unfold Lq;have es:wrap .i64 ((i:Int)+sh)=((x4.n:Nat):Int):=by rw[D7 (by omega) (by omega),hnn]
   simp only[es];rw[DO (by omega),Gw,Dp];simp only[AM9];rw[p1,AN2,Dp,Ab4 (by omega) (by show x4.n<=_;omega) (by omega) (by show w.n-(i+l.If.n)<=_;omega),AN2,hZ];have en:wrap .i64 ((i:Int)+(if (l.If.n:Int)<1 then 1 else (l.If.n:Int)))=((if l.If.n=0 then i+1 else i+l.If.n:Nat):Int):=by
    by_cases a:l.If.n=0
    .rw[Dp,He a,D7 (by omega) (by omega)];omega
    rw[Gt,Hf a,D7 (by omega) (by omega)];omega
   have eh:wrap .i64 ((wrap .i64 (sh+(l.Out.n:Int)))-(l.If.n:Int))=sh+l.Out.n-l.If.n:=by rw[D7 (n:=sh+(l.Out.n:Int)) (by omega) (by omega),D7 (by omega) (by omega)]
   rw[en,eh];have sk:=WL (N:=N) (l:=l) (w:=w) (K:=fun _=>some []) (acc:=Z) (next:=((if l.If.n=0 then i+1 else i+l.If.n:Nat):Int)) (sh:=sh+l.Out.n-l.If.n) (if l.If.n=0 then 0 else l.If.n-1) (i+1) (by split<;>omega);rw[show i+1+(if l.If.n=0 then 0 else l.If.n-1)=(if l.If.n=0 then i+1 else i+l.If.n) by split<;>omega]at sk;show Aq _ (O6 (Eu l w (i+1)) (Lq N l w) (fun _=>some []) (Z,_,_))=_;rw[sk,g1];rfl
  obtain⟨M,rfl⟩:∃K,M=K+1:=⟨M-1,by omega⟩;have hdn:((x4.app Y).app (w'.drop (i+l.If.n))).n=x4.n+Y.n+(w'.n-(i+l.If.n)):=rfl;rw[T2,AE6,d,G9,e2,AN2,Hf (by simp),DO (by omega),Dp];simp only[AM9];rw[p2,AN2,Dp,He (by show (x2.n+1)*8<=_/\x2.n+1<=_;omega)];rw[He ⟨⟨by show (0+(x4.n+Y.n))*8<=_/\0+(x4.n+Y.n)<=_;omega,by omega⟩,by simp only[AX0];omega⟩,Kh];by_cases a1:32<((x4.app Y).app (w'.drop (i+l.If.n))).n
  .rw[He (by simp only[Ld,AX0];omega),He a1]
  rw[Hf (by simp only[Ld,AX0];omega),Hf a1,AB8 (s:=Mx) rfl,He (by show (x3.n+1)*24<=_/\x3.n+1<=_;omega)];have g4:=g4 M (x2.push (i:Int)) (x3.push ((x4.app Y).app (w'.drop (i+l.If.n)))) (by omega) (by show x2.n+1+m<=_;omega) (by show x3.n+1+m<=_;omega);by_cases a:l.If.n=0
  .rw[He (by simp[a])];rw[He a]at g4;by_cases y:i<w.n
   .rw[He ⟨a,y⟩]at g4;rw[He (by simp only[Ld];omega),He ⟨by omega,by show (x4.n+Y.n+1)*8<=_/\x4.n+Y.n+1<=_;omega⟩,Dn,show w'.g (i+l.If.n)=w'.g i by rw[a];rfl,show i+l.If.n+1=i+1 by omega];exact g4
   rw[Gt]at g4;rw[Hf (by simp only[Ld];omega),Dn,show i+l.If.n+1=i+1 by omega];exact g4
  rw[Hf (by simp[a])];rw[Hf a,Gt]at g4;exact g4
def trS (r r' : An4):Prop:=r.1=r'.1/\r.2.1.n=r'.2.1.n/\(∀i,i<r.2.1.n->SE (r.2.1.g i) (r'.2.1.g i))/\r.2.2=r'.2.2
def At5:∀(L L' : Tx) (x:Sl Int) (y y' : Sl (Sl Qz)),RL L L' -> y.n=y'.n->(∀i,i<y.n->SE (y.g i) (y'.g i))->trS (Kh x y L) (Kh x y' L')
 |[],[],x,y,y',_,h1,h2=>⟨rfl,h1,h2,rfl⟩
 |(p,v)::L,(q,u)::M,x,y,y',⟨h3,h4,h5⟩,h1,h2=>by
  subst h3;unfold Kh;rw[<- h4.1];split
  .exact⟨rfl,rfl,fun i a=>Ia a (AQ3 i),rfl⟩
  refine At5 L M _ _ _ h5 (by show y.n+1=y'.n+1;omega) fun i a=>?_;have a:i<y.n+1:=a;show SE (if i<y.n then y.g i else v) (if i<y'.n then y'.g i else u);rw[<- h1];split
  .exact h2 i (by assumption)
  exact h4
 |[],_::_,_,_,_,h,_,_=>h.elim
 |_::_,[],_,_,_,h,_,_=>h.elim
def Ab9:∀(L:Tx) (x:Sl Int) (y:Sl (Sl Qz)),vL L->(∀i,i<y.n->wOk (y.g i))->(Kh x y L).2.2=11 \/ ((Kh x y L).2.2=0/\(Kh x y L).2.1.n<=y.n+L.length/\∀i,i<(Kh x y L).2.1.n->wOk ((Kh x y L).2.1.g i))
 |[],x,y,_,h=>.inr ⟨rfl,AN3 _,h⟩
 |(p,v)::L,x,y,hv,h=>by
  unfold Kh;split
  .exact .inl rfl
  have:=Ab9 L (x.push p) (y.push v) (fun z b=>hv z (AP6 _ b)) fun i d=>by
   show wOk (if i<y.n then y.g i else v);split
   .exact h i (by assumption)
   exact⟨by omega,hv (p,v) (by simp)⟩
  rcases this with h|⟨h1,a,c⟩
  .exact .inl h
  refine .inr ⟨h1,?_,c⟩;have a:_<=y.n+1+L.length:=a;simp only[AP8];omega
def TC:∀(L:Tx) (x:Sl Int) (y:Sl (Sl Qz)),x.n+L.length<=100000->y.n+L.length<=100000 ->
 O6 L (fun (a:Sl Int×Sl (Sl Qz)->Option An4) (x1:Int×(Sl Qz)) (z1:(Sl Int)×(Sl (Sl Qz)))=>
  if (decide (32<(x1.2.n:Int))) then
   some (Mv,Mz,11)
  else
   if ((z1.1.n+(Sl.of [x1.1]:Sl Int).n)*8<=140737488355328/\z1.1.n+(Sl.of [x1.1]:Sl Int).n<=140737488355328)then
    if ((z1.2.n+(Sl.of [x1.2]:Sl (Sl Qz)).n)*24<=140737488355328/\z1.2.n+(Sl.of [x1.2]:Sl (Sl Qz)).n<=140737488355328)then
     a (z1.1.push x1.1,z1.2.push x1.2)
    else none
   else none
  ) (fun (z1:(Sl Int)×(Sl (Sl Qz)))=>
   some (z1.1,z1.2,0)
  ) (x,y)=some (Kh x y L)
 |[],x,y,_,_=>rfl
 |(p,v)::L,x,y,hx,hy=>by
  simp only[AP8]at hx hy;have ih:=TC L (x.push p) (y.push v) (by show x.n+1+_<=_;omega) (by show y.n+1+_<=_;omega);rw[O6,Kh];by_cases h:32<v.n
  .rw[G9,He h]
  rw[Gw,Hf h,He (by show (x.n+1)*8<=_/\x.n+1<=_;omega),He (by show (y.n+1)*24<=_/\y.n+1<=_;omega)];exact ih
def trE (N:Nat)(l:Law)(w:Sl Qz)(r:An4):Prop:=(r.2.2=17/\¬chkAll N l) \/ (chkAll N l/\XW w r.2.2/\r.2.2≠0) \/ (chkAll N l/\wOk w/\(r.2.2=11 \/ (r.2.2=0/\r.2.1.n<=1000/\∀i,i<r.2.1.n->wOk (r.2.1.g i))))
def Ac0 (e:Int):trS (Mv,Mz,e) (Mv,Mz,e):=⟨rfl,rfl,fun i a=>Ia a (AQ3 i),rfl⟩
def AL2 {w w' : Sl Qz}(h:SE w w'){e:Int}(hw:XW w e):XW w' e:=by
 rcases hw with⟨h1,a⟩ | ⟨h1,⟨i,b,a⟩,c⟩ | ⟨h1,a⟩
 .exact .inl ⟨by rw[<- h.1];exact h1,a⟩
 .exact .inr (.inl ⟨by rw[<- h.1];exact h1,⟨i,by rw[<- h.1];exact b,by rw[<- h.2 i b];exact a⟩,c⟩)
 exact .inr (.inr ⟨h.wOk h1,a⟩)
def okS_S {w w' : Sl Qz}(h:SE w w')(hw:∀i,i<w.n->okS (w.g i)):∀i,i<w'.n->okS (w'.g i):=fun i a=>by rw[<- h.2 i (by rw[h.1];exact a)];exact hw i (by rw[h.1];exact a)
def Ac1 {N:Nat}(u:3000000<=N){l l' : Law}(hl:Lp l)(hle:LE l l'){w w' : Sl Qz}(a:SE w w')(hw:∀i,i<w.n->okS (w.g i)) :∃r r',Dv N l w=some r/\Ih N l' w' = some r' /\ trS r r' /\ trE N l w r:=by
 obtain⟨e,e1,_,v⟩:=ES u hl;obtain⟨e0,_,e2,q⟩:=ES u (LG hle hl);obtain rfl:=Tv (AC1 hle v) q;unfold Dv Ih Fu Na;rw[e1,e2,AN2,AN2];rcases v with⟨rfl,hc⟩ | ⟨rfl,hc⟩
 case inr=>rw[He (by decide),He (by decide)];exact⟨_,_,rfl,rfl,Ac0 17,.inl ⟨rfl,hc⟩⟩
 rw[Hf (by decide),Hf (by decide)];obtain⟨e',e3,c⟩:=Ts (N:=N) (by omega) hw;obtain⟨e'',e4,j⟩:=Pv (N:=N) (by omega) (okS_S a hw);obtain rfl:=Aa3 (AL2 a c) j;rw[e3,e4];simp only[AN2];by_cases d:e' = 0
 case neg=>rw[He (by simpa using d),He (by simpa using d)];exact⟨_,_,rfl,rfl,Ac0 e', .inr (.inl ⟨hc,c,d⟩)⟩
 rw[Hf (by simp[d]),Hf (by simp[d])];have b:wOk w:=(GK c).1 d;have o:=hc.f hl;obtain⟨s,_,_,hk,ho,y,z,a0⟩:=id o;have hn:=b.1;have t:=a.1;have key:∃L L',BX N w l (l.If.n:Int) (l.Out.n:Int)=some L/\vL L/\L.length<=100/\RL L L' /\
  (if (l'.Mode==1) then (Nb N l' w').bind fun y2=>some (y2.1,y2.2.1,y2.2.2)
   else if (l'.Mode==2) then (Ig N l' w').bind fun y3=>some (y3.1,y3.2.1,y3.2.2)
   else (GX N l' w').bind fun y4=>some (y4.1,y4.2.1,y4.2.2))=some (Kh Mv Mz L'):=by
  unfold BX;rw[hle.mode];by_cases c1:l.Mode=1
  .rw[He (show (l.Mode==1)=true by simp[c1]),He (show (l.Mode==1)=true by simp[c1])];obtain⟨L,L',g1,g2,g3,g5,g4⟩:=AC4 (N:=N) (by omega) o hle a hn b.2 (w.n+1) 0 Mw w 0 0 (by omega) (by omega) (fun _=>⟨by rw[AB8 rfl];exact⟨a.1,fun i m=>by rw[a.2 i m];show _=w'.g (0+i);rw[AQ0]⟩,rfl⟩) (by omega) (by show 0<=_;omega) b.2 (by omega) (by omega);have hh:=WJ (N:=N) (by omega) s hk (w:=w) (vOk b) 0 (by omega);refine⟨L,L', ?_,g2,by omega,g5,?_⟩
   .show ((Y3 N l w ((0:Nat):Int)).bind fun L1=>O6 L1 (Lq N l w) (fun _=>some []) (w,0,0))=_;rw[hh,AN2];exact g1
   have:Nb N l' w' = some _:=g4 N Mv Mz (by omega) (by show 0+_<=_;omega) (by show 0+_<=_;omega)
   rw[this];rfl
  rw[Hf (show ¬(l.Mode==1)=true by simp[c1]),Hf (show ¬(l.Mode==1)=true by simp[c1])];by_cases c2:l.Mode=2
  .rw[He (show (l.Mode==2)=true by simp[c2]),He (show (l.Mode==2)=true by simp[c2])];obtain⟨L,L',g1,g2,g3,g5,g4⟩:=Ab6 (N:=N) (by omega) o hle (w.n+1) w w' 0 a (by omega) b.2 (by omega) (by omega);refine⟨L,L',g1 N (by omega),g2,by omega,g5,?_⟩
   have:Ig N l' w' = some _:=g4 N Mv Mz (by omega) (by show 0+_<=_;omega) (by show 0+_<=_;omega)
   rw[this];rfl
  have c3:l.Mode=3:=by omega
  rw[Hf (show ¬(l.Mode==2)=true by simp[c2]),Hf (show ¬(l.Mode==2)=true by simp[c2]),He (show (l.Mode==3)=true by simp[c3])];obtain⟨L,L',g1,g2,g3,g5,g4⟩:=An5 (N:=N) (by omega) o hle (w.n+1) w w' ((w.n:Int)-(l.If.n:Int)) a (by omega) b.2 (by omega) (by omega) (by omega);refine⟨L,L', ?_,g2,by omega,g5,?_⟩
  .rw[D7 (by omega) (by omega)];exact g1 N (by omega)
  have g4:=g4 N Mv Mz (by omega) (by show 0+_<=_;omega) (by show 0+_<=_;omega)
  have:GX N l' w' = some (Kh Mv Mz L'):=by unfold GX;rw[show wrap .i64 ((w'.n:Int)-(l'.If.n:Int))=(w.n:Int)-(l.If.n:Int) by rw[<- t, <- hle.cond.1,D7 (by omega) (by omega)]];exact g4
  rw[this];rfl
 obtain⟨L,L',g1,g2,g3,g5,g4⟩:=key;refine⟨Kh Mv Mz L,_,?_,g4,At5 L L' _ _ _ g5 rfl fun i m=>Ia m (AQ3 i),.inr (.inr ⟨hc,b,?_⟩)⟩
 .rw[Ji,AN2];show ((BX N w l (l.If.n:Int) (l.Out.n:Int)).bind _)=_;rw[g1,AN2];exact TC L _ _ (by show 0+_<=_;omega) (by show 0+_<=_;omega)
 rcases Ab9 L Mv Mz g2 fun i m=>Ia m (AQ3 i)with h|⟨h1,x,h3⟩
 .exact .inl h
 exact .inr ⟨h1,by have x:_<=0+L.length:=x;omega,h3⟩
end Go.AM
namespace Go.AM
variable {N:Nat}
open IntKind (wrap)
open Go.Proofs
def apE (N:Nat)(l:Law)(w:Sl Qz)(r:Sl Qz×Int):Prop:=(r.2=17/\¬chkAll N l) \/ (chkAll N l/\XW w r.2/\r.2≠0) \/ (chkAll N l/\wOk w/\(r.2=11 \/ (r.2=0/\wOk r.1)))
def Nr (o:3000000<=N){l l' : Law}(hl:Lp l)(hle:LE l l'){w w' : Sl Qz}(b:SE w w')(hw:∀i,i<w.n->okS (w.g i)) :∃r r',P2 N l w=some r/\Nc N l' w' = some r' /\ SE r.1 r'.1/\r.2=r'.2/\apE N l w r:=by
 obtain⟨⟨x,y,e⟩,⟨x',y',e'⟩,h1,q,⟨_,hn,hs,m⟩,ht⟩:=Ac1 o hl hle b hw;dsimp only at hn hs m;subst m;have t:=b.1;unfold trE at ht;dsimp only at ht;unfold P2 Nc;rw[h1,q,AN2,AN2];dsimp only;by_cases a:e=0
 case neg=>
  rw[He (show (e != 0)=true by simpa using a),He (show (e != 0)=true by simpa using a)];refine⟨_,_,rfl,rfl,SE.refl _,rfl,?_⟩;rcases ht with h|h|⟨j,c,d⟩
  .exact .inl h
  .exact .inr (.inl h)
  exact .inr (.inr ⟨j,c,.inl (d.resolve_right fun h=>a h.1)⟩)
 rw[Hf (show ¬(e != 0)=true by simp[a]),Hf (show ¬(e != 0)=true by simp[a])];rcases ht with h|h|⟨j,c,d⟩
 .exact Ia (h.1.symm.trans a) (by decide)
 .exact Ia a h.2.2
 rcases d with d|⟨_,h6,u⟩
 .exact Ia (d.symm.trans a) (by decide)
 have v:=c.1;by_cases hy:y.n=0
 .rw[Hf (show ¬decide ((0:Int)<(y.n:Int))=true by simp[hy]),He (show ((y'.n:Int)==0)=true by simp[<- hn,hy]),He (by show (0+w'.n)*8<=_/\0+w'.n<=_;omega),AB8 (s:=Mx) rfl];unfold A5;rw[Dp];exact⟨_,_,rfl,rfl,b,rfl,.inr (.inr ⟨j,c,.inr ⟨rfl,c⟩⟩)⟩
 have hk:=u (y.n-1) (by omega);have f:=hs (y.n-1) (by omega);have hb:=hk.1;have z:=f.1;have e1:wrap .i64 ((y.n:Int)-1)=((y.n-1:Nat):Int):=wrapP (by omega) (by omega);have e2:wrap .i64 ((y'.n:Int)-1)=((y.n-1:Nat):Int):=by rw[<- hn];exact e1
 rw[e1,e2,AM9,He (show decide ((0:Int)<(y.n:Int))=true by simp;omega),Dp,Hf (show ¬((y'.n:Int)==0)=true by simp;omega),He ⟨by omega,by show (0+(y'.g (y.n-1)).n)*8<=_/\0+(y'.g (y.n-1)).n<=_;omega⟩,AB8 (s:=Mx) rfl];exact⟨_,_,rfl,rfl,f,rfl,.inr (.inr ⟨j,c,.inr ⟨rfl,hk⟩⟩)⟩
def TD {s:Sl Law}(l:s.n<N)(hs:s.n<1000000){f:Law->Option Bool}{b:Nat->Bool}(m:∀i,i<s.n->f (s.g i)=some (b i)) :∃r,B8 N s f=some r/\(r=true ↔ ∃i,i<s.n/\b i=true):=by
 unfold B8 E4
 have:∃y,S9 N (fun (a:Int->Option Int) (x1:Int)=>
  if (decide (x1<(s.n:Int))) then
   if ((0:Int)<=x1/\x1<(s.n:Int))then
    (f (s.g x1.toNat)).bind fun y3=>
    if y3 then
     some x1
    else
     a (wrap .i64 (x1+1))
   else none
  else
   some (-1)) 0=some y/\(0<=y ↔ ∃i,i<s.n/\b i=true):=by
  refine BN (fun i x1=>x1=(i:Int)/\∀j,j<i->b j=false) s.n _ l ⟨rfl,fun j hj=>Ia hj (by omega)⟩ ?_;rintro d i x1 o ⟨rfl,h⟩ c;by_cases hl:i<s.n
  .refine Ar (Ab (B0 (by rw[AM9];exact m i hl) ?_));cases hb:b i
   .refine Bx (c hl _ ⟨Dn,fun j hj=>?_⟩);by_cases e:j=i
    .subst e;exact hb
    exact h j (by omega)
   exact ifT rfl ⟨i,rfl,fun _=>⟨i,hl,hb⟩,fun _=>by omega⟩
  refine Bv ⟨-1,rfl,fun h=>Ia h (by decide),?_⟩;rintro⟨j,hj,hb⟩;rw[h j (by omega)]at hb;cases hb
 obtain⟨y,e,hy⟩:=this;exact B0 e ⟨_,rfl,by rw[Ld];exact hy⟩
def TE (N:Nat)(laws:Sl Law)(e:Int):Prop:=(64<laws.n/\e=12) \/ (laws.n<=64/\(∃i,i<laws.n/\¬chkAll N (laws.g i))/\e=17) \/ ((laws.n<=64/\∀i,i<laws.n->chkAll N (laws.g i))/\e=0)
def Py {laws:Sl Law}{e e' : Int}(h:TE N laws e)(h' : TE N laws e'):e=e':=by rcases h with⟨h,rfl⟩ | ⟨h,⟨i,b,a⟩,rfl⟩ | ⟨⟨h,a⟩,rfl⟩<;>rcases h' with⟨g,rfl⟩ | ⟨g,⟨j,hj,g2⟩,rfl⟩ | ⟨⟨g,g2⟩,rfl⟩<;>first|rfl|(exfalso;omega)|exact Ia (g2 i b) a|exact Ia (a j hj) g2
def LS (s t:Sl Law):Prop:=s.n=t.n/\∀i,i<s.n->LE (s.g i) (t.g i)
def GM (laws:Sl Law):Prop:=∀i,i<laws.n->Lp (laws.g i)
def An7 {laws laws' : Sl Law}(h:LS laws laws')(hl:GM laws):GM laws':=fun i a=>by exact LG (h.2 i (by rw[h.1];exact a)) (hl i (by rw[h.1];exact a))
def Ye (m:3000000<=N){laws:Sl Law}(hl:GM laws):∃e,U6 N laws=some e/\Ie N laws=some e/\TE N laws e:=by
 have h1:∃e,U6 N laws=some e/\TE N laws e:=by
  unfold U6;by_cases hn:64<laws.n
  .exact Ar ⟨12,rfl,.inl ⟨hn,rfl⟩⟩
  refine Bv ?_;have t:∀i,∃b,i<laws.n->Q0 N (laws.g i)=some b/\(b=true ↔ ¬chkAll N (laws.g i)):=by
   intro i;by_cases a:i<laws.n
   .obtain⟨e,e1,_,d⟩:=ES m (hl i a);refine⟨e != 0,fun _=>⟨by unfold Q0;rw[e1];rfl,?_⟩⟩;rcases d with⟨rfl,h⟩ | ⟨rfl,h⟩
    .exact⟨fun h=>Ia h (by decide),fun g=>Ia h g⟩
    exact⟨fun _=>h,fun _=>by decide⟩
   exact⟨false,fun h=>Ia h a⟩
  obtain⟨f,l⟩:=AV6 t;obtain⟨r,e1,h1⟩:=TD (N:=N) (s:=laws) (by omega) (by omega) (f:=fun u1=>Q0 N u1) (fun i a=>(l i a).1);refine B0 e1 ?_;cases o:r
  .refine Bx ⟨0,rfl,.inr (.inr ⟨⟨by omega,fun i a=>AR0 fun hn=>?_⟩,rfl⟩)⟩
   have:=h1.2 ⟨i,a,(l i a).2.2 hn⟩
   rw[o]at this;cases this
  obtain⟨i,a,hb⟩:=h1.1 o;exact ifT rfl ⟨17,rfl,.inr (.inl ⟨by omega,⟨i,a,(l i a).2.1 hb⟩,rfl⟩)⟩
 have u:∃e,Ie N laws=some e/\TE N laws e:=by
  unfold Ie;by_cases hn:64<laws.n
  .exact Ar ⟨12,rfl,.inl ⟨hn,rfl⟩⟩
  refine Bv ?_;refine BN (fun i x1=>x1=(i:Int)/\∀j,j<i->chkAll N (laws.g j)) laws.n _ (by omega) ⟨rfl,fun j hj=>Ia hj (by omega)⟩ ?_;rintro q i x1 a ⟨rfl,h⟩ hs;by_cases c:i<laws.n
  .obtain⟨e,_,e1,d⟩:=ES m (hl i c);refine Ar (Ab (B0 (by rw[AM9];exact e1) ?_));rcases d with⟨rfl,hc⟩ | ⟨rfl,hc⟩
   .refine Da (hs c _ ⟨Dn,fun j hj=>?_⟩);by_cases e:j=i
    .subst e;exact hc
    exact h j (by omega)
   exact Av ⟨17,rfl,.inr (.inl ⟨by omega,⟨i,c,hc⟩,rfl⟩)⟩
  exact Bv ⟨0,rfl,.inr (.inr ⟨⟨by omega,fun j hj=>h j (by omega)⟩,rfl⟩)⟩
 obtain⟨e,e1,g1⟩:=h1;obtain⟨e',e2,g2⟩:=u;obtain rfl:=Py g1 g2;exact⟨_,e1,e2,g1⟩
def At6 (l:Sl (Sl Qz))(e:Int):Prop:=(e=0/\∀i,i<l.n->wOk (l.g i)) \/ (∃i,i<l.n/\(∀j,j<i->wOk (l.g j))/\XW (l.g i) e/\e≠0)
def Pz (m:3000000<=N){l:Sl (Sl Qz)}(hn:l.n<2000000)(hw:∀i,i<l.n->∀j,j<(l.g i).n->okS ((l.g i).g j)) :∃e,S9 N (fun (a:Int->Option Int) (x1:Int)=>
  if (decide (x1<(l.n:Int))) then
   if ((0:Int)<=x1/\x1<(l.n:Int))then
    (S5 N (l.g x1.toNat)).bind fun y4=>
    if (y4 != 0) then
     some y4
    else
     a (wrap .i64 (x1+1))
   else none
  else
   some 0
  ) 0=some e/\At6 l e:=by
 refine BN (fun i x1=>x1=(i:Int)/\∀j,j<i->wOk (l.g j)) l.n _ (by omega) ⟨rfl,fun j hj=>Ia hj (by omega)⟩ ?_;rintro d i x1 o ⟨rfl,h⟩ hs;by_cases b:i<l.n
 .obtain⟨e,e1,f⟩:=Ts (N:=N) (by omega) (hw i b);refine Ar (Ab (B0 (by rw[AM9];exact e1) ?_));by_cases c:e=0
  .refine ifF (by simp[c]) (hs b _ ⟨Dn,fun j hj=>?_⟩);by_cases e:j=i
   .subst e;exact (GK f).1 c
   exact h j (by omega)
  exact ifT (by simpa using c) ⟨e,rfl,.inr ⟨i,b,h,f,c⟩⟩
 exact Bv ⟨0,rfl,.inl ⟨rfl,fun j hj=>h j (by omega)⟩⟩
def AC5 {w:Sl Qz}{e:Int}(h:At6 (Sl.of [w]:Sl (Sl Qz)) e):XW w e:=by
 rcases h with⟨rfl,h⟩ | ⟨i,a,_,h,_⟩
 .exact .inr (.inr ⟨h 0 (by show 0<1;omega),rfl⟩)
 match i,a with
 |0,_=>exact h
def Vo (b:3000000<=N){laws:Sl Law}(hl:GM laws){w:Sl Qz}(hw:∀i,i<w.n->okS (w.g i)) :∃e,AT N laws (Sl.of [w]:Sl (Sl Qz))=some e/\((TE N laws e/\e≠0) \/ (TE N laws 0/\XW w e)):=by
 unfold AT;obtain⟨e,e1,_,h1⟩:=Ye b hl;refine B0 e1 ?_;by_cases a:e=0
 case neg=>exact ifT (by simpa using a) ⟨e,rfl,.inl ⟨h1,a⟩⟩
 refine ifF (by simp[a]) (ifF (by show ¬decide ((256:Int)<((1:Nat):Int))=true;decide) ?_);obtain⟨e2,e3,c⟩:=Pz (N:=N) b (l:=(Sl.of [w]:Sl (Sl Qz))) (by show 1<_;omega) fun i d=>by
  match i,d with
  |0,_=>exact hw
 exact⟨e2,e3,.inr ⟨a ▸ h1,AC5 c⟩⟩
def Ei (N:Nat)(c:Int)(q1:Sl Law)(a:Sl Qz->Int->Option Tx)(x1:Sl Qz)(x2:Int):Option Tx:= if (decide (x2<(q1.n:Int))) then if ((0:Int)<=x2/\x2<(q1.n:Int))then (P2 N (q1.g x2.toNat) x1).bind fun y4=>if (y4.2 != 0) then if y4.2=c then some []else none else Aq (wrap .i64 (x2+1),y4.1) (a y4.1 (wrap .i64 (x2+1))) else none else if c=0 then some []else none
def DL {c:Int}{laws:Sl Law}{a:Sl Qz->Int->Option Tx}{w:Sl Qz}{i:Nat}(d:i<laws.n)(b:laws.n<=64){y:Sl Qz×Int}(h:P2 N (laws.g i) w=some y) :Ei N c laws a w (i:Int)=if (y.2 != 0) then (if y.2=c then some []else none)else Aq (((i+1:Nat):Int),y.1) (a y.1 ((i+1:Nat):Int)):=by unfold Ei;rw[He (show decide ((i:Int)<(laws.n:Int))=true by simp;omega),Dp,AM9,h,AN2,Dn]
def Rl:Sl Qz->Tx->Sl Qz
 |w,[]=>w
 |_,(_,v)::L=>Rl v L
def Rm:∀(L:Tx) (w:Sl Qz),O6 L (fun (a:Sl Qz->Option (Sl Qz)) (x1:Int×(Sl Qz)) (z1:Sl Qz)=>a x1.2) (fun (z1:Sl Qz)=>some z1) w=some (Rl w L)
 |[],w=>rfl
 |(p,v)::L,w=>Rm L v
def HI (N:Nat)(laws:Sl Law):Prop:=laws.n<=64/\∀i,i<laws.n->chkAll N (laws.g i)
def lawsE_zero {laws:Sl Law}:TE N laws 0↔HI N laws:=by
 constructor
 .rintro (⟨_,h⟩ | ⟨_,_,h⟩ | ⟨h,_⟩)
  .cases h
  .cases h
  exact h
 exact fun h=>.inr (.inr ⟨h,rfl⟩)
end Go.AM
namespace Go.AM
open IntKind (wrap)
open Go.Proofs
def Vp {α : Type}(s:Sl α)(a : α):(s.push a).toList=s.toList++[a]:=by
 show (List.range (s.n+1)).map (fun i=>if i<s.n then s.g i else a)=_;rw[AX3,AX4];congr 1
 .exact AP4 fun i b=>He (AT1.1 b)
 simp
def sEq (x y:Qz):((x.Plus==y.Plus)&&(x.Minus==y.Minus))=decide (x=y):=by cases x;cases y;rw[AQ4];simp
def AC6 {N:Nat}{x y:Sl Qz}(f:x.n<N)(hs:x.n<10000000) :∃b,(if ((x.n:Int) != (y.n:Int)) then
 some false
 else
  S9 N (fun (a:Int->Option Bool) (x1:Int)=>
   if (decide (x1<(x.n:Int))) then
    if (((0:Int)<=x1/\x1<(x.n:Int))/\((0:Int)<=x1/\x1<(y.n:Int)))then
     if ((((x.g x1.toNat).Plus==(y.g x1.toNat).Plus)&&((x.g x1.toNat).Minus==(y.g x1.toNat).Minus)) != true) then
      some false
     else
      a (wrap .i64 (x1+1))
    else none
   else
    some true
   ) 0)=some b/\(b=true↔SE x y):=by
 by_cases hn:x.n=y.n
 case neg=>exact Ar ⟨false,rfl,by simp,fun h=>Ia h.1 hn⟩
 refine ifF (by simp[hn]) ?_;refine BN (fun i x1=>x1=(i:Int)/\∀j,j<i->x.g j=y.g j) x.n _ f ⟨rfl,fun j hj=>Ia hj (by omega)⟩ ?_;rintro d i x1 l ⟨rfl,h⟩ c;by_cases hl:i<x.n
 .refine Ar (Ab ?_);rw[AM9,sEq];by_cases e:x.g i=y.g i
  .refine ifF (by simp[e]) (c hl _ ⟨Dn,fun j hj=>?_⟩);by_cases e2:j=i
   .subst e2;exact e
   exact h j (by omega)
  exact ifT (by simp[e]) ⟨false,rfl,by simp,fun h=>Ia (h.2 i hl) e⟩
 exact Bv ⟨true,rfl,fun _=>⟨hn,fun j hj=>h j (by omega)⟩,fun _=>rfl⟩
def Vq {N:Nat}{x y:Sl Qz}(a:x.n<N)(hs:x.n<10000000):∃b,S6 N x y=some b/\(b=true↔SE x y):=by obtain⟨b,h,hb⟩:=AC6 (N:=N) (x:=x) (y:=y) a hs;exact⟨b,by unfold S6;rw[show E2 N x y=some b from h];rfl,hb⟩
abbrev okA (w:Sl Qz):Prop:=∀i,i<w.n->okS (w.g i)
end Go.AM
namespace Go.AM
open Go.Proofs
def dep:Nat->Pat->Prop
 |0,_=>False
 |d+1,p=>p.L.n<=40/\∀i,i<p.L.n->dep d (p.L.g i)
def At7:∀(d:Nat) (p:Pat),dep d p->∀e,d<=e->dep e p
 |0,_,h,_,_=>h.elim
 |d+1,p,h,0,he=>by omega
 |d+1,p,h,e+1,he=>⟨h.1,fun i a=>At7 d _ (h.2 i a) e (by omega)⟩
def TF {N:Nat}(m:1000<=N):∀(d:Nat),d<=40->∀(p:Pat) (M:Nat),N+d+2<=M->∃r:Nat,Bc M p ((40-d:Nat):Int)=some (r:Int)/\40-d<r/\r<=41/\(r<=40->dep (d+1) p)
 |d,hd,p,0,hM=>by omega
 |d,hd,p,M+1,hM=>by
  have:∃x,Bc (M+1) p ((40-d:Nat):Int)=some x/\∃r:Nat,x=(r:Int)/\40-d<r/\r<=41/\(r<=40->dep (d+1) p):=by
   show ∃x,By (Bc M) M p _=some x/\_;unfold By;rw[Dn];refine U2 (fun i x1 x2=>x2=(i:Int)/\∃k:Nat,x1=(k:Int)/\40-d+1+i<=k/\k<=41/\i<=p.L.n/\(k<=40->∀j,j<i->dep d (p.L.g j))) 41 _ (by omega) ⟨rfl,40-d+1,rfl,by omega,by omega,by omega,fun _ j hj=>Ia hj (by omega)⟩ ?_;rintro c i x1 x2 o ⟨rfl,k,rfl,h1,b,q,f⟩ hs;by_cases hc:i<p.L.n/\k<=40
   .refine ifT (by simp only[AN1,Ld];omega) (Ab ?_);obtain⟨r,l,r1,r2,r3⟩:=TF m (40-k) (by omega) (p.L.g i) M (by omega);rw[show ((40-(40-k):Nat):Int)=(k:Int) by omega]at l;refine B0 (by rw[AM9];exact l) (hs (by omega) _ _ ⟨Dn,r,rfl,by omega,r2,by omega,fun a j hj=>?_⟩);by_cases e:j=i
    .subst e;exact At7 _ _ (r3 a) d (by omega)
    exact f hc.2 j (by omega)
   refine ifF (by simp only[AN1,Ld];omega) ⟨_,rfl,k,rfl,by omega,b,fun hk=>⟨by omega,fun j hj=>f hk j (by omega)⟩⟩
  obtain⟨x,h1,r,rfl,b⟩:=this;exact⟨r,h1,b⟩
def WM {N:Nat}(b:2000<=N)(p:Pat):∃r:Nat,CY N p=some (r:Int)/\(r<=40->dep 41 p):=by obtain⟨r,h1,_,_,a⟩:=TF (N:=1000) (by omega) 40 (by omega) p N (by omega);exact⟨r,by unfold CY;rw[show Bc N p 0=some (r:Int) from h1];rfl,a⟩
end Go.AM
namespace Go.AM
variable {N:Nat}
open IntKind (wrap)
open Go.Proofs
def Oo (s:Str):Bool:=(decide (1<=s.length)&&decide (s.length<=24))&&s.all fun c=>Rj ((c.toNat:Nat):Int)
def TG {s:Str}(l:s.length<N)(hs:s.length<1000000000){let_:Int->Option Bool}(hl:∀y,let_ y=some (Rj y)){fin:Bool}(m:fin=(decide (1<=s.length)&&decide (s.length<=24))) :S9 N (fun (a:Int->Option Bool) (x1:Int)=>
  if (decide (x1<(s.length:Int))) then
   if ((0:Int)<=x1/\x1<(s.length:Int))then
    (let_ (Cm s x1)).bind fun y3=>
    if (!y3) then
     some false
    else
     a (wrap .i64 (x1+1))
   else none
  else
   some fin
 ) 0=some (Oo s):=by
 suffices h:∃b,S9 N (fun (a:Int->Option Bool) (x1:Int)=>
  if (decide (x1<(s.length:Int))) then
   if ((0:Int)<=x1/\x1<(s.length:Int))then
    (let_ (Cm s x1)).bind fun y3=>
    if (!y3) then
     some false
    else
     a (wrap .i64 (x1+1))
   else none
  else
   some fin
  ) 0=some b/\b=Oo s by obtain⟨b,h,rfl⟩:=h;exact h
 refine BN (fun i x1=>x1=(i:Int)/\∀j (h:j<s.length),j<i->Rj ((s[j].toNat:Nat):Int)=true) s.length _ l ⟨rfl,fun j _ hj=>Ia hj (by omega)⟩ ?_;rintro g i x1 o ⟨rfl,h⟩ f;by_cases d:i<s.length
 .have eb:Cm s (i:Int)=((s[i].toNat:Nat):Int):=by simp[Cm,d]
  refine Ar (Ab (B0 (hl _) ?_));rw[eb];cases hb:Rj ((s[i].toNat:Nat):Int)
  .refine ifT rfl ⟨false,rfl,?_⟩;symm;unfold Oo;rw[Be2]
   right
   rw[List.all_eq_false];exact⟨s[i],AZ0 d,by rw[hb];simp⟩
  refine Bx (f d _ ⟨Dn,fun j hj n=>?_⟩);by_cases e:j=i
  .subst e;exact hb
  exact h j hj (by omega)
 refine Bv ⟨_,rfl,?_⟩;unfold Oo;rw[m]
 have:(s.all fun c=>Rj ((c.toNat:Nat):Int))=true:=AN9.2 fun c hc=>by obtain⟨j,hj,rfl⟩:=AZ1 hc;exact h j hj (by omega)
 rw[this,Bb2]
def Ac2 {s:Str}(a:s.length<N)(hs:s.length<1000000000):Cr N s=some (Oo s):=by unfold Cr;exact TG a hs (fun y=>rfl) (by rw[AQ4];simp;omega)
def An8 {s:Str}(a:s.length<N)(hs:s.length<1000000000):GY N s=some (Oo s):=by unfold GY;exact TG a hs (fun y=>rfl) (by rw[AQ4];simp;omega)
def AC7 (t:Sl T0)(v:Nat):Prop:=(v=0->(t.g 0).Parent = -1)/\(0<v->0<=(t.g v).Parent/\(t.g v).Parent<v)/\Oo (t.g v).Name=true/\∀u,u<v->(t.g u).Name≠(t.g v).Name
def AW (t:Sl T0):Prop:=1<=t.n/\t.n<=63/\∀v,v<t.n->AC7 t v
def Yf (t:Sl T0)(e:Int):Prop:=(e=0/\AW t) \/ (e=16/\¬AW t)
def Yg {t:Sl T0}{e e' : Int}(h:Yf t e)(h' : Yf t e'):e=e':=by
 rcases h with⟨rfl,h⟩ | ⟨rfl,h⟩<;>rcases h' with⟨rfl,h'⟩ | ⟨rfl,h'⟩
 .rfl
 .exact Ia h h'
 .exact Ia h' h
 rfl
def Ki (t:Sl T0):Prop:=∀v,v<t.n->(t.g v).Name.length<1100000
def Ac3 (x:3000000<=N){t:Sl T0}(ht:Ki t):∃e,DA N t=some e/\Yf t e:=by
 unfold DA;by_cases y:t.n<1
 .exact ifT (fun h=>Ia h (by simp;omega)) (Ar ⟨16,rfl,.inr ⟨rfl,fun h=>by have:=h.1;omega⟩⟩)
 refine ifT (fun _ _=>by omega) ?_;by_cases h1:63<t.n
 .exact Ar ⟨16,rfl,.inr ⟨rfl,fun h=>by have:=h.2.1;omega⟩⟩
 by_cases m:(t.g 0).Parent = -1
 case neg=>exact ifT (by simp[m]) ⟨16,rfl,.inr ⟨rfl,fun h=>m ((h.2.2 0 (by omega)).1 rfl)⟩⟩
 refine ifF (by simp[m];omega) ?_;refine BN (fun i x1=>x1=(i:Int)/\∀j,j<i->AC7 t j) t.n _ (by omega) ⟨rfl,fun j hj=>Ia hj (by omega)⟩ ?_;rintro f i x1 z ⟨rfl,h⟩ hs;by_cases a:i<t.n
 case neg=>exact Bv ⟨0,rfl,.inl ⟨rfl,by omega,by omega,fun v hv=>h v (by omega)⟩⟩
 refine Ar (ltX ?_);have b:=An8 (N:=N) (s:=(t.g i).Name) (by have:=ht i a;omega) (by have:=ht i a;omega);have rest:(0<i->0<=(t.g i).Parent/\(t.g i).Parent<i)->∃r,(if (!Oo (t.g i).Name) then some 16 else
  S9 N (fun (d:Int->Option Int) (x7:Int)=>
   if (decide (x7<(i:Int))) then
    if (((0:Int)<=x7/\x7<(t.n:Int))/\((0:Int)<=(i:Int)/\(i:Int)<(t.n:Int)))then
     if (((t.g x7.toNat).Name==(t.g (i:Int).toNat).Name) != false) then
      some 16
     else
      d (wrap .i64 (x7+1))
    else none
   else
    f (wrap .i64 ((i:Int)+1))
   ) 0)=some r/\Yf t r:=by
  intro hp;cases hb:Oo (t.g i).Name
  .exact ifT rfl ⟨16,rfl,.inr ⟨rfl,fun h=>by have:=(h.2.2 i a).2.2.1;rw[hb]at this;cases this⟩⟩
  refine Bx ?_;refine BN (fun k x7=>x7=(k:Int)/\∀u,u<k->(t.g u).Name≠(t.g i).Name) i _ (by omega) ⟨rfl,fun u o=>Ia o (by omega)⟩ ?_;rintro q k x7 hk ⟨rfl,h'⟩ w;by_cases l:k<i
  .refine Ar (Ab ?_);rw[AM9,AM9];by_cases e:(t.g k).Name=(t.g i).Name
   .exact ifT (by simp[e]) ⟨16,rfl,.inr ⟨rfl,fun h=>(h.2.2 i a).2.2.2 k l e⟩⟩
   refine ifF (by simp[e]) (w l _ ⟨Dn,fun u o=>?_⟩);by_cases e2:u=k
   .subst e2;exact e
   exact h' u (by omega)
  refine Bv (hs a _ ⟨Dn,fun j hj=>?_⟩);by_cases e:j=i
  .subst e;exact⟨fun e=>by subst e;exact m,hp,hb,fun u o=>h' u (by omega)⟩
  exact h j (by omega)
 by_cases c:0<i
 .refine Ar (Ab ?_);rw[AM9];by_cases g1:(t.g i).Parent<0
  .exact ifT (by simpa using g1) (ifT rfl ⟨16,rfl,.inr ⟨rfl,fun h=>by have:=((h.2.2 i a).2.1 c).1;omega⟩⟩)
  refine ifF (by simpa using g1) (Ab ?_);by_cases g2:(i:Int)<=(t.g i).Parent
  .exact ifT (by simpa using g2) (ifT rfl ⟨16,rfl,.inr ⟨rfl,fun h=>by have:=((h.2.2 i a).2.1 c).2;omega⟩⟩)
  exact ifF (by simpa using g2) (Ab (B0 b (rest fun _=>⟨by omega,by omega⟩)))
 exact Bv (Ab (B0 (by rw[AM9];exact b) (rest fun h=>Ia h c)))
def Kj {ν : Type}{k s:Str}{v : ν}:∀es:List (Str × ν),Dk eqS s (Qm eqS k v es)=if s=k then some v else Dk eqS s es
 |[]=>by simp only[Qm,Dk];by_cases h:s=k<;>simp[eqS,h]
 |(a,x)::es=>by
  simp only[Qm];by_cases h:k=a
  .subst h;rw[He (by simp[eqS])];simp only[Dk];by_cases b:s=k<;>simp[eqS,b]
  rw[Hf (by simp[eqS,h])];simp only[Dk];rw[Kj es];by_cases b:s=k
  .subst b;simp[eqS,h]
  simp[b]
def WN {ν : Type}{k:Str}{v : ν}:∀{es:List (Str × ν)},Dk eqS k es=none->(Qm eqS k v es).length=es.length+1
 |[],_=>rfl
 |(a,x)::es,h=>by
  simp only[Dk]at h;simp only[Qm];by_cases e:eqS k a=true
  .rw[He e]at h;cases h
  rw[Hf e]at h;rw[Hf e,AP8,WN h];rfl
def WO {ν : Type}{k:Str}{v x : ν}:∀{es:List (Str × ν)},Dk eqS k es=some x->(Qm eqS k v es).length=es.length
 |[],h=>by cases h
 |(a,y)::es,h=>by
  simp only[Dk]at h;simp only[Qm];by_cases e:eqS k a=true
  .rw[He e];rfl
  rw[Hf e]at h;rw[Hf e,AP8,WO h];rfl
def TH (l:3000000<=N){t:Sl T0}(ht:Ki t):∃e,S7 N t=some e/\Yf t e:=by
 unfold S7;by_cases m:t.n=0 \/ 63<t.n
 .exact Ar ⟨16,rfl,.inr ⟨rfl,fun h=>by have g1:=h.1;have g2:=h.2.1;omega⟩⟩
 refine Bv ?_;refine U2 (fun i (x2:List (Str×Bool)) x3=>x3=(i:Int)/\(∀j,j<i->AC7 t j)/\∀s,(Dk eqS s x2=some true/\∃u,u<i/\(t.g u).Name=s) \/ (Dk eqS s x2=none/\∀u,u<i->(t.g u).Name≠s)) t.n _ (by omega) ⟨rfl,fun j hj=>Ia hj (by omega),fun s=>.inr ⟨rfl,fun u c=>Ia c (by omega)⟩⟩ ?_;rintro f i x2 x3 o ⟨rfl,h,hm⟩ hs;by_cases a:i<t.n
 case neg=>exact Bv ⟨0,rfl,.inl ⟨rfl,by omega,by omega,fun v q=>h v (by omega)⟩⟩
 refine Ar (Ab (ltX ?_));rw[AM9];have b:=Ac2 (N:=N) (s:=(t.g i).Name) (by have:=ht i a;omega) (by have:=ht i a;omega);have e1:(if 0<wrap .i64 ((i:Int)-1)then (0:Int)else wrap .i64 ((i:Int)-1))=if i=0 then -1 else 0:=by rw[D7 (by omega) (by omega)];split<;>split<;>omega
 rw[e1];by_cases g1:(i:Int)<=(t.g i).Parent
 .refine ifT (by simpa using g1) (ifT rfl ⟨16,rfl,.inr ⟨rfl,fun h=>?_⟩⟩);have hk:=h.2.2 i a;by_cases d:i=0
  .subst d;have:=hk.1 rfl;omega
  have:=(hk.2.1 (by omega)).2;omega
 refine ifF (by simpa using g1) ?_;by_cases g2:(t.g i).Parent<if i=0 then -1 else 0
 .refine ifT (by simpa using g2) (ifT rfl ⟨16,rfl,.inr ⟨rfl,fun h=>?_⟩⟩);have hk:=h.2.2 i a;by_cases d:i=0
  .subst d;have:=hk.1 rfl;simp at g2;omega
  have:=(hk.2.1 (by omega)).1;simp[d]at g2;omega
 refine ifF (by simpa using g2) (B0 b ?_);cases hb:Oo (t.g i).Name
 .exact ifT rfl (ifT rfl ⟨16,rfl,.inr ⟨rfl,fun h=>by have:=(h.2.2 i a).2.2.1;rw[hb]at this;cases this⟩⟩)
 refine Bx ?_;rcases hm (t.g i).Name with⟨e,u,c,hn⟩ | ⟨e,hn⟩
 .rw[e];exact⟨16,rfl,.inr ⟨rfl,fun h=>(h.2.2 i a).2.2.2 u c hn⟩⟩
 rw[e,Sq];refine ifF (show ¬false=true by simp) (hs a _ _ ⟨Dn,fun j hj=>?_,fun s=>?_⟩)
 .by_cases e:j=i
  .subst e;refine⟨fun e=>?_,fun hp=>?_,hb,hn⟩
   .subst e;simp at g2;omega
   have:¬j=0:=by omega
   simp[this]at g2;omega
  exact h j (by omega)
 rw[Kj];by_cases e:s=(t.g i).Name
 .exact .inl ⟨by rw[He e],i,by omega,e.symm⟩
 rw[Hf e];rcases hm s with⟨g,u,c,hn⟩ | ⟨g,hn⟩
 .exact .inl ⟨g,u,by omega,hn⟩
 refine .inr ⟨g,fun u c=>?_⟩;by_cases e2:u=i
 .subst e2;exact fun h=>e h.symm
 exact hn u (by omega)
def Rn (a:3000000<=N){t:Sl T0}(ht:Ki t):∃e,S7 N t=some e/\DA N t=some e/\Yf t e:=by obtain⟨e,h1,b⟩:=TH a ht;obtain⟨e',c,d⟩:=Ac3 a ht;obtain rfl:=Yg b d;exact⟨_,h1,c,b⟩
end Go.AM
namespace Go.AM
open IntKind (wrap)
open Go.Proofs
structure Cz (h:A9):Prop where
 laws:GM h.Laws
 tree:Ki h.Tree
 on:h.On.n<1100000
 len:∀v,v<h.On.n->(h.On.g v).n<1100000
def S3 (h:A9)(v:Nat):Sl Int:= if hp:0<=(h.Tree.g v).Parent/\(h.Tree.g v).Parent<v then (S3 h (h.Tree.g v).Parent.toNat).app (h.On.g v)else Mv.app (h.On.g v)
termination_by v
decreasing_by omega
def Cd {h:A9}{v:Nat}(a:(h.Tree.g v).Parent<0):S3 h v=Mv.app (h.On.g v):=by rw[S3,dif_neg (by omega)]
def FE {h:A9}{v p:Nat}(a:(h.Tree.g v).Parent=(p:Int))(hp:p<v):S3 h v=(S3 h p).app (h.On.g v):=by rw[S3,dif_pos (by omega),a,AM9]
def S1 {t:Sl T0}(ht:AW t){v:Nat}(a:v<t.n):(v=0/\(t.g v).Parent = -1) \/ ∃p:Nat,p<v/\(t.g v).Parent=(p:Int):=by
 have hk:=ht.2.2 v a;by_cases b:v=0
 .subst b;exact .inl ⟨rfl,hk.1 rfl⟩
 obtain⟨g1,g2⟩:=hk.2.1 (by omega);exact .inr ⟨(t.g v).Parent.toNat,by omega,by omega⟩
def Vr {h:A9}(a:Cz h)(ht:AW h.Tree)(hn:h.On.n=h.Tree.n):∀(m v:Nat),v<=m->v<h.Tree.n->(S3 h v).n<=(v+1)*1100000
 |m,v,hm,hv=>by
  have hl:=a.len v (by omega);rcases S1 ht hv with⟨_,e⟩ | ⟨p,hp,e⟩
  .rw[Cd (by omega)];show 0+(h.On.g v).n<=_;omega
  rw[FE e hp]
  match m with
  |0=>omega
  |m+1=>
   have:=Vr a ht hn m p (by omega) (by omega)
   show (S3 h p).n+(h.On.g v).n<=_;have b:(p+1)*1100000+1100000<=(v+1)*1100000:=by omega
   omega
def Ns {h:A9}(a:Cz h)(ht:AW h.Tree)(hn:h.On.n=h.Tree.n):∀(M v:Nat),v+2<=M->v<h.Tree.n->Ca M h (v:Int)=some (S3 h v)
 |0,v,hM,_=>by omega
 |M+1,v,hM,hv=>by
  have b:=ht.2.1;show Cv (Ca M) M h (v:Int)=_;unfold Cv;rw[Hf (by simp),Dp,AM9];have hl:=a.len v (by omega);rcases S1 ht hv with⟨c,e⟩ | ⟨p,hp,e⟩
  .rw[e,Cd (by omega)]
   have:Ca M h (-1)=some Mv:=by obtain⟨K,rfl⟩:∃K,M=K+1:=⟨M-1,by omega⟩;show Cv (Ca K) K h (-1)=_;unfold Cv;rw[He (by decide)]
   rw[this,AN2,He ⟨by omega,by show (0+(h.On.g v).n)*8<=_/\0+(h.On.g v).n<=_;omega⟩]
  have hb:=Vr a ht hn p p (AN3 _) (by omega);rw[e,Ns a ht hn M p (by omega) (by omega),AN2,FE e hp,He ⟨by omega,by omega⟩]
def Vs (h:A9):Prop:=∃v,v<h.On.n/\64<(S3 h v).n
def AC8 (h:A9)(v:Nat):Prop:=∃k,k<(h.On.g v).n/\((h.On.g v).g k<0 \/ (h.Laws.n:Int)<=(h.On.g v).g k)
def Ac4 (h:A9)(e:Int):Prop:=(Vs h/\e=2) \/ (¬Vs h/\(∃v,v<h.On.n/\AC8 h v)/\e=3) \/ (¬Vs h/\(∀v,v<h.On.n->¬AC8 h v)/\e=0)
def Ac5 {N:Nat}(hN:3000000<=N){h:A9}(hi:Cz h)(ht:AW h.Tree)(hn:h.On.n=h.Tree.n):∃e,Y4 N h=some e/\Ac4 h e:=by
 have h63:=ht.2.1;unfold Y4;refine Ab ?_;refine XR (fun i (x4:Sl Int) (x5:Bool) x6=>x6=(i:Int)/\x4.n=h.On.n/\(∀v,v<i->x4.g v=((S3 h v).n:Int)/\(S3 h v).n<=64)/\(x5=true ↔ ∃v,v<i/\AC8 h v)) h.On.n _ (by omega) ⟨rfl,by show ((h.On.n:Nat):Int).toNat=_;omega,fun v b=>Ia b (by omega),⟨fun g=>(by cases g),fun⟨v,b,_⟩=>Ia b (by omega)⟩⟩ ?_;rintro l i x4 x5 x6 hle ⟨rfl,hx,hp,hb⟩ hs;by_cases m:i<h.On.n
 case neg=>
  refine Bv ?_;have hl:¬Vs h:=fun⟨v,b,hl⟩=>by have:=(hp v (by omega)).2;omega
  cases x5
  .exact Bx ⟨0,rfl,.inr (.inr ⟨hl,fun v b g=>(by have:=hb.2 ⟨v,by omega,g⟩;cases this),rfl⟩)⟩
  obtain⟨v,b,g⟩:=hb.1 rfl;exact ifT rfl ⟨3,rfl,.inr (.inl ⟨hl,⟨v,by omega,g⟩,rfl⟩)⟩
 refine Ar (ifT (by rw[AM9];omega) (Ab (ltX ?_)));rw[AM9];have hl:=hi.len i (by omega);have hlb:=Vr hi ht hn i i (AN3 _) (by omega);have rest:∀z:Sl Int,z.n=h.On.n->(∀v,v<i->z.g v=x4.g v)->z.g i=((S3 h i).n:Int)->∃r,(if (((0:Int)<=(i:Int)/\(i:Int)<(z.n:Int))/\i<z.n)then
  if (decide (64<(z.g i))) then
   some 2
  else
   X4 N (fun (d:Bool->Int->Option Int) (c:Bool) (a:Int)=>
    if (decide (a<((h.On.g i).n:Int))) then
     if ((0:Int)<=a/\a<((h.On.g i).n:Int))then
      d ((c||(decide (((h.On.g i).g a.toNat)<0)))||(decide ((h.Laws.n:Int)<=((h.On.g i).g a.toNat)))) (wrap .i64 (a+1))
     else none
    else
     l z c (wrap .i64 ((i:Int)+1))
    ) x5 0
  else none)=some r/\Ac4 h r:=by
  intro z hz t o;refine Ab ?_;rw[o];by_cases u:64<(S3 h i).n
  .exact Ar ⟨2,rfl,.inl ⟨⟨i,m,u⟩,rfl⟩⟩
  refine Bv ?_;refine U2 (fun k (c:Bool) a=>a=(k:Int)/\(c=true↔(∃v,v<i/\AC8 h v) \/ ∃j,j<k/\j<(h.On.g i).n/\((h.On.g i).g j<0 \/ (h.Laws.n:Int)<=(h.On.g i).g j))) (h.On.g i).n _ (by omega) ⟨rfl,hb.trans ⟨fun g=>.inl g,fun g=>g.resolve_right fun⟨j,hj,_⟩=>Ia hj (by omega)⟩⟩ ?_;rintro w k c a hk ⟨rfl,q⟩ x;by_cases f:k<(h.On.g i).n
  .refine Ar (Ab (x f _ _ ⟨Dn,?_⟩));rw[AM9,AO9,AO9,q,Ld,Ld];constructor
   .rintro (((g|⟨j,hj,g⟩)|g)|g)
    .exact .inl g
    .exact .inr ⟨j,by omega,g⟩
    .exact .inr ⟨k,by omega,f,.inl g⟩
    exact .inr ⟨k,by omega,f,.inr g⟩
   rintro (g|⟨j,hj,y,g⟩)
   .exact .inl (.inl (.inl g))
   by_cases e:j=k
   .subst e;rcases g with g|g
    .exact .inl (.inr g)
    exact .inr g
   exact .inl (.inl (.inr ⟨j,by omega,y,g⟩))
  refine Bv (hs m _ _ _ ⟨Dn,hz,fun v b=>?_,q.trans ?_⟩)
  .by_cases e:v=i
   .subst e;exact⟨o,by omega⟩
   rw[t v (by omega)];exact hp v (by omega)
  constructor
  .rintro (⟨v,b,g⟩ | ⟨j,_,hj,g⟩)
   .exact⟨v,by omega,g⟩
   exact⟨i,by omega,j,hj,g⟩
  rintro⟨v,b,g⟩;by_cases e:v=i
  .subst e;obtain⟨j,hj,g⟩:=g;exact .inr ⟨j,by omega,hj,g⟩
  exact .inl ⟨v,by omega,g⟩
 rcases S1 ht (v:=i) (by omega)with⟨_,e⟩ | ⟨p,s,e⟩
 .rw[e];refine Da (rest _ hx (fun v b=>?_) ?_)
  .show (if v=i then _ else x4.g v)=_;rw[Gt]
  show (if i=i then ((h.On.g i).n:Int)else _)=_;rw[He rfl,Cd (by omega)];show _=((0+(h.On.g i).n:Nat):Int);omega
 have a0:=hp p s;rw[e];refine Au (ifT ?_ ?_)
 .show ((((((0:Int)<=(i:Int)/\(i:Int)<(x4.n:Int))/\i<x4.n)/\(0:Int)<=(p:Int)/\(p:Int)<(x4.n:Int))/\(p:Int).toNat<x4.n)/\(0:Int)<=(i:Int)/\(i:Int)<(x4.n:Int))/\i<x4.n;omega
 rw[AM9];refine rest _ hx (fun v b=>?_) ?_
 .show (if v=i then _ else if v=i then _ else x4.g v)=_;rw[Gt,Gt]
 show (if i=i then wrap .i64 ((if i=i then ((h.On.g i).n:Int)else _)+(if p=i then _ else x4.g p))else _)=_;rw[He rfl,He rfl,Gt,a0.1,FE e s,D7 (by omega) (by omega)];show _=(((S3 h p).n+(h.On.g i).n:Nat):Int);omega
end Go.AM
namespace Go.AM
variable {N:Nat}
open Go.Proofs
def AE7 (h:A9)(i:Nat):Prop:=∃u v,u<v/\v<i/\(h.Laws.g u).Name=(h.Laws.g v).Name
open Classical in
noncomputable def hres (N:Nat) (h:A9):Int:= if ¬AW h.Tree then 16 else if 64<h.Laws.n then 12 else if ∃i,i<h.Laws.n/\¬chkAll N (h.Laws.g i)then 17 else if AE7 h h.Laws.n then 6 else if h.On.n≠h.Tree.n then 2 else if Vs h then 2 else if ∃v,v<h.On.n/\AC8 h v then 3 else 0
structure ET (N:Nat) (h:A9):Prop where
 tree:AW h.Tree
 laws:HI N h.Laws
 dup:¬AE7 h h.Laws.n
 on:h.On.n=h.Tree.n
 long:¬Vs h
 bad:∀v,v<h.On.n->¬AC8 h v
def hres_zero {h:A9}:hres N h=0↔ET N h:=by
 unfold hres;constructor
 .intro g;split at g
  .cases g
  split at g
  .cases g
  split at g
  .cases g
  split at g
  .cases g
  split at g
  .cases g
  split at g
  .cases g
  split at g
  .cases g
  rename_i h1 n c d f j l;exact⟨Classical.not_not.1 h1,⟨by omega,fun i a=>AR0 fun hn=>c ⟨i,a,hn⟩⟩,d,Classical.not_not.1 f,j,fun v b hb=>l ⟨v,b,hb⟩⟩
 intro g;have m:=g.laws.1;rw[Hf (fun k=>k g.tree),Gt,Hf (fun⟨i,a,hn⟩=>hn (g.laws.2 i a)),Hf g.dup,Hf (fun k=>k g.on),Hf g.long,Hf (fun⟨v,b,hb⟩=>g.bad v b hb)]
def EU {h:A9}(h1:AW h.Tree)(a:HI N h.Laws)(b:¬AE7 h h.Laws.n)(c:h.On.n=h.Tree.n){e:Int}(d:Ac4 h e):e=hres N h:=by
 have f:=a.1;unfold hres;rw[Hf (fun k=>k h1),Gt,Hf (fun⟨i,j,hn⟩=>hn (a.2 i j)),Hf b,Hf (fun k=>k c)];rcases d with⟨g,rfl⟩ | ⟨g,g2,rfl⟩ | ⟨g,g2,rfl⟩
 .rw[He g]
 .rw[Hf g,He g2]
 rw[Hf g,Hf (fun⟨v,l,hb⟩=>g2 v l hb)]
def Kk (z:3000000<=N){h:A9}(o:Cz h):P3 N h=some (hres N h):=by
 suffices g:∃r,P3 N h=some r/\r=hres N h by obtain⟨r,g,rfl⟩:=g;exact g
 obtain⟨e,e1,_,he⟩:=Rn z o.tree;unfold P3;refine B0 e1 ?_;rcases he with⟨rfl,ht⟩ | ⟨rfl,ht⟩
 case inr=>exact Av ⟨16,rfl,by unfold hres;rw[He ht]⟩
 refine Da ?_;by_cases c:64<h.Laws.n
 .exact Ar ⟨12,rfl,by unfold hres;rw[Hf (fun k=>k ht),He c]⟩
 refine Bv ?_;refine U2 (fun i (x1:List (Str×Int)) x2=>x2=(i:Int)/\(∀j,j<i->chkAll N (h.Laws.g j))/\(∀s,(Dk eqS s x1=none/\∀u,u<i->(h.Laws.g u).Name≠s) \/ (∃v,Dk eqS s x1=some v)/\∃u,u<i/\(h.Laws.g u).Name=s)/\((AE7 h i/\x1.length<i) \/ (¬AE7 h i/\x1.length=i))) h.Laws.n _ (by omega)
  ⟨rfl,fun j hj=>Ia hj (by omega),fun s=>.inl ⟨rfl,fun u q=>Ia q (by omega)⟩,.inr ⟨fun⟨u,v,_,hv,_⟩=>Ia hv (by omega),rfl⟩⟩ ?_
 rintro self i x1 x2 hle ⟨rfl,hc,hm,hl⟩ hs;by_cases d:i<h.Laws.n
 .obtain⟨y,y1,_,hy⟩:=ES z (o.laws i d);refine Ar (Ab (B0 (by rw[AM9];exact y1) ?_));rcases hy with⟨rfl,hy⟩ | ⟨rfl,hy⟩
  case inr=>exact Av ⟨17,rfl,by unfold hres;rw[Hf (fun k=>k ht),Hf c,He ⟨i,d,hy⟩]⟩
  refine Da ?_;rw[AM9];have t : ∀j,j<i+1->chkAll N (h.Laws.g j):=fun j hj=>by
   by_cases e:j=i
   .subst e;exact hy
   exact hc j (by omega)
  have look:∀(v:Int) (s:Str),(Dk eqS s (Qm eqS (h.Laws.g i).Name v x1)=none/\∀u,u<i+1->(h.Laws.g u).Name≠s) \/ (∃w,Dk eqS s (Qm eqS (h.Laws.g i).Name v x1)=some w)/\∃u,u<i+1/\(h.Laws.g u).Name=s:=by
   intro v s;rw[Kj];by_cases e:s=(h.Laws.g i).Name
   .exact .inr ⟨⟨v,by rw[He e]⟩,i,by omega,e.symm⟩
   rw[Hf e];rcases hm s with⟨g,g2⟩ | ⟨g,u,q,g2⟩
   .refine .inl ⟨g,fun u q=>?_⟩;by_cases e2:u=i
    .subst e2;exact fun k=>e k.symm
    exact g2 u (by omega)
   exact .inr ⟨g,u,by omega,g2⟩
  rcases hm (h.Laws.g i).Name with⟨g,g2⟩ | ⟨⟨v,g⟩,u,q,g2⟩
  .rw[g,Sq];refine hs d _ _ ⟨Dn,t,look _,?_⟩;rw[WN g];rcases hl with⟨⟨a,b,f,hb,hn⟩,hl⟩ | ⟨m,hl⟩
   .exact .inl ⟨⟨a,b,f,by omega,hn⟩,by omega⟩
   refine .inr ⟨fun⟨a,b,f,hb,hn⟩=>?_,by omega⟩;by_cases e:b=i
   .subst e;exact g2 a f hn
   exact m ⟨a,b,f,by omega,hn⟩
  rw[g,Zv];refine hs d _ _ ⟨Dn,t,look _,?_⟩;rw[WO g];refine .inl ⟨⟨u,i,q,by omega,g2⟩,?_⟩;rcases hl with⟨_,hl⟩ | ⟨_,hl⟩<;>omega
 obtain rfl:i=h.Laws.n:=by omega
 have hok:HI N h.Laws:=⟨by omega,hc⟩;have x:¬ ∃i,i<h.Laws.n/\¬chkAll N (h.Laws.g i):=fun⟨i,o,hn⟩=>hn (hc i o);refine Bx ?_;rw[Uv];rcases hl with⟨m,hl⟩ | ⟨m,hl⟩
 .exact Ar ⟨6,rfl,by unfold hres;rw[Hf (fun k=>k ht),Hf c,Hf x,He m]⟩
 refine Bv ?_;by_cases l:h.On.n=h.Tree.n
 case neg=>exact Ar ⟨2,rfl,by unfold hres;rw[Hf (fun k=>k ht),Hf c,Hf x,Hf m,He l]⟩
 refine ifF (by simp[l]) ?_;obtain⟨e,e1,he⟩:=Ac5 z o ht l;exact B0 e1 ⟨e,rfl,EU ht hok m l he⟩
def Ac6 (hN:3000000<=N){h:A9}(q:Cz h):Fx N h=some (hres N h):=by
 suffices g:∃r,Fx N h=some r/\r=hres N h by obtain⟨r,g,rfl⟩:=g;exact g
 obtain⟨e,_,e1,he⟩:=Rn hN q.tree;unfold Fx;refine B0 e1 ?_;rcases he with⟨rfl,ht⟩ | ⟨rfl,ht⟩
 case inr=>exact Av ⟨16,rfl,by unfold hres;rw[He ht]⟩
 refine Da ?_;by_cases f:64<h.Laws.n
 .exact Ar ⟨12,rfl,by unfold hres;rw[Hf (fun k=>k ht),He f]⟩
 refine Bv ?_;refine BN (fun i x1=>x1=(i:Int)/\∀j,j<i->chkAll N (h.Laws.g j)) h.Laws.n _ (by omega) ⟨rfl,fun j hj=>Ia hj (by omega)⟩ ?_;rintro self i x1 hle ⟨rfl,hc⟩ hs;by_cases a:i<h.Laws.n
 .obtain⟨y,_,y1,hy⟩:=ES hN (q.laws i a);refine Ar (Ab (B0 (by rw[AM9];exact y1) ?_));rcases hy with⟨rfl,hy⟩ | ⟨rfl,hy⟩
  case inr=>exact Av ⟨17,rfl,by unfold hres;rw[Hf (fun k=>k ht),Hf f,He ⟨i,a,hy⟩]⟩
  refine Da (hs a _ ⟨Dn,fun j hj=>?_⟩);by_cases e:j=i
  .subst e;exact hy
  exact hc j (by omega)
 obtain rfl:i=h.Laws.n:=by omega
 have l:HI N h.Laws:=⟨by omega,hc⟩;have t:¬ ∃i,i<h.Laws.n/\¬chkAll N (h.Laws.g i):=fun⟨i,q,hn⟩=>hn (hc i q);refine Bx ?_;refine BN (fun i x1=>x1=(i:Int)/\¬AE7 h i) h.Laws.n _ (by omega) ⟨rfl,fun⟨u,v,_,d,_⟩=>Ia d (by omega)⟩ ?_;rintro a2 i x1 hle2 ⟨rfl,s⟩ a3;by_cases a:i<h.Laws.n
 .refine Ar ?_;refine BN (fun k x5=>x5=(k:Int)/\∀u,u<k->(h.Laws.g u).Name≠(h.Laws.g i).Name) i _ (by omega) ⟨rfl,fun u hu=>Ia hu (by omega)⟩ ?_;rintro a4 k x5 hk ⟨rfl,w⟩ a5;by_cases x:k<i
  .refine Ar (Ab ?_);rw[AM9,AM9];by_cases e:(h.Laws.g k).Name=(h.Laws.g i).Name
   .exact ifT (by simp[e]) ⟨6,rfl,by unfold hres;rw[Hf (fun k=>k ht),Hf f,Hf t,He ⟨k,i,x,a,e⟩]⟩
   refine ifF (by simp;exact fun g=>e g.symm) (a5 x _ ⟨Dn,fun u hu=>?_⟩);by_cases e2:u=k
   .subst e2;exact e
   exact w u (by omega)
  refine Bv (a3 a _ ⟨Dn,fun⟨u,v,a6,d,hn⟩=>?_⟩);by_cases e:v=i
  .subst e;exact w u (by omega) hn
  exact s ⟨u,v,a6,by omega,hn⟩
 obtain rfl:i=h.Laws.n:=by omega
 refine Bx ?_;by_cases b:h.On.n=h.Tree.n
 case neg=>exact Ar ⟨2,rfl,by unfold hres;rw[Hf (fun k=>k ht),Hf f,Hf t,Hf s,He b]⟩
 refine ifF (by simp[b]) ?_;have h63:=ht.2.1;refine BN (fun i x1=>x1=(i:Int)/\∀v,v<i->¬ 64<(S3 h v).n) h.On.n _ (by omega) ⟨rfl,fun v d=>Ia d (by omega)⟩ ?_;rintro a7 i x1 hle3 ⟨rfl,z⟩ a8;by_cases a:i<h.On.n
 .refine Ar (B0 (Ns q ht b N i (by omega) (by omega)) ?_);by_cases hg:64<(S3 h i).n
  .exact Ar ⟨2,rfl,EU ht l s b (.inl ⟨⟨i,a,hg⟩,rfl⟩)⟩
  refine Bv (a8 a _ ⟨Dn,fun v d=>?_⟩);by_cases e:v=i
  .subst e;exact hg
  exact z v (by omega)
 refine Bv ?_;have m:¬Vs h:=fun⟨v,d,g⟩=>z v (by omega) g;refine BN (fun i x1=>x1=(i:Int)/\∀v,v<i->¬AC8 h v) h.On.n _ (by omega) ⟨rfl,fun v d=>Ia d (by omega)⟩ ?_;rintro a9 i x1 hle4 ⟨rfl,a0⟩ b0;by_cases c:i<h.On.n
 .have hl:=q.len i c;refine Ar ?_;refine BN (fun k x1=>x1=(k:Int)/\∀j,j<k->¬((h.On.g i).g j<0 \/ (h.Laws.n:Int)<=(h.On.g i).g j)) (h.On.g i).n _ (by omega) ⟨rfl,fun j hj=>Ia hj (by omega)⟩ ?_;rintro b1 k x1 hk ⟨rfl,a1⟩ b2;refine Ab ?_;rw[AM9,AM9];by_cases o:k<(h.On.g i).n
  .refine Ar (Ab ?_);by_cases g1:(h.On.g i).g k<0
   .exact ifT (by simpa using g1) ⟨3,rfl,EU ht l s b (.inr (.inl ⟨m,⟨i,c,k,o,.inl g1⟩,rfl⟩))⟩
   refine ifF (by simpa using g1) (Ab ?_);by_cases g2:(h.Laws.n:Int)<=(h.On.g i).g k
   .exact ifT (by simpa using g2) ⟨3,rfl,EU ht l s b (.inr (.inl ⟨m,⟨i,c,k,o,.inr g2⟩,rfl⟩))⟩
   refine ifF (by simpa using g2) (b2 o _ ⟨Dn,fun j hj=>?_⟩);by_cases e:j=k
   .subst e;exact fun g=>g.elim g1 g2
   exact a1 j (by omega)
  refine Bv (b0 c _ ⟨Dn,fun v d=>?_⟩);by_cases e:v=i
  .subst e;exact fun⟨j,hj,g⟩=>a1 j (by omega) g
  exact a0 v (by omega)
 exact Bv ⟨0,rfl,EU ht l s b (.inr (.inr ⟨m,fun v d=>a0 v (by omega),rfl⟩))⟩
end Go.AM
