/- Part 8. -/
import Derived.Test.YtppapmfonjmfbaaGreatDoorRG
import Derived.Test.YtppapmfonjmfbaaGreatDoorRF
set_option linter.defProp false
set_option linter.unusedSimpArgs false
set_option linter.unusedVariables false
set_option linter.unusedSectionVars false
namespace Go.AM
variable {N:Nat}
def Mw:=@decide_eq_true_eq
def K6{c:Prop}{i:Decidable c}{α:Sort _}{a b:α}(h:¬c:=by simp;omega):(if c then a else b)=b:=Lm h
def Jd{c:Prop}{i:Decidable c}{α:Sort _}{a b:α}(h:¬c:=by omega):(if c then a else b)=b:=Lm h
def Ia{c:Prop}{i:Decidable c}{α:Sort _}{a b:α}(h:c:=by simp;omega):(if c then a else b)=a:=Ll h
def Hj{c:Prop}{i:Decidable c}{α:Sort _}{a b:α}(h:c:=by omega):(if c then a else b)=a:=Ll h
open IntKind (wrap)
def AW1:=@BitVec.getLsbD_not
def AZ1:=@Classical.axiomOfChoice
def AZ2:=@List.reverse_append
def Ba2:=@Bool.or_eq_false_iff
def Be4:=@Bool.not_eq_true
def Be5:=@List.mem_reverse
def Bf3:=@BitVec.getLsbD_zero
def Bg2:=@List.mem_range'_1
def Bg5:=@Nat.testBit_two_pow_mul
def Bg6:=@List.filter_cons_of_pos
def Bg7:=@List.filter_cons_of_neg
def Bh1:=@Nat.testBit_lt_two_pow
def Bh2:=@List.filter_eq_nil_iff
def Bh3:=@List.reverse_singleton
def Bh9:=@Bool.and_eq_false_iff
def Bi0:=@List.singleton_append
def Bi1:=@List.mem_append
def Bi6:=@BitVec.getLsbD_of_ge
def Bi8:=@Nat.div_eq_zero_iff
def Bj8:=@Nat.lt_of_le_of_lt
open Go.Proofs
abbrev sOf (x y:BitVec 32):Tb:=⟨(x.toNat:Int),(y.toNat:Int)⟩
def okS (s:Tb):Prop:=∃p m:BitVec 32,s=sOf p m
def eq0 (x:BitVec 32):((x.toNat:Int)==0)=decide (x=0#32):=by
 rw[AU3];simp only[beq_iff_eq,Mw];constructor
 .intro h;apply AV0;show x.toNat=0;omega
 rintro rfl;rfl
def z32 (x:BitVec 32):x=0#32 ↔ ∀i,i<32->x.getLsbD i=false:=by
 constructor
 .rintro rfl i a;simp
 intro h;apply AW3;intro i a;rw[h i a];simp
def Jr {x y:BitVec 32}(h:∀b,b<32->x.getLsbD b=y.getLsbD b):x=y:=AW3 h
def WQ (x:BitVec 32)(i:Nat):(G7 .and .u32 (shI .shr .u32 (x.toNat:Int) (i:Int)) 1==1)=x.getLsbD i:=by
 rw[At5,show (1:Int)=((1#32).toNat:Int) from rfl,Fl];have h:(x >>> i &&& 1#32)=(BitVec.ofBool (x.getLsbD i)).setWidth 32:=by
  apply AW3;intro j hj;simp only[AS4,Bf6,Bg4,Bh8];by_cases a:j=0
  .subst a;simp
  have:(1#32).getLsbD j=false:=by rw[Bf7];simp[a]
  simp[this,a]
 rw[h];cases x.getLsbD i<;>rfl
def AC7 (i:Nat):shI .shl .u32 1 (i:Int)=((1#32 <<< i).toNat:Int):=by rw[show (1:Int)=((1#32).toNat:Int) from rfl,AJ3]
def Aa9 {i j:Nat}(hj:j<32):(1#32 <<< i).getLsbD j=decide (j=i):=by
 rw[Bg1,Bf7];by_cases h:j=i
 .subst h;simp[hj]
 by_cases a:j<i
 .simp[h,a]
 have:j-i≠0:=by omega
 simp[h,this]
def GL (x:BitVec 32):x.toNat<16777216 ↔ ∀i,24<=i->i<32->x.getLsbD i=false:=by
 constructor
 .intro h i a b;exact Bh1 (AT0 h (Ba1 (n:=2) (i:=24) (by omega) a))
 intro h;refine Nat.lt_pow_two_of_testBit (n:=24) _ fun i a=>?_;by_cases c:i<32
 .exact h i a c
 exact Bh1 (AT0 x.isLt (Ba1 (by omega) (by omega)))
def vB (p m:BitVec 32):Bool:=decide (∀i:Fin 32,¬(p.getLsbD i=true/\m.getLsbD i=true)/\(24<=i.1->p.getLsbD i=false/\m.getLsbD i=false))
def FT (p m:BitVec 32):vB p m=true ↔ ∀i,i<32->¬(p.getLsbD i=true/\m.getLsbD i=true)/\(24<=i->p.getLsbD i=false/\m.getLsbD i=false):=by rw[vB,Mw];exact⟨fun h i a=>h ⟨i,a⟩,fun h i=>h i.1 i.2⟩
def WR (p m:BitVec 32):p &&& m=0#32 ↔ ∀i,i<32->¬(p.getLsbD i=true/\m.getLsbD i=true):=by rw[z32];refine forall_congr' fun i=>forall_congr' fun a=>?_;rw[AS4,Bh9];cases p.getLsbD i<;>cases m.getLsbD i<;>simp
def AN1 (p m:BitVec 32):vB p m=true↔p &&& m=0#32/\(p ||| m).toNat<16777216:=by
 rw[FT,WR,GL];constructor
 .intro h;refine⟨fun i a=>(h i a).1,fun i h1 b=>?_⟩
  have:=(h i b).2 h1
  rw[AS3,this.1,this.2];rfl
 rintro⟨h1,b⟩ i a;refine⟨h1 i a,fun c=>?_⟩
 have:=b i c a
 rw[AS3,Ba2]at this;exact this
def AN2 (p m:BitVec 32):vB p m=true↔p &&& m=0#32/\p.toNat<16777216/\m.toNat<16777216:=by rw[FT,WR,GL,GL];exact⟨fun h=>⟨fun i a=>(h i a).1,fun i h1 b=>((h i b).2 h1).1,fun i h1 b=>((h i b).2 h1).2⟩,fun⟨h1,b,d⟩ i a=>⟨h1 i a,fun c=>⟨b i c a,d i c a⟩⟩⟩
def BX (p m:BitVec 32):G2 N (sOf p m)=some (vB p m):=by unfold G2;rw[Fl,KK,eq0];congr 1;rw[AU3,AN1];simp only[AQ7,Mw];exact⟨fun h=>⟨h.1,by have:=h.2;omega⟩,fun h=>⟨h.1,by have:=h.2;omega⟩⟩
def shr24 (x:BitVec 32):(shI .shr .u32 (x.toNat:Int) 24==0)=decide (x.toNat<16777216):=by
 rw[show (24:Int)=((24:Nat):Int) from rfl,At5,AU3];simp only[beq_iff_eq,Mw,Bd0,Bc4]
 have:=Bi8 (a:=x.toNat) (b:=2 ^ 24)
 omega
def Ty (p m:BitVec 32):Bw N (sOf p m)=some (vB p m):=by unfold Bw;rw[Fl,KK,eq0,shr24];congr 1;rw[AU3,AN1];simp only[AQ7,Mw]
def Tz (p m:BitVec 32):P2 N (sOf p m)=some (vB p m):=Ty (N:=N) p m
def PB (p m:BitVec 32):Aa N (sOf p m)=some (vB p m):=by unfold Aa;rw[Fl,eq0];congr 1;rw[AU3,AN2];simp only[AQ7,Mw];exact⟨fun h=>⟨h.1.1,by have:=h.1.2;omega,by have:=h.2;omega⟩,fun h=>⟨⟨h.1,by have:=h.2.1;omega⟩,by have:=h.2.2;omega⟩⟩
def AD (p m:BitVec 32)(l:1000<=N):K3 N (sOf p m)=some (vB p m):=by
 suffices h:∃r,K3 N (sOf p m)=some r/\r=vB p m by obtain⟨r,h,rfl⟩:=h;exact h
 unfold K3;refine W5 (fun i x1=>x1=(i:Int)/\∀j,j<i->¬(p.getLsbD j=true/\m.getLsbD j=true)/\(24<=j->p.getLsbD j=false/\m.getLsbD j=false)) 32 _ (by omega) ⟨rfl,fun j hj=>Ln hj (by omega)⟩ ?_;rintro f i x1 n ⟨rfl,h1⟩ hs;by_cases hl:i<32
 .refine Ao (An ?_);simp only[WQ];have e24:decide ((24:Int)<=(i:Int))=decide (24<=i):=decide_eq_decide.2 (by omega);rw[e24];by_cases hb:¬(p.getLsbD i=true/\m.getLsbD i=true)/\(24<=i->p.getLsbD i=false/\m.getLsbD i=false)
  .refine ifF ?_ (hs hl _ ⟨Hi,fun j hj=>?_⟩)
   .intro h;obtain⟨g,d⟩:=hb;revert h g d;by_cases c:24<=i
    .intro h g d;obtain⟨a,b⟩:=d c;simp[a,b]at h
    cases p.getLsbD i<;>cases m.getLsbD i<;>simp[c]
   by_cases e:j=i
   .subst e;exact hb
   exact h1 j (by omega)
  refine ifT ?_ ⟨false,rfl,?_⟩
  .revert hb;by_cases c:24<=i
   .cases p.getLsbD i<;>cases m.getLsbD i<;>simp[c]
   cases p.getLsbD i<;>cases m.getLsbD i<;>simp[c]
  symm;rw[<- Be4,FT];exact fun h=>hb (h i hl)
 refine Ec ⟨true,rfl,?_⟩;symm;rw[FT];exact fun j hj=>h1 j (by omega)
def gB (p m:BitVec 32)(f:Nat):Int:=if p.getLsbD f then 1 else if m.getLsbD f then -1 else 0
def WS (p m:BitVec 32)(a:vB p m=true)(f:Nat)(c:f<24)(b:1000<=N):BQ N (sOf p m) (f:Int)=some (gB p m f):=by
 unfold BQ;rw[AD p m b];simp only[AQ6,lt,Jm,WQ,gB,a];rw[Ll (by omega:(0:Int)<=(f:Int)),Ll (by omega:(0:Int)<=(f:Int))];have e:(decide ((0:Int)<=(f:Int))&&decide ((f:Int)<24))=true:=by simp;omega
 rw[e];cases h1:p.getLsbD f<;>cases d:m.getLsbD f<;>simp
def gB_eq {p m a b:BitVec 32}(g:vB p m=true)(c : vB a b=true)(f:Nat)(d:f<32):(gB a b f≠0->gB p m f=gB a b f)↔((a.getLsbD f=true->p.getLsbD f=true)/\(b.getLsbD f=true->m.getLsbD f=true)):=by have h1:=((FT p m).1 g f d).1;have i:=((FT a b).1 c f d).1;revert h1 i;simp only[gB];cases a.getLsbD f<;>cases b.getLsbD f<;>cases p.getLsbD f<;>cases m.getLsbD f<;>simp
def YJ (p m a b:BitVec 32):Bool:=vB p m&&(vB a b&&decide (∀i:Fin 32,(a.getLsbD i=true->p.getLsbD i=true)/\(b.getLsbD i=true->m.getLsbD i=true)))
def AC8 (a p:BitVec 32):a &&& ~~~ p=0#32 ↔ ∀i,i<32->(a.getLsbD i=true->p.getLsbD i=true):=by rw[z32];refine forall_congr' fun i=>forall_congr' fun b=>?_;rw[AS4,AW1];cases a.getLsbD i<;>cases p.getLsbD i<;>simp[b]
def AC9 (p m a b:BitVec 32):K0 N (sOf p m) (sOf a b)=some (YJ p m a b):=by
 unfold K0;rw[BX];simp only[AQ6,lt,BX,EJ,eq0,YJ];cases h1:vB p m
 .simp
 cases d:vB a b
 .simp
 simp only[Lo,Bd4];have key:(decide (∀i:Fin 32,(a.getLsbD i=true->p.getLsbD i=true)/\(b.getLsbD i=true->m.getLsbD i=true)))=(decide (a &&& ~~~ p=0#32)&&decide (b &&& ~~~ m=0#32)):=by rw[AU3];simp only[AQ7,Mw,AC8];exact⟨fun h=>⟨fun i c=>(h ⟨i,c⟩).1,fun i c=>(h ⟨i,c⟩).2⟩,fun h i=>⟨h.1 i.1 i.2,h.2 i.1 i.2⟩⟩
 rw[key];by_cases h:a &&& ~~~ p=0#32
 .simp[h]
 simp[h]
def AD0 (p m a b:BitVec 32)(f:1000<=N):Z8 N (sOf p m) (sOf a b)=some (YJ p m a b):=by
 suffices h:∃r,Z8 N (sOf p m) (sOf a b)=some r/\r=YJ p m a b by obtain⟨r,h,rfl⟩:=h;exact h
 unfold Z8;rw[AD p m f];refine B1 rfl (ltX ?_);cases h1:vB p m
 .exact Aq (ifT rfl ⟨false,rfl,by simp[YJ,h1]⟩)
 refine Gx ?_;rw[AD a b f];refine B1 rfl ?_;cases c:vB a b
 .exact Aq ⟨false,rfl,by simp[YJ,c]⟩
 refine Gx ?_;refine W5 (fun i x3=>x3=(i:Int)/\∀j,j<i->((a.getLsbD j=true->p.getLsbD j=true)/\(b.getLsbD j=true->m.getLsbD j=true))) 24 _ (by omega) ⟨rfl,fun j hj=>Ln hj (by omega)⟩ ?_;rintro d i x3 o ⟨rfl,n⟩ hs;by_cases hl:i<24
 .refine Ao (B1 (WS a b c i hl f) (ltX ?_));have key:=gB_eq h1 c i (by omega);have fin:(¬(gB a b i≠0->gB p m i=gB a b i))->false=YJ p m a b:=fun hn=>by symm;simp only[YJ,h1,c,Bd4];rw[<- Be4,Mw];intro h;exact hn (key.2 (h ⟨i,by omega⟩))
  have go:(gB a b i≠0->gB p m i=gB a b i)->∃r,d (wrap .i64 ((i:Int)+1))=some r/\r=YJ p m a b:=fun hp=>hs hl _ ⟨Hi,fun j hj=>by
   by_cases e:j=i
   .subst e;exact key.1 hp
   exact n j (by omega)⟩
  by_cases g:gB a b i=0
  .exact ifF (by simp[g]) (Gx (go fun h=>Ln g h))
  refine ifT (by simp[g]) (B1 (WS p m h1 i hl f) ?_);by_cases l:gB p m i=gB a b i
  .exact ifF (by simp[l]) (go fun _=>l)
  exact ifT (by simp[l]) ⟨false,rfl,fin fun h=>l (h g)⟩
 refine Ec ⟨true,rfl,?_⟩;symm;simp only[YJ,h1,c,Bd4,Mw];intro j;by_cases hj:j.1<24
 .exact n j.1 (by omega)
 have:=((FT a b).1 c j.1 j.2).2 (by omega)
 exact⟨fun h=>by rw[this.1]at h;exact Ln h (by simp),fun h=>by rw[this.2]at h;exact Ln h (by simp)⟩
def RM (x y s:BitVec 32):BitVec 32:=(x &&& ~~~ s) ||| (y &&& s)
def Av1 (p m a b s:BitVec 32):Ck N (sOf p m) (sOf a b) (s.toNat:Int)=some (sOf (RM p a s) (RM m b s)):=by unfold Ck;simp only[EJ,Fl,KK,RM]
def AN3 (x:BitVec 32)(f:Nat)(on:Bool):BitVec 32:=if on then (x &&& ~~~ (1#32 <<< f)) ||| (1#32 <<< f)else x &&& ~~~ (1#32 <<< f)
def Hc (x:BitVec 32)(f:Nat)(on:Bool){j:Nat}(hj:j<32):(AN3 x f on).getLsbD j=if j=f then on else x.getLsbD j:=by
 unfold AN3;cases on
 .rw[Lm (by simp),AS4,AW1,Aa9 hj];by_cases e:j=f<;>simp[e,hj]
 rw[Ll rfl,AS3,AS4,AW1,Aa9 hj];by_cases e:j=f<;>simp[e,hj]
def Ab0 (p m:BitVec 32)(f:Nat)(v:Int):EV N (sOf p m) (f:Int) v=some (sOf (AN3 p f (v==1)) (AN3 m f (v == -1))):=by unfold EV;rw[Hj];simp only[AC7,EJ,KK];cases h1:v==1<;>cases a:v == -1<;>simp[AN3]
def Ao4 (p m c a b:BitVec 32):Tb×Int:=if vB p m=true/\vB a b then (if c.toNat<16777216/\c &&& (a ||| b)=0#32 then (sOf (RM p a (c ||| (a ||| b))) (RM m b (c ||| (a ||| b))),0)else (⟨0,0⟩,2))else (⟨0,0⟩,14)
def Yj (p m c a b:BitVec 32):P1 N (sOf p m) (c.toNat:Int) (sOf a b)=some (Ao4 p m c a b):=by
 unfold P1 Ao4;rw[BX];simp only[AQ6,lt,BX,DF,KK,Fl,Av1];cases h1:vB p m
 .simp
 cases g:vB a b
 .simp
 by_cases d:c.toNat<16777216
 .have e:((c &&& (a ||| b)).toNat:Int) != 0 ↔ ¬(c &&& (a ||| b)=0#32):=by
   have:=eq0 (c &&& (a ||| b))
   simp only[bne_iff_ne,ne_eq];rw[<- Mw (p:=c &&& (a ||| b)=0#32),<- this];simp
  by_cases f:c &&& (a ||| b)=0#32
  .simp[d,f];omega
  have e':=e.2 f;rw[Lm (by simp<;>omega),e'];simp[d,f]
 simp[d];omega
def Yk (p m c a b:BitVec 32)(s:1000<=N):Z9 N (sOf p m) (c.toNat:Int) (sOf a b)=some (Ao4 p m c a b):=by
 suffices h:∃r,Z9 N (sOf p m) (c.toNat:Int) (sOf a b)=some r/\r=Ao4 p m c a b by obtain⟨r,h,rfl⟩:=h;exact h
 unfold Z9;rw[AD p m s];refine B1 rfl (ltX ?_);cases h1:vB p m
 .exact Aq (ifT rfl ⟨_,rfl,by simp[Ao4,h1]⟩)
 refine Gx ?_;rw[AD a b s];refine B1 rfl ?_;cases n:vB a b
 .exact Aq ⟨_,rfl,by simp[Ao4,n]⟩
 refine Gx ?_;rw[KK,Fl];by_cases hc:c.toNat<16777216/\c &&& (a ||| b)=0#32
 .obtain⟨o,l⟩:=hc;refine ifF (by rw[l];simp;omega) ?_;have x:∀j,j<32->¬(c.getLsbD j=true/\(a.getLsbD j=true \/ b.getLsbD j=true)):=fun j hj=>by
   have:=(z32 _).1 l j hj
   rw[AS4,AS3]at this;revert this;cases c.getLsbD j<;>cases a.getLsbD j<;>cases b.getLsbD j<;>simp
  refine Yi (fun i x2 x3 x4=>x4=(i:Int)/\∃P M:BitVec 32,x2=(P.toNat:Int)/\x3=(M.toNat:Int)/\∀j,j<32 ->
   P.getLsbD j=(if j<i/\(c.getLsbD j=true \/ a.getLsbD j=true \/ b.getLsbD j=true)then a.getLsbD j else p.getLsbD j)/\M.getLsbD j=(if j<i/\(c.getLsbD j=true \/ a.getLsbD j=true \/ b.getLsbD j=true)then b.getLsbD j else m.getLsbD j)) 24 _ (by omega)
   ⟨rfl,p,m,rfl,rfl,fun j hj=>by simp⟩ ?_
  rintro v i x2 x3 x4 hi ⟨rfl,P,M,rfl,rfl,d⟩ hs;by_cases hl:i<24
  .refine Ao (An ?_);rw[WQ];have t:=WS (N:=N) a b n i hl s;have u:=((FT a b).1 n i (by omega)).1;have y:=x i (by omega);by_cases g:c.getLsbD i=true
   .refine ifT g (B1 (Ab0 P M i 0) (B1 t ?_));have ea:a.getLsbD i=false:=by cases e:a.getLsbD i<;>simp_all
    have eb:b.getLsbD i=false:=by cases e:b.getLsbD i<;>simp_all
    refine ifF (by simp[gB,ea,eb]) (hs hl _ _ _ ⟨Hi,_,_,rfl,rfl,fun j hj=>?_⟩);rw[Hc _ _ _ hj,Hc _ _ _ hj];by_cases e:j=i
    .subst e;simp[g,ea,eb]
    have:=d j hj
    have e2:j<i+1↔j<i:=by omega
    simp only[e,Lp,e2];exact this
   refine ifF g (B1 t ?_);by_cases q:gB a b i=0
   .have ea:a.getLsbD i=false:=by revert q;simp only[gB];cases a.getLsbD i<;>simp
    have eb:b.getLsbD i=false:=by revert q;simp only[gB,ea];cases b.getLsbD i<;>simp
    refine ifF (by simp[q]) (hs hl _ _ _ ⟨Hi,P,M,rfl,rfl,fun j hj=>?_⟩);by_cases e:j=i
    .subst e;have:=d j hj;simpa[g,ea,eb]using this
    have:=d j hj
    have e2:j<i+1↔j<i:=by omega
    simp only[e2];exact this
   refine ifT (by simp[q]) (B1 t (B1 (Ab0 P M i _) (hs hl _ _ _ ⟨Hi,_,_,rfl,rfl,fun j hj=>?_⟩)));rw[Hc _ _ _ hj,Hc _ _ _ hj];by_cases e:j=i
   .subst e;revert q u;simp only[gB];cases a.getLsbD j<;>cases b.getLsbD j<;>simp
   have:=d j hj
   have e2:j<i+1↔j<i:=by omega
   simp only[e,Lp,e2];exact this
  obtain rfl:i=24:=by omega
  refine Gx ⟨_,rfl,?_⟩;simp only[Ao4,h1,n,o,l,and_self,Lo];have hp:=(FT p m).1 h1;have w:=(FT a b).1 n;have z:=(GL c).1 o;have eP:P=RM p a (c ||| (a ||| b)):=Jr fun j hj=>by
   rw[(d j hj).1,RM,AS3,AS4,AS4,AW1,AS3,AS3];by_cases f:j<24
   .cases c.getLsbD j<;>cases a.getLsbD j<;>cases b.getLsbD j<;>cases p.getLsbD j<;>simp[f,hj]
   have g1:=(hp j hj).2 (by omega);have g2:=(w j hj).2 (by omega);simp[f,g1.1,g2.1]
  have eM:M=RM m b (c ||| (a ||| b)):=Jr fun j hj=>by
   rw[(d j hj).2,RM,AS3,AS4,AS4,AW1,AS3,AS3];by_cases f:j<24
   .cases c.getLsbD j<;>cases a.getLsbD j<;>cases b.getLsbD j<;>cases m.getLsbD j<;>simp[f,hj]
   have g1:=(hp j hj).2 (by omega);have g2:=(w j hj).2 (by omega);simp[f,g1.2,g2.2]
  rw[eP,eM]
 refine ifT ?_ ⟨_,rfl,?_⟩
 .rw[AS6,Mw,bne_iff_ne];by_cases h:c.toNat<16777216
  .right
   intro h0;exact hc ⟨h,AV0 (by show _=0;omega)⟩
  left;omega
 simp only[Ao4,h1,n,and_self,Lo];rw[Lm hc]
def Ao5 (p m a b s:BitVec 32):Tb×Int:=if vB p m=true/\vB a b then (if s.toNat<16777216 then (sOf (RM p a s) (RM m b s),0)else (⟨0,0⟩,2))else (⟨0,0⟩,14)
def Ao6 (p m a b s:BitVec 32):T5 N (sOf p m) (sOf a b) (s.toNat:Int)=some (Ao5 p m a b s):=by
 unfold T5 Ao5;rw[BX];simp only[AQ6,lt,BX,Av1];cases h1:vB p m
 .simp
 cases d:vB a b
 .simp
 by_cases c:s.toNat<16777216
 .simp[c];omega
 simp[c];omega
def Ao7 (p m a b s:BitVec 32)(n:1000<=N):Cn N (sOf p m) (sOf a b) (s.toNat:Int)=some (Ao5 p m a b s):=by
 suffices h:∃r,Cn N (sOf p m) (sOf a b) (s.toNat:Int)=some r/\r=Ao5 p m a b s by obtain⟨r,h,rfl⟩:=h;exact h
 unfold Cn;rw[AD p m n];refine B1 rfl (ltX ?_);cases h1:vB p m
 .exact Aq (ifT rfl ⟨_,rfl,by simp[Ao5,h1]⟩)
 refine Gx ?_;rw[AD a b n];refine B1 rfl ?_;cases g:vB a b
 .exact Aq ⟨_,rfl,by simp[Ao5,g]⟩
 refine Gx ?_;by_cases hc:s.toNat<16777216
 .refine Ec ?_;refine Yi (fun i x2 x3 x4=>x4=(i:Int)/\∃P M:BitVec 32,x2=(P.toNat:Int)/\x3=(M.toNat:Int)/\∀j,j<32 ->
   P.getLsbD j=(if j<i/\s.getLsbD j then a.getLsbD j else p.getLsbD j)/\M.getLsbD j=(if j<i/\s.getLsbD j then b.getLsbD j else m.getLsbD j)) 24 _ (by omega)
   ⟨rfl,p,m,rfl,rfl,fun j hj=>by simp⟩ ?_
  rintro q i x2 x3 x4 t ⟨rfl,P,M,rfl,rfl,c⟩ hs;by_cases hl:i<24
  .refine Ao (An ?_);rw[WQ];have o:=((FT a b).1 g i (by omega)).1;by_cases f:s.getLsbD i=true
   .refine ifT f (B1 (WS (N:=N) a b g i hl n) (B1 (Ab0 P M i _) (hs hl _ _ _ ⟨Hi,_,_,rfl,rfl,fun j hj=>?_⟩)));rw[Hc _ _ _ hj,Hc _ _ _ hj];by_cases e:j=i
    .subst e;revert o;simp only[gB,f];cases a.getLsbD j<;>cases b.getLsbD j<;>simp
    have:=c j hj
    have e2:j<i+1↔j<i:=by omega
    simp only[e,Lp,e2];exact this
   refine ifF f (hs hl _ _ _ ⟨Hi,P,M,rfl,rfl,fun j hj=>?_⟩);by_cases e:j=i
   .subst e;have:=c j hj;simpa[f]using this
   have:=c j hj
   have e2:j<i+1↔j<i:=by omega
   simp only[e2];exact this
  obtain rfl:i=24:=by omega
  refine Gx ⟨_,rfl,?_⟩;simp only[Ao5,h1,g,hc,and_self,Lo];have l:=(GL s).1 hc;have eP:P=RM p a s:=Jr fun j hj=>by
   rw[(c j hj).1,RM,AS3,AS4,AS4,AW1];by_cases d:j<24
   .cases s.getLsbD j<;>cases a.getLsbD j<;>cases p.getLsbD j<;>simp[d,hj]
   rw[Lm (by simp[d]),l j (by omega) hj];simp[hj]
  have eM:M=RM m b s:=Jr fun j hj=>by
   rw[(c j hj).2,RM,AS3,AS4,AS4,AW1];by_cases d:j<24
   .cases s.getLsbD j<;>cases b.getLsbD j<;>cases m.getLsbD j<;>simp[d,hj]
   rw[Lm (by simp[d]),l j (by omega) hj];simp[hj]
  rw[eP,eM]
 exact Ao ⟨_,rfl,by simp[Ao5,h1,g,hc]⟩
end Go.AM
namespace Go.AM
open Go.Proofs
def vS (s:Tb):Prop:=∃p m:BitVec 32,s=sOf p m/\vB p m=true
def Hl (p:Pat):Prop:= (0<=p.Kind/\p.Kind<=6)/\(p.Kind≠1->(p.Is.Plus=0/\p.Is.Minus=0)/\p.Not=false)/\(p.Kind≠3->p.Kind≠4->p.Kind≠5->p.L.n=0)/\(p.Kind≠5->p.Min=0/\p.Max=0) /\ (p.Kind=5->p.L.n=1/\0<=p.Min/\p.Min<=32/\(p.Max = -1 \/ (p.Min<=p.Max/\p.Max<=32)))/\vS p.Is
def Vn {s:Tb}{p m:BitVec 32}(h:s=sOf p m):vS s↔vB p m=true:=by
 constructor
 .rintro⟨q,r,e,a⟩;rw[h]at e;have e1:(p.toNat:Int)=q.toNat:=congrArg Tb.Plus e;have e2:(m.toNat:Int)=r.toNat:=congrArg Tb.Minus e;rw[AV0 (show p.toNat=q.toNat by omega),AV0 (show m.toNat=r.toNat by omega)];exact a
 exact fun a=>⟨p,m,h,a⟩
def okPS:Pat->Prop
 |.nil=>True
 |.mk _ is _ _ _ n g=>okS is/\∀i,i<n->okPS (g i)
def okPS.is {p:Pat}(h:okPS p):okS p.Is:=by
 cases p with
 |nil=>exact⟨0#32,0#32,rfl⟩
 |mk _ is _ _ _ n g=>exact h.1
def okPS.L {p:Pat}(h:okPS p){i:Nat}(a:i<p.L.n):okPS (p.L.g i):=by
 cases p with
 |nil=>exact Ln a (by show ¬i<0;omega)
 |mk _ is _ _ _ n g=>exact h.2 i a
def chk:Nat->List Pat->Prop
 |0,l=>l=[]
 |_+1,[]=>True
 |k+1,p::l=>Hl p/\chk k (p.L.toList++l)
def Ab1:∀k,chk k []
 |0=>rfl
 |_+1=>trivial
def Nq:∀(k:Nat) (l:List Pat),chk k l->l.length<=k
 |0,l,h=>by rw[show l=[] from h];exact AQ8 _
 |k+1,[],_=>AZ8 _
 |k+1,p::l,⟨_,h⟩=>by
  have:=Nq k _ h
  rw[AU4]at this;simp only[AT5];omega
def WT:∀(d:Nat) (p:Pat),okP d p->okP (d+1) p
 |0,_,h=>h.elim
 |d+1,p,⟨h1,h2,h3⟩=>⟨h1,h2,fun i a=>WT d _ (h3 i a)⟩
def Kj {α : Type}{s:Sl α}{i:Nat}(h:i<s.n):s.g i∈s.toList:=AU2.2 ⟨i,AU9.2 h,rfl⟩
def N7 {α : Type}(s:Sl α):s.toList.length=s.n:=by simp[Sl.toList]
def Nr:∀(k:Nat) (l:List Pat),k<=40->chk k l->∀p∈l,okP k p
 |0,l,_,h,p,hp=>by rw[show l=[] from h]at hp;cases hp
 |k+1,[],_,_,p,hp=>by cases hp
 |k+1,q::l,hk,⟨hn,h⟩,p,hp=>by
  have ih:=Nr k _ (by omega) h;rcases AT9.1 hp with rfl|hp
  .have hl:=Nq k _ h;rw[AU4,N7]at hl;exact⟨by omega,fun a=>hn.2.2.2.2.1 a,fun i b=>ih _ (AT3 _ (Kj b))⟩
  exact WT k p (ih p (AS0 _ hp))
def Ao8 {N:Nat}{p:Pat}(hp:okS p.Is):∃e,Ka N p=some e/\(e=0↔Hl p):=by
 obtain⟨a,b,f⟩:=hp;have i:=Vn f;unfold Ka Hl;by_cases h1:0<=p.Kind/\p.Kind<=6
 case neg=>exact Ao ⟨2,rfl,by simp;omega⟩
 refine Ec ?_;have e0:((p.Is.Plus==0)&&(p.Is.Minus==0))=decide (p.Is.Plus=0/\p.Is.Minus=0):=by rw[AU3];simp
 rw[e0];by_cases c:p.Kind≠1->(p.Is.Plus=0/\p.Is.Minus=0)/\p.Not=false
 case neg=>
  refine ifT ?_ ⟨2,rfl,by simp[c]⟩;simp only[AQ7,AS6,bne_iff_ne,ne_eq,Be4,decide_eq_false_iff_not];rw[Classical.not_imp]at c;refine⟨c.1,?_⟩;by_cases h:p.Is.Plus=0/\p.Is.Minus=0
  .right
   cases hn:p.Not
   .exact Ln ⟨h,hn⟩ c.2
   rfl
  exact .inl h
 refine ifF ?_ (ltX ?_)
 .simp only[AQ7,AS6,bne_iff_ne,ne_eq,Be4,decide_eq_false_iff_not];rintro⟨g1,g2⟩;obtain⟨g3,g4⟩:=c g1;rcases g2 with g2|g2
  .exact g2 g3
  rw[g4]at g2;cases g2
 have rest:(p.Kind≠3->p.Kind≠4->p.Kind≠5->p.L.n=0)->∃e,(if ((p.Kind != 5)&&((p.Min != 0)||(p.Max != 0))) then some (2:Int)else
  lt (fun (z2:Bool)=>if z2 then some 2 else (Aa N p.Is).bind fun y1=>if (!y1) then some 14 else some 0) fun k2=>
   if (p.Kind==5) then if (((p.L.n:Nat):Int) != 1) then k2 true else if (decide (p.Min<0)) then k2 true else if (decide (32<p.Min)) then k2 true else
    if (p.Max != (-1)) then if (decide (p.Max<p.Min)) then k2 true else k2 (decide (32<p.Max))else k2 false else k2 false)=some e /\
  (e=0↔(0<=p.Kind/\p.Kind<=6)/\(p.Kind≠1->(p.Is.Plus=0/\p.Is.Minus=0)/\p.Not=false)/\(p.Kind≠3->p.Kind≠4->p.Kind≠5->p.L.n=0)/\(p.Kind≠5->p.Min=0/\p.Max=0) /\
   (p.Kind=5->p.L.n=1/\0<=p.Min/\p.Min<=32/\(p.Max = -1 \/ (p.Min<=p.Max/\p.Max<=32)))/\vS p.Is):=by
  intro j;by_cases d:p.Kind≠5->p.Min=0/\p.Max=0
  case neg=>refine ifT ?_ ⟨2,rfl,by simp[d]⟩;rw[Classical.not_imp]at d;simp only[AQ7,AS6,bne_iff_ne,ne_eq];omega
  refine ifF ?_ (ltX ?_)
  .simp only[AQ7,AS6,bne_iff_ne,ne_eq];rintro⟨g1,g2⟩
   have:=d g1
   omega
  have last:(p.Kind=5->p.L.n=1/\0<=p.Min/\p.Min<=32/\(p.Max = -1 \/ (p.Min<=p.Max/\p.Max<=32)))->∃e,(if false then some (2:Int)else (Aa N p.Is).bind fun y1=>if (!y1) then some 14 else some 0)=some e /\
   (e=0↔(0<=p.Kind/\p.Kind<=6)/\(p.Kind≠1->(p.Is.Plus=0/\p.Is.Minus=0)/\p.Not=false)/\(p.Kind≠3->p.Kind≠4->p.Kind≠5->p.L.n=0)/\(p.Kind≠5->p.Min=0/\p.Max=0) /\
    (p.Kind=5->p.L.n=1/\0<=p.Min/\p.Min<=32/\(p.Max = -1 \/ (p.Min<=p.Max/\p.Max<=32)))/\vS p.Is):=by
   intro g;refine Gx ?_;rw[i,f,PB];refine B1 rfl ?_;cases l:vB a b
   .exact ifT rfl ⟨14,rfl,by simp⟩
   exact Gx ⟨0,rfl,by rw[<- f];exact⟨fun _=>⟨h1,c,j,d,g,rfl⟩,fun _=>rfl⟩⟩
  have bad:¬(p.Kind=5->p.L.n=1/\0<=p.Min/\p.Min<=32/\(p.Max = -1 \/ (p.Min<=p.Max/\p.Max<=32)))->∃e,(if true then some (2:Int)else (Aa N p.Is).bind fun y1=>if (!y1) then some 14 else some 0)=some e /\
   (e=0↔(0<=p.Kind/\p.Kind<=6)/\(p.Kind≠1->(p.Is.Plus=0/\p.Is.Minus=0)/\p.Not=false)/\(p.Kind≠3->p.Kind≠4->p.Kind≠5->p.L.n=0)/\(p.Kind≠5->p.Min=0/\p.Max=0) /\
    (p.Kind=5->p.L.n=1/\0<=p.Min/\p.Min<=32/\(p.Max = -1 \/ (p.Min<=p.Max/\p.Max<=32)))/\vS p.Is):=fun g=>ifT rfl ⟨2,rfl,⟨fun h=>Ln h (by decide),fun h=>Ln h.2.2.2.2.1 g⟩⟩
  by_cases k5:p.Kind=5
  .refine ifT (by simp[k5]) ?_;by_cases g1:p.L.n=1
   case neg=>exact Ao (bad fun h=>g1 (h k5).1)
   refine Ec ?_;by_cases g2:p.Min<0
   .exact ifT (by simpa using g2) (bad fun h=>by have:=h k5;omega)
   refine ifF (by simpa using g2) ?_;by_cases g3:32<p.Min
   .exact ifT (by simpa using g3) (bad fun h=>by have:=h k5;omega)
   refine ifF (by simpa using g3) ?_;by_cases g4:p.Max = -1
   .exact ifF (by simp[g4]) (last fun _=>⟨g1,by omega,by omega,.inl g4⟩)
   refine ifT (by simp[g4]) ?_;by_cases g5:p.Max<p.Min
   .exact ifT (by simpa using g5) (bad fun h=>by have:=h k5;omega)
   refine ifF (by simpa using g5) ?_;by_cases g6:32<p.Max
   .rw[decide_eq_true g6];exact bad fun h=>by have:=h k5;omega
   rw[decide_eq_false g6];exact last fun _=>⟨g1,by omega,by omega,.inr ⟨by omega,by omega⟩⟩
  exact ifF (by simp[k5]) (last fun h=>Ln h k5)
 by_cases k3:p.Kind=3
 .exact ifF (by simp[k3]) (Gx (rest fun h=>Ln k3 h))
 refine ifT (by simp[k3]) ?_;by_cases k4:p.Kind=4
 .exact ifF (by simp[k4]) (Gx (rest fun _ h=>Ln k4 h))
 refine ifT (by simp[k4]) ?_;by_cases k5:p.Kind=5
 .exact ifF (by simp[k5]) (Gx (rest fun _ _ h=>Ln k5 h))
 refine ifT (by simp[k5]) ?_;by_cases hn:p.L.n=0
 .exact Ec (rest fun _ _ _=>hn)
 exact Ao ⟨2,rfl,⟨fun h=>Ln h (by decide),fun h=>Ln (h.2.2.1 k3 k4 k5) hn⟩⟩
def Cs {α : Type}(s:Sl α){i:Nat}(h:i<s.n):s.toList.drop i=s.g i::s.toList.drop (i+1):=by
 have hl:i<s.toList.length:=by rw[N7];exact h
 rw[AZ9 hl];simp[Sl.toList]
def Ae {α : Type}(s:Sl α):s.toList.drop s.n=[]:=AY0 (by rw[N7];exact AQ8 _)
def Ab2 {N:Nat}(o:1000<=N):∀(d:Nat),d<=40->∀(p:Pat),okPS p->∀M,N+d+1<=M->∃r,EW M p ((40-d:Nat):Int)=some r /\
 ∃k:Nat,r.1=(k:Int)/\40-d<=k/\k<=40/\(r.2=0->40-d<k/\∀l,chk d (p::l)↔chk (40-k) l)/\(r.2≠0->∀l,¬chk d (p::l))
 |d,hd,p,hp,0,hM=>by omega
 |0,hd,p,hp,M+1,hM=>by show ∃r,CJ (EW M) M p _=some r/\_;unfold CJ;exact Aq ⟨_,rfl,40,rfl,by omega,by omega,fun h=>Ln h (by decide),fun _ l h=>by cases h⟩
 |d+1,hd,p,hp,M+1,hM=>by
  show ∃r,CJ (EW M) M p _=some r/\_;unfold CJ;refine Ec ?_;obtain⟨e,q,hn⟩:=Ao8 (N:=M) hp.is;refine B1 q ?_;by_cases c:e=0
  case neg=>exact ifT (by simp[c]) ⟨_,rfl,40-(d+1),rfl,AQ8 _,by omega,fun h=>Ln h c,fun _ l h=>c (hn.2 h.1)⟩
  refine ifF (by simp[c]) ?_;have a:=hn.1 c;rw[Hi];refine T1 (fun i x1 x2=>x2=(i:Int)/\∃k:Nat,x1=(k:Int)/\40-(d+1)+1+i<=k/\k<=40/\i<=p.L.n/\∀l,chk (d+1) (p::l)↔chk (40-k) (p.L.toList.drop i++l)) 41 _ (by omega)
   ⟨rfl,40-(d+1)+1,rfl,by omega,by omega,by omega,fun l=>by rw[show 40-(40-(d+1)+1)=d by omega];exact⟨fun h=>h.2,fun h=>⟨a,h⟩⟩⟩ ?_
  rintro j i x1 x2 t ⟨rfl,k,rfl,h1,s,u,f⟩ hs;by_cases hl:i<p.L.n
  .refine Ao (An ?_);obtain⟨r,m,k',r1,r2,r3,r4,r5⟩:=Ab2 o (40-k) (by omega) (p.L.g i) (hp.L hl) M (by omega);rw[show ((40-(40-k):Nat):Int)=(k:Int) by omega]at m;refine B1 (by rw[AQ4];exact m) ?_;by_cases b:r.2=0
   .refine ifF (by simp[b]) (hs (by omega) _ _ ⟨Hi,k',r1,by have:=(r4 b).1;omega,r3,by omega,fun l=>?_⟩);rw[f,Cs _ hl,AV2];exact (r4 b).2 _
   refine ifT (by simp[b]) ⟨_,rfl,k',r1,by omega,r3,fun h=>Ln h b,fun _ l hc=>?_⟩;rw[f,Cs _ hl,AV2]at hc;exact r5 b _ hc
  obtain rfl:i=p.L.n:=by omega
  refine Gx ⟨_,rfl,k,rfl,by omega,s,fun _=>⟨by omega,fun l=>?_⟩,fun h=>Ln rfl h⟩;rw[f,Ae];rfl
def Ns {N:Nat}(f:2000<=N){p:Pat}(hp:okPS p):∃e,DK N p=some e/\(e=0↔chk 40 [p]):=by
 obtain⟨r,b,k,h1,g,i,c,d⟩:=Ab2 (N:=1500) (by omega) 40 (AQ8 _) p hp N (by omega);unfold DK;refine B1 b ⟨_,rfl,fun h=>?_,fun h=>?_⟩
 .exact ((c h).2 []).2 (Ab1 _)
 by_cases a:r.2=0
 .exact a
 exact Ln h (d a [])
end Go.AM
namespace Go.AM
open Go.Proofs
def Ab3 (x:BitVec 64)(h:x≠0#64):Lib.ctz 64 x.toNat<64/\x.getLsbD (Lib.ctz 64 x.toNat)=true/\∀j,j<Lib.ctz 64 x.toNat->x.getLsbD j=false:=by
 have b:x.toNat≠0:=fun e=>h (AV0 (by simpa using e));obtain⟨m,hm,a⟩:=Lib.ctzFrom_spec 64 x.toNat (by omega) x.isLt;have e:Lib.ctz 64 x.toNat=Lib.ctzFrom 64 x.toNat:=by unfold Lib.ctz;rw[Lm b]
 rw[e];refine⟨a,?_,fun j hj=>?_⟩
 .show x.toNat.testBit _=true;rw[hm,Bg5];simp[<- hm,Nat.testBit_zero]
 show x.toNat.testBit _=false;rw[hm,Bg5];simp[<- hm];omega
def FF (x:BitVec 64)(i:Nat):List Int:=((List.range' i (64-i)).filter fun j=>x.getLsbD j).map fun (j:Nat)=>(j:Int)
def Kk {x:BitVec 64}{i:Nat}(h:∀j,j<64->x.getLsbD j=false):FF x i=[]:=by
 unfold FF;rw[Bh2.2 fun j hj=>by
  have:=List.mem_range'.1 hj
  simp;exact h j (by omega)]
 rfl
def PC {x:BitVec 64}{t:Nat}:∀(k i:Nat),t=i+k->t<64->x.getLsbD t=true->(∀j,j<t->x.getLsbD j=false)->FF x i=(t:Int)::FF x (t+1)
 |0,i,h,ht,hb,hl=>by
  obtain rfl:t=i:=by omega
  unfold FF;rw[show 64-t=(64-(t+1))+1 by omega,Bc6,Bg6 hb];rfl
 |k+1,i,h,ht,hb,hl=>by rw[<- PC k (i+1) (by omega) ht hb hl];unfold FF;rw[show 64-i=(64-(i+1))+1 by omega,Bc6,Bg7 (by simp;exact hl i (by omega))]
def Vo {x y:BitVec 64}{i:Nat}(h:∀j,i<=j->x.getLsbD j=y.getLsbD j):FF x i=FF y i:=by unfold FF;rw[List.filter_congr fun j hj=>h j (by have:=List.mem_range'.1 hj;omega)]
def AP8 (M:Nat)(a:Int->Option (List Int))(x1:Int):Option (List Int):= if (x1 != 0) then (G5 M x1).bind fun y3=>if (0:Int)<=y3 then Y4 y3 (a (G7 .andNot .u64 x1 (shI .shl .u64 1 y3))) else none else some []
def Ab4 {x:BitVec 64}{M:Nat}{a:Int->Option (List Int)}(hx:x≠0#64):AP8 M a (U x)=Y4 ((Lib.ctz 64 x.toNat:Nat):Int) (a (U (x &&& ~~~(1#64 <<< Lib.ctz 64 x.toNat)))):=by
 have c:x.toNat≠0:=fun e=>hx (AV0 (by simpa using e));have b:=x.isLt;unfold AP8;rw[Ia]
 have:G5 M (U x)=some ((Lib.ctz 64 x.toNat:Nat):Int):=by unfold G5;rw[Ll ⟨show (0:Int)<=(x.toNat:Int) by omega,show (x.toNat:Int)<18446744073709551616 by omega⟩];rfl
 rw[this,AQ6,Hj,Tj _ (Ab3 x hx).1,An7]
def TA {M:Nat}{a:Int->Option (List Int)}:AP8 M a (U 0#64)=some []:=rfl
def AD1 (M:Nat):∀(k i:Nat) (x:BitVec 64),64-i<=k->(∀j,j<i->x.getLsbD j=false)->∀N,k<N->S3 N (AP8 M) (U x)=some (FF x i):=by
 intro k
 induction k with
 |zero=>
  intro i x hk hl N a;have f:x=0#64:=AW3 fun j hj=>by simp;exact hl j (by omega)
  subst f
  match N,a with
  |N+1,_=>rw[Kk fun j hj=>by simp,BD,TA]
 |succ k ih=>
  intro i x hk hl N a
  match N,a with
  |N+1,a=>
   by_cases hx:x=0#64
   .subst hx;rw[Kk fun j hj=>by simp,BD,TA]
   obtain⟨h1,b,c⟩:=Ab3 x hx;have g:i<=Lib.ctz 64 x.toNat:=by
    by_cases l:Lib.ctz 64 x.toNat<i
    .rw[hl _ l]at b;cases b
    omega
   rw[PC (Lib.ctz 64 x.toNat-i) i (by omega) h1 b c,BD,Ab4 hx];generalize Lib.ctz 64 x.toNat=t at h1 b c g;have hb:∀j,j<64->(x &&& ~~~(1#64 <<< t)).getLsbD j=(x.getLsbD j && !decide (j=t)):=fun j hj=>by rw[AS4,AW1,GC h1 hj];simp[hj]
   have hc:FF x (t+1)=FF (x &&& ~~~(1#64 <<< t)) (t+1):=Vo fun j hj=>by
    by_cases d:j<64
    .rw[hb j d];have:¬j=t:=by omega
     simp[this]
    rw[Bi6 _ _ (by omega),Bi6 _ _ (by omega)]
   rw[ih (t+1) (x &&& ~~~(1#64 <<< t)) (by omega) (fun j hj=>by
    rw[hb j (by omega)];by_cases e:j=t
    .simp[e]
    rw[c j (by omega)];rfl) N (by omega),<- hc]
   rfl
def Ii (x:BitVec 64){N:Nat}(a:100<=N):Q7 N (U x)=some (FF x 0):=
 AD1 N 64 0 x (by omega) (fun j hj=>Ln hj (by omega)) N (by omega)
def mem_bitsF {x:BitVec 64}{i:Nat}{y:Int}:y∈FF x i ↔ ∃j:Nat,y=(j:Int)/\i<=j/\j<64/\x.getLsbD j=true:=by
 unfold FF;simp only[AU2,Bd6,Bg2];constructor
 .rintro⟨j,⟨h1,a⟩,rfl⟩;exact⟨j,rfl,h1.1,by omega,a⟩
 rintro⟨j,rfl,h1,a,b⟩;exact⟨j,⟨⟨h1,by omega⟩,b⟩,rfl⟩
def Ao9 {T A R:Type}{body:(A->Option R)->T->A->Option R}{k:A->Option R}{I8:R->Prop}(J:List T->A->Prop)(c:∀a,J [] a->∃r,k a=some r/\I8 r)
 (b:∀t L a self,J (t::L) a->(∀a',J L a' -> ∃r,self a' = some r/\I8 r)->∃r,body self t a=some r/\I8 r):∀(L:List T) (a:A),J L a->∃r,O1 L body k a=some r/\I8 r
 |[],a,h=>c a h
 |t::L,a,h=>b t L a _ h fun a' h'=>Ao9 J c b L a' h'
def TabA (n:Nat)(R:Nat->Nat->Prop)(f:Nat->Int):Prop:=TabR n R f/\∀a,n<a->f a=0
def TabA.congr {n:Nat}{R R' : Nat->Nat->Prop}{f:Nat->Int}(h:TabA n R f)(c:∀a b,a<=n->b<=n->(R a b↔R' a b)):TabA n R' f:=⟨h.1.congr c,h.2⟩
def zeroA (n:Nat):TabA n (fun _ _=>False) (fun _=>0):=⟨Ao3 fun _ _=>rfl,fun _ _=>rfl⟩
def El (f:Nat->Int)(i:Nat)(v:Int)(a:Nat):Hw f i v a=if a=i then v else f a:=rfl
def Av2 {N n:Nat}{R S:Nat->Nat->Prop}{x y:Nat->Int}(hn:n<=32)(f:1000<=N)(hR:TabA n R x)(hS:TabA n S y) :∃s,N5 N x y=some s/\TabA n (fun a b=>R a b \/ S a b) s:=by
 unfold N5;refine T1 (fun i x1 x2=>x2=(i:Int)/\∀a,x1 a=if a<i then G7 .or .u64 (x a) (y a)else x a) 33 _ (by omega) ⟨rfl,fun a=>by rw[Jd]⟩ ?_;rintro d i x1 x2 g ⟨rfl,c⟩ hs;by_cases hl:i<33
 .refine Ao (An (An (hs (by omega) _ _ ⟨Hi,fun a=>?_⟩)));rw[El,AQ4,AT6,AV9];by_cases e:a=i
  .subst e;rw[Ll rfl,Hj,c a,Jd]
  rw[Lm e,c a];by_cases e2:a<i
  .rw[Ll e2,Hj]
  rw[Lm e2,Jd]
 refine Ec ⟨x1,rfl,fun a ha=>?_,fun a ha=>?_⟩
 .obtain⟨u,e1,g1⟩:=hR.1 a ha;obtain⟨v,e2,g2⟩:=hS.1 a ha;refine⟨u ||| v,by rw[c a,Hj,e1,e2,AP7],fun b hb=>?_⟩;rw[AS3,AS6,g1 b hb,g2 b hb];constructor
  .rintro (⟨h1,c⟩ | ⟨h1,c⟩)
   .exact⟨h1,.inl c⟩
   exact⟨h1,.inr c⟩
  rintro⟨h1,c|c⟩
  .exact .inl ⟨h1,c⟩
  exact .inr ⟨h1,c⟩
 rw[c a];split
 .rw[hR.2 a ha,hS.2 a ha];rfl
 exact hR.2 a ha
def GM {N n:Nat}(hn:n<=32)(f:1000<=N):∃s,P8 N (n:Int)=some s/\TabA n (fun a b=>a=b) s:=by
 unfold P8;rw[Hi];refine T1 (fun i x1 x2=>x2=(i:Int)/\∀a,x1 a=if a<i then U (1#64 <<< a)else 0) (n+1) _ (by omega) ⟨rfl,fun a=>rfl⟩ ?_;rintro d i x1 x2 g ⟨rfl,c⟩ hs;by_cases hl:i<=n
 .refine Ao (An (hs (by omega) _ _ ⟨Hi,fun a=>?_⟩));rw[El,AQ4,AT6,AV9];by_cases e:a=i
  .subst e;rw[Ll rfl,Hj,Tj _ (by omega)]
  rw[Lm e,c a];by_cases e2:a<i
  .rw[Ll e2,Hj]
  rw[Lm e2,Jd]
 refine Ec ⟨x1,rfl,fun a ha=>⟨1#64 <<< a,by rw[c a,Hj],fun b hb=>?_⟩,fun a ha=>by rw[c a,Jd]⟩;rw[GC (by omega) hb,Mw];omega
def LM {N n:Nat}{R S:Nat->Nat->Prop}{x y:Nat->Int}(hn:n<=32)(hN:1000<=N)(hR:TabA n R x)(hS:TabA n S y) :∃s,D5 N x y=some s/\TabA n (fun a b=>∃c,c<=n/\R a c/\S c b) s:=by
 unfold D5;refine T1 (fun i x3 x4=>x4=(i:Int)/\(∀a,a<i->a<=n->∃z:BitVec 64,x3 a=U z/\∀b,b<64->(z.getLsbD b=true↔b<=n/\∃c,c<=n/\R a c/\S c b))/\∀a,i<=a \/ n<a->x3 a=0) 33 _ (by omega)
  ⟨rfl,fun a ha=>Ln ha (by omega),fun a _=>rfl⟩ ?_
 rintro a0 i x3 x4 hi ⟨rfl,o,m⟩ hs;by_cases hl:i<33
 .refine Ao (An ?_);rw[AQ4,AT6,AV9];refine B1 (x:=x i) rfl ?_;by_cases q:i<=n
  .obtain⟨u,e1,g1⟩:=hR.1 i q;refine B1 (x:=FF u 0) (by rw[e1];exact Ii u (by omega)) ?_;refine Ao9 (fun L z=>(∀a,a≠i->z a=x3 a)/\(∀t∈L,∃c:Nat,t=(c:Int)/\c<=n/\R i c)/\∃v:BitVec 64,z i=U v/\∀b,b<64->((v.getLsbD b=true \/ ∃c:Nat,(c:Int)∈L/\b<=n/\S c b)↔(b<=n/\∃c,c<=n/\R i c/\S c b))) ?_ ?_ _ _ ?_
   .rintro z ⟨k1,k2,v,k3,k4⟩;refine hs (by omega) _ _ ⟨Hi,fun a ha f=>?_,fun a ha=>?_⟩
    .by_cases e:a=i
     .subst e;exact⟨v,k3,fun b hb=>by rw[<- k4 b hb];simp⟩
     obtain⟨z',p1,p2⟩:=o a (by omega) f;exact⟨z',by rw[k1 a e];exact p1,p2⟩
    rw[k1 a (by omega)];exact m a (by omega)
   .rintro t L z r ⟨k1,k2,v,k3,k4⟩ w;obtain⟨c,rfl,hc,a1⟩:=k2 t (by simp);refine An (w _ ⟨fun a ha=>?_,fun t ht=>k2 t (by simp[ht]),?_⟩)
    .rw[El,Jd];exact k1 a ha
    obtain⟨yc,e2,g2⟩:=hS.1 c hc;refine⟨v ||| yc,?_,fun b hb=>?_⟩
    .rw[El,Hj];simp only[AQ4,AT6,AV9];rw[k3,e2,AP7]
    rw[<- k4 b hb,AS3,AS6,g2 b hb];constructor
    .rintro ((h|⟨h,h'⟩)|⟨c',h,h'⟩)
     .exact .inl h
     .exact .inr ⟨c,by simp,h,h'⟩
     exact .inr ⟨c',by simp[h],h'⟩
    rintro (h|⟨c',h,h',d⟩)
    .exact .inl (.inl h)
    rcases AT9.1 h with h|h
    .have:c' = c:=by omega
     subst this;exact .inl (.inr ⟨h',d⟩)
    exact .inr ⟨c',h,h',d⟩
   refine⟨fun _ _=>rfl,fun t ht=>?_,0#64,m i (.inl (AQ8 _)),fun b hb=>?_⟩
   .obtain⟨j,rfl,_,hj,hb⟩:=mem_bitsF.1 ht;exact⟨j,rfl,((g1 j hj).1 hb).1,((g1 j hj).1 hb).2⟩
   simp only[Bf3,AR0,false_or];constructor
   .rintro⟨c,hc,h,h'⟩;obtain⟨j,hj,_,g,l⟩:=mem_bitsF.1 hc;obtain rfl:c=j:=by omega
    exact⟨h,c,((g1 c g).1 l).1,((g1 c g).1 l).2,h'⟩
   rintro⟨h,c,hc,h',d⟩;exact⟨c,mem_bitsF.2 ⟨c,rfl,by omega,by omega,(g1 c (by omega)).2 ⟨hc,h'⟩⟩,h,d⟩
  refine B1 (x:=[]) (by rw[hR.2 i (by omega)];exact (Ii 0#64 (by omega)).trans (by rw[Kk fun j hj=>by simp])) ?_;exact hs (by omega) _ _ ⟨Hi,fun a ha f=>o a (by omega) f,fun a ha=>m a (by omega)⟩
 exact Ec ⟨x3,rfl,fun a ha=>o a (by omega) ha,fun a ha=>m a (.inr ha)⟩
def Ap0 (N:Nat)(x:Nat->Int):I6 N x=D5 N x x:=rfl
end Go.AM
namespace Go.AM
variable {N:Nat}
open Go.Proofs
def AN4:∀m:Fin 33,(G7 .and .i64 ((m.val:Nat):Int) 1==1)=decide (m.val % 2=1)/\shI .shr .i64 ((m.val:Nat):Int) 1=((m.val / 2:Nat):Int):=by decide +kernel
def TB {N n:Nat}{R:Nat->Nat->Prop}{x:Nat->Int}(hn:n<=32)(o:1000<=N)(u:Fwd n R)(hR:TabA n R x){k:Nat}(hk:k<=32) :∃s,F8 N x (k:Int) (n:Int)=some s/\TabA n (HH n R k) s:=by
 unfold F8;obtain⟨y1,e1,h1⟩:=GM (N:=N) hn o;refine B1 e1 ?_;refine Yi (fun i x1 x2 x3=>x1=((k / 2 ^ i:Nat):Int)/\TabA n (HH n R (2 ^ i)) x2/\TabA n (HH n R (k % 2 ^ i)) x3) 6 _ (by omega) ⟨by simp,?_,?_⟩ ?_
 .exact hR.congr fun a b ha hb=>⟨fun h=>⟨a,ha,rfl,h⟩,fun⟨c,hc,(h:a=c),h'⟩=>h ▸ h'⟩
 .rw[Nat.pow_zero,Bk3];exact h1
 rintro v i x1 x2 x3 w ⟨rfl,q,l⟩ hs;have hm:k / 2 ^ i<=32:=AW5 (Nat.div_le_self _ _) hk;obtain⟨b1,b2⟩:=AN4 ⟨k / 2 ^ i,by omega⟩;simp only at b1 b2;have f:k / 2 ^ i / 2=k / 2 ^ (i+1):=by rw[Nat.div_div_eq_div_mul,Nat.pow_succ]
 have g:k % 2 ^ (i+1)=k % 2 ^ i+2 ^ i*(k / 2 ^ i % 2):=Nat.mod_pow_succ;have d:∃s,I6 N x2=some s/\TabA n (HH n R (2 ^ (i+1))) s:=by obtain⟨s,e,h⟩:=LM hn o q q;refine⟨s,(Ap0 N x2).trans e,h.congr fun a b ha hb=>?_⟩;rw[show 2 ^ (i+1)=2 ^ i+2 ^ i by rw[Nat.pow_succ];omega];exact (Eg u (2 ^ i) ha (2 ^ i) b).symm
 obtain⟨sq,esq,d⟩:=d;by_cases m:k / 2 ^ i=0
 .refine ifF (by simp[m]) ⟨x3,rfl,?_⟩
  have:k % 2 ^ i=k:=AX7 (by
   have:=Bi8.1 m
   rcases this with h|h
   .exact Ln h (Nat.ne_of_gt (Nat.two_pow_pos i))
   exact h)
  rw[this]at l;exact l
 have j:i<6:=by
  by_cases h:i<6
  .exact h
  exact Ln (AY8 (Bj8 hk (AT0 (by decide:32<2 ^ 6) (Ba1 (by omega) (by omega))))) m
 refine ifT (decide_eq_true (Int.natCast_pos.2 (Bi9 m))) ?_;by_cases r:k / 2 ^ i % 2=1
 .refine ifT (by rw[b1];simp[r]) ?_;obtain⟨t,et,ht⟩:=LM hn o l q;refine B1 et (B1 esq (hs j _ _ _ ⟨by rw[b2,f],d,ht.congr fun a b ha hb=>?_⟩));rw[g,r,AV9];exact (Eg u (k % 2 ^ i) ha (2 ^ i) b).symm
 refine ifF (by rw[b1];simp[r]) (B1 esq (hs j _ _ _ ⟨by rw[b2,f],d,?_⟩));rw[g,show k / 2 ^ i % 2=0 by omega,Nat.mul_zero,AX6];exact l
def AD2 {s c:Tb}(hs:okS s)(hc:okS c):((G7 .or .u32 (G7 .andNot .u32 c.Plus s.Plus) (G7 .andNot .u32 c.Minus s.Minus))==0)=Vb s c:=by
 obtain⟨p,m,rfl⟩:=hs;obtain⟨a,b,rfl⟩:=hc;have e:∀x y:BitVec 32,((G7 .and .u32 (x.toNat:Int) (y.toNat:Int))==(y.toNat:Int))=decide (y &&& ~~~ x=0#32):=by
  intro x y;rw[Fl,AU3];simp only[beq_iff_eq,Mw];constructor
  .intro h;have h:x &&& y=y:=AV0 (by omega);refine (z32 _).2 fun i d=>?_
   have:=congrArg (·.getLsbD i) h
   simp only[AS4,AW1,d,decide_true,Bd4]at this⊢;cases hx:x.getLsbD i<;>cases hy:y.getLsbD i<;>simp_all
  intro h
  have:x &&& y=y:=Jr fun i d=>by
   have:=(z32 _).1 h i d
   simp only[AS4,AW1,d,decide_true,Bd4]at this⊢;cases hx:x.getLsbD i<;>cases hy:y.getLsbD i<;>simp_all
  rw[this]
 unfold Vb;simp only[e,EJ,KK,eq0];rw[AU3];simp only[AQ7,Mw];constructor
 .intro h;have h:=(z32 _).1 h;exact⟨(z32 _).2 fun i d=>by have:=h i d;rw[AS3,Ba2]at this;exact this.1,(z32 _).2 fun i d=>by have:=h i d;rw[AS3,Ba2]at this;exact this.2⟩
 rintro⟨h1,f⟩;rw[h1,f];rfl
def Ab5 (q:1000<=N){w:Sl Tb}(hw:w.n<=32)(l:∀i,i<w.n->okS (w.g i)){c:Tb}(hc:okS c)(no:Bool) :∃f,Z2 N ⟨c,no⟩ w=some f/\TabA w.n (fun a b=>a<w.n/\b=a+1/\(Vb (w.g a) c != no)=true) f:=by
 unfold Z2;refine T1 (fun i x1 x2=>x2=(i:Int)/\∀a,x1 a=if a<i/\(Vb (w.g a) c != no) then U (1#64 <<< (a+1))else 0) w.n _ (by omega) ⟨rfl,fun a=>by rw[Jd]⟩ ?_;rintro m i x1 x2 r ⟨rfl,d⟩ hs;by_cases hl:i<w.n
 .refine Ao (An ?_);rw[AQ4,AD2 (l i hl) hc];by_cases hb:(Vb (w.g i) c != no)=true
  .refine ifT (by revert hb;cases Vb (w.g i) c<;>cases no<;>simp) ?_;rw[Hi];refine An (hs hl _ _ ⟨rfl,fun a=>?_⟩);rw[El,AT6,AV9,Tj _ (by omega)];by_cases e:a=i
   .subst e;rw[Ll rfl,Ll ⟨by omega,hb⟩]
   rw[Lm e,d a];by_cases e2:a<i
   .simp only[e2,show a<i+1 by omega,true_and]
   rw[Jd,Jd]
  refine ifF (by revert hb;cases Vb (w.g i) c<;>cases no<;>simp) (hs hl _ _ ⟨Hi,fun a=>?_⟩);rw[d a];by_cases e:a=i
  .subst e;rw[Jd,Lm (fun h=>hb h.2)]
  by_cases e2:a<i
  .simp only[e2,show a<i+1 by omega,true_and]
  rw[Jd,Jd]
 refine Ec ⟨x1,rfl,fun a ha=>?_,fun a ha=>by rw[d a,Jd]⟩;by_cases hb:a<w.n/\(Vb (w.g a) c != no)=true
 .refine⟨1#64 <<< (a+1),by rw[d a,Ll ⟨by omega,hb.2⟩],fun b j=>?_⟩;rw[GC (by omega) j,Mw];exact⟨fun h=>⟨by omega,hb.1,h,hb.2⟩,fun h=>h.2.2.1⟩
 refine⟨0#64,by rw[d a,Lm (fun h=>hb ⟨by omega,h.2⟩)];rfl,fun b j=>?_⟩;simp only[Bf3,AR0,false_iff];rintro⟨_,h1,d,o⟩;exact hb ⟨h1,o⟩
def Ab6 {n a0 b0:Nat}(ha:a0<=n)(hb:b0<=n)(hn:n<=32):TabA n (fun a b=>a=a0/\b=b0) (Hw (fun _=>0) a0 (U (1#64 <<< b0))):=by
 refine⟨fun a d=>?_,fun a d=>by rw[El,Jd]⟩;by_cases e:a=a0
 .refine⟨1#64 <<< b0,by rw[El,Ll e],fun b c=>?_⟩;rw[GC (by omega) c,Mw];omega
 refine⟨0#64,by rw[El,Lm e];rfl,fun b c=>?_⟩;simp only[Bf3,AR0,false_iff];exact fun h=>e h.2.1
def WU {w:Sl Tb}(hw:w.n<=32)(e:Bool):∃f,Bd N ⟨e⟩ w=some f/\TabA w.n (fun a b=>a=(if e then w.n else 0)/\b=(if e then w.n else 0)) f:=by
 unfold Bd;cases e
 .refine Gx (Da ⟨_,rfl,?_⟩);exact Ab6 (n:=w.n) (a0:=0) (b0:=0) (by omega) (by omega) hw
 refine ifT rfl (An ⟨_,rfl,?_⟩);rw[AQ4,AT6,AV9,Tj _ (by omega)];exact Ab6 (AQ8 _) (AQ8 _) hw
def AD3 (a:1000<=N){w:Sl Tb}(hw:w.n<=32){rec:Part->Sl Tb->Option (Nat->Int)}{m:Nat}(hm:m<=40){g:Nat->Part}{Q:Nat->Nat->Nat->Prop}
 (hc:∀i,i<m->∃f,rec (g i) w=some f/\TabA w.n (Q i) f):∃f,BK rec N ⟨⟨m,g⟩⟩ w=some f/\TabA w.n (Ye w.n Q m) f:=by
 unfold BK;obtain⟨y1,e1,h1⟩:=GM (N:=N) hw a;refine B1 e1 ?_;refine T1 (fun i x1 x2=>x2=(i:Int)/\i<=m/\TabA w.n (Ye w.n Q i) x1) m _ (by omega) ⟨rfl,by omega,h1⟩ ?_;rintro b i x1 x2 o ⟨rfl,d,c⟩ hs;by_cases hl:i<m
 .refine Ao (ifT (by show (0:Int)<=i/\(i:Int)<m;omega) ?_);obtain⟨f,e2,j⟩:=hc i hl;refine B1 (by rw[AQ4];exact e2) ?_;obtain⟨s,e3,l⟩:=LM hw a c j;exact B1 e3 (hs hl _ _ ⟨Hi,hl,l⟩)
 obtain rfl:i=m:=by omega
 exact Gx ⟨x1,rfl,c⟩
def AD4 (l:1000<=N){w:Sl Tb}(hw:w.n<=32){rec:Part->Sl Tb->Option (Nat->Int)}{m:Nat}(hm:m<=40){g:Nat->Part}{Q:Nat->Nat->Nat->Prop}
 (hc:∀i,i<m->∃f,rec (g i) w=some f/\TabA w.n (Q i) f):∃f,BL rec N ⟨⟨m,g⟩⟩ w=some f/\TabA w.n (fun a b=>∃i,i<m/\Q i a b) f:=by
 unfold BL;refine T1 (fun i x1 x2=>x2=(i:Int)/\i<=m/\TabA w.n (fun a b=>∃j,j<i/\Q j a b) x1) m _ (by omega) ⟨rfl,by omega,(zeroA _).congr fun a b _ _=>⟨False.elim,fun⟨j,h,_⟩=>Ln h (by omega)⟩⟩ ?_;rintro c i x1 x2 t ⟨rfl,o,d⟩ hs;by_cases hl:i<m
 .refine Ao (ifT (by show (0:Int)<=i/\(i:Int)<m;omega) ?_);obtain⟨f,e2,q⟩:=hc i hl;refine B1 (by rw[AQ4];exact e2) ?_;obtain⟨s,e3,r⟩:=Av2 hw l d q;refine B1 e3 (hs hl _ _ ⟨Hi,hl,r.congr fun a b _ _=>⟨?_,?_⟩⟩)
  .rintro (⟨j,h,h'⟩ | h)
   .exact⟨j,by omega,h'⟩
   exact⟨i,by omega,h⟩
  rintro⟨j,h,h'⟩;by_cases e:j=i
  .subst e;exact .inr h'
  exact .inl ⟨j,by omega,h'⟩
 obtain rfl:i=m:=by omega
 exact Gx ⟨x1,rfl,d⟩
end Go.AM
namespace Go.AM
open Go.Proofs
def AD5 {N:Nat}(i:1000<=N){w:Sl Tb}(hw:w.n<=32){rec:Part->Sl Tb->Option (Nat->Int)}{pt:Part}{Q:Nat->Nat->Prop}(d:Fwd w.n Q){f:Nat->Int}(r:rec pt w=some f)(q:TabA w.n Q f)
 {mn mx:Int}(x:0<=mn) (h1:mn<=32) (y:mx = -1 \/ (mn<=mx/\mx<=32)) :
 ∃s,BM rec N ⟨pt,mn,mx⟩ w=some s/\TabA w.n (fun a b=>∃k:Nat,mn<=k/\(mx = -1 \/ (k:Int)<=mx)/\HH w.n Q k a b) s:=by
 obtain⟨m,rfl⟩:∃m:Nat,mn=(m:Int):=⟨mn.toNat,by omega⟩;unfold BM;refine B1 r ?_;obtain⟨y2,e2,t2⟩:=TB hw i d q (k:=m) (by omega);refine B1 e2 ?_;obtain⟨y3,e3,t3⟩:=GM (N:=N) hw i;refine B1 e3 ?_;obtain⟨y4,e4,t4⟩:=Av2 hw i q t3;refine B1 e4 ?_;have l : Fwd w.n (fun a b=>Q a b \/ a=b):=fun a b ha h=>by
  rcases h with h|h
  .exact d a b ha h
  omega
 have key:∀(K:Nat),K<=32->∃s,((F8 N y4 (K:Int) (w.n:Int)).bind fun y5=>(D5 N y2 y5).bind fun y6=>some y6)=some s/\TabA w.n (fun a b=>∃j,j<=K/\HH w.n Q (m+j) a b) s:=by
  intro K u;obtain⟨y5,e5,t5⟩:=TB hw i l t4 (k:=K) u;refine B1 e5 ?_;obtain⟨y6,e6,t6⟩:=LM hw i t2 t5;refine B1 e6 ⟨y6,rfl,t6.congr fun a b ha hb=>?_⟩;constructor
  .rintro⟨c,hc,g1,g2⟩;obtain⟨j,hj,g3⟩:=(MS d hc K b).1 g2;exact⟨j,hj,(Eg d m ha j b).2 ⟨c,hc,g1,g3⟩⟩
  rintro⟨j,hj,g⟩;obtain⟨c,hc,g1,g3⟩:=(Eg d m ha j b).1 g;exact⟨c,hc,g1,(MS d hc K b).2 ⟨j,hj,g3⟩⟩
 by_cases hx:mx<0
 .refine ifT (decide_eq_true hx) ?_;obtain⟨s,e,t⟩:=key w.n hw;refine⟨s,e,t.congr fun a b ha hb=>?_⟩;constructor
  .rintro⟨j,hj,g⟩;exact⟨m+j,by omega,.inl (by omega),g⟩
  rintro⟨k,hk,_,g⟩;obtain⟨c,hc,g1,g3⟩:=(Eg d m ha (k-m) b).1 (by rw[show m+(k-m)=k by omega];exact g);obtain⟨j,hj,g4⟩:=Tl d hc (k-m) g3;exact⟨j,hj,(Eg d m ha j b).2 ⟨c,hc,g1,g4⟩⟩
 refine ifF (by simpa using hx) ?_;obtain⟨M,rfl⟩:∃M:Nat,mx=(M:Int):=⟨mx.toNat,by omega⟩;have o:IntKind.i64.wrap ((M:Int)-(m:Int))=((M-m:Nat):Int):=by rw[E6 (by omega) (by omega)];omega
 rw[show IntKind.i64.wrap ((⟨pt,(m:Int),(M:Int)⟩:AM6).max-(⟨pt,(m:Int),(M:Int)⟩:AM6).min)=((M-m:Nat):Int) from o];obtain⟨s,e,t⟩:=key (M-m) (by omega);refine⟨s,e,t.congr fun a b ha hb=>?_⟩;constructor
 .rintro⟨j,hj,g⟩;exact⟨m+j,by omega,.inr (by omega),g⟩
 rintro⟨k,hk,v,g⟩;exact⟨k-m,by omega,by rw[show m+(k-m)=k by omega];exact g⟩
def okQ:Nat->Pat->Prop
 |0,_=>False
 |d+1,p=>Hl p/\p.L.n<=40/\∀i,i<p.L.n->okQ d (p.L.g i)
def WV:∀(d:Nat) (p:Pat),okQ d p->okQ (d+1) p
 |0,_,h=>h.elim
 |d+1,p,⟨h1,h2,h3⟩=>⟨h1,h2,fun i a=>WV d _ (h3 i a)⟩
def Ab7:∀(k:Nat) (l:List Pat),k<=40->chk k l->∀p∈l,okQ k p
 |0,l,_,h,p,hp=>by rw[show l=[] from h]at hp;cases hp
 |k+1,[],_,_,p,hp=>by cases hp
 |k+1,q::l,hk,⟨hn,h⟩,p,hp=>by
  have ih:=Ab7 k _ (by omega) h;rcases AT9.1 hp with rfl|hp
  .have hl:=Nq k _ h;rw[AU4,N7]at hl;exact⟨hn,by omega,fun i a=>ih _ (AT3 _ (Kj a))⟩
  exact WV k p (ih p (AS0 _ hp))
def vS.ok {s:Tb}(h:vS s):okS s:=by obtain⟨p,m,e,_⟩:=h;exact⟨p,m,e⟩
def AD6 (K:Nat)(p:Pat)(pt:Part):Prop:=∀(w:Sl Tb),w.n<=32->(∀i,i<w.n->okS (w.g i))->∀M,K<=M->∃f,Bf M pt w=some f/\TabA w.n (PR w p) f
def Nt {N:Nat}(v:1000<=N):∀(d:Nat),d<=40->∀(p:Pat),okQ d p->∀M,N+d<=M->∃pt,Be M p=some pt/\AD6 (N+d) p pt
 |0,_,p,h,_,_=>h.elim
 |d+1,hd,p,⟨hn,hc,hch⟩,0,hM=>by omega
 |d+1,hd,p,⟨hn,hc,hch⟩,M+1,hM=>by
  show ∃pt,U8 (Be M) M p=some pt/\_;unfold U8;refine T1 (fun i x1 x2=>x2=(i:Int)/\i<=p.L.n/\x1.n=i/\∀j,j<i->AD6 (N+d) (p.L.g j) (x1.g j)) p.L.n _ (by omega) ⟨rfl,by omega,rfl,fun j hj=>Ln hj (by omega)⟩ ?_;rintro t i x1 x2 u ⟨rfl,h1,q,o⟩ hs;by_cases hl:i<p.L.n
  .refine Ao (An ?_);obtain⟨pt,e,hg⟩:=Nt v d (by omega) (p.L.g i) (hch i hl) M (by omega);refine B1 (by rw[AQ4];exact e) ?_;refine ifT (by show (x1.n+1)*16<=_/\x1.n+1<=_;omega) (hs hl _ _ ⟨Hi,hl,by show x1.n+1=i+1;omega,fun j hj=>?_⟩);by_cases e2:j=i
   .subst e2
    have:(x1.push pt).g j=pt:=by simp[Sl.push,q]
    rw[this];exact hg
   have:(x1.push pt).g j=x1.g j:=by simp[Sl.push];omega
   rw[this];exact o j (by omega)
  obtain rfl:i=p.L.n:=by omega
  have fin:∀(pt:Part),(∀(w:Sl Tb),w.n<=32->(∀i,i<w.n->okS (w.g i))->∀M,N+d<=M->∃f,Bf (M+1) pt w=some f/\TabA w.n (PR w p) f)->∃r,some pt=some r/\AD6 (N+(d+1)) p r:=by intro pt h;refine⟨pt,rfl,fun w hw c M' l=>?_⟩;obtain⟨M'',rfl⟩:∃M'',M' = M'' + 1:=⟨M' - 1,by omega⟩;exact h w hw c M'' (by omega)
  refine Gx ?_;obtain⟨⟨k0,k6⟩,n1,n2,n3,n4,n5⟩:=hn;by_cases k1:p.Kind=1
  .refine ifT (by simp[k1]) (fin _ fun w hw c M' l=>?_);obtain⟨f,e,h⟩:=Ab5 (N:=M') (by omega) hw c n5.ok p.Not;refine⟨f,e,h.congr fun a b _ _=>?_⟩;rw[Lw];simp[k1]
  refine ifF (by simp[k1]) ?_;by_cases k2:p.Kind=2
  .refine ifT (by simp[k2]) (fin _ fun w hw c M' l=>?_);obtain⟨f,e,h⟩:=WU (N:=M') hw false;refine⟨f,e,h.congr fun a b _ _=>?_⟩;rw[Lw];simp[k2]
  refine ifF (by simp[k2]) ?_;by_cases k6:p.Kind=6
  .refine ifT (by simp[k6]) (fin _ fun w hw c M' l=>?_);obtain⟨f,e,h⟩:=WU (N:=M') hw true;refine⟨f,e,h.congr fun a b _ _=>?_⟩;rw[Lw];simp[k6]
  refine ifF (by simp[k6]) ?_;by_cases k4:p.Kind=4
  .refine ifT (by simp[k4]) (fin _ fun w hw c M' l=>?_);obtain⟨f,e,h⟩:=AD4 (N:=M') (by omega) hw (rec:=Bf M') (m:=x1.n) (g:=x1.g) (Q:=fun i=>PR w (p.L.g i)) (by omega) fun i u=>o i (by omega) w hw c M' (by omega);refine⟨f,e,h.congr fun a b _ _=>?_⟩;rw[Lw,q];simp[k4]
  refine ifF (by simp[k4]) ?_;by_cases k5:p.Kind=5
  .obtain⟨g1,g2,g3,g4⟩:=n4 k5;refine ifT (by simp[k5]) (An (fin _ fun w hw c M' l=>?_));obtain⟨f,e,h⟩:=o 0 (by omega) w hw c M' (by omega);obtain⟨s,e2,x⟩:=AD5 (N:=M') (by omega) hw (rec:=Bf M') (Tm w (p.L.g 0)) e h g2 g3 g4;refine⟨s,e2,x.congr fun a b _ _=>?_⟩;rw[Lw];simp[k5]
  refine ifF (by simp[k5]) (fin _ fun w hw c M' l=>?_);obtain⟨f,e,h⟩:=AD3 (N:=M') (by omega) hw (rec:=Bf M') (m:=x1.n) (g:=x1.g) (Q:=fun i=>PR w (p.L.g i)) (by omega) fun i u=>o i (by omega) w hw c M' (by omega);refine⟨f,e,h.congr fun a b _ _=>?_⟩;rw[Lw,q];by_cases k3:p.Kind=3
  .simp[k3]
  have k0' : p.Kind=0:=by omega
  rw[n2 k3 k4 k5];simp[k0',Ye]
end Go.AM
namespace Go.AM
variable {N:Nat}
open IntKind (wrap)
open Go.Proofs
def Yl {p:Pat}(hp:okS p.Is):∃e,Bb N p=some e/\(e=0↔Hl p):=by
 obtain⟨a,b,i⟩:=hp;have m:=Vn i;have V:P2 N p.Is=some (vB a b):=by rw[i];exact Tz a b
 have e0:((p.Is.Plus==0)&&(p.Is.Minus==0))=decide (p.Is.Plus=0/\p.Is.Minus=0):=by rw[AU3];simp
 have fin:(Hl p↔vS p.Is)->∃e,((P2 N p.Is).bind fun y1=>if (!y1) then some (14:Int)else some 0)=some e/\(e=0↔Hl p):=by
  intro c;rw[V];refine B1 rfl ?_;rw[c,m];cases vB a b
  .exact ifT rfl ⟨14,rfl,by simp⟩
  exact Gx ⟨0,rfl,by simp⟩
 have bad:∀{x:Int},x≠0->¬Hl p->∃e,some x=some e/\(e=0↔Hl p):=fun hx h=>⟨_,rfl,fun d=>Ln d hx,fun d=>Ln d h⟩;unfold Bb;by_cases hk:p.Kind=0 \/ p.Kind=2 \/ p.Kind=6
 .refine ifT (by rcases hk with h|h|h<;>simp[h]) (ltX ?_);rw[e0];by_cases g1:p.Is.Plus=0/\p.Is.Minus=0
  case neg=>exact ifT (by simp[g1]) (ifT rfl (bad (by decide) fun h=>g1 (h.2.1 (by omega)).1))
  refine ifF (by simp[g1]) ?_;by_cases g2:p.Not=true
  .exact ifT g2 (ifT rfl (bad (by decide) fun h=>by have:=(h.2.1 (by omega)).2;rw[g2]at this;cases this))
  refine ifF g2 ?_;by_cases g3:p.Min=0
  case neg=>exact ifT (by simp[g3]) (ifT rfl (bad (by decide) fun h=>g3 (h.2.2.2.1 (by omega)).1))
  refine ifF (by simp[g3]) ?_;by_cases g4:p.Max=0
  case neg=>exact ifT (by simp[g4]) (ifT rfl (bad (by decide) fun h=>g4 (h.2.2.2.1 (by omega)).2))
  refine ifF (by simp[g4]) ?_;by_cases g5:p.L.n=0
  case neg=>exact Ao (bad (by decide) fun h=>g5 (h.2.2.1 (by omega) (by omega) (by omega)))
  refine Ec (fin ?_);exact⟨fun h=>h.2.2.2.2.2,fun h=>⟨by omega,fun _=>⟨g1,by simpa using g2⟩,fun _ _ _=>g5,fun _=>⟨g3,g4⟩,fun f=>by omega,h⟩⟩
 refine ifF (by simp only[not_or]at hk;simp[hk]) ?_;by_cases k1:p.Kind=1
 .refine ifT (by simp[k1]) (ltX ?_);refine Gx ?_;by_cases g3:p.Min=0
  case neg=>exact ifT (by simp[g3]) (ifT rfl (bad (by decide) fun h=>g3 (h.2.2.2.1 (by omega)).1))
  refine ifF (by simp[g3]) ?_;by_cases g4:p.Max=0
  case neg=>exact ifT (by simp[g4]) (ifT rfl (bad (by decide) fun h=>g4 (h.2.2.2.1 (by omega)).2))
  refine ifF (by simp[g4]) ?_;by_cases g5:p.L.n=0
  case neg=>exact Ao (bad (by decide) fun h=>g5 (h.2.2.1 (by omega) (by omega) (by omega)))
  refine Ec (fin ?_);exact⟨fun h=>h.2.2.2.2.2,fun h=>⟨by omega,fun h1=>Ln k1 h1,fun _ _ _=>g5,fun _=>⟨g3,g4⟩,fun f=>by omega,h⟩⟩
 refine ifF (by simp[k1]) (ltX ?_);rw[e0];have tail:∀(x y:Int),(Hl p↔(p.Is.Plus=0/\p.Is.Minus=0)/\p.Not=false/\x=0/\y=0/\vS p.Is)->∃e,(if (((((decide (p.Is.Plus=0/\p.Is.Minus=0) != true)||p.Not)||(x != 0))||(y != 0))||(decide (0<0))) then some (2:Int)else
  (P2 N p.Is).bind fun y3=>if (!y3) then some 14 else some 0)=some e/\(e=0↔Hl p):=by
  intro x y c;by_cases g:(p.Is.Plus=0/\p.Is.Minus=0)/\p.Not=false/\x=0/\y=0
  .obtain⟨g1,g2,g3,g4⟩:=g;exact ifF (by simp[g1,g2,g3,g4]) (fin (c.trans ⟨fun h=>h.2.2.2.2,fun h=>⟨g1,g2,g3,g4,h⟩⟩))
  refine ifT ?_ (bad (by decide) fun h=>g ⟨(c.1 h).1,(c.1 h).2.1,(c.1 h).2.2.1,(c.1 h).2.2.2.1⟩);simp only[AS6,bne_iff_ne,ne_eq,Mw];by_cases g1:p.Is.Plus=0/\p.Is.Minus=0
  .by_cases g2:p.Not=true
   .simp[g2]
   by_cases g3:x=0
   .have:¬y=0:=fun g4=>g ⟨g1,by simpa using g2,g3,g4⟩
    simp[this]
   simp[g3]
  simp[g1]
 by_cases k34:p.Kind=3 \/ p.Kind=4
 .refine ifT (by rcases k34 with h|h<;>simp[h]) (tail _ _ ?_);constructor
  .exact fun h=>⟨(h.2.1 k1).1,(h.2.1 k1).2,(h.2.2.2.1 (by omega)).1,(h.2.2.2.1 (by omega)).2,h.2.2.2.2.2⟩
  rintro⟨h1,d,j,l,f⟩;exact⟨by omega,fun _=>⟨h1,d⟩,fun h h'=>by omega,fun _=>⟨j,l⟩,fun h=>by omega,f⟩
 refine ifF (by simp only[not_or]at k34;simp[k34]) ?_;by_cases k5:p.Kind=5
 .refine ifT (by simp[k5]) ?_;by_cases g:p.L.n=1/\0<=p.Min/\p.Min<=32/\(p.Max = -1 \/ (p.Min<=p.Max/\p.Max<=32))
  .refine ifF (by simp only[AS6,AQ7,bne_iff_ne,ne_eq,Mw];omega) (tail 0 0 ?_);constructor
   .exact fun h=>⟨(h.2.1 k1).1,(h.2.1 k1).2,rfl,rfl,h.2.2.2.2.2⟩
   rintro⟨h1,d,j,l,f⟩;exact⟨by omega,fun _=>⟨h1,d⟩,fun _ _ h=>Ln k5 h,fun h=>Ln k5 h,fun _=>g,f⟩
  exact ifT (by simp only[AS6,AQ7,bne_iff_ne,ne_eq,Mw];omega) (bad (by decide) fun h=>g (h.2.2.2.2.1 k5))
 exact ifF (by simp[k5]) (bad (by decide) fun h=>by have:=h.1;omega)
def Ab8 {x:Sl Pat}{m:Nat}(h:x.n=m+1):x.toList.reverse=x.g m::(x.take m).toList.reverse:=by unfold Sl.toList;rw[h,Ba7,Ba8,AZ2];rfl
def Ap1 (z:Sl Pat)(q:Pat):((z.push Pat.nil).upd z.n q).toList.reverse=q::z.toList.reverse:=by
 rw[Ab8 (m:=z.n) rfl];have e1:((z.push Pat.nil).upd z.n q).g z.n=q:=by simp
 have e2:(((z.push Pat.nil).upd z.n q).take z.n).toList=z.toList:=by
  unfold Sl.toList;refine AS5 fun i a=>?_
  have:i<z.n:=AU9.1 a
  show (if i=z.n then q else if i<z.n then z.g i else Pat.nil)=z.g i;rw[Jd,Ll this]
 rw[e1,e2]
def Vp (q:Sl Pat)(c:q.n<N)(hs:q.n<1000000):C8 N q=some ((List.range q.n).reverse.map fun (i:Nat)=>((i:Int),q.g i)):=by
 unfold C8;have h:∀(m:Nat),m<=q.n->∀F,m<F->S3 F (fun (a:Int->Option (List (Int×Pat))) (x1:Int)=>
  if (decide (0<=x1)) then
   if ((0:Int)<=x1/\x1<(q.n:Int))then
    Y4 (x1,q.g x1.toNat) (
     a (wrap .i64 (x1-1))
     )
   else none
  else
   some []) ((m:Int)-1)=some ((List.range m).reverse.map fun (i:Nat)=>((i:Int),q.g i)):=by
  intro m
  induction m with
  |zero=>
   intro _ F b
   match F,b with
   |F+1,_=>rfl
  |succ m ih=>
   intro hm F b
   match F,b with
   |F+1,b=>rw[BD];rw[show ((m+1:Nat):Int)-1=(m:Int) by omega,Ll (by simp),Hj,E6 (by omega) (by omega),ih (by omega) F (by omega),AQ4,Ba7,AZ2,Bh3,Bi0,AR9];rfl
 rw[E6 (by omega) (by omega)];exact h q.n (AQ8 _) N c
def AD7 {k:Nat}(hk:k<=40){c:Sl Pat}{l:List Pat}:chk k ((c.take (min 41 c.n)).toList++l)↔chk k (c.toList++l):=by
 by_cases h:c.n<=41
 .rw[Be3 h]
 constructor
 .intro a
  have:=Nq _ _ a
  rw[AU4,N7]at this
  have:(c.take (min 41 c.n)).n=41:=AY1 (by omega)
  omega
 intro a
 have:=Nq _ _ a
 rw[AU4,N7]at this;omega
def Rt (hN:2000<=N){p:Pat}(hp:okPS p):∃e,Z3 N p=some e/\(e=0↔chk 40 [p]):=by
 unfold Z3;refine T1 (fun i x3 x4=>x4=(i:Int)/\x3.n<=1+41*i/\(∀q∈x3.toList.reverse,okPS q)/\(chk 40 [p]↔chk (40-i) x3.toList.reverse)) 40 _ (by omega)
  ⟨rfl,by show 1<=_;omega,fun q l=>by rw[show (Sl.of [p]:Sl Pat).toList.reverse=[p] from rfl]at l;rw[AZ6.1 l];exact hp,AZ7⟩ ?_
 rintro x i x3 x4 hi ⟨rfl,h1,c,f⟩ hs;rcases hn:x3.n with _|m
 .refine Gx ⟨0,rfl,fun _=>f.2 ?_,fun _=>rfl⟩
  have:x3.toList.reverse=[]:=by unfold Sl.toList;rw[hn];rfl
  rw[this];exact Ab1 _
 rw[Ab8 hn]at f c;refine ifT (decide_eq_true (by omega)) ?_;by_cases r:i=40
 .subst r;refine Aq ⟨12,rfl,fun h=>Ln h (by decide),fun h=>?_⟩
  have:(x3.g m::(x3.take m).toList.reverse)=[]:=f.1 h
  cases this
 refine Ec ?_;have hw:IntKind.i64.wrap (((m+1:Nat):Int)-1)=(m:Int):=by rw[E6 (by omega) (by omega)];omega
 simp only[hw,AQ4];refine An (An ?_);obtain⟨e,y,a⟩:=Yl (N:=N) (c (x3.g m) (by simp)).is;refine B1 y ?_;rw[show 40-i=(39-i)+1 by omega]at f;by_cases o:e=0
 case neg=>exact ifT (by simp[o]) ⟨e,rfl,fun h=>Ln h o,fun h=>Ln (a.2 (f.1 h).1) o⟩
 refine ifF (by simp[o]) ?_;have hc:(if (41:Int)<((x3.g m).L.n:Int)then (41:Int)else ((x3.g m).L.n:Int))=((min 41 (x3.g m).L.n:Nat):Int):=by split<;>omega
 simp only[hc,AQ4];refine An (B1 rfl (B1 (Vp _ (by show min 41 _<N;omega) (by show min 41 _<1000000;omega)) ?_));generalize s:(x3.g m).L.take (min 41 (x3.g m).L.n)=C;have a0:C.n<=41:=by rw[<- s];exact Nat.min_le_left _ _
 refine Ao9 (fun L z=>∃j,j<=C.n/\L=((List.range j).reverse.map fun (i:Nat)=>((i:Int),C.g i))/\z.n=m+(C.n-j)/\z.toList.reverse=C.toList.drop j++(x3.take m).toList.reverse) ?_ ?_ _ _ ⟨C.n,AQ8 _,rfl,by show m=_;omega,by rw[Ae];rfl⟩
 .rintro z ⟨j,hj,hL,hz,b⟩;have u:j=0:=by
   cases j with
   |zero=>rfl
   |succ j=>simp[Ba7]at hL
  subst u;rw[Bf9]at b;refine hs (by omega) _ _ ⟨Hi,by omega,fun q l=>?_,?_⟩
  .rw[b]at l;rcases Bi1.1 l with h|h
   .obtain⟨i',d,rfl⟩:=AU2.1 h;have d:=AU9.1 d;rw[<- s]at d⊢;exact (c (x3.g m) (by simp)).L (AT0 d (Nat.min_le_right _ _))
   exact c q (by simp[h])
  rw[b,f,show 40-(i+1)=39-i by omega,<- s,AD7 (by omega)];exact⟨fun h=>h.2,fun h=>⟨a.1 o,h⟩⟩
 rintro t L z v ⟨j,hj,hL,hz,b⟩ w;cases j with
 |zero=>simp at hL
 |succ j=>rw[Ba7,AZ2,Bh3,Bi0,AR9]at hL;obtain⟨rfl,rfl⟩:=List.cons.inj hL;have e1:(z.n:Int).toNat=z.n:=AQ4 _;refine ifT ⟨⟨⟨by show (z.n+1)*64<=_;omega,by show z.n+1<=_;omega⟩,by show (0:Int)<=_/\(z.n:Int)<((z.n+1:Nat):Int);omega⟩,by show z.n<z.n+1;omega⟩ ?_;refine w _ ⟨j,by omega,rfl,by show z.n+1=_;omega,?_⟩;rw[Ap1,b,Cs C (i:=j) (by omega),AV2]
end Go.AM
namespace Go.AM
open IntKind (wrap)
open Go.Proofs
def wOk (w:Sl Tb):Prop:=w.n<=32/\∀i,i<w.n->vS (w.g i)
def GN {N:Nat}{w:Sl Tb}(l:w.n<N)(hs:w.n<1000000){f:Tb->Option Bool}{b:Nat->Bool}(m:∀i,i<w.n->f (w.g i)=some (b i)) :∃r,B0 N w f=some r/\(r=true ↔ ∃i,i<w.n/\b i=true):=by
 unfold B0 D4
 have:∃y,S3 N (fun (a:Int->Option Int) (x1:Int)=>
  if (decide (x1<(w.n:Int))) then
   if ((0:Int)<=x1/\x1<(w.n:Int))then
    (f (w.g x1.toNat)).bind fun y3=>
    if y3 then
     some x1
    else
     a (wrap .i64 (x1+1))
   else none
  else
   some (-1)) 0=some y/\(0<=y ↔ ∃i,i<w.n/\b i=true):=by
  refine W5 (fun i x1=>x1=(i:Int)/\∀j,j<i->b j=false) w.n _ l ⟨rfl,fun j hj=>Ln hj (by omega)⟩ ?_;rintro d i x1 o ⟨rfl,h⟩ c;by_cases hl:i<w.n
  .refine Ao (An (B1 (by rw[AQ4];exact m i hl) ?_));cases hb:b i
   .refine Gx (c hl _ ⟨Hi,fun j hj=>?_⟩);by_cases e:j=i
    .subst e;exact hb
    exact h j (by omega)
   exact ifT rfl ⟨i,rfl,fun _=>⟨i,hl,hb⟩,fun _=>by omega⟩
  refine Ec ⟨-1,rfl,fun h=>Ln h (by decide),?_⟩;rintro⟨j,hj,hb⟩;rw[h j (by omega)]at hb;cases hb
 obtain⟨y,e,hy⟩:=this;exact B1 e ⟨_,rfl,by rw[Mw];exact hy⟩
def PD {N:Nat}(v:3000<=N){p:Pat}(hp:okPS p){w:Sl Tb}(hs:w.n<1000000/\w.n+1000<N)(hw:∀i,i<w.n->okS (w.g i)) :∃r,Av N p w=some r/\(r.2=0↔chk 40 [p]/\wOk w)/\(r.2=0->TabA w.n (PR w p) r.1):=by
 unfold Av;obtain⟨e,l,hc⟩:=Rt (N:=N) (by omega) hp;refine B1 l ?_;by_cases d:e=0
 case neg=>exact ifT (by simp[d]) ⟨_,rfl,⟨fun h=>Ln h d,fun h=>Ln (hc.2 h.1) d⟩,fun h=>Ln h d⟩
 refine ifF (by simp[d]) ?_;by_cases hn:32<w.n
 .exact Ao ⟨_,rfl,⟨fun h=>Ln h (by decide),fun h=>by have:=h.2.1;omega⟩,fun h=>Ln h (by decide)⟩
 refine Ec ?_;have s:∀i,∃b:Bool,i<w.n->S8 N (w.g i)=some b/\(b=true ↔ ¬vS (w.g i)):=by
  intro i;by_cases a:i<w.n
  .obtain⟨x,y,l⟩:=hw i a;refine⟨!vB x y,fun _=>⟨?_,?_⟩⟩
   .unfold S8;rw[l,Tz];rfl
   rw[Vn l];cases vB x y<;>simp
  exact⟨false,fun h=>Ln h a⟩
 obtain⟨b,hb⟩:=AZ1 s;obtain⟨r,t,j⟩:=GN (N:=N) (by omega) hs.1 (f:=fun u1=>S8 N u1) fun i a=>(hb i a).1;refine B1 t ?_;by_cases c:r=true
 .refine ifT c ⟨_,rfl,⟨fun h=>Ln h (by decide),fun h=>?_⟩,fun h=>Ln h (by decide)⟩;obtain⟨i,a,m⟩:=j.1 c;exact Ln (h.2.2 i a) ((hb i a).2.1 m)
 refine ifF c ?_;have o:wOk w:=⟨by omega,fun i a=>AU0 fun q=>c (j.2 ⟨i,a,(hb i a).2.2 q⟩)⟩;obtain⟨pt,ep,hg⟩:=Nt (N:=1000) (by omega) 40 (AQ8 _) p (Ab7 40 [p] (AQ8 _) (hc.1 d) p (by simp)) N (by omega);refine B1 ep ?_;obtain⟨f,ef,u⟩:=hg w (by omega) hw N (by omega);exact B1 ef ⟨_,rfl,⟨fun _=>⟨hc.1 d,o⟩,fun _=>rfl⟩,fun _=>u⟩
end Go.AM
namespace Go.AM
variable {N:Nat}
open Go.Proofs
def Ym (o:3000<=N){p:Pat}(hp:okPS p){w:Sl Tb}(hs:w.n<1000000/\w.n+1000<N)(hw:∀i,i<w.n->okS (w.g i))(at_:Int) :∃r,BN N p w at_=some r/\(0<r.1.n↔chk 40 [p]/\wOk w/\0<=at_/\at_<=w.n/\∃a,a<=w.n/\PR w p a at_.toNat):=by
 unfold BN;obtain⟨y,e,h1,q⟩:=PD o hp hs hw;refine B1 e (ltX ?_);by_cases c:y.2=0
 case neg=>refine ifF (by simp[c]) (ifT (by simp[c]) ⟨_,rfl,fun h=>Ln h (by show ¬ 0<0;omega),fun h=>Ln (h1.2 ⟨h.1,h.2.1⟩) c⟩)
 refine ifT (by simp[c]) ?_;obtain⟨hc,d⟩:=h1.1 c;have s:=q c;have hn:=d.1;unfold At;by_cases f:at_<0 \/ (w.n:Int)<at_
 .rw[Ll (by simpa using f)];refine B1 rfl (Da ⟨_,rfl,fun h=>Ln h (by show ¬ 0<0;omega),fun h=>by omega⟩)
 rw[Lm (by simpa using f)];refine B1 rfl (Gx ?_);obtain⟨k,rfl⟩:∃k:Nat,at_=(k:Int):=⟨at_.toNat,by omega⟩;rw[Hi,AQ4];refine T1 (fun i x2 x3=>x3=(i:Int)/\x2.n<=i/\(0<x2.n ↔ ∃a,a<i/\PR w p a k)) (w.n+1) _ (by omega) ⟨rfl,AQ8 _,fun h=>Ln h (by show ¬ 0<0;omega),fun⟨a,h,_⟩=>Ln h (by omega)⟩ ?_;rintro m i x2 x3 t ⟨rfl,g1,g2⟩ j;by_cases hl:i<=w.n
 .refine Ao (An ?_);rw[AQ4,AT6,AV9];have hb:=s.1.bit hl (b:=k) (by omega);by_cases l:PR w p i k
  .refine ifT (hb.2 ⟨by omega,l⟩) (ifT (by show (x2.n+1)*8<=_/\x2.n+1<=_;omega) (j (by omega) _ _ ⟨Hi,by show x2.n+1<=_;omega,fun _=>⟨i,by omega,l⟩,fun _=>by show 0<x2.n+1;omega⟩))
  refine ifF (fun h=>l (hb.1 h).2) (j (by omega) _ _ ⟨Hi,by omega,fun h=>?_,fun⟨a,ha,h⟩=>?_⟩)
  .obtain⟨a,ha,h'⟩:=g2.1 h;exact⟨a,by omega,h'⟩
  by_cases e2:a=i
  .subst e2;exact Ln h l
  exact g2.2 ⟨a,by omega,h⟩
 refine Ec ⟨_,rfl,fun h=>?_,fun h=>?_⟩
 .obtain⟨a,ha,h'⟩:=g2.1 h;exact⟨hc,d,by omega,by omega,a,by omega,h'⟩
 obtain⟨a,ha,h'⟩:=h.2.2.2.2;exact g2.2 ⟨a,by omega,h'⟩
def Vq (L:List Int)(hL:L.length<1000):∃s,N0 N L=some s/\s.n=L.length:=by
 unfold N0 H4
 have:∃s:Sl Int,O1 L (fun (a:Sl Int->Option (Sl Int)) (x1:Int) (z1:Sl Int)=>
  if ((z1.n+(Sl.of [x1]:Sl Int).n)*8<=140737488355328/\z1.n+(Sl.of [x1]:Sl Int).n<=140737488355328)then
   a (z1.push x1)
  else none
  ) (fun (z1:Sl Int)=>some z1) Ra=some s/\s.n=L.length:=by
  refine Ao9 (fun l z=>z.n+l.length=L.length) (fun z h=>⟨z,rfl,by simpa using h⟩) (fun t l z b h hs=>?_) L _ (by simp);simp only[AT5]at h;exact ifT (by show (z.n+1)*8<=_/\z.n+1<=_;omega) (hs _ (by show z.n+1+l.length=_;omega))
 obtain⟨s,e,hn⟩:=this;exact B1 e ⟨s,rfl,hn⟩
def Ap2 (l:3000<=N){p:Pat}(hp:okPS p){w:Sl Tb}(hs:w.n<1000000/\w.n+1000<N)(hw:∀i,i<w.n->okS (w.g i))(at_:Int) :∃r,DI N p w at_=some r/\(0<r.1.n↔chk 40 [p]/\wOk w/\0<=at_/\at_<=w.n/\∃b,b<=w.n/\PR w p at_.toNat b):=by
 unfold DI;obtain⟨y,e,h1,m⟩:=PD l hp hs hw;refine B1 e (ltX ?_);by_cases c:y.2=0
 case neg=>refine ifF (by simp[c]) (ifT (by simp[c]) ⟨_,rfl,fun h=>Ln h (by show ¬ 0<0;omega),fun h=>Ln (h1.2 ⟨h.1,h.2.1⟩) c⟩)
 refine ifT (by simp[c]) ?_;obtain⟨hc,d⟩:=h1.1 c;have o:=m c;have hn:=d.1;unfold At;by_cases f:at_<0 \/ (w.n:Int)<at_
 .rw[Ll (by simpa using f)];refine B1 rfl (Da ⟨_,rfl,fun h=>Ln h (by show ¬ 0<0;omega),fun h=>by omega⟩)
 rw[Lm (by simpa using f)];refine B1 rfl (Gx ?_);obtain⟨k,rfl⟩:∃k:Nat,at_=(k:Int):=⟨at_.toNat,by omega⟩;refine An ?_;rw[AQ4,AT6,AV9];obtain⟨u,e1,g1⟩:=o.1 k (by omega);refine B1 (x:=y.1 k) rfl (B1 (x:=FF u 0) (by rw[e1];exact Ii u (by omega)) ?_);obtain⟨s,es,j⟩:=Vq (N:=N) (FF u 0) (by unfold FF;rw[AU1];exact Bj8 (List.length_filter_le _ _) (by simp))
 refine B1 es ⟨_,rfl,?_⟩;show 0<s.n↔_;rw[j,List.length_pos_iff_exists_mem];constructor
 .rintro⟨t,ht⟩;obtain⟨b,rfl,_,hb,a⟩:=mem_bitsF.1 ht;exact⟨hc,d,by omega,by omega,b,((g1 b hb).1 a).1,((g1 b hb).1 a).2⟩
 rintro⟨_,_,_,_,b,hb,h⟩;exact⟨(b:Int),mem_bitsF.2 ⟨b,rfl,by omega,by omega,(g1 b (by omega)).2 ⟨hb,h⟩⟩⟩
end Go.AM
namespace Go.AM
variable {N:Nat}
open IntKind (wrap)
open Go.Proofs
def Yn (w:Sl Tb)(e:Int):Prop:=(32<w.n/\e=11) \/ (w.n<=32/\(∃i,i<w.n/\¬vS (w.g i))/\e=14) \/ (wOk w/\e=0)
def Ab9 {w:Sl Tb}{e e' : Int}(h:Yn w e)(h' : Yn w e'):e=e':=by
 rcases h with⟨h1,a⟩ | ⟨h1,⟨i,b,c⟩,a⟩ | ⟨h1,a⟩<;>rcases h' with⟨g1,g2⟩ | ⟨g1,⟨j,hj,gv⟩,g2⟩ | ⟨g1,g2⟩
 .omega
 .omega
 .have:=g1.1;omega
 .omega
 .omega
 .exact Ln (g1.2 i b) c
 .have:=h1.1;omega
 .exact Ln (h1.2 j hj) gv
 omega
def GO {w:Sl Tb}{e:Int}(h:Yn w e):e=0↔wOk w:=by
 rcases h with⟨h1,a⟩ | ⟨h1,⟨i,b,c⟩,a⟩ | ⟨h1,a⟩
 .exact⟨fun h=>by omega,fun h=>by have:=h.1;omega⟩
 .exact⟨fun h=>by omega,fun h=>Ln (h.2 i b) c⟩
 exact⟨fun _=>h1,fun _=>a⟩
def TC (l:1000<=N){w:Sl Tb}(hw:∀i,i<w.n->okS (w.g i))(V:Tb->Option Bool)(d:∀p m:BitVec 32,V (sOf p m)=some (vB p m)) :∃e,(if (decide (32<(w.n:Int))) then
 some (11:Int)
 else
  S3 N (fun a (x1:Int)=>
   if (decide (x1<(w.n:Int))) then
    if ((0:Int)<=x1/\x1<(w.n:Int))then
     (V (w.g x1.toNat)).bind fun y3=>
     if (!y3) then
      some 14
     else
      a (wrap .i64 (x1+1))
    else none
   else
    some 0
   ) 0)=some e/\Yn w e:=by
 by_cases hn:32<w.n
 .exact Ao ⟨11,rfl,.inl ⟨hn,rfl⟩⟩
 refine Ec ?_;refine W5 (fun i x1=>x1=(i:Int)/\∀j,j<i->vS (w.g j)) w.n _ (by omega) ⟨rfl,fun j hj=>Ln hj (by omega)⟩ ?_;rintro c i x1 o ⟨rfl,h⟩ hs;by_cases hl:i<w.n
 .obtain⟨p,m,b⟩:=hw i hl;refine Ao (An (B1 (by rw[AQ4,b];exact d p m) ?_));cases hb:vB p m
  .refine ifT rfl ⟨14,rfl,.inr (.inl ⟨by omega,⟨i,hl,fun f=>?_⟩,rfl⟩)⟩
   have:=(Vn b).1 f;rw[hb]at this;cases this
  refine Gx (hs hl _ ⟨Hi,fun j hj=>?_⟩);by_cases e:j=i
  .subst e;exact (Vn b).2 hb
  exact h j (by omega)
 exact Ec ⟨0,rfl,.inr (.inr ⟨⟨by omega,fun j hj=>h j (by omega)⟩,rfl⟩)⟩
def Nu (a:1000<=N){w:Sl Tb}(hw:∀i,i<w.n->okS (w.g i)):∃e,Z0 N w=some e/\Yn w e:=
 TC a hw (Bw N) fun p m=>Ty p m
def PF (a:1000<=N){w:Sl Tb}(hw:∀i,i<w.n->okS (w.g i)):∃e,Ic N w=some e/\Yn w e:=
 TC a hw (Aa N) fun p m=>PB p m
def WW (d:2000<=N){p:Pat}(hp:okPS p){w:Sl Tb}(hw:∀i,i<w.n->okS (w.g i)):∃e,GZ N p w=some e/\(e=0↔chk 40 [p]/\wOk w):=by
 unfold GZ;obtain⟨e,f,hc⟩:=Ns d hp;refine B1 f ?_;by_cases a:e=0
 .obtain⟨e2,b,c⟩:=PF (N:=N) (by omega) hw;exact ifT (by simp[a]) (B1 b ⟨e2,rfl,(GO c).trans ⟨fun h=>⟨hc.1 a,h⟩,fun h=>h.2⟩⟩)
 exact ifF (by simp[a]) ⟨e,rfl,fun h=>Ln h a,fun h=>Ln (hc.2 h.1) a⟩
def Vr (s:3000<=N){p:Pat}(hp:okPS p){w:Sl Tb}(hw:∀i,i<w.n->okS (w.g i))(at_:Int) :∃r,GJ N p w at_=some r/\(0<r.1.n↔chk 40 [p]/\wOk w/\0<=at_/\at_<=w.n/\∃a,a<=w.n/\PR w p a at_.toNat):=by
 unfold GJ;obtain⟨e,o,h1⟩:=WW (N:=N) (by omega) hp hw;refine B1 o ?_;by_cases j:e=0
 case neg=>exact ifT (by simp[j]) ⟨_,rfl,fun h=>Ln h (by show ¬ 0<0;omega),fun h=>Ln (h1.2 ⟨h.1,h.2.1⟩) j⟩
 refine ifF (by simp[j]) ?_;obtain⟨hc,c⟩:=h1.1 j;have hn:=c.1;by_cases d:at_<0 \/ (w.n:Int)<at_
 .exact ifT (by simpa using d) ⟨_,rfl,fun h=>Ln h (by show ¬ 0<0;omega),fun h=>by omega⟩
 refine ifF (by simpa using d) ?_;obtain⟨k,rfl⟩:∃k:Nat,at_=(k:Int):=⟨at_.toNat,by omega⟩;obtain⟨t,et,tn,q⟩:=Np (N:=1000) (by omega) hn 40 p (Nr 40 [p] (AQ8 _) hc p (by simp)) N (by omega);refine B1 et ?_;rw[AQ4];refine T1 (fun i x2 x3=>x3=(i:Int)/\x2.n<=i/\(0<x2.n ↔ ∃a,a<i/\PR w p a k)) (w.n+1) _ (by omega) ⟨rfl,AQ8 _,fun h=>Ln h (by show ¬ 0<0;omega),fun⟨a,h,_⟩=>Ln h (by omega)⟩ ?_;rintro m i x2 x3 u ⟨rfl,g1,g2⟩ f;by_cases hl:i<=w.n
 .refine Ao (An ?_);rw[AQ4];have hb:=q.bit hl (b:=k) (by omega);by_cases l:PR w p i k
  .refine ifT (hb.2 ⟨by omega,l⟩) (ifT (by show (x2.n+1)*8<=_/\x2.n+1<=_;omega) (f (by omega) _ _ ⟨Hi,by show x2.n+1<=_;omega,fun _=>⟨i,by omega,l⟩,fun _=>by show 0<x2.n+1;omega⟩))
  refine ifF (fun h=>l (hb.1 h).2) (f (by omega) _ _ ⟨Hi,by omega,fun h=>?_,fun⟨a,ha,h⟩=>?_⟩)
  .obtain⟨a,ha,h'⟩:=g2.1 h;exact⟨a,by omega,h'⟩
  by_cases e2:a=i
  .subst e2;exact Ln h l
  exact g2.2 ⟨a,by omega,h⟩
 refine Ec ⟨_,rfl,fun h=>?_,fun h=>?_⟩
 .obtain⟨a,ha,h'⟩:=g2.1 h;exact⟨hc,c,by omega,by omega,a,by omega,h'⟩
 obtain⟨a,ha,h'⟩:=h.2.2.2.2;exact g2.2 ⟨a,by omega,h'⟩
def Ac0 (s:3000<=N){p:Pat}(hp:okPS p){w:Sl Tb}(hw:∀i,i<w.n->okS (w.g i))(at_:Int) :∃r,Kc N p w at_=some r/\(0<r.1.n↔chk 40 [p]/\wOk w/\0<=at_/\at_<=w.n/\∃b,b<=w.n/\PR w p at_.toNat b):=by
 unfold Kc;obtain⟨e,o,h1⟩:=WW (N:=N) (by omega) hp hw;refine B1 o ?_;by_cases j:e=0
 case neg=>exact ifT (by simp[j]) ⟨_,rfl,fun h=>Ln h (by show ¬ 0<0;omega),fun h=>Ln (h1.2 ⟨h.1,h.2.1⟩) j⟩
 refine ifF (by simp[j]) ?_;obtain⟨hc,c⟩:=h1.1 j;have hn:=c.1;by_cases d:at_<0 \/ (w.n:Int)<at_
 .exact ifT (by simpa using d) ⟨_,rfl,fun h=>Ln h (by show ¬ 0<0;omega),fun h=>by omega⟩
 refine ifF (by simpa using d) ?_;obtain⟨k,rfl⟩:∃k:Nat,at_=(k:Int):=⟨at_.toNat,by omega⟩;obtain⟨t,et,tn,q⟩:=Np (N:=1000) (by omega) hn 40 p (Nr 40 [p] (AQ8 _) hc p (by simp)) N (by omega);refine B1 et ?_;rw[AQ4];refine T1 (fun i x2 x3=>x3=(i:Int)/\x2.n<=i/\(0<x2.n ↔ ∃b,b<i/\PR w p k b)) (w.n+1) _ (by omega) ⟨rfl,AQ8 _,fun h=>Ln h (by show ¬ 0<0;omega),fun⟨a,h,_⟩=>Ln h (by omega)⟩ ?_;rintro m i x2 x3 u ⟨rfl,g1,g2⟩ f;by_cases hl:i<=w.n
 .refine Ao (An ?_);have hb:=q.bit (a:=k) (by omega) (b:=i) (by omega);by_cases l:PR w p k i
  .refine ifT (hb.2 ⟨by omega,l⟩) (ifT (by show (x2.n+1)*8<=_/\x2.n+1<=_;omega) (f (by omega) _ _ ⟨Hi,by show x2.n+1<=_;omega,fun _=>⟨i,by omega,l⟩,fun _=>by show 0<x2.n+1;omega⟩))
  refine ifF (fun h=>l (hb.1 h).2) (f (by omega) _ _ ⟨Hi,by omega,fun h=>?_,fun⟨a,ha,h⟩=>?_⟩)
  .obtain⟨a,ha,h'⟩:=g2.1 h;exact⟨a,by omega,h'⟩
  by_cases e2:a=i
  .subst e2;exact Ln h l
  exact g2.2 ⟨a,by omega,h⟩
 refine Ec ⟨_,rfl,fun h=>?_,fun h=>?_⟩
 .obtain⟨a,ha,h'⟩:=g2.1 h;exact⟨hc,c,by omega,by omega,a,by omega,h'⟩
 obtain⟨a,ha,h'⟩:=h.2.2.2.2;exact g2.2 ⟨a,by omega,h'⟩
end Go.AM
namespace Go.AM
variable {N:Nat}
open Go.Proofs
def AG7 (s c:Tb):Prop:=∃p m a b:BitVec 32,s=sOf p m/\c=sOf a b/\YJ p m a b=true
def Ac1 {p m a b:BitVec 32}(h:sOf p m=sOf a b):p=a/\m=b:=by have e1:(p.toNat:Int)=a.toNat:=congrArg Tb.Plus h;have e2:(m.toNat:Int)=b.toNat:=congrArg Tb.Minus h;exact⟨AV0 (by omega),AV0 (by omega)⟩
def satS_of {p m a b:BitVec 32}:AG7 (sOf p m) (sOf a b)↔YJ p m a b=true:=by
 constructor
 .rintro⟨p',m',a',b',h1,c,d⟩;obtain⟨rfl,rfl⟩:=Ac1 h1;obtain⟨rfl,rfl⟩:=Ac1 c;exact d
 exact fun h=>⟨_,_,_,_,rfl,rfl,h⟩
def Ap3 {s c:Tb}(hs:okS s)(hc:okS c):∃b,K0 N s c=some b/\(b=true↔AG7 s c):=by obtain⟨p,m,rfl⟩:=hs;obtain⟨a,b,rfl⟩:=hc;exact⟨_,AC9 p m a b,satS_of.symm⟩
def Ap4 (d:1000<=N){s c:Tb}(hs:okS s)(hc:okS c):∃b,Z8 N s c=some b/\(b=true↔AG7 s c):=by obtain⟨p,m,rfl⟩:=hs;obtain⟨a,b,rfl⟩:=hc;exact⟨_,AD0 p m a b d,satS_of.symm⟩
def okL (l:Law):Prop:=okPS l.Left/\okPS l.Right/\∀i,i<l.If.n->okS (l.If.g i)
def arP (l:Law)(w:Sl Tb)(i:Nat):Prop:=chk 40 [l.Left]/\chk 40 [l.Right]/\wOk w/\i+l.If.n<=w.n/\(∃a,a<=w.n/\PR w l.Left a i)/\∃b,b<=w.n/\PR w l.Right (i+l.If.n) b
def PG (l:Law)(w:Sl Tb)(i:Nat):Prop:=i+l.If.n<=w.n/\(∀j,j<l.If.n->AG7 (w.g (i+j)) (l.If.g j))/\arP l w i
def okW (w:Sl Tb):Prop:=w.n<1000/\∀i,i<w.n->okS (w.g i)
def Yo (c:3000<=N){l:Law}(hl:okL l)(hk:l.If.n<=4){w:Sl Tb}(hw:okW w)(i:Nat)(f:i<2000) :∃b,V8 N (i:Int) l w=some b/\(b=true↔arP l w i):=by
 unfold V8;obtain⟨y1,e1,h1⟩:=Ym (N:=N) c hl.1 (w:=w) ⟨by have:=hw.1;omega,by have:=hw.1;omega⟩ hw.2 (i:Int);refine B1 e1 ?_;rw[AQ4]at h1;by_cases d:y1.1.n=0
 .refine ifT (by simp[d]) ⟨false,rfl,by simp,fun h=>?_⟩
  have:=h1.2 ⟨h.1,h.2.2.1,by omega,by have:=h.2.2.2.1;omega,h.2.2.2.2.1⟩
  omega
 refine Ec ?_;rw[DU (by omega)];obtain⟨y2,e2,a⟩:=Ap2 (N:=N) c hl.2.1 (w:=w) ⟨by have:=hw.1;omega,by have:=hw.1;omega⟩ hw.2 ((i+l.If.n:Nat):Int);rw[AQ4]at a;refine B1 e2 ⟨_,rfl,?_⟩;have h1:=h1.1 (by omega);rw[Mw];constructor
 .intro h;have a:=a.1 (by omega);exact⟨h1.1,a.1,h1.2.1,by omega,h1.2.2.2.2,a.2.2.2.2⟩
 intro h
 have:=a.2 ⟨h.2.1,h.2.2.1,by omega,by have:=h.2.2.2.1;omega,h.2.2.2.2.2⟩
 omega
def Ru (f:3000<=N){l:Law}(hl:okL l)(hk:l.If.n<=4){w:Sl Tb}(hw:okW w)(i:Nat)(o:i<2000) :∃b,CK N l w (i:Int)=some b/\(b=true↔PG l w i):=by
 unfold CK;rw[DU (by omega)];by_cases hn:w.n<i+l.If.n
 .exact Ao ⟨false,rfl,by simp,fun h=>by have:=h.1;omega⟩
 refine Ec ?_;refine W5 (fun j x1=>x1=(j:Int)/\∀k,k<j->AG7 (w.g (i+k)) (l.If.g k)) l.If.n _ (by omega) ⟨rfl,fun k hk=>Ln hk (by omega)⟩ ?_;rintro m j x1 hj ⟨rfl,h⟩ hs;by_cases c:j<l.If.n
 .rw[DU (by omega)];refine Ao (An ?_);obtain⟨b,eb,hb⟩:=Ap4 (N:=N) (by omega) (hw.2 (i+j) (by omega)) (hl.2.2 j c);refine B1 (by rw[AQ4,AQ4];exact eb) ?_;cases b
  .refine ifT rfl ⟨false,rfl,by simp,fun a=>?_⟩
   have:=hb.2 (a.2.1 j c);cases this
  refine Gx (hs c _ ⟨Hi,fun k d=>?_⟩);by_cases e:k=j
  .subst e;exact hb.1 rfl
  exact h k (by omega)
 refine Ec ?_;obtain⟨y1,e1,h1⟩:=Vr (N:=N) f hl.1 (w:=w) hw.2 (i:Int);obtain⟨y2,e2,a⟩:=Ac0 (N:=N) f hl.2.1 (w:=w) hw.2 ((i+l.If.n:Nat):Int);rw[AQ4]at h1 a;refine B1 e1 (B1 e2 ⟨_,rfl,?_⟩);simp only[AQ7,Mw];constructor
 .rintro⟨g1,g2⟩;have h1:=h1.1 (by omega);have a:=a.1 (by omega);exact⟨by omega,fun k d=>h k (by omega),h1.1,a.1,h1.2.1,by omega,h1.2.2.2.2,a.2.2.2.2⟩
 intro g;have a1:=h1.2 ⟨g.2.2.1,g.2.2.2.2.1,by omega,by omega,g.2.2.2.2.2.2.1⟩;have a2:=a.2 ⟨g.2.2.2.1,g.2.2.2.2.1,by omega,by omega,g.2.2.2.2.2.2.2⟩;exact⟨by omega,by omega⟩
end Go.AM
namespace Go.AM
open IntKind (wrap)
open Go.Proofs
open Classical in
noncomputable def hitB (l:Law) (w:Sl Tb) (i:Nat):Bool:=decide (PG l w i)
def hitB_iff {l:Law}{w:Sl Tb}{i:Nat}:hitB l w i=true↔PG l w i:=by simp[hitB]
noncomputable def Ey (l:Law) (w:Sl Tb) (i:Nat):List Int:=((List.range' i (w.n+1-i)).filter (hitB l w)).map fun (j:Nat)=>(j:Int)
def Kl {l:Law}{w:Sl Tb}{i:Nat}(h:w.n<i+l.If.n):Ey l w i=[]:=by
 unfold Ey;rw[Bh2.2 fun j hj hb=>by
  have:=Bg2.1 hj
  have:=(hitB_iff.1 hb).1
  omega]
 rfl
def Js {l:Law}{w:Sl Tb}{i:Nat}(a:i<=w.n)(h:PG l w i):Ey l w i=(i:Int)::Ey l w (i+1):=by unfold Ey;rw[show w.n+1-i=(w.n+1-(i+1))+1 by omega,Bc6,Bg6 (hitB_iff.2 h)];rfl
def Jt {l:Law}{w:Sl Tb}{i:Nat}(h:¬PG l w i):Ey l w i=Ey l w (i+1):=by
 unfold Ey;by_cases a:i<=w.n
 .rw[show w.n+1-i=(w.n+1-(i+1))+1 by omega,Bc6,Bg7 fun hb=>h (hitB_iff.1 hb)]
 rw[show w.n+1-i=0 by omega,show w.n+1-(i+1)=0 by omega];rfl
def Ap5 {l:Law}{w:Sl Tb}{i:Nat}{y:Int}(h:y∈Ey l w i):(i:Int)<=y:=by
 obtain⟨j,hj,rfl⟩:=AU2.1 h
 have:=Bg2.1 (Bd6.1 hj).1
 omega
def WX {N:Nat}(z:3000<=N){l:Law}(hl:okL l)(hk:l.If.n<=4){w:Sl Tb}(hw:okW w)(i:Nat)(v:i<1500):Z5 N l w (i:Int)=some (Ey l w i):=by
 unfold Z5;show (some (l,w)).bind _=_;rw[AQ6];simp only[]
 suffices h:∀(k i:Nat),i<1501->w.n+1-i<=k->∀F,k<F->∃r,S3 F (fun (a:Int->Option (List Int)) (x2:Int)=>
  if (decide ((wrap .i64 (x2+(l.If.n:Int)))<=(w.n:Int))) then
   S3 N (fun (d:Int->Option (List Int)) (x4:Int)=>
    if (decide (x4<(l.If.n:Int))) then
     if ((0:Int)<=x4/\x4<(l.If.n:Int))then
      if ((0:Int)<=(wrap .i64 (x2+x4))/\(wrap .i64 (x2+x4))<(w.n:Int))then
       (K0 N (w.g (wrap .i64 (x2+x4)).toNat) (l.If.g x4.toNat)).bind fun s=>
       if (!s) then
        a (wrap .i64 (x2+1))
       else
        d (wrap .i64 (x4+1))
      else none
     else none
    else
     (V8 N x2 l w).bind fun t=>
     if t then
      Y4 x2 (
       a (wrap .i64 (x2+1))
       )
     else
      a (wrap .i64 (x2+1))
    ) 0
  else
   some []
  ) (i:Int)=some r/\r=Ey l w i by
  obtain⟨r,h1,rfl⟩:=h (w.n+1-i) i (by omega) (AQ8 _) N (by have:=hw.1;omega);exact h1
 intro k
 induction k with
 |zero=>
  intro i v f F q
  match F,q with
  |F+1,_=>rw[BD,DU (by omega)];exact Ec ⟨_,rfl,(Kl (by omega)).symm⟩
 |succ k ih=>
  intro i v f F q
  match F,q with
  |F+1,q=>
   rw[BD,DU (by omega)];by_cases hn:i+l.If.n<=w.n
   case neg=>exact Ec ⟨_,rfl,(Kl (by omega)).symm⟩
   refine Ao ?_;have a0:=hw.1;obtain⟨r,x,o⟩:=ih (i+1) (by omega) (by omega) F (by omega);have c:∀(Q:List Int->Prop),Q (Ey l w (i+1))->∃r,S3 F _ (IntKind.i64.wrap ((i:Int)+1))=some r/\Q r:=fun Q hQ=>⟨r,by rw[Hi];exact x,by rw[o];exact hQ⟩;refine W5 (fun j x1=>x1=(j:Int)/\∀k,k<j->AG7 (w.g (i+k)) (l.If.g k)) l.If.n _ (by omega) ⟨rfl,fun k hk=>Ln hk (by omega)⟩ ?_;rintro y j x1 hj ⟨rfl,h⟩ hs;by_cases m:j<l.If.n
   .rw[DU (by omega)];refine Ao (An (An ?_));obtain⟨b,eb,hb⟩:=Ap3 (N:=N) (hw.2 (i+j) (by omega)) (hl.2.2 j m);refine B1 (by rw[AQ4,AQ4];exact eb) ?_;cases b
    .refine ifT rfl (c _ ?_);exact (Jt fun u=>by have:=hb.2 (u.2.1 j m);cases this).symm
    refine Gx (hs m _ ⟨Hi,fun k f=>?_⟩);by_cases e:k=j
    .subst e;exact hb.1 rfl
    exact h k (by omega)
   refine Ec ?_;obtain⟨b,eb,hb⟩:=Yo z hl hk hw i (by omega);refine B1 eb ?_;cases b
   .refine Gx (c _ ?_);exact (Jt fun u=>by have:=hb.2 u.2.2;cases this).symm
   refine ifT rfl ?_;have hh:PG l w i:=⟨hn,fun k f=>h k (by omega),hb.1 rfl⟩;refine⟨(i:Int)::Ey l w (i+1),?_,(Js (by omega) hh).symm⟩;rw[Hi,x,o];rfl
def Ac2 {N:Nat}(a:3000<=N){l:Law}(hl:okL l)(hk:l.If.n<=4){w:Sl Tb}(hw:okW w)(i:Nat)(c:i<1500) :∃b,CF N l w (i:Int)=some b/\(b=true↔PG l w i):=by
 unfold CF;refine B1 (x:=(l,w,(i:Int))) rfl (B1 (WX a hl hk hw i c) ?_);by_cases h:PG l w i
 .rw[Js (by have:=h.1;omega) h];exact⟨true,by simp[O1],by simp[h]⟩
 rw[Jt h];rcases hL:Ey l w (i+1)with _|⟨t,L⟩
 .exact⟨false,rfl,by simp[h]⟩
 have:((i+1:Nat):Int)<=t:=Ap5 (l:=l) (w:=w) (by rw[hL];simp)
 exact⟨false,by show some (t==(i:Int))=some false;congr 1;simp;omega,by simp[h]⟩
end Go.AM
namespace Go.AM
variable {N:Nat}
open IntKind (wrap)
open Go.Proofs
def okO (x:IK):Prop:=okS x.Set/\(∃c:BitVec 32,x.Clear=(c.toNat:Int))/\∃t:BitVec 32,x.Take=(t.toNat:Int)
def Av3 {p m a b s:BitVec 32}(h1:vB p m=true)(d:vB a b=true):vB (RM p a s) (RM m b s)=true:=by rw[FT]at *;intro i c;have g1:=h1 i c;have g2:=d i c;simp only[RM,AS3,AS4,AW1];revert g1 g2;cases s.getLsbD i<;>cases p.getLsbD i<;>cases m.getLsbD i<;>cases a.getLsbD i<;>cases b.getLsbD i<;>simp[c]
def vS0:vS (⟨0,0⟩:Tb):=⟨0#32,0#32,rfl,by decide +kernel⟩
def Vs (f:1000<=N){s t:Tb}{c:Int}(hs:okS s)(hc:∃b:BitVec 32,c=(b.toNat:Int))(ht:okS t):∃y,P1 N s c t=some y/\Z9 N s c t=some y/\vS y.1:=by
 obtain⟨p,m,rfl⟩:=hs;obtain⟨a,b,rfl⟩:=ht;obtain⟨d,rfl⟩:=hc;refine⟨_,Yj p m d a b,Yk p m d a b f,?_⟩;unfold Ao4;split
 .rename_i h;split
  .exact⟨_,_,rfl,Av3 h.1 h.2⟩
  exact vS0
 exact vS0
def Ac3 (f:1000<=N){s t:Tb}{c:Int}(hs:okS s)(hc:∃b:BitVec 32,c=(b.toNat:Int))(ht:okS t):∃y,T5 N s t c=some y/\Cn N s t c=some y/\vS y.1:=by
 obtain⟨p,m,rfl⟩:=hs;obtain⟨a,b,rfl⟩:=ht;obtain⟨d,rfl⟩:=hc;refine⟨_,Ao6 p m a b d,Ao7 p m a b d f,?_⟩;unfold Ao5;split
 .rename_i h;split
  .exact⟨_,_,rfl,Av3 h.1 h.2⟩
  exact vS0
 exact vS0
def AG8 (l:Law):Prop:=l.Out.n<=6/\∀i,i<l.Out.n->okO (l.Out.g i)/\(l.Out.g i).From<l.If.n/\((l.Out.g i).Take≠0->0<=(l.Out.g i).Of/\(l.Out.g i).Of<l.If.n)
def eqX {R:Type}{Q:R->Prop}{o o' : Option R}(h:o=o')(a:∃r,o' = some r/\Q r):∃r,o=some r/\Q r:=by rw[h];exact a
def Dj (f:Nat->Tb):Nat->Sl Tb
 |0=>Sl.nil
 |m+1=>(Dj f m).push (f m)
def Nv (f:Nat->Tb):∀m,(Dj f m).n=m
 |0=>rfl
 |m+1=>by show (Dj f m).n+1=_;rw[Nv f m]
def Ac4 (f:Nat->Tb):∀{m i:Nat},i<m->(Dj f m).g i=f i
 |0,i,h=>by omega
 |m+1,i,h=>by
  show (if i<(Dj f m).n then (Dj f m).g i else f m)=f i;rw[Nv];by_cases e:i<m
  .rw[Ll e,Ac4 f e]
  rw[Lm e,show i=m by omega]
abbrev srcS (l:Law)(cut:Sl Tb)(i:Nat):Tb:=⟨(if (decide (0<=(l.Out.g i).From)) then (cut.g (l.Out.g i).From.toNat).Plus else 0),(if (decide (0<=(l.Out.g i).From)) then (cut.g (l.Out.g i).From.toNat).Minus else 0)⟩
def AD8 (t:1000<=N){l:Law}(u:AG8 l){cut:Sl Tb}(hn:cut.n=l.If.n)(hc:∀i,i<cut.n->okS (cut.g i)) :∃s,O7 N l cut=some s/\DM N l cut=some s/\s.n=l.Out.n/\∀i,i<s.n->vS (s.g i):=by
 have one:∀i,∃y:Tb,i<l.Out.n->vS y/\∀(R:Type) (k:Tb->Option R),
  (∀(Ch:Nat->Tb->Int->Tb->Option (Tb×Int)) (Ta:Nat->Tb->Tb->Int->Option (Tb×Int)),(Ch=P1/\Ta=T5) \/ (Ch=Z9/\Ta=Cn) ->
  (if ((decide (0<=(l.Out.g i).From))=true->((0:Int)<=(l.Out.g i).From/\(l.Out.g i).From<(cut.n:Int)))then
   (Ch N (⟨(if (decide (0<=(l.Out.g i).From)) then (cut.g (l.Out.g i).From.toNat).Plus else 0),(if (decide (0<=(l.Out.g i).From)) then (cut.g (l.Out.g i).From.toNat).Minus else 0)⟩:Tb) (l.Out.g i).Clear (l.Out.g i).Set).bind fun y5=>
   if ((l.Out.g i).Take != 0) then
    if ((0:Int)<=(l.Out.g i).Of/\(l.Out.g i).Of<(cut.n:Int))then
     (Ta N y5.1 (cut.g (l.Out.g i).Of.toNat) (l.Out.g i).Take).bind fun y6=>k y6.1
    else none
   else k y5.1
   else none)=k y):=by
  intro i;by_cases d:i<l.Out.n
  case neg=>exact⟨default,fun h=>Ln h d⟩
  obtain⟨⟨j,m,o⟩,w,q⟩:=u.2 i d;have hs:okS (⟨(if (decide (0<=(l.Out.g i).From)) then (cut.g (l.Out.g i).From.toNat).Plus else 0),(if (decide (0<=(l.Out.g i).From)) then (cut.g (l.Out.g i).From.toNat).Minus else 0)⟩:Tb):=by
   by_cases v:0<=(l.Out.g i).From
   .simp only[v,decide_true,Lo];exact hc _ (by omega)
   simp only[v,decide_false,AR0,Lp];exact⟨0#32,0#32,rfl⟩
  obtain⟨y,e1,e2,hy⟩:=Vs t hs m j;by_cases ht:(l.Out.g i).Take=0
  .refine⟨y.1,fun _=>⟨hy,fun R k Ch Ta h=>?_⟩⟩;rw[Ll (fun h=>by have:=of_decide_eq_true h;omega)]
   have:Ch N (srcS l cut i) (l.Out.g i).Clear (l.Out.g i).Set=some y:=by
    rcases h with⟨rfl,rfl⟩ | ⟨rfl,rfl⟩
    .exact e1
    exact e2
   rw[this,AQ6,Lm (by simp[ht])]
  obtain⟨g1,g2⟩:=q ht;obtain⟨z,e3,e4,x⟩:=Ac3 t hy.ok o (hc (l.Out.g i).Of.toNat (by omega));refine⟨z.1,fun _=>⟨x,fun R k Ch Ta h=>?_⟩⟩;rw[Ll (fun h=>by have:=of_decide_eq_true h;omega)]
  have:Ch N (srcS l cut i) (l.Out.g i).Clear (l.Out.g i).Set=some y:=by
   rcases h with⟨rfl,rfl⟩ | ⟨rfl,rfl⟩
   .exact e1
   exact e2
  rw[this,AQ6,Ll (by simp[ht]),Hj]
  have:Ta N y.1 (cut.g (l.Out.g i).Of.toNat) (l.Out.g i).Take=some z:=by
   rcases h with⟨rfl,rfl⟩ | ⟨rfl,rfl⟩
   .exact e3
   exact e4
  rw[this,AQ6]
 obtain⟨out,f⟩:=AZ1 one;have a0:=u.1;have b:∀(Ch:Nat->Tb->Int->Tb->Option (Tb×Int)) (Ta:Nat->Tb->Tb->Int->Option (Tb×Int)),(Ch=P1/\Ta=T5) \/ (Ch=Z9/\Ta=Cn) ->
  ∀(a:Sl Tb->Int->Option (Sl Tb)) (i:Nat),i<l.Out.n->(∃r,a ((Dj out i).push (out i)) (wrap .i64 ((i:Int)+1))=some r/\r=Dj out l.Out.n) ->
  ∃r,(if ((decide (0<=(l.Out.g i).From))=true->((0:Int)<=(l.Out.g i).From/\(l.Out.g i).From<(cut.n:Int)))then
   (Ch N (srcS l cut i) (l.Out.g i).Clear (l.Out.g i).Set).bind fun y5=>
   if ((l.Out.g i).Take != 0) then
    if ((0:Int)<=(l.Out.g i).Of/\(l.Out.g i).Of<(cut.n:Int))then
     (Ta N y5.1 (cut.g (l.Out.g i).Of.toNat) (l.Out.g i).Take).bind fun y6=>
     if (((Dj out i).n+(Sl.of [y6.1]:Sl Tb).n)*8<=140737488355328/\(Dj out i).n+(Sl.of [y6.1]:Sl Tb).n<=140737488355328)then
      a ((Dj out i).push y6.1) (wrap .i64 ((i:Int)+1))
     else none
    else none
   else
    if (((Dj out i).n+(Sl.of [y5.1]:Sl Tb).n)*8<=140737488355328/\(Dj out i).n+(Sl.of [y5.1]:Sl Tb).n<=140737488355328)then
     a ((Dj out i).push y5.1) (wrap .i64 ((i:Int)+1))
    else none
   else none)=some r/\r=Dj out l.Out.n:=by
  intro Ch Ta h a i d hr;have e:=(f i d).2 (Sl Tb) (fun y=>if (((Dj out i).n+(Sl.of [y]:Sl Tb).n)*8<=140737488355328/\(Dj out i).n+(Sl.of [y]:Sl Tb).n<=140737488355328)then a ((Dj out i).push y) (wrap .i64 ((i:Int)+1))else none) Ch Ta h;refine eqX e (ifT ?_ hr)
  have:=Nv out i
  show ((Dj out i).n+1)*8<=_/\(Dj out i).n+1<=_;omega
 have h1:∃r,O7 N l cut=some r/\r=Dj out l.Out.n:=by
  unfold O7;refine T1 (fun i x1 x2=>x2=(i:Int)/\x1=Dj out i) l.Out.n _ (by omega) ⟨rfl,rfl⟩ ?_;rintro a i x1 x2 d ⟨rfl,rfl⟩ hs;by_cases c:i<l.Out.n
  .refine Ao (An ?_);rw[AQ4];exact b _ _ (.inl ⟨rfl,rfl⟩) a i c (hs c _ _ ⟨Hi,rfl⟩)
  exact Ec ⟨_,rfl,by congr 1;omega⟩
 have h2:∃r,DM N l cut=some r/\r=Dj out l.Out.n:=by
  unfold DM;refine T1 (fun i x1 x2=>x2=(i:Int)/\x1=Dj out i) l.Out.n _ (by omega) ⟨rfl,rfl⟩ ?_;rintro a i x1 x2 d ⟨rfl,rfl⟩ hs;by_cases c:i<l.Out.n
  .refine Ao (An ?_);rw[AQ4];exact b _ _ (.inr ⟨rfl,rfl⟩) a i c (hs c _ _ ⟨Hi,rfl⟩)
  exact Ec ⟨_,rfl,by congr 1;omega⟩
 obtain⟨r,e1,rfl⟩:=h1;obtain⟨r,e2,rfl⟩:=h2;exact⟨_,e1,e2,Nv out _,fun i d=>by rw[Nv]at d;rw[Ac4 out d];exact (f i d).1⟩
end Go.AM
namespace Go.AM
open Go.Proofs
def ne0 (x:BitVec 32):((x.toNat:Int) != 0)=decide (x≠0#32):=by rw[bne,eq0];simp
def or0 (x y:BitVec 32):x ||| y=0#32↔x=0#32/\y=0#32:=by
 constructor
 .intro h;have h:=(z32 _).1 h;exact⟨(z32 _).2 fun i a=>by have:=h i a;rw[AS3,Ba2]at this;exact this.1,(z32 _).2 fun i a=>by have:=h i a;rw[AS3,Ba2]at this;exact this.2⟩
 rintro⟨rfl,rfl⟩;rfl
def AN5 (x y z:BitVec 32):x &&& (y ||| z)=(x &&& y) ||| (x &&& z):=by apply AW3;intro i a;simp only[AS4,AS3];cases x.getLsbD i<;>simp
def AN6 (x y z:BitVec 32):(x ||| y) &&& z=(x &&& z) ||| (y &&& z):=by apply AW3;intro i a;simp only[AS4,AS3];cases z.getLsbD i<;>simp
def WY {N:Nat}(j:1000<=N){x:IK}(hx:okO x)(k:Int):∃b,V7 N x k=some b/\Kb N x k=some b:=by
 obtain⟨⟨a,b,d⟩,⟨c,hc⟩,t,ht⟩:=hx;have f:(16777215:Int)=((16777215#32).toNat:Int):=rfl;unfold V7 Kb;simp only[lt,d,hc,ht,BX,AD a b j,AQ6];rw[f];simp only[Fl,KK,EJ,ne0];by_cases h1:x.From < -1
 .simp[h1]
 by_cases g:k<=x.From
 .simp[h1,g]
 by_cases i:vB a b=true
 case neg=>simp[h1,g,i]
 simp only[h1,g,i,decide_false,AR0,Lp,Bd2];rw[AN6,AN5 t];generalize ~~~16777215#32=M;by_cases g1:c &&& M=0#32
 case neg=>simp[g1,or0]
 by_cases g2:t &&& M=0#32
 case neg=>simp[g1,g2,or0]
 by_cases g3:c &&& (a ||| b)=0#32
 case neg=>simp[g1,g2,g3,or0]
 by_cases g4:t &&& (a ||| b)=0#32
 case neg=>simp[g1,g2,g3,g4,or0]
 by_cases g5:t &&& c=0#32
 case neg=>simp[g1,g2,g3,g4,g5,or0]
 simp[g1,g2,g3,g4,g5,or0];by_cases g6:t.toNat=0
 .simp only[g6,Lo];cases x.Of==0<;>simp
 simp only[g6,Lp];cases (decide (0<=x.Of)&&decide (x.Of<k))<;>simp
end Go.AM
namespace Go.AM
open Go.Proofs
abbrev nameC:Str:=[97,98,99,100,101,102,103,104,105,106,107,108,109,110,111,112,113,114,115,116,117,118,119,120,121,122,65,66,67,68,69,70,71,72,73,74,75,76,77,78,79,80,81,82,83,84,85,86,87,88,89,90,48,49,50,51,52,53,54,55,56,57,45]
def Ac5 {p:UInt8->Bool}:∀{l:Str},l.dropWhile p=[] ↔ ∀x∈l,p x=true
 |[]=>by simp
 |a::l=>by
  rw[List.dropWhile_cons];by_cases h:p a=true
  .rw[Ll h,Ac5];simp[h]
  rw[Lm h];simp[h]
def Ap6 (l cs:Str):Lib.trimS l cs=[] ↔ ∀b∈l,cs.contains b=true:=by
 unfold Lib.trimS Lib.trimLeftS Lib.trimRightS;rw[Ac5];constructor
 .intro h;have h:∀x∈l.reverse.dropWhile (cs.contains ·),cs.contains x=true:=fun x hx=>h x (Be5.2 hx);have a:l.reverse.dropWhile (cs.contains ·)=[]:=by
   rcases e:l.reverse.dropWhile (cs.contains ·)with _|⟨y,r⟩
   .rfl
   have c:=h y (by rw[e];simp);have d:¬cs.contains y=true:=by
    have:=List.head_dropWhile_not (cs.contains ·) (l:=l.reverse) (by rw[e];simp)
    simp only[e,List.head_cons]at this;rw[this];exact Bool.false_ne_true
   exact Ln c d
  rw[Ac5]at a;exact fun b hb=>a b (Be5.2 hb)
 intro h x hx;have hx:=Be5.1 hx;exact h x (Be5.1 ((List.dropWhile_sublist _).mem hx))
abbrev Rv (y:Int):Bool:=((((decide (97<=y))&&(decide (y<=122)))||((decide (65<=y))&&(decide (y<=90))))||((decide (48<=y))&&(decide (y<=57))))||(y==45)
def Ac6:∀k:Fin 256,nameC.contains (UInt8.ofNat k.val)=Rv ((k.val:Nat):Int):=by decide +kernel
def Ac7 (b:UInt8):nameC.contains b=Rv ((b.toNat:Nat):Int):=by
 have:=Ac6 ⟨b.toNat,b.toNat_lt⟩
 rw[show UInt8.ofNat b.toNat=b by simp]at this;exact this
def TD {N:Nat}{s:Str}(m:s.length<N)(hs:s.length<1000000000):∃b,Cl N s=some b/\EX N s=some b:=by
 have n:∃b,EX N s=some b/\(b=true↔(∀c∈s,nameC.contains c=true)/\1<=s.length/\s.length<=24):=by
  unfold EX;refine W5 (fun i x1=>x1=(i:Int)/\∀j (h:j<s.length),j<i->nameC.contains s[j]=true) s.length _ m ⟨rfl,fun j _ hj=>Ln hj (by omega)⟩ ?_;rintro g i x1 u ⟨rfl,h⟩ d;by_cases hl:i<s.length
  .refine Ao (An ?_);have eb:CB s (i:Int)=((s[i].toNat:Nat):Int):=by simp[CB,hl]
   by_cases hb:nameC.contains s[i]=true
   .refine ifF (by rw[eb];show ¬(!(Rv ((s[i].toNat:Nat):Int)))=true;rw[<- Ac7,hb];simp) (d hl _ ⟨Hi,fun j hj o=>?_⟩);by_cases e:j=i
    .subst e;exact hb
    exact h j hj (by omega)
   refine ifT ?_ ⟨false,rfl,by simp,fun q=>Ln (q.1 s[i] (Bb3 hl)) hb⟩;rw[eb];show (!(Rv ((s[i].toNat:Nat):Int)))=true;rw[<- Ac7];simpa using hb
  refine Ec ⟨_,rfl,?_⟩;simp only[AQ7,Mw];constructor
  .rintro⟨g1,g2⟩;refine⟨fun c hc=>?_,by omega,by omega⟩;obtain⟨j,hj,rfl⟩:=Bc7 hc;exact h j hj (by omega)
  rintro⟨_,g1,g2⟩;exact⟨by omega,by omega⟩
 obtain⟨b,e,hb⟩:=n;refine⟨b,?_,e⟩
 suffices h:∃r,Cl N s=some r/\(r=true↔(∀c∈s,nameC.contains c=true)/\1<=s.length/\s.length<=24) by obtain⟨r,t,f⟩:=h;rw[t,show r=b by rw[AU3,f,hb]]
 unfold Cl;refine ltX ?_;by_cases a:s=[]
 .exact ifF (by simp[a]) ⟨false,rfl,by simp[a]⟩
 refine ifT (by simp[a]) ?_;have l:0<s.length:=List.length_pos_iff.2 a;by_cases h1:s.length<=24
 .refine Ao (B1 (x:=Lib.trimS s nameC) ?_ ⟨_,rfl,?_⟩)
  .unfold Ev;rw[Ll ⟨by omega,by decide,by decide⟩]
  rw[<- Ap6];constructor
  .intro h;exact⟨by simpa using h,by omega,h1⟩
  rintro⟨h,_⟩;simp[h]
 exact Ec ⟨false,rfl,by simp;intro _ _;omega⟩
end Go.AM
namespace Go.AM
variable {N:Nat}
open IntKind (wrap)
open Go.Proofs
def TE {s:Sl IK}(l:s.n<N)(hs:s.n<1000000){f:IK->Option Bool}{b:Nat->Bool}(m:∀i,i<s.n->f (s.g i)=some (b i)) :∃r,C0 N s f=some r/\(r=true ↔ ∃i,i<s.n/\b i=true):=by
 unfold C0 F3
 have:∃y,S3 N (fun (a:Int->Option Int) (x1:Int)=>
  if (decide (x1<(s.n:Int))) then
   if ((0:Int)<=x1/\x1<(s.n:Int))then
    (f (s.g x1.toNat)).bind fun y3=>
    if y3 then
     some x1
    else
     a (wrap .i64 (x1+1))
   else none
  else
   some (-1)) 0=some y/\(0<=y ↔ ∃i,i<s.n/\b i=true):=by
  refine W5 (fun i x1=>x1=(i:Int)/\∀j,j<i->b j=false) s.n _ l ⟨rfl,fun j hj=>Ln hj (by omega)⟩ ?_;rintro d i x1 o ⟨rfl,h⟩ c;by_cases hl:i<s.n
  .refine Ao (An (B1 (by rw[AQ4];exact m i hl) ?_));cases hb:b i
   .refine Gx (c hl _ ⟨Hi,fun j hj=>?_⟩);by_cases e:j=i
    .subst e;exact hb
    exact h j (by omega)
   exact ifT rfl ⟨i,rfl,fun _=>⟨i,hl,hb⟩,fun _=>by omega⟩
  refine Ec ⟨-1,rfl,fun h=>Ln h (by decide),?_⟩;rintro⟨j,hj,hb⟩;rw[h j (by omega)]at hb;cases hb
 obtain⟨y,e,hy⟩:=this;exact B1 e ⟨_,rfl,by rw[Mw];exact hy⟩
def Lx (l:Law):Prop:=okL l/\l.Name.length<1100000/\l.If.n<1100000/\l.Out.n<1100000/\∀i,i<l.Out.n->okO (l.Out.g i)
def PH {s:Tb}(hs:okS s):∃b,G2 N s=some b/\(b=true↔vS s):=by obtain⟨p,m,e⟩:=hs;exact⟨vB p m,by rw[e];exact BX p m,(Vn e).symm⟩
def Yp (a:1000<=N){s:Tb}(hs:okS s):∃b,K3 N s=some b/\(b=true↔vS s):=by obtain⟨p,m,e⟩:=hs;exact⟨vB p m,by rw[e];exact AD p m a,(Vn e).symm⟩
def Ap7 {x:IK}(hx:okO x){k:Int}(h:V7 N x k=some true):x.From<k/\(x.Take≠0->0<=x.Of/\x.Of<k):=by
 obtain⟨⟨a,b,c⟩,_,_⟩:=hx;unfold V7 at h;simp only[lt,c,BX,AQ6]at h;by_cases h1:x.From < -1
 .simp[h1]at h
 by_cases d:k<=x.From
 .simp[h1,d]at h
 refine⟨by omega,fun ht=>?_⟩;simp only[h1,d,decide_false,AR0,Lp]at h;by_cases f:(!vB a b)=true
 .rw[Ll f]at h;cases h
 rw[Lm f]at h;split at h
 .cases h
 rw[Lm (by simp[ht])]at h;simpa using h
def chkAll (N:Nat)(l:Law):Prop:=EX N l.Name=some true/\chk 40 [l.Left]/\chk 40 [l.Right]/\l.If.n<=4/\l.Out.n<=6/\l.If.n+l.Out.n≠0/\1<=l.Mode/\l.Mode<=3/\(∀i,i<l.If.n->vS (l.If.g i))/\∀i,i<l.Out.n->V7 N (l.Out.g i) l.If.n=some true
def AD9 (N:Nat)(l:Law)(e:Int):Prop:=(e=0/\chkAll N l) \/ (e=17/\¬chkAll N l)
def AG9 (l:Law):Prop:=okL l/\chk 40 [l.Left]/\chk 40 [l.Right]/\l.If.n<=4/\AG8 l/\l.If.n+l.Out.n≠0/\1<=l.Mode/\l.Mode<=3
def chkAll.f {N:Nat}{l:Law}(hl:Lx l)(h:chkAll N l):AG9 l:=by obtain⟨_,h1,b,c,d,g,j,m,o,n⟩:=h;exact⟨hl.1,h1,b,c,⟨d,fun i a=>⟨hl.2.2.2.2 i a,Ap7 (hl.2.2.2.2 i a) (n i a)⟩⟩,g,j,m⟩
def Yq (z:3000000<=N){l:Law}(hl:Lx l):∃e,Z4 N l=some e/\AD9 N l e:=by
 have t:=hl.2.1;have u:=hl.2.2.1;have v:=hl.2.2.2.1;unfold Z4;obtain⟨b0,e0,e0'⟩:=TD (N:=N) (s:=l.Name) (by omega) (by omega);refine B1 e0 ?_;cases b0
 .exact ifT rfl ⟨17,rfl,.inr ⟨rfl,fun h=>by have:=h.1;rw[e0']at this;cases this⟩⟩
 refine Gx ?_;obtain⟨y2,e2,m⟩:=Rt (N:=N) (by omega) hl.1.1;refine B1 e2 ?_;by_cases c2:y2=0
 case neg=>exact ifT (by simpa using c2) ⟨17,rfl,.inr ⟨rfl,fun h=>c2 (m.2 h.2.1)⟩⟩
 refine ifF (by simp[c2]) ?_;obtain⟨y3,e3,o⟩:=Rt (N:=N) (by omega) hl.1.2.1;refine B1 e3 ?_;by_cases c3:y3=0
 case neg=>exact ifT (by simpa using c3) ⟨17,rfl,.inr ⟨rfl,fun h=>c3 (o.2 h.2.2.1)⟩⟩
 refine ifF (by simp[c3]) ?_;by_cases c4:4<l.If.n
 .exact Ao ⟨17,rfl,.inr ⟨rfl,fun h=>by have:=h.2.2.2.1;omega⟩⟩
 refine Ec ?_;by_cases c5:6<l.Out.n
 .exact Ao ⟨17,rfl,.inr ⟨rfl,fun h=>by have:=h.2.2.2.2.1;omega⟩⟩
 refine Ec ?_;rw[DU (by omega)];by_cases c6:l.If.n+l.Out.n=0
 .exact ifT (by rw[c6];rfl) ⟨17,rfl,.inr ⟨rfl,fun h=>h.2.2.2.2.2.1 c6⟩⟩
 refine Ec ?_;by_cases c7:l.Mode<1 \/ 3<l.Mode
 .exact Ao ⟨17,rfl,.inr ⟨rfl,fun h=>by have g1:=h.2.2.2.2.2.2.1;have g2:=h.2.2.2.2.2.2.2.1;omega⟩⟩
 refine Ec ?_;have x:∀i,∃b,i<l.If.n->Ax N (l.If.g i)=some b/\(b=true ↔ ¬vS (l.If.g i)):=by
  intro i;by_cases a:i<l.If.n
  .obtain⟨b,eb,hb⟩:=PH (N:=N) (hl.1.2.2 i a);refine⟨!b,fun _=>⟨by unfold Ax;rw[eb];rfl,?_⟩⟩;rw[<- hb];simp
  exact⟨false,fun h=>Ln h a⟩
 obtain⟨f,j⟩:=AZ1 x;obtain⟨y4,e4,q⟩:=GN (N:=N) (w:=l.If) (by omega) (by omega) (f:=fun u1=>Ax N u1) (fun i a=>(j i a).1);refine B1 e4 ?_;cases c:y4
 case true=>obtain⟨i,a,hb⟩:=q.1 c;exact ifT rfl ⟨17,rfl,.inr ⟨rfl,fun h=>(j i a).2.1 hb (h.2.2.2.2.2.2.2.2.1 i a)⟩⟩
 refine Gx ?_;have y:∀i,∃b,i<l.Out.n->Aw N (l.Out.g i) (l.If.n:Int)=some b/\(b=true ↔ ¬V7 N (l.Out.g i) l.If.n=some true):=by
  intro i;by_cases a:i<l.Out.n
  .obtain⟨b,eb,_⟩:=WY (N:=N) (by omega) (hl.2.2.2.2 i a) (l.If.n:Int);refine⟨!b,fun _=>⟨by unfold Aw;rw[eb];rfl,?_⟩⟩;rw[eb];simp
  exact⟨false,fun h=>Ln h a⟩
 obtain⟨g,hg⟩:=AZ1 y;obtain⟨y5,e5,r⟩:=TE (N:=N) (s:=l.Out) (by omega) (by omega) (f:=fun u2=>Aw N u2 (l.If.n:Int)) (fun i a=>(hg i a).1);refine B1 e5 ?_;cases d:y5
 case true=>obtain⟨i,a,hb⟩:=r.1 d;exact ifT rfl ⟨17,rfl,.inr ⟨rfl,fun h=>(hg i a).2.1 hb (h.2.2.2.2.2.2.2.2.2 i a)⟩⟩
 refine Gx ⟨0,rfl,.inl ⟨rfl,e0',m.1 c2,o.1 c3,by omega,by omega,c6,by omega,by omega,fun i a=>?_,fun i a=>?_⟩⟩
 .refine AU0 fun hn=>?_
  have:=q.2 ⟨i,a,(j i a).2.2 hn⟩
  rw[c]at this;cases this
 refine AU0 fun hn=>?_
 have:=r.2 ⟨i,a,(hg i a).2.2 hn⟩
 rw[d]at this;cases this
def Yr (x:3000000<=N){l:Law}(hl:Lx l):∃e,Co N l=some e/\AD9 N l e:=by
 have t:=hl.2.1;have u:=hl.2.2.1;have v:=hl.2.2.2.1;unfold Co;obtain⟨b0,e0,e0'⟩:=TD (N:=N) (s:=l.Name) (by omega) (by omega);refine B1 e0' (ltX ?_);cases b0
 .exact ifT rfl (ifT rfl ⟨17,rfl,.inr ⟨rfl,fun h=>by have:=h.1;rw[e0']at this;cases this⟩⟩)
 refine Gx ?_;obtain⟨y2,e2,o⟩:=Ns (N:=N) (by omega) hl.1.1;refine B1 e2 ?_;by_cases c2:y2=0
 case neg=>exact ifT (by simpa using c2) (ifT rfl ⟨17,rfl,.inr ⟨rfl,fun h=>c2 (o.2 h.2.1)⟩⟩)
 refine ifF (by simp[c2]) ?_;obtain⟨y3,e3,q⟩:=Ns (N:=N) (by omega) hl.1.2.1;refine B1 e3 ?_;by_cases c3:y3=0
 case neg=>exact ifT (by simpa using c3) ⟨17,rfl,.inr ⟨rfl,fun h=>c3 (q.2 h.2.2.1)⟩⟩
 refine ifF (by simp[c3]) ?_;rw[DU (by omega)];by_cases a:l.If.n<=4/\l.Out.n<=6/\l.If.n+l.Out.n≠0/\1<=l.Mode/\l.Mode<=3
 case neg=>refine ifT ?_ ⟨17,rfl,.inr ⟨rfl,fun h=>a ⟨h.2.2.2.1,h.2.2.2.2.1,h.2.2.2.2.2.1,h.2.2.2.2.2.2.1,h.2.2.2.2.2.2.2.1⟩⟩⟩;simp only[AS6,Mw,beq_iff_eq];omega
 refine ifF (by simp only[AS6,Mw,beq_iff_eq];omega) ?_;obtain⟨c4,c5,c6,c7,c8⟩:=a;refine W5 (fun i x1=>x1=(i:Int)/\∀j,j<i->vS (l.If.g j)) l.If.n _ (by omega) ⟨rfl,fun j hj=>Ln hj (by omega)⟩ ?_;rintro r i x1 y ⟨rfl,h⟩ hs;by_cases c:i<l.If.n
 .obtain⟨b,eb,hb⟩:=Yp (N:=N) (by omega) (hl.1.2.2 i c);refine Ao (An (B1 (by rw[AQ4];exact eb) ?_));cases b
  .exact ifT rfl ⟨17,rfl,.inr ⟨rfl,fun h=>by have:=hb.2 (h.2.2.2.2.2.2.2.2.1 i c);cases this⟩⟩
  refine Gx (hs c _ ⟨Hi,fun j hj=>?_⟩);by_cases e:j=i
  .subst e;exact hb.1 rfl
  exact h j (by omega)
 refine Ec ?_;have w:∀j,j<l.If.n->vS (l.If.g j):=fun j hj=>h j (by omega);refine W5 (fun i x1=>x1=(i:Int)/\∀j,j<i->V7 N (l.Out.g j) l.If.n=some true) l.Out.n _ (by omega) ⟨rfl,fun j hj=>Ln hj (by omega)⟩ ?_;rintro f k x2 hk ⟨rfl,h'⟩ m;by_cases d:k<l.Out.n
 .obtain⟨b,eb,eb'⟩:=WY (N:=N) (by omega) (hl.2.2.2.2 k d) (l.If.n:Int);refine Ao (An (B1 (by rw[AQ4];exact eb') ?_));cases b
  .exact ifT rfl ⟨17,rfl,.inr ⟨rfl,fun h=>by have:=h.2.2.2.2.2.2.2.2.2 k d;rw[eb]at this;cases this⟩⟩
  refine Gx (m d _ ⟨Hi,fun j hj=>?_⟩);by_cases e:j=k
  .subst e;exact eb
  exact h' j (by omega)
 exact Ec ⟨0,rfl,.inl ⟨rfl,e0',o.1 c2,q.1 c3,c4,c5,c6,c7,c8,w,fun j hj=>h' j (by omega)⟩⟩
def TF {l:Law}{e e' : Int}(h:AD9 N l e)(h' : AD9 N l e'):e=e':=by
 rcases h with⟨rfl,h⟩ | ⟨rfl,h⟩<;>rcases h' with⟨rfl,h'⟩ | ⟨rfl,h'⟩
 .rfl
 .exact Ln h h'
 .exact Ln h' h
 rfl
def EZ (a:3000000<=N){l:Law}(hl:Lx l):∃e,Z4 N l=some e/\Co N l=some e/\AD9 N l e:=by obtain⟨e,h,c⟩:=Yq a hl;obtain⟨e',h',c'⟩:=Yr a hl;obtain rfl:=TF c c';exact⟨_,h,h',c⟩
end Go.AM
namespace Go.AM
open Go.Proofs
def PE:Pat->Pat->Prop
 |.nil,q=>q.Kind=0/\q.Is=default/\q.Not=false/\q.Min=0/\q.Max=0/\q.L.n=0
 |.mk k is no mn mx n g,q=>q.Kind=k/\q.Is=is/\q.Not=no/\q.Min=mn/\q.Max=mx/\q.L.n=n/\∀i,i<n->PE (g i) (q.L.g i)
def PE_of {p q:Pat}:PE p q↔q.Kind=p.Kind/\q.Is=p.Is/\q.Not=p.Not/\q.Min=p.Min/\q.Max=p.Max/\q.L.n=p.L.n/\∀i,i<p.L.n->PE (p.L.g i) (q.L.g i):=by
 cases p with
 |nil=>exact⟨fun h=>⟨h.1,h.2.1,h.2.2.1,h.2.2.2.1,h.2.2.2.2.1,h.2.2.2.2.2,fun i a=>Ln a (AT4 i)⟩,fun h=>⟨h.1,h.2.1,h.2.2.1,h.2.2.2.1,h.2.2.2.2.1,h.2.2.2.2.2.1⟩⟩
 |mk k is no mn mx n g=>exact AZ7
def Vt:∀p:Pat,PE p p
 |.nil=>⟨rfl,rfl,rfl,rfl,rfl,rfl⟩
 |.mk k is no mn mx n g=>⟨rfl,rfl,rfl,rfl,rfl,rfl,fun i _=>Vt (g i)⟩
def Vu:∀{p q:Pat},PE p q->PE q p
 |.nil,q,h=>PE_of.2 ⟨h.1.symm,h.2.1.symm,h.2.2.1.symm,h.2.2.2.1.symm,h.2.2.2.2.1.symm,h.2.2.2.2.2.symm,fun i a=>Ln a (by rw[h.2.2.2.2.2];exact AT4 i)⟩
 |.mk k is no mn mx n g,q,h=>PE_of.2 ⟨h.1.symm,h.2.1.symm,h.2.2.1.symm,h.2.2.2.1.symm,h.2.2.2.2.1.symm,h.2.2.2.2.2.1.symm,fun i a=>Vu (h.2.2.2.2.2.2 i (by rw[<- h.2.2.2.2.2.1];exact a))⟩
def PI {n:Nat}{Q Q' : Nat->Nat->Nat->Prop}:∀{m:Nat},(∀i,i<m->Q i=Q' i)->Ye n Q m=Ye n Q' m
 |0,_=>rfl
 |m+1,h=>by funext a b;simp only[Ye];rw[PI fun i c=>h i (by omega),h m (by omega)]
def AE0 {w:Sl Tb}:∀(d:Nat) {p q:Pat},okP d p->PE p q->PR w p=PR w q
 |0,p,q,h,_=>h.elim
 |d+1,p,q,h,e=>by
  obtain⟨e1,e2,e3,e4,e5,e6,e7⟩:=PE_of.1 e;have ih:∀i,i<p.L.n->PR w (p.L.g i)=PR w (q.L.g i):=fun i c=>AE0 d (h.2.2 i c) (e7 i c);funext a b;apply propext;rw[Lw,Lw,e1,e2,e3,e4,e5,e6];have j:Ye w.n (fun i=>PR w (p.L.g i)) p.L.n=Ye w.n (fun i=>PR w (q.L.g i)) p.L.n:=PI ih;have l:(∃i,i<p.L.n/\PR w (p.L.g i) a b) ↔ ∃i,i<p.L.n/\PR w (q.L.g i) a b:=⟨fun⟨i,c,g⟩=>⟨i,c,by rw[<- ih i c];exact g⟩,fun⟨i,c,g⟩=>⟨i,c,by rw[ih i c];exact g⟩⟩;rw[j,l];by_cases f:p.Kind=5
  .have:=(h.2.1 f).1
   rw[ih 0 (by omega)]
  simp[f]
def Ap8 {p q:Pat}(e:PE p q):Hl p↔Hl q:=by obtain⟨e1,e2,e3,e4,e5,e6,_⟩:=PE_of.1 e;unfold Hl;rw[e1,e2,e3,e4,e5,e6]
def PEs:List Pat->List Pat->Prop
 |[],[]=>True
 |p::l,q::m=>PE p q/\PEs l m
 |_,_=>False
def Ac8:∀{a b c d:List Pat},PEs a b->PEs c d->PEs (a++c) (b++d)
 |[],[],_,_,_,h=>h
 |_::_,_::_,_,_,⟨h1,h2⟩,h=>⟨h1,Ac8 h2 h⟩
 |[],_::_,_,_,h,_=>h.elim
 |_::_,[],_,_,h,_=>h.elim
def TG {f g:Nat->Pat}:∀(l:List Nat),(∀i∈l,PE (f i) (g i))->PEs (l.map f) (l.map g)
 |[],_=>trivial
 |i::l,h=>⟨h i (by simp),TG l fun j hj=>h j (by simp[hj])⟩
def Av4:∀(k:Nat) (l m:List Pat),PEs l m->(chk k l↔chk k m)
 |0,[],[],_=>AZ7
 |0,p::l,q::m,_=>⟨fun h=>(by cases h),fun h=>by cases h⟩
 |k+1,[],[],_=>AZ7
 |k+1,p::l,q::m,⟨h1,h2⟩=>by
  obtain⟨_,_,_,_,_,e6,e7⟩:=PE_of.1 h1;show Hl p/\chk k (p.L.toList++l)↔Hl q/\chk k (q.L.toList++m);rw[Ap8 h1,Av4 k _ _ (Ac8 (c:=l) (d:=m) (show PEs p.L.toList q.L.toList by unfold Sl.toList;rw[e6];exact TG _ fun i a=>e7 i (AU9.1 a)) h2)]
 |_,[],_::_,h=>h.elim
 |_,_::_,[],h=>h.elim
def Km {p q:Pat}(h:PE p q):chk 40 [p]↔chk 40 [q]:=Av4 40 [p] [q] ⟨h,trivial⟩
def okPS_of {p:Pat}:okPS p↔okS p.Is/\∀i,i<p.L.n->okPS (p.L.g i):=by
 cases p with
 |nil=>exact⟨fun _=>⟨⟨0#32,0#32,rfl⟩,fun i a=>Ln a (AT4 i)⟩,fun _=>trivial⟩
 |mk k is no mn mx n g=>exact AZ7
def Nw:∀{p q:Pat},PE p q->okPS p->okPS q
 |.nil,q,h,_=>okPS_of.2 ⟨by rw[h.2.1];exact⟨0#32,0#32,rfl⟩,fun i a=>Ln a (by rw[h.2.2.2.2.2];exact AT4 i)⟩
 |.mk k is no mn mx n g,q,h,hp=>okPS_of.2 ⟨by rw[h.2.1];exact hp.1,fun i a=>by
  have a:i<n:=by rw[<- h.2.2.2.2.2.1];exact a
  exact Nw (h.2.2.2.2.2.2 i a) (hp.2 i a)⟩
end Go.AM
namespace Go.AM
variable {N:Nat}
open IntKind (wrap)
open Go.Proofs
def nf:(!false)=true:=rfl
def AE1 {α : Type}{s t:Sl α}(h:s.n=0):s.app t=t:=by cases t;simp[Sl.app,h]
def Av5 {α : Type}[Inhabited α](s:Sl (Sl α)):Nat->Sl α
 |0=>Sl.nil
 |k+1=>(Av5 s k).app (s.g k)
def Av6 {α : Type}[Inhabited α](s:Sl (Sl α)){B:Nat}:∀k,(∀i,i<k->(s.g i).n<=B)->(Av5 s k).n<=k*B
 |0,_=>by simp[Av5]
 |k+1,h=>by
  have:=Av6 s k fun i a=>h i (by omega)
  have:=h k (by omega)
  show (Av5 s k).n+(s.g k).n<=_;rw[Be1];omega
def Vv {s:Sl (Sl Tb)}(hn:s.n<1000)(d:1000<=N)(hs:∀i,i<s.n->(s.g i).n<=3000000) :A9 N s=some (Av5 s s.n):=by
 suffices h:∃r,A9 N s=some r/\r=Av5 s s.n by obtain⟨r,h,rfl⟩:=h;exact h
 unfold A9;refine T1 (fun (i:Nat) (x1 x2:Int)=>x2=(i:Int)/\0<=x1/\x1<=(i:Int)*3000000) s.n _ (by omega) ⟨rfl,Int.le_refl 0,by simp⟩ ?_;rintro b i x1 x2 c ⟨rfl,f,h1⟩ a;by_cases hl:i<s.n
 .have:=hs i hl
  refine Ao (An ?_);rw[AQ4,E6 (by omega) (by omega)];exact Ec (a hl _ _ ⟨Hi,by omega,by omega⟩)
 refine Ec (B1 (x:=Sl.nil) ?_ ?_)
 .unfold H9;rw[Hj]
 refine T1 (fun i x1 x2=>x2=(i:Int)/\x1=Av5 s i) s.n _ (by omega) ⟨rfl,rfl⟩ ?_;rintro b i x1 x2 c ⟨rfl,rfl⟩ a;by_cases hl:i<s.n
 .have g1:=hs i hl;have g2:=Av6 s i (B:=3000000) fun j hj=>hs j (by omega);refine Ao (ifT ⟨by omega,?_⟩ (a hl _ _ ⟨Hi,?_⟩))
  .rw[AQ4];omega
  rw[AQ4];rfl
 exact Ec ⟨_,rfl,by congr 1;omega⟩
def AH0 (w:Sl Tb)(i k:Nat)(y:Sl Tb):Sl Tb:=((w.take i).app y).app (w.drop (i+k))
def Ac9 {w y:Sl Tb}{i k:Nat}(a:i+k<=w.n)(hw:∀j,j<w.n->vS (w.g j))(hy:∀j,j<y.n->vS (y.g j)):(AH0 w i k y).n=w.n-k+y.n/\∀j,j<(AH0 w i k y).n->vS ((AH0 w i k y).g j):=by
 have hn:(AH0 w i k y).n=w.n-k+y.n:=by show i+y.n+(w.n-(i+k))=_;omega
 refine⟨hn,fun j hj=>?_⟩;rw[hn]at hj;show vS (if j<i+y.n then (if j<i then w.g j else y.g (j-i))else w.g (i+k+(j-(i+y.n))));split
 .split
  .exact hw _ (by omega)
  exact hy _ (by omega)
 exact hw _ (by omega)
def Hm (N:Nat)(l:Law)(w:Sl Tb)(i:Nat):Sl Tb:=(O7 N l (w.sub i (i+l.If.n))).getD Sl.nil
def Af (N:Nat)(l:Law)(w:Sl Tb)(i:Nat):Sl Tb:=AH0 w i l.If.n (Hm N l w i)
def vOk {w:Sl Tb}(h:wOk w):okW w:=⟨by have:=h.1;omega,fun i a=>(h.2 i a).ok⟩
def GP (a:1000<=N){l:Law}(b:AG8 l){w:Sl Tb}(hw:∀j,j<w.n->vS (w.g j)){i:Nat}(m:i+l.If.n<=w.n) :O7 N l (w.sub i (i+l.If.n))=some (Hm N l w i)/\DM N l (w.sub i (i+l.If.n))=some (Hm N l w i)/\(Hm N l w i).n=l.Out.n/\∀j,j<(Hm N l w i).n->vS ((Hm N l w i).g j):=by
 obtain⟨s,h1,c,d,f⟩:=AD8 a b (cut:=w.sub i (i+l.If.n)) (by show i+l.If.n-i=_;omega) fun j hj=>(hw (i+j) (by have:j<i+l.If.n-i:=hj;omega)).ok;have e:Hm N l w i=s:=by unfold Hm;rw[h1];rfl
 rw[e];exact⟨h1,c,d,f⟩
def cat3 (a b c:Sl Tb):Av5 (Sl.of [a,b,c]:Sl (Sl Tb)) 3=(a.app b).app c:=by show ((Rb.app a).app b).app c=_;rw[AE1 (s:=Rb) rfl]
def Ad0 (d:1000<=N){a b c:Sl Tb}(ha:a.n<=3000000)(hb:b.n<=3000000)(hc:c.n<=3000000):A9 N (Sl.of [a,b,c]:Sl (Sl Tb))=some ((a.app b).app c):=by
 have h:=Vv (N:=N) (s:=(Sl.of [a,b,c]:Sl (Sl Tb))) (by show 3<1000;omega) d fun i f=>by
  match i,f with
  |0,_=>exact ha
  |1,_=>exact hb
  |2,_=>exact hc
 rw[h];exact congrArg some (cat3 a b c)
def FG (a:1000<=N){l:Law}(b:AG8 l){w:Sl Tb}(c:w.n<1000)(hw:∀j,j<w.n->vS (w.g j)){i:Nat}(d:i+l.If.n<=w.n) :R6 N l w i=some (Af N l w i)/\Az N l w i=some (Af N l w i):=by
 obtain⟨h1,f,m,o⟩:=GP a b hw d;have q:=b.1;constructor
 .unfold R6;rw[DU (by omega),Hj,AQ4,AQ4,h1,AQ6,Hj,
   Ad0 a (by show i<=_;omega) (by omega) (by show w.n-(i+l.If.n)<=_;omega)]
  rfl
 unfold Az;rw[DU (by omega),AQ4,AQ4,AE1 (s:=Rc) rfl,Ll ⟨by omega,by show (0+i)*8<=_/\0+i<=_;omega⟩,Hj,f,AQ6,
  Ll (by show (i+(Hm N l w i).n)*8<=_/\i+(Hm N l w i).n<=_;omega),Ll ⟨by omega,by show (i+(Hm N l w i).n+(w.n-(i+l.If.n)))*8<=_/\i+(Hm N l w i).n+(w.n-(i+l.If.n))<=_;omega⟩]
 rfl
def SE {α : Type}(s t:Sl α):Prop:=s.n=t.n/\∀i,i<s.n->s.g i=t.g i
def SE.refl {α : Type}(s:Sl α):SE s s:=⟨rfl,fun _ _=>rfl⟩
def SE.symm {α : Type}{s t:Sl α}(h:SE s t):SE t s:=⟨h.1.symm,fun i a=>(h.2 i (by rw[h.1];exact a)).symm⟩
def SE.trans {α : Type}{s t u:Sl α}(h:SE s t)(h' : SE t u):SE s u:=⟨h.1.trans h'.1,fun i a=>(h.2 i a).trans (h'.2 i (by rw[<- h.1];exact a))⟩
def SE.app {α : Type}{s t u v:Sl α}(h:SE s t)(h' : SE u v):SE (s.app u) (t.app v):=⟨by show s.n+u.n=t.n+v.n;rw[h.1,h'.1],fun i a=>by
 show (if i<s.n then s.g i else u.g (i-s.n))=if i<t.n then t.g i else v.g (i-t.n)
 have a:i<s.n+u.n:=a;rw[<- h.1];split
 .exact h.2 i (by assumption)
 exact h'.2 _ (by omega)⟩
def SE.drop {α : Type}{s t:Sl α}(h:SE s t)(k:Nat):SE (s.drop k) (t.drop k):=⟨by show s.n-k=t.n-k;rw[h.1],fun i a=>by have a:i<s.n-k:=a;exact h.2 _ (by omega)⟩
def SE.take {α : Type}{s t:Sl α}(h:SE s t){k:Nat}(hk:k<=s.n):SE (s.take k) (t.take k):=⟨rfl,fun i a=>h.2 i (by have a:i<k:=a;omega)⟩
def SE.sub {α : Type}{s t:Sl α}(h:SE s t){a b:Nat}(hk:b<=s.n):SE (s.sub a b) (t.sub a b):=⟨rfl,fun i c=>h.2 _ (by have c:i<b-a:=c;omega)⟩
def SE.v {s t:Sl Tb}(h:SE s t)(a:∀j,j<s.n->vS (s.g j)):∀j,j<t.n->vS (t.g j):=fun j hj=>by rw[<- h.2 j (by rw[h.1];exact hj)];exact a j (by rw[h.1];exact hj)
def SE.wOk {s t:Sl Tb}(h:SE s t)(a:wOk s):wOk t:=⟨by rw[<- h.1];exact a.1,h.v a.2⟩
def Rw {w w' : Sl Tb}(h:SE w w'):∀p:Pat,PR w p=PR w' p
 |.nil=>rfl
 |.mk kind is no mn mx m g=>by
  have ih:(fun i=>PR w (g i))=fun i=>PR w' (g i):=funext fun i=>Rw h (g i);have ih1:∀i,PR w (g i)=PR w' (g i):=fun i=>congrFun ih i;have e1:∀a,(a<w.n↔a<w'.n):=fun a=>by rw[h.1]
  funext a b;unfold PR;rw[ih];simp only[ih1,<- h.1];by_cases ha:a<w.n
  .rw[h.2 a ha]
  simp[ha]
def Ys {l:Law}{w w' : Sl Tb}(h:SE w w'){i:Nat}:PG l w i↔PG l w' i:=by
 suffices H:∀{w w' : Sl Tb},SE w w' -> PG l w i->PG l w' i by exact⟨H h,H h.symm⟩
 intro w w' h;rintro⟨h1,f,g,m,n,o,⟨a,ha,c⟩,b,hb,d⟩;have hn:=h.1;refine⟨by omega,fun j hj=>?_,g,m,h.wOk n,by omega,⟨a,by omega,?_⟩,b,by omega,?_⟩
 .rw[<- h.2 (i+j) (by omega)];exact f j hj
 .rw[<- Rw h];exact c
 rw[<- Rw h];exact d
structure LE (l l' : Law):Prop where
 name:l'.Name=l.Name
 left:PE l.Left l'.Left
 right:PE l.Right l'.Right
 cond:SE l.If l'.If
 out:SE l.Out l'.Out
 mode:l'.Mode=l.Mode
def LE.refl (l:Law):LE l l:=⟨rfl,Vt _,Vt _,SE.refl _,SE.refl _,rfl⟩
def LE.symm {l l' : Law}(h:LE l l'):LE l' l:=⟨h.name.symm,Vu h.left,Vu h.right,h.cond.symm,h.out.symm,h.mode.symm⟩
def AE2 {l l' : Law}(h:LE l l'){w:Sl Tb}{i:Nat}:PG l w i↔PG l' w i:=by
 suffices H:∀{l l' : Law},LE l l' -> PG l w i->PG l' w i by exact⟨H h,H h.symm⟩
 intro l l' h;rintro⟨h1,m,f,g,n,o,⟨a,ha,c⟩,b,hb,d⟩;have hn:=h.cond.1;refine⟨by omega,fun j hj=>?_,(Km h.left).1 f,(Km h.right).1 g,n,by omega,⟨a,ha,?_⟩,b,hb,?_⟩
 .rw[<- h.cond.2 j (by omega)];exact m j (by omega)
 .rw[<- AE0 40 (Nr 40 _ (by omega) f _ (by simp)) h.left];exact c
 rw[<- hn,<- AE0 40 (Nr 40 _ (by omega) g _ (by simp)) h.right];exact d
def Ij {l l' : Law}(e:LE l l'){w w' : Sl Tb}(h:SE w w'){i:Nat}:PG l w i↔PG l' w' i:=(AE2 e).trans (Ys h)
def LN {l l' : Law}(h:LE l l')(hl:Lx l):Lx l':=by obtain⟨⟨h1,a,b⟩,c,f,g,d⟩:=hl;have j:=h.cond.1;have m:=h.out.1;exact⟨⟨Nw h.left h1,Nw h.right a,fun i hj=>by rw[<- h.cond.2 i (by omega)];exact b i (by omega)⟩,by rw[h.name];exact c,by omega,by omega,fun i hj=>by rw[<- h.out.2 i (by omega)];exact d i (by omega)⟩
def AE3 {l l' : Law}(h:LE l l')(hl:AG8 l):AG8 l':=by have a:=h.cond.1;have b:=h.out.1;exact⟨by rw[<- b];exact hl.1,fun i hj=>by rw[<- h.out.2 i (by omega),<- a];exact hl.2 i (by omega)⟩
def Vw {l l' : Law}(h:LE l l')(hl:AG9 l):AG9 l':=by obtain⟨⟨h1,a,b⟩,c,d,j,f,m,n,g⟩:=hl;have o:=h.cond.1;have q:=h.out.1;have hm:=h.mode;exact⟨⟨Nw h.left h1,Nw h.right a,fun i hj=>by rw[<- h.cond.2 i (by omega)];exact b i (by omega)⟩,(Km h.left).1 c,(Km h.right).1 d,by omega,AE3 h f,by omega,by omega,by omega⟩
def Ju {l l' : Law}(h:LE l l'):chkAll N l↔chkAll N l':=by
 suffices H:∀{l l' : Law},LE l l' -> chkAll N l->chkAll N l' by exact⟨H h,H h.symm⟩
 rintro l l' h ⟨h1,b,c,g,j,m,n,o,d,a⟩;have f:=h.cond.1;have q:=h.out.1;have hm:=h.mode;exact⟨by rw[h.name];exact h1,(Km h.left).1 b,(Km h.right).1 c,by omega,by omega,by omega,by omega,by omega,
  fun i hj=>by rw[<- h.cond.2 i (by omega)];exact d i (by omega),fun i hj=>by rw[<- h.out.2 i (by omega),<- f];exact a i (by omega)⟩
def AE4 {l l' : Law}(h:LE l l'){e:Int}(b:AD9 N l e):AD9 N l' e:=by
 rcases b with⟨h1,a⟩ | ⟨h1,a⟩
 .exact .inl ⟨h1,(Ju h).1 a⟩
 exact .inr ⟨h1,fun g=>a ((Ju h).2 g)⟩
def Ad1 {l:Law}{c c' : Sl Tb}(h:SE c c'):O7 N l c=O7 N l c':=by
 unfold O7;congr 1;funext self x1 x2;by_cases h1:(decide (x2<(l.Out.n:Int)))=true
 case neg=>rw[Lm h1,Lm h1]
 rw[Ll h1,Ll h1,<- h.1];have e1:∀y:Int,(0:Int)<=y->y<(c.n:Int)->c.g y.toNat=c'.g y.toNat:=fun y i h1=>h.2 _ (by omega);by_cases b:(0:Int)<=x2/\x2<(l.Out.n:Int)
 case neg=>rw[Lm b,Lm b]
 rw[Ll b,Ll b];split
 .rename_i f;have e2:(⟨(if (decide (0<=(l.Out.g x2.toNat).From)) then (c.g (l.Out.g x2.toNat).From.toNat).Plus else 0),(if (decide (0<=(l.Out.g x2.toNat).From)) then (c.g (l.Out.g x2.toNat).From.toNat).Minus else 0)⟩:Tb) =
   ⟨(if (decide (0<=(l.Out.g x2.toNat).From)) then (c'.g (l.Out.g x2.toNat).From.toNat).Plus else 0),(if (decide (0<=(l.Out.g x2.toNat).From)) then (c'.g (l.Out.g x2.toNat).From.toNat).Minus else 0)⟩:=by
   by_cases a:decide (0<=(l.Out.g x2.toNat).From)=true
   .have:=f a
    rw[Ll a,Ll a,Ll a,Ll a,e1 _ this.1 this.2]
   rw[Lm a,Lm a,Lm a,Lm a]
  rw[e2];congr 1;funext y5;split
  .split
   .rename_i d;rw[e1 _ d.1 d.2]
   rfl
  rfl
 rfl
def Yt {l l' : Law}(h:SE l.Out l'.Out)(c:Sl Tb):O7 N l c=O7 N l' c:=by
 unfold O7;congr 1;funext self x1 x2;rw[<- h.1];by_cases h1:(0:Int)<=x2/\x2<(l.Out.n:Int)
 .rw[h.2 x2.toNat (by omega)]
 by_cases a:(decide (x2<(l.Out.n:Int)))=true
 .rw[Ll a,Ll a,Lm h1,Lm h1]
 rw[Lm a,Lm a]
def Nx {l l' : Law}(e:LE l l'){w w' : Sl Tb}(h:SE w w'){i:Nat}(a:i+l.If.n<=w.n):Hm N l w i=Hm N l' w' i:=by unfold Hm;rw[Ad1 (h.sub a),Yt e.out,<- e.cond.1]
def Lc {l l' : Law}(e:LE l l'){w w' : Sl Tb}(h:SE w w'){i:Nat}(a:i+l.If.n<=w.n):SE (Af N l w i) (Af N l' w' i):=by unfold Af AH0;rw[Nx e h a,<- e.cond.1];exact ((h.take (by omega)).app (SE.refl _)).app (h.drop _)
def RL:List (Int×Sl Tb)->List (Int×Sl Tb)->Prop
 |[],[]=>True
 |(p,v)::L,(q,u)::M=>p=q/\SE v u/\RL L M
 |_,_=>False
def Kn:Sl Int->Sl (Sl Tb)->List (Int×Sl Tb)->Sl Int×Sl (Sl Tb)×Int
 |x,y,[]=>(x,y,0)
 |x,y,(p,v)::L=>if 32<v.n then (Sl.nil,Sl.nil,11)else Kn (x.push p) (y.push v) L
abbrev TH:=List (Int×Sl Tb)
def vL (L:TH):Prop:=∀x∈L,∀j,j<x.2.n->vS (x.2.g j)
def TI:vL []:=fun x hx=>Ln hx (by simp)
def Vx {x:Int×Sl Tb}{L:TH}(h:∀j,j<x.2.n->vS (x.2.g j))(hL:vL L):vL (x::L):=fun y hy=>by
 rcases AT9.1 hy with rfl|hy
 .exact h
 exact hL y hy
def TJ (N:Nat)(l:Law)(a:Sl Tb->Int->Option TH)(x5:Sl Tb)(x6:Int):Option TH:= if (decide ((wrap .i64 (x6+(l.If.n:Int)))<=(x5.n:Int))) then (CF N l x5 x6).bind fun c=>if (!c) then a x5 (wrap .i64 (x6+1)) else (R6 N l x5 x6).bind fun b=>Y4 (x6,b) (if ((l.If.n:Int)==0) then a b (wrap .i64 ((wrap .i64 (x6+(l.Out.n:Int)))+1)) else a b (wrap .i64 (x6+(l.Out.n:Int)))) else some []
abbrev Ap9:=(Sl Int)×(Sl (Sl Tb))×Int
def TL (N:Nat)(l:Law)(a:Sl Tb->Sl Int->Sl (Sl Tb)->Int->Option Ap9)(x1:Sl Tb)(x2:Sl Int)(x3:Sl (Sl Tb))(x4:Int):Option Ap9:= if (decide ((wrap .i64 (x4+(l.If.n:Int)))<=(x1.n:Int))) then (CK N l x1 x4).bind fun y5=>if (!y5) then a x1 x2 x3 (wrap .i64 (x4+1)) else (Az N l x1 x4).bind fun y6=>if (decide (32<(y6.n:Int))) then some (Ra,T4,11) else if (((x2.n+(Sl.of [x4]:Sl Int).n)*8<=140737488355328/\x2.n+(Sl.of [x4]:Sl Int).n<=140737488355328)/\((x3.n+(Sl.of [y6]:Sl (Sl Tb)).n)*24<=140737488355328/\x3.n+(Sl.of [y6]:Sl (Sl Tb)).n<=140737488355328))then if ((l.If.n:Int)==0) then a y6 (x2.push x4) (x3.push y6) (wrap .i64 ((wrap .i64 (x4+(l.Out.n:Int)))+1)) else a y6 (x2.push x4) (x3.push y6) (wrap .i64 (x4+(l.Out.n:Int))) else none else some (x2,x3,0)
def Ad2 (hN:3000<=N){l l' : Law}(hf:AG9 l)(s:LE l l'):∀(m:Nat) (w w' : Sl Tb) (i:Nat),SE w w' -> w.n<=100->(∀j,j<w.n->vS (w.g j))->i<=200->w.n+1<=i+m ->
 ∃L L',(∀M,m<M->W9 M (TJ N l) w i=some L)/\vL L/\L.length<=m/\RL L L' /\ ∀M x2 x3,m<M->x2.n+m<=1000->x3.n+m<=1000->Al0 M (TL N l') w' x2 x3 i=some (Kn x2 x3 L'):=by
 obtain⟨hl,_,_,hk,x,y,_,_⟩:=hf;have h6:=x.1;obtain⟨z,_,_,a0,a1,_,_,_⟩:=Vw s ⟨hl,‹_›, ‹_›,hk,x,y,‹_›, ‹_›⟩;have c:l'.If.n=l.If.n:=s.cond.1.symm;have d:l'.Out.n=l.Out.n:=s.out.1.symm;intro m
 induction m with
 |zero=>
  intro w w' i a hn o hi hm;have a2:=a.1;refine⟨[],[],fun M q=>?_,TI,AQ8 _,trivial,fun M x2 x3 q _ _=>?_⟩
  .obtain⟨M,rfl⟩:∃K,M=K+1:=⟨M-1,by omega⟩;rw[M4,TJ,DU (by omega),K6]
  obtain⟨M,rfl⟩:∃K,M=K+1:=⟨M-1,by omega⟩;rw[U3,TL,c,d,DU (by omega),K6,Kn]
 |succ m ih=>
  intro w w' i a hn o hi hm;have a2:=a.1;by_cases hle:i+l.If.n<=w.n
  case neg=>
   refine⟨[],[],fun M q=>?_,TI,by simp,trivial,fun M x2 x3 q _ _=>?_⟩
   .obtain⟨M,rfl⟩:∃K,M=K+1:=⟨M-1,by omega⟩;rw[M4,TJ,DU (by omega),K6]
   obtain⟨M,rfl⟩:∃K,M=K+1:=⟨M-1,by omega⟩;rw[U3,TL,c,d,DU (by omega),K6,Kn]
  have hw:okW w:=⟨by omega,fun j hj=>(o j hj).ok⟩;have t:=a.v o;have a3 : okW w':=⟨by omega,fun j hj=>(t j hj).ok⟩;obtain⟨b,e1,h1⟩:=Ac2 hN hl hk hw i (by omega);obtain⟨b',e2,h2⟩:=Ru hN z a0 a3 i (by omega);obtain rfl:b' = b:=by rw[AU3,h1,h2,Ij s a]
  cases b'
  .obtain⟨L,L',g1,g2,g3,g5,g4⟩:=ih w w' (i+1) a hn o (by omega) (by omega);refine⟨L,L',fun M q=>?_,g2,by omega,g5,fun M x2 x3 q hx hy=>?_⟩
   .obtain⟨M,rfl⟩:∃K,M=K+1:=⟨M-1,by omega⟩;rw[M4,TJ,DU (by omega),Ia,e1,AQ6,Ll nf,Hi];exact g1 M (by omega)
   obtain⟨M,rfl⟩:∃K,M=K+1:=⟨M-1,by omega⟩;rw[U3,TL,c,d,DU (by omega),Ia,e2,AQ6,Ll nf,Hi];exact g4 M x2 x3 (by omega) (by omega) (by omega)
  have a4:=h1.1 rfl;have hw32:=a4.2.2.2.2.1.1;have r1:=(FG (N:=N) (by omega) x (by omega) o hle).1;have r2:=(FG (N:=N) (l:=l') (w:=w') (i:=i) (by omega) a1 (by omega) t (by omega)).2;have r:=Lc (N:=N) s a hle;have hrn:=r.1;obtain⟨_,_,p3,p4⟩:=GP (N:=N) (by omega) x o hle;obtain⟨q1,q2⟩:=Ac9 hle o p4;have q1:(Af N l w i).n=w.n-l.If.n+l.Out.n:=by rw[<- p3];exact q1
  have q2:∀j,j<(Af N l w i).n->vS ((Af N l w i).g j):=q2;obtain⟨L,L',g1,g2,g3,g5,g4⟩:=ih (Af N l w i) (Af N l' w' i) (if l.If.n=0 then i+l.Out.n+1 else i+l.Out.n) r (by omega) q2 (by split<;>omega) (by split<;>omega);refine⟨((i:Int),Af N l w i)::L,((i:Int),Af N l' w' i)::L',fun M q=>?_,Vx q2 g2,by simp;omega,⟨rfl,r,g5⟩,fun M x2 x3 q hx hy=>?_⟩
  .obtain⟨M,rfl⟩:∃K,M=K+1:=⟨M-1,by omega⟩;rw[M4,TJ,DU (by omega),Ia,e1,AQ6,Lm (by simp),r1,AQ6,DU (by omega),Hi];have g1:=g1 M (by omega);by_cases f:l.If.n=0
   .rw[Ll f]at g1;rw[Ll (by simp[f]),g1];rfl
   rw[Lm f]at g1;rw[Lm (by simp[f]),g1];rfl
  obtain⟨M,rfl⟩:∃K,M=K+1:=⟨M-1,by omega⟩;rw[U3,TL,c,d,DU (by omega),Ia,e2,AQ6,Lm (by simp),r2,AQ6,DU (by omega),Hi,Kn];by_cases u:32<(Af N l' w' i).n
  .rw[Ia,Ll u]
  rw[K6,Lm u,Ll (by show ((x2.n+1)*8<=_/\x2.n+1<=_)/\(x3.n+1)*24<=_/\x3.n+1<=_;omega)];have g4:=g4 M (x2.push (i:Int)) (x3.push (Af N l' w' i)) (by omega) (by show x2.n+1+m<=_;omega) (by show x3.n+1+m<=_;omega);by_cases f:l.If.n=0
  .rw[Ll f]at g4;rw[Ll (by simp[f]),g4]
  rw[Lm f]at g4;rw[Lm (by simp[f]),g4]
def Ad3 (N:Nat)(l:Law)(a:Sl Tb->Int->Option TH)(x7:Sl Tb)(x8:Int):Option TH:= if (decide (0<=x8)) then (CF N l x7 x8).bind fun c=>if (!c) then a x7 (wrap .i64 (x8-1)) else (R6 N l x7 x8).bind fun b=>Y4 (x8,b) (a b (wrap .i64 (x8-(if (l.If.n:Int)<1 then 1 else (l.If.n:Int))))) else some []
def Ad4 (N:Nat)(l:Law)(a:Sl Tb->Sl Int->Sl (Sl Tb)->Int->Option Ap9)(x1:Sl Tb)(x2:Sl Int)(x3:Sl (Sl Tb))(x4:Int):Option Ap9:= if (decide (0<=x4)) then (CK N l x1 x4).bind fun y5=>if (!y5) then a x1 x2 x3 (wrap .i64 (x4-1)) else (Az N l x1 x4).bind fun y6=>if (decide (32<(y6.n:Int))) then some (Ra,T4,11) else if (((x2.n+(Sl.of [x4]:Sl Int).n)*8<=140737488355328/\x2.n+(Sl.of [x4]:Sl Int).n<=140737488355328)/\((x3.n+(Sl.of [y6]:Sl (Sl Tb)).n)*24<=140737488355328/\x3.n+(Sl.of [y6]:Sl (Sl Tb)).n<=140737488355328))then if ((l.If.n:Int)==0) then a y6 (x2.push x4) (x3.push y6) (wrap .i64 ((wrap .i64 (x4-(l.If.n:Int)))-1)) else a y6 (x2.push x4) (x3.push y6) (wrap .i64 (x4-(l.If.n:Int))) else none else some (x2,x3,0)
def Aq0 (hN:3000<=N){l l' : Law}(hf:AG9 l)(r:LE l l'):∀(m:Nat) (w w' : Sl Tb) (i:Int),SE w w' -> w.n<=100->(∀j,j<w.n->vS (w.g j)) -> -100<=i->i+1<=m->m<=200 ->
 ∃L L',(∀M,m<M->W9 M (Ad3 N l) w i=some L)/\vL L/\L.length<=m/\RL L L' /\ ∀M x2 x3,m<M->x2.n+m<=1000->x3.n+m<=1000->Al0 M (Ad4 N l') w' x2 x3 i=some (Kn x2 x3 L'):=by
 obtain⟨hl,_,_,hk,x,y,_,_⟩:=hf;have h6:=x.1;obtain⟨z,_,_,a0,a1,_,_,_⟩:=Vw r ⟨hl,‹_›, ‹_›,hk,x,y,‹_›, ‹_›⟩;have c:l'.If.n=l.If.n:=r.cond.1.symm;have hof:l'.Out.n=l.Out.n:=r.out.1.symm;intro m
 induction m with
 |zero=>
  intro w w' i a hn d hi hm a2;have a3:=a.1;refine⟨[],[],fun M f=>?_,TI,AQ8 _,trivial,fun M x2 x3 f _ _=>?_⟩
  .obtain⟨M,rfl⟩:∃K,M=K+1:=⟨M-1,by omega⟩;rw[M4,Ad3,K6]
  obtain⟨M,rfl⟩:∃K,M=K+1:=⟨M-1,by omega⟩;rw[U3,Ad4,c,K6,Kn]
 |succ m ih=>
  intro w w' i a hn d hi hm a2;have a3:=a.1;by_cases hle:0<=i
  case neg=>
   refine⟨[],[],fun M f=>?_,TI,by simp,trivial,fun M x2 x3 f _ _=>?_⟩
   .obtain⟨M,rfl⟩:∃K,M=K+1:=⟨M-1,by omega⟩;rw[M4,Ad3,K6]
   obtain⟨M,rfl⟩:∃K,M=K+1:=⟨M-1,by omega⟩;rw[U3,Ad4,c,K6,Kn]
  obtain⟨k,rfl⟩:∃k:Nat,i=(k:Int):=⟨i.toNat,by omega⟩;have hw:okW w:=⟨by omega,fun j hj=>(d j hj).ok⟩;have s:=a.v d;have a4 : okW w':=⟨by omega,fun j hj=>(s j hj).ok⟩;obtain⟨b,e1,h1⟩:=Ac2 hN hl hk hw k (by omega);obtain⟨b',e2,h2⟩:=Ru hN z a0 a4 k (by omega);obtain rfl:b' = b:=by rw[AU3,h1,h2,Ij r a]
  cases b'
  .obtain⟨L,L',g1,g2,g3,g5,g4⟩:=ih w w' ((k:Int)-1) a hn d (by omega) (by omega) (by omega);refine⟨L,L',fun M f=>?_,g2,by omega,g5,fun M x2 x3 f hx hy=>?_⟩
   .obtain⟨M,rfl⟩:∃K,M=K+1:=⟨M-1,by omega⟩;rw[M4,Ad3,Ll (by simp),e1,AQ6,Ll nf,E6 (by omega) (by omega)];exact g1 M (by omega)
   obtain⟨M,rfl⟩:∃K,M=K+1:=⟨M-1,by omega⟩;rw[U3,Ad4,c,Ll (by simp),e2,AQ6,Ll nf,E6 (by omega) (by omega)];exact g4 M x2 x3 (by omega) (by omega) (by omega)
  have t:=h1.1 rfl;have hle:=t.1;have hw32:=t.2.2.2.2.1.1;have r1:=(FG (N:=N) (by omega) x (by omega) d hle).1;have r2:=(FG (N:=N) (l:=l') (w:=w') (i:=k) (by omega) a1 (by omega) s (by omega)).2;have o:=Lc (N:=N) r a hle;have hrn:=o.1;obtain⟨_,_,p3,p4⟩:=GP (N:=N) (by omega) x d hle;obtain⟨q1,q2⟩:=Ac9 hle d p4;have q1:(Af N l w k).n=w.n-l.If.n+l.Out.n:=by rw[<- p3];exact q1
  have q2:∀j,j<(Af N l w k).n->vS ((Af N l w k).g j):=q2;obtain⟨L,L',g1,g2,g3,g5,g4⟩:=ih (Af N l w k) (Af N l' w' k) (if l.If.n=0 then (k:Int)-1 else (k:Int)-l.If.n) o (by omega) q2 (by split<;>omega) (by split<;>omega) (by omega);refine⟨((k:Int),Af N l w k)::L,((k:Int),Af N l' w' k)::L',fun M f=>?_,Vx q2 g2,by simp;omega,⟨rfl,o,g5⟩,fun M x2 x3 f hx hy=>?_⟩
  .obtain⟨M,rfl⟩:∃K,M=K+1:=⟨M-1,by omega⟩;rw[M4,Ad3,Ll (by simp),e1,AQ6,Lm (by simp),r1,AQ6];have g1:=g1 M (by omega);by_cases q:l.If.n=0
   .rw[Ll q]at g1;rw[Hj,E6 (by omega) (by omega),g1];rfl
   rw[Lm q]at g1;rw[Jd,E6 (by omega) (by omega),g1];rfl
  obtain⟨M,rfl⟩:∃K,M=K+1:=⟨M-1,by omega⟩;rw[U3,Ad4,c,Ll (by simp),e2,AQ6,Lm (by simp),r2,AQ6,Kn];by_cases u:32<(Af N l' w' k).n
  .rw[Ia,Ll u]
  rw[K6,Lm u,Ll (by show ((x2.n+1)*8<=_/\x2.n+1<=_)/\(x3.n+1)*24<=_/\x3.n+1<=_;omega)];have g4:=g4 M (x2.push (k:Int)) (x3.push (Af N l' w' k)) (by omega) (by show x2.n+1+m<=_;omega) (by show x3.n+1+m<=_;omega);rw[E6 (n:=(k:Int)-(l.If.n:Int)) (by omega) (by omega)];by_cases q:l.If.n=0
  .rw[Ll q]at g4;rw[Ll (by simp[q]),E6 (by omega) (by omega),show (k:Int)-(l.If.n:Int)-1=(k:Int)-1 by omega,g4]
  rw[Lm q]at g4;rw[Lm (by simp[q]),g4]
end Go.AM
namespace Go.AM
open IntKind (wrap)
open Go.Proofs
abbrev AllS:=Sl Tb×Int×Int
def Ly (N:Nat)(l:Law)(q0:Sl Tb)(a:AllS->Option TH)(x1:Int)(z1:AllS):Option TH:= if (decide (x1<z1.2.1)) then a (z1.1,z1.2.1,z1.2.2) else if (((0:Int)<=(wrap .i64 (x1+z1.2.2))/\(wrap .i64 (x1+z1.2.2))<=(z1.1.n:Int))/\((0:Int)<=x1/\x1<=(wrap .i64 (x1+(l.If.n:Int)))/\(wrap .i64 (x1+(l.If.n:Int)))<=(q0.n:Int)))then (O7 N l (q0.sub x1.toNat (wrap .i64 (x1+(l.If.n:Int))).toNat)).bind fun y6=>if ((0:Int)<=(wrap .i64 (x1+(l.If.n:Int)))/\(wrap .i64 (x1+(l.If.n:Int)))<=(q0.n:Int))then (A9 N (Sl.of [z1.1.take (wrap .i64 (x1+z1.2.2)).toNat,y6,q0.drop (wrap .i64 (x1+(l.If.n:Int))).toNat]:Sl (Sl Tb))).bind fun y7=>Y4 (x1,y7) (a (y7,wrap .i64 (x1+(if (l.If.n:Int)<1 then 1 else (l.If.n:Int))),wrap .i64 ((wrap .i64 (z1.2.2+(l.Out.n:Int)))-(l.If.n:Int)))) else none else none
def AH1 (N:Nat)(a:Law)(b:Sl Tb)(c:Sl Int->Sl (Sl Tb)->Sl Tb->Int->Option Ap9)(x2:Sl Int)(x3:Sl (Sl Tb))(x4:Sl Tb)(x5:Int):Option Ap9:= if (decide (x5<=(b.n:Int))) then (CK N a b x5).bind fun y5=>if (!y5) then lt (fun (z3:Sl Tb)=>c x2 x3 z3 (wrap .i64 (x5+1))) fun k3=>if (decide (x5<(b.n:Int))) then if (((0:Int)<=x5/\x5<(b.n:Int))/\((x4.n+(Sl.of [b.g x5.toNat]:Sl Tb).n)*8<=140737488355328/\x4.n+(Sl.of [b.g x5.toNat]:Sl Tb).n<=140737488355328))then k3 (x4.push (b.g x5.toNat)) else none else k3 x4 else if ((0:Int)<=x5/\x5<=(wrap .i64 (x5+(a.If.n:Int)))/\(wrap .i64 (x5+(a.If.n:Int)))<=(b.n:Int))then (DM N a (b.sub x5.toNat (wrap .i64 (x5+(a.If.n:Int))).toNat)).bind fun y6=>if ((x4.n+y6.n)*8<=140737488355328/\x4.n+y6.n<=140737488355328)then if ((x2.n+(Sl.of [x5]:Sl Int).n)*8<=140737488355328/\x2.n+(Sl.of [x5]:Sl Int).n<=140737488355328)then if ((((Rc.n+(x4.app y6).n)*8<=140737488355328/\Rc.n+(x4.app y6).n<=140737488355328)/\((0:Int)<=(wrap .i64 (x5+(a.If.n:Int)))/\(wrap .i64 (x5+(a.If.n:Int)))<=(b.n:Int)))/\(((Rc.app (x4.app y6)).n+(b.drop (wrap .i64 (x5+(a.If.n:Int))).toNat).n)*8<=140737488355328/\(Rc.app (x4.app y6)).n+(b.drop (wrap .i64 (x5+(a.If.n:Int))).toNat).n<=140737488355328))then if (decide (32<(((Rc.app (x4.app y6)).app (b.drop (wrap .i64 (x5+(a.If.n:Int))).toNat)).n:Int))) then some (Ra,T4,11) else if ((x3.n+(Sl.of [(Rc.app (x4.app y6)).app (b.drop (wrap .i64 (x5+(a.If.n:Int))).toNat)]:Sl (Sl Tb)).n)*24<=140737488355328/\x3.n+(Sl.of [(Rc.app (x4.app y6)).app (b.drop (wrap .i64 (x5+(a.If.n:Int))).toNat)]:Sl (Sl Tb)).n<=140737488355328)then if ((a.If.n:Int)==0) then if (decide ((wrap .i64 (x5+(a.If.n:Int)))<(b.n:Int))) then if (((0:Int)<=(wrap .i64 (x5+(a.If.n:Int)))/\(wrap .i64 (x5+(a.If.n:Int)))<(b.n:Int))/\(((x4.app y6).n+(Sl.of [b.g (wrap .i64 (x5+(a.If.n:Int))).toNat]:Sl Tb).n)*8<=140737488355328/\(x4.app y6).n+(Sl.of [b.g (wrap .i64 (x5+(a.If.n:Int))).toNat]:Sl Tb).n<=140737488355328))then c (x2.push x5) (x3.push ((Rc.app (x4.app y6)).app (b.drop (wrap .i64 (x5+(a.If.n:Int))).toNat))) ((x4.app y6).push (b.g (wrap .i64 (x5+(a.If.n:Int))).toNat)) (wrap .i64 ((wrap .i64 (x5+(a.If.n:Int)))+1)) else none else c (x2.push x5) (x3.push ((Rc.app (x4.app y6)).app (b.drop (wrap .i64 (x5+(a.If.n:Int))).toNat))) (x4.app y6) (wrap .i64 ((wrap .i64 (x5+(a.If.n:Int)))+1)) else c (x2.push x5) (x3.push ((Rc.app (x4.app y6)).app (b.drop (wrap .i64 (x5+(a.If.n:Int))).toNat))) (x4.app y6) (wrap .i64 (x5+(a.If.n:Int))) else none else none else none else none else none else some (x2,x3,0)
abbrev vW (s:Sl Tb):Prop:=∀j,j<s.n->vS (s.g j)
def Av7 {s t:Sl Tb}(h:vW s)(h' : vW t):vW (s.app t):=fun j hj=>by
 have hj:j<s.n+t.n:=hj;show vS (if j<s.n then s.g j else t.g (j-s.n));split
 .exact h j (by assumption)
 exact h' _ (by omega)
def AE5 {s:Sl Tb}(h:vW s)(k:Nat):vW (s.drop k):=fun j hj=>h _ (by have hj:j<s.n-k:=hj;omega)
def AE6 {s:Sl Tb}(h:vW s){k:Nat}(hk:k<=s.n):vW (s.take k):=fun j hj=>h _ (by have hj:j<k:=hj;omega)
def TM {x s:Sl Tb}{i:Nat}(b:i<s.n):SE (x.app (s.drop i)) ((x.push (s.g i)).app (s.drop (i+1))):=⟨by show x.n+(s.n-i)=x.n+1+(s.n-(i+1));omega,fun j _=>by
 show (if j<x.n then x.g j else s.g (i+(j-x.n)))=if j<x.n+1 then (if j<x.n then x.g j else s.g i)else s.g (i+1+(j-(x.n+1)))
 by_cases h1:j<x.n
 .rw[Ll h1,Hj,Ll h1]
 rw[Lm h1];by_cases a:j=x.n
 .rw[Hj,Lm h1,a];simp
 rw[Jd];congr 1;omega⟩
def Aq1 {a x t:Sl Tb}(h:SE a (x.app t)):SE (a.take x.n) x:=⟨rfl,fun j hj=>by
 have hj:j<x.n:=hj;have hn:a.n=x.n+t.n:=h.1;have e:a.g j=if j<x.n then x.g j else t.g (j-x.n):=h.2 j (by omega)
 rw[Ll hj]at e;exact e⟩
def WZ {N:Nat}{l:Law}{w:Sl Tb}{K:AllS->Option TH}{acc:Sl Tb}{next sh:Int}:∀(d i:Nat),((i+d:Nat):Int)<=next->O1 (Ey l w i) (Ly N l w) K (acc,next,sh)=O1 (Ey l w (i+d)) (Ly N l w) K (acc,next,sh)
 |0,i,_=>rfl
 |d+1,i,h=>by
  have ih:=WZ (N:=N) (l:=l) (w:=w) (K:=K) (acc:=acc) (next:=next) (sh:=sh) d (i+1) (by omega);rw[show i+(d+1)=i+1+d by omega,<- ih];by_cases a:PG l w i
  .rw[Js (by have:=a.1;omega) a];show Ly N l w (O1 (Ey l w (i+1)) (Ly N l w) K) (i:Int) (acc,next,sh)=_;unfold Ly;rw[Ia]
  rw[Jt a]
def AE7 {N:Nat}(hN:3000<=N){l l' : Law}(hf:AG9 l)(he:LE l l'){w w' : Sl Tb}(b:SE w w')(hn:w.n<=32)(hv:vW w):∀(m i:Nat) (x4 acc:Sl Tb) (sh next:Int),i<=w.n+1->w.n+1<=i+m ->
 (i<=w.n->SE acc (x4.app (w'.drop i))/\(x4.n:Int)=i+sh)->next<=i->x4.n<=7*i->vW acc -> -1000<=sh->sh<=1000 ->
 ∃L L',O1 (Ey l w i) (Ly N l w) (fun _=>some []) (acc,next,sh)=some L/\vL L/\L.length<=m/\RL L L' /\ ∀M x2 x3,m<M->x2.n+m<=1000->x3.n+m<=1000->Al0 M (AH1 N l' w') x2 x3 x4 i=some (Kn x2 x3 L'):=by
 obtain⟨hl,_,_,hk,ho,hko,_,_⟩:=hf;have h6:=ho.1;obtain⟨hl',_,_,hk',ho',_,_,_⟩:=Vw he ⟨hl,‹_›, ‹_›,hk,ho,hko,‹_›, ‹_›⟩;have d:l'.If.n=l.If.n:=he.cond.1.symm;have hn':=b.1;have hw:okW w:=⟨by omega,fun j hj=>(hv j hj).ok⟩;have r : vW w':=b.v hv;have hw' : okW w':=⟨by omega,fun j hj=>(r j hj).ok⟩;have fin:∀(m i:Nat) (x4 acc:Sl Tb) (sh next:Int),w.n<i->∃L L',O1 (Ey l w i) (Ly N l w) (fun _=>some []) (acc,next,sh)=some L/\vL L/\L.length<=m/\RL L L' /\ ∀M x2 x3,m<M->x2.n+m<=1000->x3.n+m<=1000->Al0 M (AH1 N l' w') x2 x3 x4 i=some (Kn x2 x3 L'):=by
  intro m i x4 acc sh next hi
  refine⟨[],[],by rw[Kl (by omega)];rfl,TI,by simp,trivial,fun M x2 x3 hM _ _=>?_⟩;obtain⟨M,rfl⟩:∃K,M=K+1:=⟨M-1,by omega⟩;rw[U3,AH1,K6,Kn]
 intro m
 induction m with
 |zero=>exact fun i x4 acc sh next h1 t _ _ _ _ _ _=>fin 0 i x4 acc sh next (by omega)
 |succ m ih=>
  intro i x4 acc sh next hi hm hx hnx h7 f u x
  by_cases hle:i<=w.n
  case neg=>exact fin _ i x4 acc sh next (by omega)
  obtain⟨o,hnn⟩:=hx hle;have han:acc.n=x4.n+(w.n-i):=by rw[o.1];show x4.n+(w'.n-i)=_;omega
  obtain⟨b',e2,t⟩:=Ru hN hl' hk' hw' i (by omega);have t:=t.trans (Ij he b).symm;cases b'
  .have hno:¬PG l w i:=fun h=>by have:=t.2 h;cases this
   rw[Jt hno];by_cases y:i<w.n
   .obtain⟨L,L',g1,g2,g3,g5,g4⟩:=ih (i+1) (x4.push (w'.g i)) acc sh next (by omega) (by omega) (fun _=>⟨o.trans (TM (by omega)),by show ((x4.n+1:Nat):Int)=_;omega⟩) (by omega) (by show x4.n+1<=_;omega) f u x
    refine⟨L,L',g1,g2,by omega,g5,fun M x2 x3 hM hx hy=>?_⟩;obtain⟨M,rfl⟩:∃K,M=K+1:=⟨M-1,by omega⟩;rw[U3,AH1,d,Ia,e2,AQ6,Ll nf,lt,Ia,Ll ⟨by omega,by show (x4.n+1)*8<=_/\x4.n+1<=_;omega⟩,Hi,AQ4];exact g4 M x2 x3 (by omega) (by omega) (by omega)
   obtain⟨L,L',g1,g2,g3,g5,g4⟩:=ih (i+1) x4 acc sh next (by omega) (by omega) (fun h=>by omega) (by omega) (by omega) f u x
   refine⟨L,L',g1,g2,by omega,g5,fun M x2 x3 hM hx hy=>?_⟩;obtain⟨M,rfl⟩:∃K,M=K+1:=⟨M-1,by omega⟩;rw[U3,AH1,d,Ia,e2,AQ6,Ll nf,lt,K6,Hi];exact g4 M x2 x3 (by omega) (by omega) (by omega)
  have z:=t.1 rfl;have a0:=z.1;rw[Js hle z];obtain⟨p1,_,p3,p4⟩:=GP (N:=N) (by omega) ho hv a0;obtain⟨_,p2,_,_⟩:=GP (N:=N) (l:=l') (i:=i) (by omega) ho' r (by omega);rw[<- Nx he b a0,d]at p2;generalize hY:Hm N l w i=Y at p1 p2 p3 p4;have c:SE (((acc.take x4.n).app Y).app (w.drop (i+l.If.n))) ((x4.app Y).app (w'.drop (i+l.If.n))):=((Aq1 o).app (SE.refl _)).app (b.drop _);have q:vW (((acc.take x4.n).app Y).app (w.drop (i+l.If.n))):=Av7 (Av7 (AE6 f (by omega)) p4) (AE5 hv _);generalize hZ:(((acc.take x4.n).app Y).app (w.drop (i+l.If.n)))=Z at c q;have hZn:Z.n=x4.n+Y.n+(w.n-(i+l.If.n)):=by rw[<- hZ]
  obtain⟨L,L',g1,g2,g3,g5,g4⟩:=ih (if l.If.n=0 then i+1 else i+l.If.n) (if l.If.n=0/\i<w.n then (x4.app Y).push (w'.g i)else x4.app Y) Z (sh+l.Out.n-l.If.n) (if l.If.n=0 then i+1 else i+l.If.n:Nat)
   (by split<;>omega) (by split<;>omega)
   (fun h=>by
    by_cases a:l.If.n=0
    .rw[Ll a]at h;rw[Ll a,Ll ⟨a,by omega⟩];rw[a]at c;exact⟨c.trans (TM (by omega)),by show ((x4.n+Y.n+1:Nat):Int)=_;omega⟩
    rw[Lm a,Jd];exact⟨c,by show ((x4.n+Y.n:Nat):Int)=_;omega⟩)
   (by omega)
   (by
    by_cases a:l.If.n=0
    .rw[Ll a];split
     .show x4.n+Y.n+1<=_;omega
     show x4.n+Y.n<=_;omega
    rw[Lm a,Jd];show x4.n+Y.n<=_;omega)
   q (by omega) (by omega)
  refine⟨((i:Int),Z)::L,((i:Int),(x4.app Y).app (w'.drop (i+l.If.n)))::L', ?_,Vx q g2,by simp;omega,⟨rfl,c,g5⟩,fun M x2 x3 hM hx hy=>?_⟩
  .show Ly N l w (O1 (Ey l w (i+1)) (Ly N l w) fun _=>some []) (i:Int) (acc,next,sh)=_;unfold Ly;have es:wrap .i64 ((i:Int)+sh)=((x4.n:Nat):Int):=by rw[E6 (by omega) (by omega),hnn]
   simp only[es];rw[DU (by omega),K6,Hj];simp only[AQ4];rw[p1,AQ6,Hj,Ad0 (by omega) (by show x4.n<=_;omega) (by omega) (by show w.n-(i+l.If.n)<=_;omega),AQ6,hZ];have en:wrap .i64 ((i:Int)+(if (l.If.n:Int)<1 then 1 else (l.If.n:Int)))=((if l.If.n=0 then i+1 else i+l.If.n:Nat):Int):=by
    by_cases a:l.If.n=0
    .rw[Hj,Ll a,E6 (by omega) (by omega)];omega
    rw[Jd,Lm a,E6 (by omega) (by omega)];omega
   have eh:wrap .i64 ((wrap .i64 (sh+(l.Out.n:Int)))-(l.If.n:Int))=sh+l.Out.n-l.If.n:=by rw[E6 (n:=sh+(l.Out.n:Int)) (by omega) (by omega),E6 (by omega) (by omega)]
   rw[en,eh];have sk:=WZ (N:=N) (l:=l) (w:=w) (K:=fun _=>some []) (acc:=Z) (next:=((if l.If.n=0 then i+1 else i+l.If.n:Nat):Int)) (sh:=sh+l.Out.n-l.If.n) (if l.If.n=0 then 0 else l.If.n-1) (i+1) (by split<;>omega);rw[show i+1+(if l.If.n=0 then 0 else l.If.n-1)=(if l.If.n=0 then i+1 else i+l.If.n) by split<;>omega]at sk;show Y4 _ (O1 (Ey l w (i+1)) (Ly N l w) (fun _=>some []) (Z,_,_))=_;rw[sk,g1];rfl
  obtain⟨M,rfl⟩:∃K,M=K+1:=⟨M-1,by omega⟩;have hdn:((x4.app Y).app (w'.drop (i+l.If.n))).n=x4.n+Y.n+(w'.n-(i+l.If.n)):=rfl;rw[U3,AH1,d,Ia,e2,AQ6,Lm (by simp),DU (by omega),Hj];simp only[AQ4];rw[p2,AQ6,Hj,Ll (by show (x2.n+1)*8<=_/\x2.n+1<=_;omega)];rw[Ll ⟨⟨by show (0+(x4.n+Y.n))*8<=_/\0+(x4.n+Y.n)<=_;omega,by omega⟩,by simp only[Ba4];omega⟩,Kn];by_cases a1:32<((x4.app Y).app (w'.drop (i+l.If.n))).n
  .rw[Ll (by simp only[Mw,Ba4];omega),Ll a1]
  rw[Lm (by simp only[Mw,Ba4];omega),Lm a1,AE1 (s:=Rc) rfl,Ll (by show (x3.n+1)*24<=_/\x3.n+1<=_;omega)];have g4:=g4 M (x2.push (i:Int)) (x3.push ((x4.app Y).app (w'.drop (i+l.If.n)))) (by omega) (by show x2.n+1+m<=_;omega) (by show x3.n+1+m<=_;omega);by_cases a:l.If.n=0
  .rw[Ll (by simp[a])];rw[Ll a]at g4;by_cases y:i<w.n
   .rw[Ll ⟨a,y⟩]at g4;rw[Ll (by simp only[Mw];omega),Ll ⟨by omega,by show (x4.n+Y.n+1)*8<=_/\x4.n+Y.n+1<=_;omega⟩,Hi,show w'.g (i+l.If.n)=w'.g i by rw[a];rfl,show i+l.If.n+1=i+1 by omega];exact g4
   rw[Jd]at g4;rw[Lm (by simp only[Mw];omega),Hi,show i+l.If.n+1=i+1 by omega];exact g4
  rw[Lm (by simp[a])];rw[Lm a,Jd]at g4;exact g4
def trS (r r' : Ap9):Prop:=r.1=r'.1/\r.2.1.n=r'.2.1.n/\(∀i,i<r.2.1.n->SE (r.2.1.g i) (r'.2.1.g i))/\r.2.2=r'.2.2
def Av8:∀(L L' : TH) (x:Sl Int) (y y' : Sl (Sl Tb)),RL L L' -> y.n=y'.n->(∀i,i<y.n->SE (y.g i) (y'.g i))->trS (Kn x y L) (Kn x y' L')
 |[],[],x,y,y',_,h1,h2=>⟨rfl,h1,h2,rfl⟩
 |(p,v)::L,(q,u)::M,x,y,y',⟨h3,h4,h5⟩,h1,h2=>by
  subst h3;unfold Kn;rw[<- h4.1];split
  .exact⟨rfl,rfl,fun i a=>Ln a (AT4 i),rfl⟩
  refine Av8 L M _ _ _ h5 (by show y.n+1=y'.n+1;omega) fun i a=>?_;have a:i<y.n+1:=a;show SE (if i<y.n then y.g i else v) (if i<y'.n then y'.g i else u);rw[<- h1];split
  .exact h2 i (by assumption)
  exact h4
 |[],_::_,_,_,_,h,_,_=>h.elim
 |_::_,[],_,_,_,h,_,_=>h.elim
def Ad5:∀(L:TH) (x:Sl Int) (y:Sl (Sl Tb)),vL L->(∀i,i<y.n->wOk (y.g i))->(Kn x y L).2.2=11 \/ ((Kn x y L).2.2=0/\(Kn x y L).2.1.n<=y.n+L.length/\∀i,i<(Kn x y L).2.1.n->wOk ((Kn x y L).2.1.g i))
 |[],x,y,_,h=>.inr ⟨rfl,AQ8 _,h⟩
 |(p,v)::L,x,y,hv,h=>by
  unfold Kn;split
  .exact .inl rfl
  have:=Ad5 L (x.push p) (y.push v) (fun z b=>hv z (AT2 _ b)) fun i d=>by
   show wOk (if i<y.n then y.g i else v);split
   .exact h i (by assumption)
   exact⟨by omega,hv (p,v) (by simp)⟩
  rcases this with h|⟨h1,a,c⟩
  .exact .inl h
  refine .inr ⟨h1,?_,c⟩;have a:_<=y.n+1+L.length:=a;simp only[AT5];omega
def TN:∀(L:TH) (x:Sl Int) (y:Sl (Sl Tb)),x.n+L.length<=100000->y.n+L.length<=100000 ->
 O1 L (fun (a:Sl Int×Sl (Sl Tb)->Option Ap9) (x1:Int×(Sl Tb)) (z1:(Sl Int)×(Sl (Sl Tb)))=>
  if (decide (32<(x1.2.n:Int))) then
   some (Ra,T4,11)
  else
   if ((z1.1.n+(Sl.of [x1.1]:Sl Int).n)*8<=140737488355328/\z1.1.n+(Sl.of [x1.1]:Sl Int).n<=140737488355328)then
    if ((z1.2.n+(Sl.of [x1.2]:Sl (Sl Tb)).n)*24<=140737488355328/\z1.2.n+(Sl.of [x1.2]:Sl (Sl Tb)).n<=140737488355328)then
     a (z1.1.push x1.1,z1.2.push x1.2)
    else none
   else none
  ) (fun (z1:(Sl Int)×(Sl (Sl Tb)))=>
   some (z1.1,z1.2,0)
  ) (x,y)=some (Kn x y L)
 |[],x,y,_,_=>rfl
 |(p,v)::L,x,y,hx,hy=>by
  simp only[AT5]at hx hy;have ih:=TN L (x.push p) (y.push v) (by show x.n+1+_<=_;omega) (by show y.n+1+_<=_;omega);rw[O1,Kn];by_cases h:32<v.n
  .rw[Ia,Ll h]
  rw[K6,Lm h,Ll (by show (x.n+1)*8<=_/\x.n+1<=_;omega),Ll (by show (y.n+1)*24<=_/\y.n+1<=_;omega)];exact ih
def trE (N:Nat)(l:Law)(w:Sl Tb)(r:Ap9):Prop:=(r.2.2=17/\¬chkAll N l) \/ (chkAll N l/\Yn w r.2.2/\r.2.2≠0) \/ (chkAll N l/\wOk w/\(r.2.2=11 \/ (r.2.2=0/\r.2.1.n<=1000/\∀i,i<r.2.1.n->wOk (r.2.1.g i))))
def Ad6 (e:Int):trS (Ra,T4,e) (Ra,T4,e):=⟨rfl,rfl,fun i a=>Ln a (AT4 i),rfl⟩
def AN7 {w w' : Sl Tb}(h:SE w w'){e:Int}(hw:Yn w e):Yn w' e:=by
 rcases hw with⟨h1,a⟩ | ⟨h1,⟨i,b,a⟩,c⟩ | ⟨h1,a⟩
 .exact .inl ⟨by rw[<- h.1];exact h1,a⟩
 .exact .inr (.inl ⟨by rw[<- h.1];exact h1,⟨i,by rw[<- h.1];exact b,by rw[<- h.2 i b];exact a⟩,c⟩)
 exact .inr (.inr ⟨h.wOk h1,a⟩)
def okS_S {w w' : Sl Tb}(h:SE w w')(hw:∀i,i<w.n->okS (w.g i)):∀i,i<w'.n->okS (w'.g i):=fun i a=>by rw[<- h.2 i (by rw[h.1];exact a)];exact hw i (by rw[h.1];exact a)
def Ad7 {N:Nat}(u:3000000<=N){l l' : Law}(hl:Lx l)(hle:LE l l'){w w' : Sl Tb}(a:SE w w')(hw:∀i,i<w.n->okS (w.g i)) :∃r r',DJ N l w=some r/\Ih N l' w' = some r' /\ trS r r' /\ trE N l w r:=by
 obtain⟨e,e1,_,v⟩:=EZ u hl;obtain⟨e0,_,e2,q⟩:=EZ u (LN hle hl);obtain rfl:=TF (AE4 hle v) q;unfold DJ Ih FA Nh;rw[e1,e2,AQ6,AQ6];rcases v with⟨rfl,hc⟩ | ⟨rfl,hc⟩
 case inr=>rw[Ll (by decide),Ll (by decide)];exact⟨_,_,rfl,rfl,Ad6 17,.inl ⟨rfl,hc⟩⟩
 rw[Lm (by decide),Lm (by decide)];obtain⟨e',e3,c⟩:=Nu (N:=N) (by omega) hw;obtain⟨e'',e4,j⟩:=PF (N:=N) (by omega) (okS_S a hw);obtain rfl:=Ab9 (AN7 a c) j;rw[e3,e4];simp only[AQ6];by_cases d:e' = 0
 case neg=>rw[Ll (by simpa using d),Ll (by simpa using d)];exact⟨_,_,rfl,rfl,Ad6 e', .inr (.inl ⟨hc,c,d⟩)⟩
 rw[Lm (by simp[d]),Lm (by simp[d])];have b:wOk w:=(GO c).1 d;have o:=hc.f hl;obtain⟨s,_,_,hk,ho,y,z,a0⟩:=id o;have hn:=b.1;have t:=a.1;have key:∃L L',Cm N w l (l.If.n:Int) (l.Out.n:Int)=some L/\vL L/\L.length<=100/\RL L L' /\
  (if (l'.Mode==1) then (Ni N l' w').bind fun y2=>some (y2.1,y2.2.1,y2.2.2)
   else if (l'.Mode==2) then (Ig N l' w').bind fun y3=>some (y3.1,y3.2.1,y3.2.2)
   else (Ha N l' w').bind fun y4=>some (y4.1,y4.2.1,y4.2.2))=some (Kn Ra T4 L'):=by
  unfold Cm;rw[hle.mode];by_cases c1:l.Mode=1
  .rw[Ll (show (l.Mode==1)=true by simp[c1]),Ll (show (l.Mode==1)=true by simp[c1])];obtain⟨L,L',g1,g2,g3,g5,g4⟩:=AE7 (N:=N) (by omega) o hle a hn b.2 (w.n+1) 0 Rb w 0 0 (by omega) (by omega) (fun _=>⟨by rw[AE1 rfl];exact⟨a.1,fun i m=>by rw[a.2 i m];show _=w'.g (0+i);rw[AT6]⟩,rfl⟩) (by omega) (by show 0<=_;omega) b.2 (by omega) (by omega);have hh:=WX (N:=N) (by omega) s hk (w:=w) (vOk b) 0 (by omega);refine⟨L,L', ?_,g2,by omega,g5,?_⟩
   .show ((Z5 N l w ((0:Nat):Int)).bind fun L1=>O1 L1 (Ly N l w) (fun _=>some []) (w,0,0))=_;rw[hh,AQ6];exact g1
   have:Ni N l' w' = some _:=g4 N Ra T4 (by omega) (by show 0+_<=_;omega) (by show 0+_<=_;omega)
   rw[this];rfl
  rw[Lm (show ¬(l.Mode==1)=true by simp[c1]),Lm (show ¬(l.Mode==1)=true by simp[c1])];by_cases c2:l.Mode=2
  .rw[Ll (show (l.Mode==2)=true by simp[c2]),Ll (show (l.Mode==2)=true by simp[c2])];obtain⟨L,L',g1,g2,g3,g5,g4⟩:=Ad2 (N:=N) (by omega) o hle (w.n+1) w w' 0 a (by omega) b.2 (by omega) (by omega);refine⟨L,L',g1 N (by omega),g2,by omega,g5,?_⟩
   have:Ig N l' w' = some _:=g4 N Ra T4 (by omega) (by show 0+_<=_;omega) (by show 0+_<=_;omega)
   rw[this];rfl
  have c3:l.Mode=3:=by omega
  rw[Lm (show ¬(l.Mode==2)=true by simp[c2]),Lm (show ¬(l.Mode==2)=true by simp[c2]),Ll (show (l.Mode==3)=true by simp[c3])];obtain⟨L,L',g1,g2,g3,g5,g4⟩:=Aq0 (N:=N) (by omega) o hle (w.n+1) w w' ((w.n:Int)-(l.If.n:Int)) a (by omega) b.2 (by omega) (by omega) (by omega);refine⟨L,L', ?_,g2,by omega,g5,?_⟩
  .rw[E6 (by omega) (by omega)];exact g1 N (by omega)
  have g4:=g4 N Ra T4 (by omega) (by show 0+_<=_;omega) (by show 0+_<=_;omega)
  have:Ha N l' w' = some (Kn Ra T4 L'):=by unfold Ha;rw[show wrap .i64 ((w'.n:Int)-(l'.If.n:Int))=(w.n:Int)-(l.If.n:Int) by rw[<- t, <- hle.cond.1,E6 (by omega) (by omega)]];exact g4
  rw[this];rfl
 obtain⟨L,L',g1,g2,g3,g5,g4⟩:=key;refine⟨Kn Ra T4 L,_,?_,g4,Av8 L L' _ _ _ g5 rfl fun i m=>Ln m (AT4 i),.inr (.inr ⟨hc,b,?_⟩)⟩
 .rw[Jj,AQ6];show ((Cm N w l (l.If.n:Int) (l.Out.n:Int)).bind _)=_;rw[g1,AQ6];exact TN L _ _ (by show 0+_<=_;omega) (by show 0+_<=_;omega)
 rcases Ad5 L Ra T4 g2 fun i m=>Ln m (AT4 i)with h|⟨h1,x,h3⟩
 .exact .inl h
 exact .inr ⟨h1,by have x:_<=0+L.length:=x;omega,h3⟩
end Go.AM
namespace Go.AM
variable {N:Nat}
open IntKind (wrap)
open Go.Proofs
def apE (N:Nat)(l:Law)(w:Sl Tb)(r:Sl Tb×Int):Prop:=(r.2=17/\¬chkAll N l) \/ (chkAll N l/\Yn w r.2/\r.2≠0) \/ (chkAll N l/\wOk w/\(r.2=11 \/ (r.2=0/\wOk r.1)))
def Ny (o:3000000<=N){l l' : Law}(hl:Lx l)(hle:LE l l'){w w' : Sl Tb}(b:SE w w')(hw:∀i,i<w.n->okS (w.g i)) :∃r r',P9 N l w=some r/\Nj N l' w' = some r' /\ SE r.1 r'.1/\r.2=r'.2/\apE N l w r:=by
 obtain⟨⟨x,y,e⟩,⟨x',y',e'⟩,h1,q,⟨_,hn,hs,m⟩,ht⟩:=Ad7 o hl hle b hw;dsimp only at hn hs m;subst m;have t:=b.1;unfold trE at ht;dsimp only at ht;unfold P9 Nj;rw[h1,q,AQ6,AQ6];dsimp only;by_cases a:e=0
 case neg=>
  rw[Ll (show (e != 0)=true by simpa using a),Ll (show (e != 0)=true by simpa using a)];refine⟨_,_,rfl,rfl,SE.refl _,rfl,?_⟩;rcases ht with h|h|⟨j,c,d⟩
  .exact .inl h
  .exact .inr (.inl h)
  exact .inr (.inr ⟨j,c,.inl (d.resolve_right fun h=>a h.1)⟩)
 rw[Lm (show ¬(e != 0)=true by simp[a]),Lm (show ¬(e != 0)=true by simp[a])];rcases ht with h|h|⟨j,c,d⟩
 .exact Ln (h.1.symm.trans a) (by decide)
 .exact Ln a h.2.2
 rcases d with d|⟨_,h6,u⟩
 .exact Ln (d.symm.trans a) (by decide)
 have v:=c.1;by_cases hy:y.n=0
 .rw[Lm (show ¬decide ((0:Int)<(y.n:Int))=true by simp[hy]),Ll (show ((y'.n:Int)==0)=true by simp[<- hn,hy]),Ll (by show (0+w'.n)*8<=_/\0+w'.n<=_;omega),AE1 (s:=Rc) rfl];unfold A5;rw[Hj];exact⟨_,_,rfl,rfl,b,rfl,.inr (.inr ⟨j,c,.inr ⟨rfl,c⟩⟩)⟩
 have hk:=u (y.n-1) (by omega);have f:=hs (y.n-1) (by omega);have hb:=hk.1;have z:=f.1;have e1:wrap .i64 ((y.n:Int)-1)=((y.n-1:Nat):Int):=wrapP (by omega) (by omega);have e2:wrap .i64 ((y'.n:Int)-1)=((y.n-1:Nat):Int):=by rw[<- hn];exact e1
 rw[e1,e2,AQ4,Ll (show decide ((0:Int)<(y.n:Int))=true by simp;omega),Hj,Lm (show ¬((y'.n:Int)==0)=true by simp;omega),Ll ⟨by omega,by show (0+(y'.g (y.n-1)).n)*8<=_/\0+(y'.g (y.n-1)).n<=_;omega⟩,AE1 (s:=Rc) rfl];exact⟨_,_,rfl,rfl,f,rfl,.inr (.inr ⟨j,c,.inr ⟨rfl,hk⟩⟩)⟩
def TO {s:Sl Law}(l:s.n<N)(hs:s.n<1000000){f:Law->Option Bool}{b:Nat->Bool}(m:∀i,i<s.n->f (s.g i)=some (b i)) :∃r,C4 N s f=some r/\(r=true ↔ ∃i,i<s.n/\b i=true):=by
 unfold C4 F4
 have:∃y,S3 N (fun (a:Int->Option Int) (x1:Int)=>
  if (decide (x1<(s.n:Int))) then
   if ((0:Int)<=x1/\x1<(s.n:Int))then
    (f (s.g x1.toNat)).bind fun y3=>
    if y3 then
     some x1
    else
     a (wrap .i64 (x1+1))
   else none
  else
   some (-1)) 0=some y/\(0<=y ↔ ∃i,i<s.n/\b i=true):=by
  refine W5 (fun i x1=>x1=(i:Int)/\∀j,j<i->b j=false) s.n _ l ⟨rfl,fun j hj=>Ln hj (by omega)⟩ ?_;rintro d i x1 o ⟨rfl,h⟩ c;by_cases hl:i<s.n
  .refine Ao (An (B1 (by rw[AQ4];exact m i hl) ?_));cases hb:b i
   .refine Gx (c hl _ ⟨Hi,fun j hj=>?_⟩);by_cases e:j=i
    .subst e;exact hb
    exact h j (by omega)
   exact ifT rfl ⟨i,rfl,fun _=>⟨i,hl,hb⟩,fun _=>by omega⟩
  refine Ec ⟨-1,rfl,fun h=>Ln h (by decide),?_⟩;rintro⟨j,hj,hb⟩;rw[h j (by omega)]at hb;cases hb
 obtain⟨y,e,hy⟩:=this;exact B1 e ⟨_,rfl,by rw[Mw];exact hy⟩
def TP (N:Nat)(laws:Sl Law)(e:Int):Prop:=(64<laws.n/\e=12) \/ (laws.n<=64/\(∃i,i<laws.n/\¬chkAll N (laws.g i))/\e=17) \/ ((laws.n<=64/\∀i,i<laws.n->chkAll N (laws.g i))/\e=0)
def PJ {laws:Sl Law}{e e' : Int}(h:TP N laws e)(h' : TP N laws e'):e=e':=by rcases h with⟨h,rfl⟩ | ⟨h,⟨i,b,a⟩,rfl⟩ | ⟨⟨h,a⟩,rfl⟩<;>rcases h' with⟨g,rfl⟩ | ⟨g,⟨j,hj,g2⟩,rfl⟩ | ⟨⟨g,g2⟩,rfl⟩<;>first|rfl|(exfalso;omega)|exact Ln (g2 i b) a|exact Ln (a j hj) g2
def LS (s t:Sl Law):Prop:=s.n=t.n/\∀i,i<s.n->LE (s.g i) (t.g i)
def LS.refl (s:Sl Law):LS s s:=⟨rfl,fun _ _=>LE.refl _⟩
def GQ (laws:Sl Law):Prop:=∀i,i<laws.n->Lx (laws.g i)
def Aq2 {laws laws' : Sl Law}(h:LS laws laws')(hl:GQ laws):GQ laws':=fun i a=>by exact LN (h.2 i (by rw[h.1];exact a)) (hl i (by rw[h.1];exact a))
def Yu (m:3000000<=N){laws:Sl Law}(hl:GQ laws):∃e,V9 N laws=some e/\Ie N laws=some e/\TP N laws e:=by
 have h1:∃e,V9 N laws=some e/\TP N laws e:=by
  unfold V9;by_cases hn:64<laws.n
  .exact Ao ⟨12,rfl,.inl ⟨hn,rfl⟩⟩
  refine Ec ?_;have t:∀i,∃b,i<laws.n->Q8 N (laws.g i)=some b/\(b=true ↔ ¬chkAll N (laws.g i)):=by
   intro i;by_cases a:i<laws.n
   .obtain⟨e,e1,_,d⟩:=EZ m (hl i a);refine⟨e != 0,fun _=>⟨by unfold Q8;rw[e1];rfl,?_⟩⟩;rcases d with⟨rfl,h⟩ | ⟨rfl,h⟩
    .exact⟨fun h=>Ln h (by decide),fun g=>Ln h g⟩
    exact⟨fun _=>h,fun _=>by decide⟩
   exact⟨false,fun h=>Ln h a⟩
  obtain⟨f,l⟩:=AZ1 t;obtain⟨r,e1,h1⟩:=TO (N:=N) (s:=laws) (by omega) (by omega) (f:=fun u1=>Q8 N u1) (fun i a=>(l i a).1);refine B1 e1 ?_;cases o:r
  .refine Gx ⟨0,rfl,.inr (.inr ⟨⟨by omega,fun i a=>AU0 fun hn=>?_⟩,rfl⟩)⟩
   have:=h1.2 ⟨i,a,(l i a).2.2 hn⟩
   rw[o]at this;cases this
  obtain⟨i,a,hb⟩:=h1.1 o;exact ifT rfl ⟨17,rfl,.inr (.inl ⟨by omega,⟨i,a,(l i a).2.1 hb⟩,rfl⟩)⟩
 have u:∃e,Ie N laws=some e/\TP N laws e:=by
  unfold Ie;by_cases hn:64<laws.n
  .exact Ao ⟨12,rfl,.inl ⟨hn,rfl⟩⟩
  refine Ec ?_;refine W5 (fun i x1=>x1=(i:Int)/\∀j,j<i->chkAll N (laws.g j)) laws.n _ (by omega) ⟨rfl,fun j hj=>Ln hj (by omega)⟩ ?_;rintro q i x1 a ⟨rfl,h⟩ hs;by_cases c:i<laws.n
  .obtain⟨e,_,e1,d⟩:=EZ m (hl i c);refine Ao (An (B1 (by rw[AQ4];exact e1) ?_));rcases d with⟨rfl,hc⟩ | ⟨rfl,hc⟩
   .refine H1 (hs c _ ⟨Hi,fun j hj=>?_⟩);by_cases e:j=i
    .subst e;exact hc
    exact h j (by omega)
   exact Da ⟨17,rfl,.inr (.inl ⟨by omega,⟨i,c,hc⟩,rfl⟩)⟩
  exact Ec ⟨0,rfl,.inr (.inr ⟨⟨by omega,fun j hj=>h j (by omega)⟩,rfl⟩)⟩
 obtain⟨e,e1,g1⟩:=h1;obtain⟨e',e2,g2⟩:=u;obtain rfl:=PJ g1 g2;exact⟨_,e1,e2,g1⟩
def Av9 (l:Sl (Sl Tb))(e:Int):Prop:=(e=0/\∀i,i<l.n->wOk (l.g i)) \/ (∃i,i<l.n/\(∀j,j<i->wOk (l.g j))/\Yn (l.g i) e/\e≠0)
def Yv (m:3000000<=N){l:Sl (Sl Tb)}(hn:l.n<2000000)(hw:∀i,i<l.n->∀j,j<(l.g i).n->okS ((l.g i).g j)) :∃e,S3 N (fun (a:Int->Option Int) (x1:Int)=>
  if (decide (x1<(l.n:Int))) then
   if ((0:Int)<=x1/\x1<(l.n:Int))then
    (Z0 N (l.g x1.toNat)).bind fun y4=>
    if (y4 != 0) then
     some y4
    else
     a (wrap .i64 (x1+1))
   else none
  else
   some 0
  ) 0=some e/\Av9 l e:=by
 refine W5 (fun i x1=>x1=(i:Int)/\∀j,j<i->wOk (l.g j)) l.n _ (by omega) ⟨rfl,fun j hj=>Ln hj (by omega)⟩ ?_;rintro d i x1 o ⟨rfl,h⟩ hs;by_cases b:i<l.n
 .obtain⟨e,e1,f⟩:=Nu (N:=N) (by omega) (hw i b);refine Ao (An (B1 (by rw[AQ4];exact e1) ?_));by_cases c:e=0
  .refine ifF (by simp[c]) (hs b _ ⟨Hi,fun j hj=>?_⟩);by_cases e:j=i
   .subst e;exact (GO f).1 c
   exact h j (by omega)
  exact ifT (by simpa using c) ⟨e,rfl,.inr ⟨i,b,h,f,c⟩⟩
 exact Ec ⟨0,rfl,.inl ⟨rfl,fun j hj=>h j (by omega)⟩⟩
def AE8 {w:Sl Tb}{e:Int}(h:Av9 (Sl.of [w]:Sl (Sl Tb)) e):Yn w e:=by
 rcases h with⟨rfl,h⟩ | ⟨i,a,_,h,_⟩
 .exact .inr (.inr ⟨h 0 (by show 0<1;omega),rfl⟩)
 match i,a with
 |0,_=>exact h
def Vy (b:3000000<=N){laws:Sl Law}(hl:GQ laws){w:Sl Tb}(hw:∀i,i<w.n->okS (w.g i)) :∃e,Bh N laws (Sl.of [w]:Sl (Sl Tb))=some e/\((TP N laws e/\e≠0) \/ (TP N laws 0/\Yn w e)):=by
 unfold Bh;obtain⟨e,e1,_,h1⟩:=Yu b hl;refine B1 e1 ?_;by_cases a:e=0
 case neg=>exact ifT (by simpa using a) ⟨e,rfl,.inl ⟨h1,a⟩⟩
 refine ifF (by simp[a]) (ifF (by show ¬decide ((256:Int)<((1:Nat):Int))=true;decide) ?_);obtain⟨e2,e3,c⟩:=Yv (N:=N) b (l:=(Sl.of [w]:Sl (Sl Tb))) (by show 1<_;omega) fun i d=>by
  match i,d with
  |0,_=>exact hw
 exact⟨e2,e3,.inr ⟨a ▸ h1,AE8 c⟩⟩
def Em (N:Nat)(c:Int)(q1:Sl Law)(a:Sl Tb->Int->Option TH)(x1:Sl Tb)(x2:Int):Option TH:= if (decide (x2<(q1.n:Int))) then if ((0:Int)<=x2/\x2<(q1.n:Int))then (P9 N (q1.g x2.toNat) x1).bind fun y4=>if (y4.2 != 0) then if y4.2=c then some []else none else Y4 (wrap .i64 (x2+1),y4.1) (a y4.1 (wrap .i64 (x2+1))) else none else if c=0 then some []else none
def DR {c:Int}{laws:Sl Law}{a:Sl Tb->Int->Option TH}{w:Sl Tb}{i:Nat}(d:i<laws.n)(b:laws.n<=64){y:Sl Tb×Int}(h:P9 N (laws.g i) w=some y) :Em N c laws a w (i:Int)=if (y.2 != 0) then (if y.2=c then some []else none)else Y4 (((i+1:Nat):Int),y.1) (a y.1 ((i+1:Nat):Int)):=by unfold Em;rw[Ll (show decide ((i:Int)<(laws.n:Int))=true by simp;omega),Hj,AQ4,h,AQ6,Hi]
def Rx:Sl Tb->TH->Sl Tb
 |w,[]=>w
 |_,(_,v)::L=>Rx v L
def RA:∀(L:TH) (w:Sl Tb),O1 L (fun (a:Sl Tb->Option (Sl Tb)) (x1:Int×(Sl Tb)) (z1:Sl Tb)=>a x1.2) (fun (z1:Sl Tb)=>some z1) w=some (Rx w L)
 |[],w=>rfl
 |(p,v)::L,w=>RA L v
def HJ (N:Nat)(laws:Sl Law):Prop:=laws.n<=64/\∀i,i<laws.n->chkAll N (laws.g i)
def lawsE_zero {laws:Sl Law}:TP N laws 0↔HJ N laws:=by
 constructor
 .rintro (⟨_,h⟩ | ⟨_,_,h⟩ | ⟨h,_⟩)
  .cases h
  .cases h
  exact h
 exact fun h=>.inr (.inr ⟨h,rfl⟩)
end Go.AM
namespace Go.AM
open IntKind (wrap)
open Go.Proofs
def Vz {α : Type}(s:Sl α)(a : α):(s.push a).toList=s.toList++[a]:=by
 show (List.range (s.n+1)).map (fun i=>if i<s.n then s.g i else a)=_;rw[Ba7,Ba8];congr 1
 .exact AS5 fun i b=>Ll (AU9.1 b)
 simp
def Aw0 {α : Type}(s:Sl α):s.toList.length=s.n:=by simp[Sl.toList]
def AN8 {α : Type}{s t:Sl α}(h:s.toList=t.toList):s.n=t.n/\∀i,i<s.n->s.g i=t.g i:=by
 have hn:s.n=t.n:=by rw[<- Aw0 s,<- Aw0 t,h]
 refine⟨hn,fun i a=>?_⟩
 have:=congrArg (fun l=>l[i]?) h
 simpa[Sl.toList,a,hn ▸ a]using this
def tl_eq {α : Type}{s t:Sl α}:s.toList=t.toList↔SE s t:=by
 constructor
 .intro h;have hn:s.n=t.n:=by rw[<- N7 s,h,N7]
  refine⟨hn,fun i a=>?_⟩
  have:=congrArg (fun l=>l[i]?) h
  simpa[Sl.toList,a,hn ▸ a]using this
 rintro⟨h1,b⟩;unfold Sl.toList;rw[<- h1];exact AS5 fun i a=>b i (AU9.1 a)
def sEq (x y:Tb):((x.Plus==y.Plus)&&(x.Minus==y.Minus))=decide (x=y):=by cases x;cases y;rw[AU3];simp
def AE9 {N:Nat}{x y:Sl Tb}(f:x.n<N)(hs:x.n<10000000) :∃b,(if ((x.n:Int) != (y.n:Int)) then
 some false
 else
  S3 N (fun (a:Int->Option Bool) (x1:Int)=>
   if (decide (x1<(x.n:Int))) then
    if (((0:Int)<=x1/\x1<(x.n:Int))/\((0:Int)<=x1/\x1<(y.n:Int)))then
     if ((((x.g x1.toNat).Plus==(y.g x1.toNat).Plus)&&((x.g x1.toNat).Minus==(y.g x1.toNat).Minus)) != true) then
      some false
     else
      a (wrap .i64 (x1+1))
    else none
   else
    some true
   ) 0)=some b/\(b=true↔SE x y):=by
 by_cases hn:x.n=y.n
 case neg=>exact Ao ⟨false,rfl,by simp,fun h=>Ln h.1 hn⟩
 refine ifF (by simp[hn]) ?_;refine W5 (fun i x1=>x1=(i:Int)/\∀j,j<i->x.g j=y.g j) x.n _ f ⟨rfl,fun j hj=>Ln hj (by omega)⟩ ?_;rintro d i x1 l ⟨rfl,h⟩ c;by_cases hl:i<x.n
 .refine Ao (An ?_);rw[AQ4,sEq];by_cases e:x.g i=y.g i
  .refine ifF (by simp[e]) (c hl _ ⟨Hi,fun j hj=>?_⟩);by_cases e2:j=i
   .subst e2;exact e
   exact h j (by omega)
  exact ifT (by simp[e]) ⟨false,rfl,by simp,fun h=>Ln (h.2 i hl) e⟩
 exact Ec ⟨true,rfl,fun _=>⟨hn,fun j hj=>h j (by omega)⟩,fun _=>rfl⟩
def VA {N:Nat}{x y:Sl Tb}(a:x.n<N)(hs:x.n<10000000):∃b,T6 N x y=some b/\(b=true↔SE x y):=by obtain⟨b,h,hb⟩:=AE9 (N:=N) (x:=x) (y:=y) a hs;exact⟨b,by unfold T6;rw[show F2 N x y=some b from h];rfl,hb⟩
abbrev okA (w:Sl Tb):Prop:=∀i,i<w.n->okS (w.g i)
end Go.AM
namespace Go.AM
open Go.Proofs
def dep:Nat->Pat->Prop
 |0,_=>False
 |d+1,p=>p.L.n<=40/\∀i,i<p.L.n->dep d (p.L.g i)
def Aw1:∀(d:Nat) (p:Pat),dep d p->∀e,d<=e->dep e p
 |0,_,h,_,_=>h.elim
 |d+1,p,h,0,he=>by omega
 |d+1,p,h,e+1,he=>⟨h.1,fun i a=>Aw1 d _ (h.2 i a) e (by omega)⟩
def TQ {N:Nat}(m:1000<=N):∀(d:Nat),d<=40->∀(p:Pat) (M:Nat),N+d+2<=M->∃r:Nat,Bp M p ((40-d:Nat):Int)=some (r:Int)/\40-d<r/\r<=41/\(r<=40->dep (d+1) p)
 |d,hd,p,0,hM=>by omega
 |d,hd,p,M+1,hM=>by
  have:∃x,Bp (M+1) p ((40-d:Nat):Int)=some x/\∃r:Nat,x=(r:Int)/\40-d<r/\r<=41/\(r<=40->dep (d+1) p):=by
   show ∃x,BJ (Bp M) M p _=some x/\_;unfold BJ;rw[Hi];refine T1 (fun i x1 x2=>x2=(i:Int)/\∃k:Nat,x1=(k:Int)/\40-d+1+i<=k/\k<=41/\i<=p.L.n/\(k<=40->∀j,j<i->dep d (p.L.g j))) 41 _ (by omega) ⟨rfl,40-d+1,rfl,by omega,by omega,by omega,fun _ j hj=>Ln hj (by omega)⟩ ?_;rintro c i x1 x2 o ⟨rfl,k,rfl,h1,b,q,f⟩ hs;by_cases hc:i<p.L.n/\k<=40
   .refine ifT (by simp only[AQ7,Mw];omega) (An ?_);obtain⟨r,l,r1,r2,r3⟩:=TQ m (40-k) (by omega) (p.L.g i) M (by omega);rw[show ((40-(40-k):Nat):Int)=(k:Int) by omega]at l;refine B1 (by rw[AQ4];exact l) (hs (by omega) _ _ ⟨Hi,r,rfl,by omega,r2,by omega,fun a j hj=>?_⟩);by_cases e:j=i
    .subst e;exact Aw1 _ _ (r3 a) d (by omega)
    exact f hc.2 j (by omega)
   refine ifF (by simp only[AQ7,Mw];omega) ⟨_,rfl,k,rfl,by omega,b,fun hk=>⟨by omega,fun j hj=>f hk j (by omega)⟩⟩
  obtain⟨x,h1,r,rfl,b⟩:=this;exact⟨r,h1,b⟩
def Xa {N:Nat}(b:2000<=N)(p:Pat):∃r:Nat,Dl N p=some (r:Int)/\(r<=40->dep 41 p):=by obtain⟨r,h1,_,_,a⟩:=TQ (N:=1000) (by omega) 40 (by omega) p N (by omega);exact⟨r,by unfold Dl;rw[show Bp N p 0=some (r:Int) from h1];rfl,a⟩
end Go.AM
namespace Go.AM
variable {N:Nat}
open IntKind (wrap)
open Go.Proofs
def Ox (s:Str):Bool:=(decide (1<=s.length)&&decide (s.length<=24))&&s.all fun c=>Rv ((c.toNat:Nat):Int)
def TR {s:Str}(l:s.length<N)(hs:s.length<1000000000){let_:Int->Option Bool}(hl:∀y,let_ y=some (Rv y)){fin:Bool}(m:fin=(decide (1<=s.length)&&decide (s.length<=24))) :S3 N (fun (a:Int->Option Bool) (x1:Int)=>
  if (decide (x1<(s.length:Int))) then
   if ((0:Int)<=x1/\x1<(s.length:Int))then
    (let_ (CB s x1)).bind fun y3=>
    if (!y3) then
     some false
    else
     a (wrap .i64 (x1+1))
   else none
  else
   some fin
 ) 0=some (Ox s):=by
 suffices h:∃b,S3 N (fun (a:Int->Option Bool) (x1:Int)=>
  if (decide (x1<(s.length:Int))) then
   if ((0:Int)<=x1/\x1<(s.length:Int))then
    (let_ (CB s x1)).bind fun y3=>
    if (!y3) then
     some false
    else
     a (wrap .i64 (x1+1))
   else none
  else
   some fin
  ) 0=some b/\b=Ox s by obtain⟨b,h,rfl⟩:=h;exact h
 refine W5 (fun i x1=>x1=(i:Int)/\∀j (h:j<s.length),j<i->Rv ((s[j].toNat:Nat):Int)=true) s.length _ l ⟨rfl,fun j _ hj=>Ln hj (by omega)⟩ ?_;rintro g i x1 o ⟨rfl,h⟩ f;by_cases d:i<s.length
 .have eb:CB s (i:Int)=((s[i].toNat:Nat):Int):=by simp[CB,d]
  refine Ao (An (B1 (hl _) ?_));rw[eb];cases hb:Rv ((s[i].toNat:Nat):Int)
  .refine ifT rfl ⟨false,rfl,?_⟩;symm;unfold Ox;rw[Bh9]
   right
   rw[List.all_eq_false];exact⟨s[i],Bb3 d,by rw[hb];simp⟩
  refine Gx (f d _ ⟨Hi,fun j hj n=>?_⟩);by_cases e:j=i
  .subst e;exact hb
  exact h j hj (by omega)
 refine Ec ⟨_,rfl,?_⟩;unfold Ox;rw[m]
 have:(s.all fun c=>Rv ((c.toNat:Nat):Int))=true:=AR4.2 fun c hc=>by obtain⟨j,hj,rfl⟩:=Bc7 hc;exact h j hj (by omega)
 rw[this,Be9]
def Ad8 {s:Str}(a:s.length<N)(hs:s.length<1000000000):CG N s=some (Ox s):=by unfold CG;exact TR a hs (fun y=>rfl) (by rw[AU3];simp;omega)
def Aq3 {s:Str}(a:s.length<N)(hs:s.length<1000000000):Hb N s=some (Ox s):=by unfold Hb;exact TR a hs (fun y=>rfl) (by rw[AU3];simp;omega)
def AF0 (t:Sl U1)(v:Nat):Prop:=(v=0->(t.g 0).Parent = -1)/\(0<v->0<=(t.g v).Parent/\(t.g v).Parent<v)/\Ox (t.g v).Name=true/\∀u,u<v->(t.g u).Name≠(t.g v).Name
def Bj (t:Sl U1):Prop:=1<=t.n/\t.n<=63/\∀v,v<t.n->AF0 t v
def Yw (t:Sl U1)(e:Int):Prop:=(e=0/\Bj t) \/ (e=16/\¬Bj t)
def Yx {t:Sl U1}{e e' : Int}(h:Yw t e)(h' : Yw t e'):e=e':=by
 rcases h with⟨rfl,h⟩ | ⟨rfl,h⟩<;>rcases h' with⟨rfl,h'⟩ | ⟨rfl,h'⟩
 .rfl
 .exact Ln h h'
 .exact Ln h' h
 rfl
def Ko (t:Sl U1):Prop:=∀v,v<t.n->(t.g v).Name.length<1100000
def Ad9 (x:3000000<=N){t:Sl U1}(ht:Ko t):∃e,DN N t=some e/\Yw t e:=by
 unfold DN;by_cases y:t.n<1
 .exact ifT (fun h=>Ln h (by simp;omega)) (Ao ⟨16,rfl,.inr ⟨rfl,fun h=>by have:=h.1;omega⟩⟩)
 refine ifT (fun _ _=>by omega) ?_;by_cases h1:63<t.n
 .exact Ao ⟨16,rfl,.inr ⟨rfl,fun h=>by have:=h.2.1;omega⟩⟩
 by_cases m:(t.g 0).Parent = -1
 case neg=>exact ifT (by simp[m]) ⟨16,rfl,.inr ⟨rfl,fun h=>m ((h.2.2 0 (by omega)).1 rfl)⟩⟩
 refine ifF (by simp[m];omega) ?_;refine W5 (fun i x1=>x1=(i:Int)/\∀j,j<i->AF0 t j) t.n _ (by omega) ⟨rfl,fun j hj=>Ln hj (by omega)⟩ ?_;rintro f i x1 z ⟨rfl,h⟩ hs;by_cases a:i<t.n
 case neg=>exact Ec ⟨0,rfl,.inl ⟨rfl,by omega,by omega,fun v hv=>h v (by omega)⟩⟩
 refine Ao (ltX ?_);have b:=Aq3 (N:=N) (s:=(t.g i).Name) (by have:=ht i a;omega) (by have:=ht i a;omega);have rest:(0<i->0<=(t.g i).Parent/\(t.g i).Parent<i)->∃r,(if (!Ox (t.g i).Name) then some 16 else
  S3 N (fun (d:Int->Option Int) (x7:Int)=>
   if (decide (x7<(i:Int))) then
    if (((0:Int)<=x7/\x7<(t.n:Int))/\((0:Int)<=(i:Int)/\(i:Int)<(t.n:Int)))then
     if (((t.g x7.toNat).Name==(t.g (i:Int).toNat).Name) != false) then
      some 16
     else
      d (wrap .i64 (x7+1))
    else none
   else
    f (wrap .i64 ((i:Int)+1))
   ) 0)=some r/\Yw t r:=by
  intro hp;cases hb:Ox (t.g i).Name
  .exact ifT rfl ⟨16,rfl,.inr ⟨rfl,fun h=>by have:=(h.2.2 i a).2.2.1;rw[hb]at this;cases this⟩⟩
  refine Gx ?_;refine W5 (fun k x7=>x7=(k:Int)/\∀u,u<k->(t.g u).Name≠(t.g i).Name) i _ (by omega) ⟨rfl,fun u o=>Ln o (by omega)⟩ ?_;rintro q k x7 hk ⟨rfl,h'⟩ w;by_cases l:k<i
  .refine Ao (An ?_);rw[AQ4,AQ4];by_cases e:(t.g k).Name=(t.g i).Name
   .exact ifT (by simp[e]) ⟨16,rfl,.inr ⟨rfl,fun h=>(h.2.2 i a).2.2.2 k l e⟩⟩
   refine ifF (by simp[e]) (w l _ ⟨Hi,fun u o=>?_⟩);by_cases e2:u=k
   .subst e2;exact e
   exact h' u (by omega)
  refine Ec (hs a _ ⟨Hi,fun j hj=>?_⟩);by_cases e:j=i
  .subst e;exact⟨fun e=>by subst e;exact m,hp,hb,fun u o=>h' u (by omega)⟩
  exact h j (by omega)
 by_cases c:0<i
 .refine Ao (An ?_);rw[AQ4];by_cases g1:(t.g i).Parent<0
  .exact ifT (by simpa using g1) (ifT rfl ⟨16,rfl,.inr ⟨rfl,fun h=>by have:=((h.2.2 i a).2.1 c).1;omega⟩⟩)
  refine ifF (by simpa using g1) (An ?_);by_cases g2:(i:Int)<=(t.g i).Parent
  .exact ifT (by simpa using g2) (ifT rfl ⟨16,rfl,.inr ⟨rfl,fun h=>by have:=((h.2.2 i a).2.1 c).2;omega⟩⟩)
  exact ifF (by simpa using g2) (An (B1 b (rest fun _=>⟨by omega,by omega⟩)))
 exact Ec (An (B1 (by rw[AQ4];exact b) (rest fun h=>Ln h c)))
def Kq {ν : Type}{k s:Str}{v : ν}:∀es:List (Str × ν),Dx eqS s (Qv eqS k v es)=if s=k then some v else Dx eqS s es
 |[]=>by simp only[Qv,Dx];by_cases h:s=k<;>simp[eqS,h]
 |(a,x)::es=>by
  simp only[Qv];by_cases h:k=a
  .subst h;rw[Ll (by simp[eqS])];simp only[Dx];by_cases b:s=k<;>simp[eqS,b]
  rw[Lm (by simp[eqS,h])];simp only[Dx];rw[Kq es];by_cases b:s=k
  .subst b;simp[eqS,h]
  simp[b]
def Xb {ν : Type}{k:Str}{v : ν}:∀{es:List (Str × ν)},Dx eqS k es=none->(Qv eqS k v es).length=es.length+1
 |[],_=>rfl
 |(a,x)::es,h=>by
  simp only[Dx]at h;simp only[Qv];by_cases e:eqS k a=true
  .rw[Ll e]at h;cases h
  rw[Lm e]at h;rw[Lm e,AT5,Xb h];rfl
def Xc {ν : Type}{k:Str}{v x : ν}:∀{es:List (Str × ν)},Dx eqS k es=some x->(Qv eqS k v es).length=es.length
 |[],h=>by cases h
 |(a,y)::es,h=>by
  simp only[Dx]at h;simp only[Qv];by_cases e:eqS k a=true
  .rw[Ll e];rfl
  rw[Lm e]at h;rw[Lm e,AT5,Xc h];rfl
def TT (l:3000000<=N){t:Sl U1}(ht:Ko t):∃e,T7 N t=some e/\Yw t e:=by
 unfold T7;by_cases m:t.n=0 \/ 63<t.n
 .exact Ao ⟨16,rfl,.inr ⟨rfl,fun h=>by have g1:=h.1;have g2:=h.2.1;omega⟩⟩
 refine Ec ?_;refine T1 (fun i (x2:List (Str×Bool)) x3=>x3=(i:Int)/\(∀j,j<i->AF0 t j)/\∀s,(Dx eqS s x2=some true/\∃u,u<i/\(t.g u).Name=s) \/ (Dx eqS s x2=none/\∀u,u<i->(t.g u).Name≠s)) t.n _ (by omega) ⟨rfl,fun j hj=>Ln hj (by omega),fun s=>.inr ⟨rfl,fun u c=>Ln c (by omega)⟩⟩ ?_;rintro f i x2 x3 o ⟨rfl,h,hm⟩ hs;by_cases a:i<t.n
 case neg=>exact Ec ⟨0,rfl,.inl ⟨rfl,by omega,by omega,fun v q=>h v (by omega)⟩⟩
 refine Ao (An (ltX ?_));rw[AQ4];have b:=Ad8 (N:=N) (s:=(t.g i).Name) (by have:=ht i a;omega) (by have:=ht i a;omega);have e1:(if 0<wrap .i64 ((i:Int)-1)then (0:Int)else wrap .i64 ((i:Int)-1))=if i=0 then -1 else 0:=by rw[E6 (by omega) (by omega)];split<;>split<;>omega
 rw[e1];by_cases g1:(i:Int)<=(t.g i).Parent
 .refine ifT (by simpa using g1) (ifT rfl ⟨16,rfl,.inr ⟨rfl,fun h=>?_⟩⟩);have hk:=h.2.2 i a;by_cases d:i=0
  .subst d;have:=hk.1 rfl;omega
  have:=(hk.2.1 (by omega)).2;omega
 refine ifF (by simpa using g1) ?_;by_cases g2:(t.g i).Parent<if i=0 then -1 else 0
 .refine ifT (by simpa using g2) (ifT rfl ⟨16,rfl,.inr ⟨rfl,fun h=>?_⟩⟩);have hk:=h.2.2 i a;by_cases d:i=0
  .subst d;have:=hk.1 rfl;simp at g2;omega
  have:=(hk.2.1 (by omega)).1;simp[d]at g2;omega
 refine ifF (by simpa using g2) (B1 b ?_);cases hb:Ox (t.g i).Name
 .exact ifT rfl (ifT rfl ⟨16,rfl,.inr ⟨rfl,fun h=>by have:=(h.2.2 i a).2.2.1;rw[hb]at this;cases this⟩⟩)
 refine Gx ?_;rcases hm (t.g i).Name with⟨e,u,c,hn⟩ | ⟨e,hn⟩
 .rw[e];exact⟨16,rfl,.inr ⟨rfl,fun h=>(h.2.2 i a).2.2.2 u c hn⟩⟩
 rw[e,SH];refine ifF (show ¬false=true by simp) (hs a _ _ ⟨Hi,fun j hj=>?_,fun s=>?_⟩)
 .by_cases e:j=i
  .subst e;refine⟨fun e=>?_,fun hp=>?_,hb,hn⟩
   .subst e;simp at g2;omega
   have:¬j=0:=by omega
   simp[this]at g2;omega
  exact h j (by omega)
 rw[Kq];by_cases e:s=(t.g i).Name
 .exact .inl ⟨by rw[Ll e],i,by omega,e.symm⟩
 rw[Lm e];rcases hm s with⟨g,u,c,hn⟩ | ⟨g,hn⟩
 .exact .inl ⟨g,u,by omega,hn⟩
 refine .inr ⟨g,fun u c=>?_⟩;by_cases e2:u=i
 .subst e2;exact fun h=>e h.symm
 exact hn u (by omega)
def RB (a:3000000<=N){t:Sl U1}(ht:Ko t):∃e,T7 N t=some e/\DN N t=some e/\Yw t e:=by obtain⟨e,h1,b⟩:=TT a ht;obtain⟨e',c,d⟩:=Ad9 a ht;obtain rfl:=Yx b d;exact⟨_,h1,c,b⟩
end Go.AM
namespace Go.AM
open IntKind (wrap)
open Go.Proofs
structure Ag (h:A7):Prop where
 laws:GQ h.Laws
 tree:Ko h.Tree
 on:h.On.n<1100000
 len:∀v,v<h.On.n->(h.On.g v).n<1100000
def T2 (h:A7)(v:Nat):Sl Int:= if hp:0<=(h.Tree.g v).Parent/\(h.Tree.g v).Parent<v then (T2 h (h.Tree.g v).Parent.toNat).app (h.On.g v)else Ra.app (h.On.g v)
termination_by v
decreasing_by omega
def Ct {h:A7}{v:Nat}(a:(h.Tree.g v).Parent<0):T2 h v=Ra.app (h.On.g v):=by rw[T2,dif_neg (by omega)]
def FH {h:A7}{v p:Nat}(a:(h.Tree.g v).Parent=(p:Int))(hp:p<v):T2 h v=(T2 h p).app (h.On.g v):=by rw[T2,dif_pos (by omega),a,AQ4]
def T3 {t:Sl U1}(ht:Bj t){v:Nat}(a:v<t.n):(v=0/\(t.g v).Parent = -1) \/ ∃p:Nat,p<v/\(t.g v).Parent=(p:Int):=by
 have hk:=ht.2.2 v a;by_cases b:v=0
 .subst b;exact .inl ⟨rfl,hk.1 rfl⟩
 obtain⟨g1,g2⟩:=hk.2.1 (by omega);exact .inr ⟨(t.g v).Parent.toNat,by omega,by omega⟩
def VB {h:A7}(a:Ag h)(ht:Bj h.Tree)(hn:h.On.n=h.Tree.n):∀(m v:Nat),v<=m->v<h.Tree.n->(T2 h v).n<=(v+1)*1100000
 |m,v,hm,hv=>by
  have hl:=a.len v (by omega);rcases T3 ht hv with⟨_,e⟩ | ⟨p,hp,e⟩
  .rw[Ct (by omega)];show 0+(h.On.g v).n<=_;omega
  rw[FH e hp]
  match m with
  |0=>omega
  |m+1=>
   have:=VB a ht hn m p (by omega) (by omega)
   show (T2 h p).n+(h.On.g v).n<=_;have b:(p+1)*1100000+1100000<=(v+1)*1100000:=by omega
   omega
def Nz {h:A7}(a:Ag h)(ht:Bj h.Tree)(hn:h.On.n=h.Tree.n):∀(M v:Nat),v+2<=M->v<h.Tree.n->Cp M h (v:Int)=some (T2 h v)
 |0,v,hM,_=>by omega
 |M+1,v,hM,hv=>by
  have b:=ht.2.1;show CL (Cp M) M h (v:Int)=_;unfold CL;rw[Lm (by simp),Hj,AQ4];have hl:=a.len v (by omega);rcases T3 ht hv with⟨c,e⟩ | ⟨p,hp,e⟩
  .rw[e,Ct (by omega)]
   have:Cp M h (-1)=some Ra:=by obtain⟨K,rfl⟩:∃K,M=K+1:=⟨M-1,by omega⟩;show CL (Cp K) K h (-1)=_;unfold CL;rw[Ll (by decide)]
   rw[this,AQ6,Ll ⟨by omega,by show (0+(h.On.g v).n)*8<=_/\0+(h.On.g v).n<=_;omega⟩]
  have hb:=VB a ht hn p p (AQ8 _) (by omega);rw[e,Nz a ht hn M p (by omega) (by omega),AQ6,FH e hp,Ll ⟨by omega,by omega⟩]
def VC (h:A7):Prop:=∃v,v<h.On.n/\64<(T2 h v).n
def AF1 (h:A7)(v:Nat):Prop:=∃k,k<(h.On.g v).n/\((h.On.g v).g k<0 \/ (h.Laws.n:Int)<=(h.On.g v).g k)
def Ae0 (h:A7)(e:Int):Prop:=(VC h/\e=2) \/ (¬VC h/\(∃v,v<h.On.n/\AF1 h v)/\e=3) \/ (¬VC h/\(∀v,v<h.On.n->¬AF1 h v)/\e=0)
def Ae1 {N:Nat}(hN:3000000<=N){h:A7}(hi:Ag h)(ht:Bj h.Tree)(hn:h.On.n=h.Tree.n):∃e,Z6 N h=some e/\Ae0 h e:=by
 have h63:=ht.2.1;unfold Z6;refine An ?_;refine Yi (fun i (x4:Sl Int) (x5:Bool) x6=>x6=(i:Int)/\x4.n=h.On.n/\(∀v,v<i->x4.g v=((T2 h v).n:Int)/\(T2 h v).n<=64)/\(x5=true ↔ ∃v,v<i/\AF1 h v)) h.On.n _ (by omega) ⟨rfl,by show ((h.On.n:Nat):Int).toNat=_;omega,fun v b=>Ln b (by omega),⟨fun g=>(by cases g),fun⟨v,b,_⟩=>Ln b (by omega)⟩⟩ ?_;rintro l i x4 x5 x6 hle ⟨rfl,hx,hp,hb⟩ hs;by_cases m:i<h.On.n
 case neg=>
  refine Ec ?_;have hl:¬VC h:=fun⟨v,b,hl⟩=>by have:=(hp v (by omega)).2;omega
  cases x5
  .exact Gx ⟨0,rfl,.inr (.inr ⟨hl,fun v b g=>(by have:=hb.2 ⟨v,by omega,g⟩;cases this),rfl⟩)⟩
  obtain⟨v,b,g⟩:=hb.1 rfl;exact ifT rfl ⟨3,rfl,.inr (.inl ⟨hl,⟨v,by omega,g⟩,rfl⟩)⟩
 refine Ao (ifT (by rw[AQ4];omega) (An (ltX ?_)));rw[AQ4];have hl:=hi.len i (by omega);have hlb:=VB hi ht hn i i (AQ8 _) (by omega);have rest:∀z:Sl Int,z.n=h.On.n->(∀v,v<i->z.g v=x4.g v)->z.g i=((T2 h i).n:Int)->∃r,(if (((0:Int)<=(i:Int)/\(i:Int)<(z.n:Int))/\i<z.n)then
  if (decide (64<(z.g i))) then
   some 2
  else
   W9 N (fun (d:Bool->Int->Option Int) (c:Bool) (a:Int)=>
    if (decide (a<((h.On.g i).n:Int))) then
     if ((0:Int)<=a/\a<((h.On.g i).n:Int))then
      d ((c||(decide (((h.On.g i).g a.toNat)<0)))||(decide ((h.Laws.n:Int)<=((h.On.g i).g a.toNat)))) (wrap .i64 (a+1))
     else none
    else
     l z c (wrap .i64 ((i:Int)+1))
    ) x5 0
  else none)=some r/\Ae0 h r:=by
  intro z hz t o;refine An ?_;rw[o];by_cases u:64<(T2 h i).n
  .exact Ao ⟨2,rfl,.inl ⟨⟨i,m,u⟩,rfl⟩⟩
  refine Ec ?_;refine T1 (fun k (c:Bool) a=>a=(k:Int)/\(c=true↔(∃v,v<i/\AF1 h v) \/ ∃j,j<k/\j<(h.On.g i).n/\((h.On.g i).g j<0 \/ (h.Laws.n:Int)<=(h.On.g i).g j))) (h.On.g i).n _ (by omega) ⟨rfl,hb.trans ⟨fun g=>.inl g,fun g=>g.resolve_right fun⟨j,hj,_⟩=>Ln hj (by omega)⟩⟩ ?_;rintro w k c a hk ⟨rfl,q⟩ x;by_cases f:k<(h.On.g i).n
  .refine Ao (An (x f _ _ ⟨Hi,?_⟩));rw[AQ4,AS6,AS6,q,Mw,Mw];constructor
   .rintro (((g|⟨j,hj,g⟩)|g)|g)
    .exact .inl g
    .exact .inr ⟨j,by omega,g⟩
    .exact .inr ⟨k,by omega,f,.inl g⟩
    exact .inr ⟨k,by omega,f,.inr g⟩
   rintro (g|⟨j,hj,y,g⟩)
   .exact .inl (.inl (.inl g))
   by_cases e:j=k
   .subst e;rcases g with g|g
    .exact .inl (.inr g)
    exact .inr g
   exact .inl (.inl (.inr ⟨j,by omega,y,g⟩))
  refine Ec (hs m _ _ _ ⟨Hi,hz,fun v b=>?_,q.trans ?_⟩)
  .by_cases e:v=i
   .subst e;exact⟨o,by omega⟩
   rw[t v (by omega)];exact hp v (by omega)
  constructor
  .rintro (⟨v,b,g⟩ | ⟨j,_,hj,g⟩)
   .exact⟨v,by omega,g⟩
   exact⟨i,by omega,j,hj,g⟩
  rintro⟨v,b,g⟩;by_cases e:v=i
  .subst e;obtain⟨j,hj,g⟩:=g;exact .inr ⟨j,by omega,hj,g⟩
  exact .inl ⟨v,by omega,g⟩
 rcases T3 ht (v:=i) (by omega)with⟨_,e⟩ | ⟨p,s,e⟩
 .rw[e];refine H1 (rest _ hx (fun v b=>?_) ?_)
  .show (if v=i then _ else x4.g v)=_;rw[Jd]
  show (if i=i then ((h.On.g i).n:Int)else _)=_;rw[Ll rfl,Ct (by omega)];show _=((0+(h.On.g i).n:Nat):Int);omega
 have a0:=hp p s;rw[e];refine Aq (ifT ?_ ?_)
 .show ((((((0:Int)<=(i:Int)/\(i:Int)<(x4.n:Int))/\i<x4.n)/\(0:Int)<=(p:Int)/\(p:Int)<(x4.n:Int))/\(p:Int).toNat<x4.n)/\(0:Int)<=(i:Int)/\(i:Int)<(x4.n:Int))/\i<x4.n;omega
 rw[AQ4];refine rest _ hx (fun v b=>?_) ?_
 .show (if v=i then _ else if v=i then _ else x4.g v)=_;rw[Jd,Jd]
 show (if i=i then wrap .i64 ((if i=i then ((h.On.g i).n:Int)else _)+(if p=i then _ else x4.g p))else _)=_;rw[Ll rfl,Ll rfl,Jd,a0.1,FH e s,E6 (by omega) (by omega)];show _=(((T2 h p).n+(h.On.g i).n:Nat):Int);omega
end Go.AM
namespace Go.AM
variable {N:Nat}
open Go.Proofs
def AH2 (h:A7)(i:Nat):Prop:=∃u v,u<v/\v<i/\(h.Laws.g u).Name=(h.Laws.g v).Name
open Classical in
noncomputable def hres (N:Nat) (h:A7):Int:= if ¬Bj h.Tree then 16 else if 64<h.Laws.n then 12 else if ∃i,i<h.Laws.n/\¬chkAll N (h.Laws.g i)then 17 else if AH2 h h.Laws.n then 6 else if h.On.n≠h.Tree.n then 2 else if VC h then 2 else if ∃v,v<h.On.n/\AF1 h v then 3 else 0
structure BY (N:Nat) (h:A7):Prop where
 tree:Bj h.Tree
 laws:HJ N h.Laws
 dup:¬AH2 h h.Laws.n
 on:h.On.n=h.Tree.n
 long:¬VC h
 bad:∀v,v<h.On.n->¬AF1 h v
def hres_zero {h:A7}:hres N h=0↔BY N h:=by
 unfold hres;constructor
 .intro g;split at g
  .cases g
  split at g
  .cases g
  split at g
  .cases g
  split at g
  .cases g
  split at g
  .cases g
  split at g
  .cases g
  split at g
  .cases g
  rename_i h1 n c d f j l;exact⟨Classical.not_not.1 h1,⟨by omega,fun i a=>AU0 fun hn=>c ⟨i,a,hn⟩⟩,d,Classical.not_not.1 f,j,fun v b hb=>l ⟨v,b,hb⟩⟩
 intro g;have m:=g.laws.1;rw[Lm (fun k=>k g.tree),Jd,Lm (fun⟨i,a,hn⟩=>hn (g.laws.2 i a)),Lm g.dup,Lm (fun k=>k g.on),Lm g.long,Lm (fun⟨v,b,hb⟩=>g.bad v b hb)]
def Fa {h:A7}(h1:Bj h.Tree)(a:HJ N h.Laws)(b:¬AH2 h h.Laws.n)(c:h.On.n=h.Tree.n){e:Int}(d:Ae0 h e):e=hres N h:=by
 have f:=a.1;unfold hres;rw[Lm (fun k=>k h1),Jd,Lm (fun⟨i,j,hn⟩=>hn (a.2 i j)),Lm b,Lm (fun k=>k c)];rcases d with⟨g,rfl⟩ | ⟨g,g2,rfl⟩ | ⟨g,g2,rfl⟩
 .rw[Ll g]
 .rw[Lm g,Ll g2]
 rw[Lm g,Lm (fun⟨v,l,hb⟩=>g2 v l hb)]
def Kr (z:3000000<=N){h:A7}(o:Ag h):Q1 N h=some (hres N h):=by
 suffices g:∃r,Q1 N h=some r/\r=hres N h by obtain⟨r,g,rfl⟩:=g;exact g
 obtain⟨e,e1,_,he⟩:=RB z o.tree;unfold Q1;refine B1 e1 ?_;rcases he with⟨rfl,ht⟩ | ⟨rfl,ht⟩
 case inr=>exact Da ⟨16,rfl,by unfold hres;rw[Ll ht]⟩
 refine H1 ?_;by_cases c:64<h.Laws.n
 .exact Ao ⟨12,rfl,by unfold hres;rw[Lm (fun k=>k ht),Ll c]⟩
 refine Ec ?_;refine T1 (fun i (x1:List (Str×Int)) x2=>x2=(i:Int)/\(∀j,j<i->chkAll N (h.Laws.g j))/\(∀s,(Dx eqS s x1=none/\∀u,u<i->(h.Laws.g u).Name≠s) \/ (∃v,Dx eqS s x1=some v)/\∃u,u<i/\(h.Laws.g u).Name=s)/\((AH2 h i/\x1.length<i) \/ (¬AH2 h i/\x1.length=i))) h.Laws.n _ (by omega)
  ⟨rfl,fun j hj=>Ln hj (by omega),fun s=>.inl ⟨rfl,fun u q=>Ln q (by omega)⟩,.inr ⟨fun⟨u,v,_,hv,_⟩=>Ln hv (by omega),rfl⟩⟩ ?_
 rintro self i x1 x2 hle ⟨rfl,hc,hm,hl⟩ hs;by_cases d:i<h.Laws.n
 .obtain⟨y,y1,_,hy⟩:=EZ z (o.laws i d);refine Ao (An (B1 (by rw[AQ4];exact y1) ?_));rcases hy with⟨rfl,hy⟩ | ⟨rfl,hy⟩
  case inr=>exact Da ⟨17,rfl,by unfold hres;rw[Lm (fun k=>k ht),Lm c,Ll ⟨i,d,hy⟩]⟩
  refine H1 ?_;rw[AQ4];have t : ∀j,j<i+1->chkAll N (h.Laws.g j):=fun j hj=>by
   by_cases e:j=i
   .subst e;exact hy
   exact hc j (by omega)
  have look:∀(v:Int) (s:Str),(Dx eqS s (Qv eqS (h.Laws.g i).Name v x1)=none/\∀u,u<i+1->(h.Laws.g u).Name≠s) \/ (∃w,Dx eqS s (Qv eqS (h.Laws.g i).Name v x1)=some w)/\∃u,u<i+1/\(h.Laws.g u).Name=s:=by
   intro v s;rw[Kq];by_cases e:s=(h.Laws.g i).Name
   .exact .inr ⟨⟨v,by rw[Ll e]⟩,i,by omega,e.symm⟩
   rw[Lm e];rcases hm s with⟨g,g2⟩ | ⟨g,u,q,g2⟩
   .refine .inl ⟨g,fun u q=>?_⟩;by_cases e2:u=i
    .subst e2;exact fun k=>e k.symm
    exact g2 u (by omega)
   exact .inr ⟨g,u,by omega,g2⟩
  rcases hm (h.Laws.g i).Name with⟨g,g2⟩ | ⟨⟨v,g⟩,u,q,g2⟩
  .rw[g,SH];refine hs d _ _ ⟨Hi,t,look _,?_⟩;rw[Xb g];rcases hl with⟨⟨a,b,f,hb,hn⟩,hl⟩ | ⟨m,hl⟩
   .exact .inl ⟨⟨a,b,f,by omega,hn⟩,by omega⟩
   refine .inr ⟨fun⟨a,b,f,hb,hn⟩=>?_,by omega⟩;by_cases e:b=i
   .subst e;exact g2 a f hn
   exact m ⟨a,b,f,by omega,hn⟩
  rw[g,ZN];refine hs d _ _ ⟨Hi,t,look _,?_⟩;rw[Xc g];refine .inl ⟨⟨u,i,q,by omega,g2⟩,?_⟩;rcases hl with⟨_,hl⟩ | ⟨_,hl⟩<;>omega
 obtain rfl:i=h.Laws.n:=by omega
 have hok:HJ N h.Laws:=⟨by omega,hc⟩;have x:¬ ∃i,i<h.Laws.n/\¬chkAll N (h.Laws.g i):=fun⟨i,o,hn⟩=>hn (hc i o);refine Gx ?_;rw[UG];rcases hl with⟨m,hl⟩ | ⟨m,hl⟩
 .exact Ao ⟨6,rfl,by unfold hres;rw[Lm (fun k=>k ht),Lm c,Lm x,Ll m]⟩
 refine Ec ?_;by_cases l:h.On.n=h.Tree.n
 case neg=>exact Ao ⟨2,rfl,by unfold hres;rw[Lm (fun k=>k ht),Lm c,Lm x,Lm m,Ll l]⟩
 refine ifF (by simp[l]) ?_;obtain⟨e,e1,he⟩:=Ae1 z o ht l;exact B1 e1 ⟨e,rfl,Fa ht hok m l he⟩
def Ae2 (hN:3000000<=N){h:A7}(q:Ag h):FD N h=some (hres N h):=by
 suffices g:∃r,FD N h=some r/\r=hres N h by obtain⟨r,g,rfl⟩:=g;exact g
 obtain⟨e,_,e1,he⟩:=RB hN q.tree;unfold FD;refine B1 e1 ?_;rcases he with⟨rfl,ht⟩ | ⟨rfl,ht⟩
 case inr=>exact Da ⟨16,rfl,by unfold hres;rw[Ll ht]⟩
 refine H1 ?_;by_cases f:64<h.Laws.n
 .exact Ao ⟨12,rfl,by unfold hres;rw[Lm (fun k=>k ht),Ll f]⟩
 refine Ec ?_;refine W5 (fun i x1=>x1=(i:Int)/\∀j,j<i->chkAll N (h.Laws.g j)) h.Laws.n _ (by omega) ⟨rfl,fun j hj=>Ln hj (by omega)⟩ ?_;rintro self i x1 hle ⟨rfl,hc⟩ hs;by_cases a:i<h.Laws.n
 .obtain⟨y,_,y1,hy⟩:=EZ hN (q.laws i a);refine Ao (An (B1 (by rw[AQ4];exact y1) ?_));rcases hy with⟨rfl,hy⟩ | ⟨rfl,hy⟩
  case inr=>exact Da ⟨17,rfl,by unfold hres;rw[Lm (fun k=>k ht),Lm f,Ll ⟨i,a,hy⟩]⟩
  refine H1 (hs a _ ⟨Hi,fun j hj=>?_⟩);by_cases e:j=i
  .subst e;exact hy
  exact hc j (by omega)
 obtain rfl:i=h.Laws.n:=by omega
 have l:HJ N h.Laws:=⟨by omega,hc⟩;have t:¬ ∃i,i<h.Laws.n/\¬chkAll N (h.Laws.g i):=fun⟨i,q,hn⟩=>hn (hc i q);refine Gx ?_;refine W5 (fun i x1=>x1=(i:Int)/\¬AH2 h i) h.Laws.n _ (by omega) ⟨rfl,fun⟨u,v,_,d,_⟩=>Ln d (by omega)⟩ ?_;rintro a2 i x1 hle2 ⟨rfl,s⟩ a3;by_cases a:i<h.Laws.n
 .refine Ao ?_;refine W5 (fun k x5=>x5=(k:Int)/\∀u,u<k->(h.Laws.g u).Name≠(h.Laws.g i).Name) i _ (by omega) ⟨rfl,fun u hu=>Ln hu (by omega)⟩ ?_;rintro a4 k x5 hk ⟨rfl,w⟩ a5;by_cases x:k<i
  .refine Ao (An ?_);rw[AQ4,AQ4];by_cases e:(h.Laws.g k).Name=(h.Laws.g i).Name
   .exact ifT (by simp[e]) ⟨6,rfl,by unfold hres;rw[Lm (fun k=>k ht),Lm f,Lm t,Ll ⟨k,i,x,a,e⟩]⟩
   refine ifF (by simp;exact fun g=>e g.symm) (a5 x _ ⟨Hi,fun u hu=>?_⟩);by_cases e2:u=k
   .subst e2;exact e
   exact w u (by omega)
  refine Ec (a3 a _ ⟨Hi,fun⟨u,v,a6,d,hn⟩=>?_⟩);by_cases e:v=i
  .subst e;exact w u (by omega) hn
  exact s ⟨u,v,a6,by omega,hn⟩
 obtain rfl:i=h.Laws.n:=by omega
 refine Gx ?_;by_cases b:h.On.n=h.Tree.n
 case neg=>exact Ao ⟨2,rfl,by unfold hres;rw[Lm (fun k=>k ht),Lm f,Lm t,Lm s,Ll b]⟩
 refine ifF (by simp[b]) ?_;have h63:=ht.2.1;refine W5 (fun i x1=>x1=(i:Int)/\∀v,v<i->¬ 64<(T2 h v).n) h.On.n _ (by omega) ⟨rfl,fun v d=>Ln d (by omega)⟩ ?_;rintro a7 i x1 hle3 ⟨rfl,z⟩ a8;by_cases a:i<h.On.n
 .refine Ao (B1 (Nz q ht b N i (by omega) (by omega)) ?_);by_cases hg:64<(T2 h i).n
  .exact Ao ⟨2,rfl,Fa ht l s b (.inl ⟨⟨i,a,hg⟩,rfl⟩)⟩
  refine Ec (a8 a _ ⟨Hi,fun v d=>?_⟩);by_cases e:v=i
  .subst e;exact hg
  exact z v (by omega)
 refine Ec ?_;have m:¬VC h:=fun⟨v,d,g⟩=>z v (by omega) g;refine W5 (fun i x1=>x1=(i:Int)/\∀v,v<i->¬AF1 h v) h.On.n _ (by omega) ⟨rfl,fun v d=>Ln d (by omega)⟩ ?_;rintro a9 i x1 hle4 ⟨rfl,a0⟩ b0;by_cases c:i<h.On.n
 .have hl:=q.len i c;refine Ao ?_;refine W5 (fun k x1=>x1=(k:Int)/\∀j,j<k->¬((h.On.g i).g j<0 \/ (h.Laws.n:Int)<=(h.On.g i).g j)) (h.On.g i).n _ (by omega) ⟨rfl,fun j hj=>Ln hj (by omega)⟩ ?_;rintro b1 k x1 hk ⟨rfl,a1⟩ b2;refine An ?_;rw[AQ4,AQ4];by_cases o:k<(h.On.g i).n
  .refine Ao (An ?_);by_cases g1:(h.On.g i).g k<0
   .exact ifT (by simpa using g1) ⟨3,rfl,Fa ht l s b (.inr (.inl ⟨m,⟨i,c,k,o,.inl g1⟩,rfl⟩))⟩
   refine ifF (by simpa using g1) (An ?_);by_cases g2:(h.Laws.n:Int)<=(h.On.g i).g k
   .exact ifT (by simpa using g2) ⟨3,rfl,Fa ht l s b (.inr (.inl ⟨m,⟨i,c,k,o,.inr g2⟩,rfl⟩))⟩
   refine ifF (by simpa using g2) (b2 o _ ⟨Hi,fun j hj=>?_⟩);by_cases e:j=k
   .subst e;exact fun g=>g.elim g1 g2
   exact a1 j (by omega)
  refine Ec (b0 c _ ⟨Hi,fun v d=>?_⟩);by_cases e:v=i
  .subst e;exact fun⟨j,hj,g⟩=>a1 j (by omega) g
  exact a0 v (by omega)
 exact Ec ⟨0,rfl,Fa ht l s b (.inr (.inr ⟨m,fun v d=>a0 v (by omega),rfl⟩))⟩
end Go.AM
