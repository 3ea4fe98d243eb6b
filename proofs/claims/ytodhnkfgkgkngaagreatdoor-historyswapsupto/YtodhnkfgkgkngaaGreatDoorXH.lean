/- Part 8. -/
import Derived.Test.YtodhnkfgkgkngaaGreatDoorXG
import Derived.Test.YtodhnkfgkgkngaaGreatDoorXF
set_option linter.defProp false
set_option linter.unusedSimpArgs false
set_option linter.unusedVariables false
set_option linter.unusedSectionVars false
namespace Go.AM
variable {N:Nat}
def Jv:=@decide_eq_true_eq
def Ji{c:Prop}{i:Decidable c}{α:Sort _}{a b:α}(h:¬c:=by omega):(if c then a else b)=b:=Jm h
def J8{c:Prop}{i:Decidable c}{α:Sort _}{a b:α}(h:c:=by omega):(if c then a else b)=a:=Jl h
open Go.Proofs
abbrev sOf (x y:BitVec 32):Nd:=⟨(x.toNat:Int),(y.toNat:Int)⟩
def okS (s:Nd):Prop:=∃p m:BitVec 32,s=sOf p m
def eq0 (x:BitVec 32):((x.toNat:Int)==0)=decide (x=0#32):=by
 rw[Bool.eq_iff_iff];simp only[beq_iff_eq,Jv];constructor
 .intro h;apply BitVec.eq_of_toNat_eq;show x.toNat=0;omega
 rintro rfl;rfl
def z32 (x:BitVec 32):x=0#32 ↔ ∀i,i<32->x.getLsbD i=false:=by
 constructor
 .rintro rfl i a;simp
 intro h;apply BitVec.eq_of_getLsbD_eq;intro i a;rw[h i a];simp
def Ah1 (x:BitVec 32)(i:Nat):(I8 .and .u32 (shI .shr .u32 (x.toNat:Int) (i:Int)) 1==1)=x.getLsbD i:=by
 rw[YD,show (1:Int)=((1#32).toNat:Int) from rfl,IW];have h:(x >>> i &&& 1#32)=(BitVec.ofBool (x.getLsbD i)).setWidth 32:=by
  apply BitVec.eq_of_getLsbD_eq;intro j b;simp only[BitVec.getLsbD_and,BitVec.getLsbD_ushiftRight,BitVec.getLsbD_setWidth,BitVec.getLsbD_ofBool];by_cases a:j=0
  .subst a;simp
  have:(1#32).getLsbD j=false:=by rw[BitVec.getLsbD_one];simp[a]
  simp[this,a]
 rw[h];cases x.getLsbD i<;>rfl
def JZ (x:BitVec 32):x.toNat<16777216 ↔ ∀i,24<=i->i<32->x.getLsbD i=false:=by
 constructor
 .intro h i a b;exact Nat.testBit_lt_two_pow (Nat.lt_of_lt_of_le h (Nat.pow_le_pow_right (n:=2) (i:=24) (by omega) a))
 intro h;refine Nat.lt_pow_two_of_testBit (n:=24) _ fun i a=>?_;by_cases c:i<32
 .exact h i a c
 exact Nat.testBit_lt_two_pow (Nat.lt_of_lt_of_le x.isLt (Nat.pow_le_pow_right (by omega) (by omega)))
def vB (p m:BitVec 32):Bool:=decide (∀i:Fin 32,¬(p.getLsbD i=true/\m.getLsbD i=true)/\(24<=i.1->p.getLsbD i=false/\m.getLsbD i=false))
def Sq (p m:BitVec 32):vB p m=true ↔ ∀i,i<32->¬(p.getLsbD i=true/\m.getLsbD i=true)/\(24<=i->p.getLsbD i=false/\m.getLsbD i=false):=by rw[vB,Jv];exact⟨fun h i a=>h ⟨i,a⟩,fun h i=>h i.1 i.2⟩
def Sr (p m:BitVec 32):p &&& m=0#32 ↔ ∀i,i<32->¬(p.getLsbD i=true/\m.getLsbD i=true):=by rw[z32];refine forall_congr' fun i=>forall_congr' fun a=>?_;rw[BitVec.getLsbD_and,Bool.and_eq_false_iff];cases p.getLsbD i<;>cases m.getLsbD i<;>simp
def Ah2 (p m:BitVec 32):vB p m=true↔p &&& m=0#32/\(p ||| m).toNat<16777216:=by
 rw[Sq,Sr,JZ];constructor
 .intro h;refine⟨fun i a=>(h i a).1,fun i h1 b=>?_⟩
  have:=(h i b).2 h1
  rw[BitVec.getLsbD_or,this.1,this.2];rfl
 rintro⟨h1,b⟩ i a;refine⟨h1 i a,fun c=>?_⟩
 have:=b i c a
 rw[BitVec.getLsbD_or,Bool.or_eq_false_iff]at this;exact this
def Ah3 (p m:BitVec 32):vB p m=true↔p &&& m=0#32/\p.toNat<16777216/\m.toNat<16777216:=by rw[Sq,Sr,JZ,JZ];exact⟨fun h=>⟨fun i a=>(h i a).1,fun i h1 b=>((h i b).2 h1).1,fun i h1 b=>((h i b).2 h1).2⟩,fun⟨h1,b,d⟩ i a=>⟨h1 i a,fun c=>⟨b i c a,d i c a⟩⟩⟩
def Ka (p m:BitVec 32):F3 N (sOf p m)=some (vB p m):=by unfold F3;rw[IW,Vs,eq0];congr 1;rw[Bool.eq_iff_iff,Ah2];simp only[Bool.and_eq_true,Jv];exact⟨fun h=>⟨h.1,by have:=h.2;omega⟩,fun h=>⟨h.1,by have:=h.2;omega⟩⟩
def shr24 (x:BitVec 32):(shI .shr .u32 (x.toNat:Int) 24==0)=decide (x.toNat<16777216):=by
 rw[show (24:Int)=((24:Nat):Int) from rfl,YD,Bool.eq_iff_iff];simp only[beq_iff_eq,Jv,BitVec.toNat_ushiftRight,Nat.shiftRight_eq_div_pow]
 have:=Nat.div_eq_zero_iff (a:=x.toNat) (b:=2 ^ 24)
 omega
def VQ (p m:BitVec 32):AD N (sOf p m)=some (vB p m):=by unfold AD;rw[IW,Vs,eq0,shr24];congr 1;rw[Bool.eq_iff_iff,Ah2];simp only[Bool.and_eq_true,Jv]
def VR (p m:BitVec 32):K7 N (sOf p m)=some (vB p m):=VQ (N:=N) p m
def Uc (p m:BitVec 32):R7 N (sOf p m)=some (vB p m):=by unfold R7;rw[IW,eq0];congr 1;rw[Bool.eq_iff_iff,Ah3];simp only[Bool.and_eq_true,Jv];exact⟨fun h=>⟨h.1.1,by have:=h.1.2;omega,by have:=h.2;omega⟩,fun h=>⟨⟨h.1,by have:=h.2.1;omega⟩,by have:=h.2.2;omega⟩⟩
def Mc (p m:BitVec 32)(n:1000<=N):R6 N (sOf p m)=some (vB p m):=by
 suffices h:∃r,R6 N (sOf p m)=some r/\r=vB p m by obtain⟨r,h,rfl⟩:=h;exact h
 unfold R6;refine Aq (fun i x1=>x1=(i:Int)/\∀j,j<i->¬(p.getLsbD j=true/\m.getLsbD j=true)/\(24<=j->p.getLsbD j=false/\m.getLsbD j=false)) 32 _ (by omega) ⟨rfl,fun j d=>Jo d (by omega)⟩ ?_;rintro g i x1 o ⟨rfl,h1⟩ hs;by_cases hl:i<32
 .refine Bz (Bc ?_);simp only[Ah1];have e24:decide ((24:Int)<=(i:Int))=decide (24<=i):=decide_eq_decide.2 (by omega);rw[e24];by_cases hb:¬(p.getLsbD i=true/\m.getLsbD i=true)/\(24<=i->p.getLsbD i=false/\m.getLsbD i=false)
  .refine ifF ?_ (hs hl _ ⟨Ia,fun j d=>?_⟩)
   .intro h;obtain⟨l,f⟩:=hb;revert h l f;by_cases c:24<=i
    .intro h l f;obtain⟨a,b⟩:=f c;simp[a,b]at h
    cases p.getLsbD i<;>cases m.getLsbD i<;>simp[c]
   by_cases e:j=i
   .subst e;exact hb
   exact h1 j (by omega)
  refine ifT ?_ ⟨false,rfl,?_⟩
  .revert hb;by_cases c:24<=i
   .cases p.getLsbD i<;>cases m.getLsbD i<;>simp[c]
   cases p.getLsbD i<;>cases m.getLsbD i<;>simp[c]
  symm;rw[<- Bool.not_eq_true,Sq];exact fun h=>hb (h i hl)
 refine Em ⟨true,rfl,?_⟩;symm;rw[Sq];exact fun j d=>h1 j (by omega)
def gB (p m:BitVec 32)(f:Nat):Int:=if p.getLsbD f then 1 else if m.getLsbD f then -1 else 0
end Go.AM
namespace Go.AM
open Go.Proofs
def vS (s:Nd):Prop:=∃p m:BitVec 32,s=sOf p m/\vB p m=true
def FL (p:Pat):Prop:= (0<=p.Kind/\p.Kind<=6)/\(p.Kind≠1->(p.Is.Plus=0/\p.Is.Minus=0)/\p.Not=false)/\(p.Kind≠3->p.Kind≠4->p.Kind≠5->p.L.n=0)/\(p.Kind≠5->p.Min=0/\p.Max=0) /\ (p.Kind=5->p.L.n=1/\0<=p.Min/\p.Min<=32/\(p.Max = -1 \/ (p.Min<=p.Max/\p.Max<=32)))/\vS p.Is
def XX {s:Nd}{p m:BitVec 32}(h:s=sOf p m):vS s↔vB p m=true:=by
 constructor
 .rintro⟨q,r,e,a⟩;rw[h]at e;have e1:(p.toNat:Int)=q.toNat:=congrArg Nd.Plus e;have e2:(m.toNat:Int)=r.toNat:=congrArg Nd.Minus e;rw[BitVec.eq_of_toNat_eq (show p.toNat=q.toNat by omega),BitVec.eq_of_toNat_eq (show m.toNat=r.toNat by omega)];exact a
 exact fun a=>⟨p,m,h,a⟩
def okPS:Pat->Prop
 |.nil=>True
 |.mk _ is _ _ _ n g=>okS is/\∀i,i<n->okPS (g i)
def okPS.is {p:Pat}(h:okPS p):okS p.Is:=by
 cases p with
 |nil=>exact⟨0#32,0#32,rfl⟩
 |mk _ is _ _ _ n g=>exact h.1
def okPS.L {p:Pat}(h:okPS p){i:Nat}(a:i<p.L.n):okPS (p.L.g i):=by
 cases p with
 |nil=>exact Jo a (by show ¬i<0;omega)
 |mk _ is _ _ _ n g=>exact h.2 i a
def chk:Nat->List Pat->Prop
 |0,l=>l=[]
 |_+1,[]=>True
 |k+1,p::l=>FL p/\chk k (p.L.toList++l)
def VT:∀k,chk k []
 |0=>rfl
 |_+1=>trivial
def NB:∀(k:Nat) (l:List Pat),chk k l->l.length<=k
 |0,l,h=>by rw[show l=[] from h];exact Nat.le_refl _
 |k+1,[],_=>Nat.zero_le _
 |k+1,p::l,⟨_,h⟩=>by
  have:=NB k _ h
  rw[List.length_append]at this;simp only[List.length_cons];omega
def Ss:∀(d:Nat) (p:Pat),okP d p->okP (d+1) p
 |0,_,h=>h.elim
 |d+1,p,⟨h1,h2,h3⟩=>⟨h1,h2,fun i a=>Ss d _ (h3 i a)⟩
def Ud {α : Type}{s:Sl α}{i:Nat}(h:i<s.n):s.g i∈s.toList:=List.mem_map.2 ⟨i,List.mem_range.2 h,rfl⟩
def CS {α : Type}(s:Sl α):s.toList.length=s.n:=by simp[Sl.toList]
def VU:∀(k:Nat) (l:List Pat),k<=40->chk k l->∀p∈l,okP k p
 |0,l,_,h,p,hp=>by rw[show l=[] from h]at hp;cases hp
 |k+1,[],_,_,p,hp=>by cases hp
 |k+1,q::l,hk,⟨hn,h⟩,p,hp=>by
  have ih:=VU k _ (by omega) h;rcases List.mem_cons.1 hp with rfl|hp
  .have hl:=NB k _ h;rw[List.length_append,CS]at hl;exact⟨by omega,fun a=>hn.2.2.2.2.1 a,fun i b=>ih _ (List.mem_append_left _ (Ud b))⟩
  exact Ss k p (ih p (List.mem_append_right _ hp))
def XY {N:Nat}{p:Pat}(hp:okS p.Is):∃e,CN N p=some e/\(e=0↔FL p):=by
 obtain⟨a,b,f⟩:=hp;have i:=XX f;unfold CN FL;by_cases h1:0<=p.Kind/\p.Kind<=6
 case neg=>exact Bz ⟨2,rfl,by simp;omega⟩
 refine Em ?_;have e0:((p.Is.Plus==0)&&(p.Is.Minus==0))=decide (p.Is.Plus=0/\p.Is.Minus=0):=by rw[Bool.eq_iff_iff];simp
 rw[e0];by_cases c:p.Kind≠1->(p.Is.Plus=0/\p.Is.Minus=0)/\p.Not=false
 case neg=>
  refine ifT ?_ ⟨2,rfl,by simp[c]⟩;simp only[Bool.and_eq_true,Bool.or_eq_true,bne_iff_ne,ne_eq,Bool.not_eq_true,decide_eq_false_iff_not];rw[Classical.not_imp]at c;refine⟨c.1,?_⟩;by_cases h:p.Is.Plus=0/\p.Is.Minus=0
  .right
   cases hn:p.Not
   .exact Jo ⟨h,hn⟩ c.2
   rfl
  exact .inl h
 refine ifF ?_ (ltX ?_)
 .simp only[Bool.and_eq_true,Bool.or_eq_true,bne_iff_ne,ne_eq,Bool.not_eq_true,decide_eq_false_iff_not];rintro⟨g1,g2⟩;obtain⟨g3,g4⟩:=c g1;rcases g2 with g2|g2
  .exact g2 g3
  rw[g4]at g2;cases g2
 have rest:(p.Kind≠3->p.Kind≠4->p.Kind≠5->p.L.n=0)->∃e,(if ((p.Kind != 5)&&((p.Min != 0)||(p.Max != 0))) then some (2:Int)else
  lt (fun (z2:Bool)=>if z2 then some 2 else (R7 N p.Is).bind fun y1=>if (!y1) then some 14 else some 0) fun k2=>
   if (p.Kind==5) then if (((p.L.n:Nat):Int) != 1) then k2 true else if (decide (p.Min<0)) then k2 true else if (decide (32<p.Min)) then k2 true else
    if (p.Max != (-1)) then if (decide (p.Max<p.Min)) then k2 true else k2 (decide (32<p.Max))else k2 false else k2 false)=some e /\
  (e=0↔(0<=p.Kind/\p.Kind<=6)/\(p.Kind≠1->(p.Is.Plus=0/\p.Is.Minus=0)/\p.Not=false)/\(p.Kind≠3->p.Kind≠4->p.Kind≠5->p.L.n=0)/\(p.Kind≠5->p.Min=0/\p.Max=0) /\
   (p.Kind=5->p.L.n=1/\0<=p.Min/\p.Min<=32/\(p.Max = -1 \/ (p.Min<=p.Max/\p.Max<=32)))/\vS p.Is):=by
  intro j;by_cases d:p.Kind≠5->p.Min=0/\p.Max=0
  case neg=>refine ifT ?_ ⟨2,rfl,by simp[d]⟩;rw[Classical.not_imp]at d;simp only[Bool.and_eq_true,Bool.or_eq_true,bne_iff_ne,ne_eq];omega
  refine ifF ?_ (ltX ?_)
  .simp only[Bool.and_eq_true,Bool.or_eq_true,bne_iff_ne,ne_eq];rintro⟨g1,g2⟩
   have:=d g1
   omega
  have last:(p.Kind=5->p.L.n=1/\0<=p.Min/\p.Min<=32/\(p.Max = -1 \/ (p.Min<=p.Max/\p.Max<=32)))->∃e,(if false then some (2:Int)else (R7 N p.Is).bind fun y1=>if (!y1) then some 14 else some 0)=some e /\
   (e=0↔(0<=p.Kind/\p.Kind<=6)/\(p.Kind≠1->(p.Is.Plus=0/\p.Is.Minus=0)/\p.Not=false)/\(p.Kind≠3->p.Kind≠4->p.Kind≠5->p.L.n=0)/\(p.Kind≠5->p.Min=0/\p.Max=0) /\
    (p.Kind=5->p.L.n=1/\0<=p.Min/\p.Min<=32/\(p.Max = -1 \/ (p.Min<=p.Max/\p.Max<=32)))/\vS p.Is):=by
   intro g;refine Hg ?_;rw[i,f,Uc];refine H0 rfl ?_;cases l:vB a b
   .exact ifT rfl ⟨14,rfl,by simp⟩
   exact Hg ⟨0,rfl,by rw[<- f];exact⟨fun _=>⟨h1,c,j,d,g,rfl⟩,fun _=>rfl⟩⟩
  have bad:¬(p.Kind=5->p.L.n=1/\0<=p.Min/\p.Min<=32/\(p.Max = -1 \/ (p.Min<=p.Max/\p.Max<=32)))->∃e,(if true then some (2:Int)else (R7 N p.Is).bind fun y1=>if (!y1) then some 14 else some 0)=some e /\
   (e=0↔(0<=p.Kind/\p.Kind<=6)/\(p.Kind≠1->(p.Is.Plus=0/\p.Is.Minus=0)/\p.Not=false)/\(p.Kind≠3->p.Kind≠4->p.Kind≠5->p.L.n=0)/\(p.Kind≠5->p.Min=0/\p.Max=0) /\
    (p.Kind=5->p.L.n=1/\0<=p.Min/\p.Min<=32/\(p.Max = -1 \/ (p.Min<=p.Max/\p.Max<=32)))/\vS p.Is):=fun g=>ifT rfl ⟨2,rfl,⟨fun h=>Jo h (by decide),fun h=>Jo h.2.2.2.2.1 g⟩⟩
  by_cases k5:p.Kind=5
  .refine ifT (by simp[k5]) ?_;by_cases g1:p.L.n=1
   case neg=>exact Bz (bad fun h=>g1 (h k5).1)
   refine Em ?_;by_cases g2:p.Min<0
   .exact ifT (by simpa using g2) (bad fun h=>by have:=h k5;omega)
   refine ifF (by simpa using g2) ?_;by_cases g3:32<p.Min
   .exact ifT (by simpa using g3) (bad fun h=>by have:=h k5;omega)
   refine ifF (by simpa using g3) ?_;by_cases g4:p.Max = -1
   .exact ifF (by simp[g4]) (last fun _=>⟨g1,by omega,by omega,.inl g4⟩)
   refine ifT (by simp[g4]) ?_;by_cases g5:p.Max<p.Min
   .exact ifT (by simpa using g5) (bad fun h=>by have:=h k5;omega)
   refine ifF (by simpa using g5) ?_;by_cases g6:32<p.Max
   .rw[decide_eq_true g6];exact bad fun h=>by have:=h k5;omega
   rw[decide_eq_false g6];exact last fun _=>⟨g1,by omega,by omega,.inr ⟨by omega,by omega⟩⟩
  exact ifF (by simp[k5]) (last fun h=>Jo h k5)
 by_cases k3:p.Kind=3
 .exact ifF (by simp[k3]) (Hg (rest fun h=>Jo k3 h))
 refine ifT (by simp[k3]) ?_;by_cases k4:p.Kind=4
 .exact ifF (by simp[k4]) (Hg (rest fun _ h=>Jo k4 h))
 refine ifT (by simp[k4]) ?_;by_cases k5:p.Kind=5
 .exact ifF (by simp[k5]) (Hg (rest fun _ _ h=>Jo k5 h))
 refine ifT (by simp[k5]) ?_;by_cases hn:p.L.n=0
 .exact Em (rest fun _ _ _=>hn)
 exact Bz ⟨2,rfl,⟨fun h=>Jo h (by decide),fun h=>Jo (h.2.2.1 k3 k4 k5) hn⟩⟩
def FM {α : Type}(s:Sl α){i:Nat}(h:i<s.n):s.toList.drop i=s.g i::s.toList.drop (i+1):=by
 have hl:i<s.toList.length:=by rw[CS];exact h
 rw[List.drop_eq_getElem_cons hl];simp[Sl.toList]
def EA {α : Type}(s:Sl α):s.toList.drop s.n=[]:=List.drop_eq_nil_of_le (by rw[CS];exact Nat.le_refl _)
def VV {N:Nat}(o:1000<=N):∀(d:Nat),d<=40->∀(p:Pat),okPS p->∀M,N+d+1<=M->∃r,Bn M p ((40-d:Nat):Int)=some r /\
 ∃k:Nat,r.1=(k:Int)/\40-d<=k/\k<=40/\(r.2=0->40-d<k/\∀l,chk d (p::l)↔chk (40-k) l)/\(r.2≠0->∀l,¬chk d (p::l))
 |d,hd,p,hp,0,hM=>by omega
 |0,hd,p,hp,M+1,hM=>by show ∃r,S0 (Bn M) M p _=some r/\_;unfold S0;exact Ch ⟨_,rfl,40,rfl,by omega,by omega,fun h=>Jo h (by decide),fun _ l h=>by cases h⟩
 |d+1,hd,p,hp,M+1,hM=>by
  show ∃r,S0 (Bn M) M p _=some r/\_;unfold S0;refine Em ?_;obtain⟨e,q,hn⟩:=XY (N:=M) hp.is;refine H0 q ?_;by_cases c:e=0
  case neg=>exact ifT (by simp[c]) ⟨_,rfl,40-(d+1),rfl,Nat.le_refl _,by omega,fun h=>Jo h c,fun _ l h=>c (hn.2 h.1)⟩
  refine ifF (by simp[c]) ?_;have a:=hn.1 c;rw[Ia];refine Ez (fun i x1 x2=>x2=(i:Int)/\∃k:Nat,x1=(k:Int)/\40-(d+1)+1+i<=k/\k<=40/\i<=p.L.n/\∀l,chk (d+1) (p::l)↔chk (40-k) (p.L.toList.drop i++l)) 41 _ (by omega)
   ⟨rfl,40-(d+1)+1,rfl,by omega,by omega,by omega,fun l=>by rw[show 40-(40-(d+1)+1)=d by omega];exact⟨fun h=>h.2,fun h=>⟨a,h⟩⟩⟩ ?_
  rintro j i x1 x2 t ⟨rfl,k,rfl,h1,s,u,f⟩ hs;by_cases hl:i<p.L.n
  .refine Bz (Bc ?_);obtain⟨r,m,k',r1,r2,r3,r4,r5⟩:=VV o (40-k) (by omega) (p.L.g i) (hp.L hl) M (by omega);rw[show ((40-(40-k):Nat):Int)=(k:Int) by omega]at m;refine H0 (by rw[Int.toNat_natCast];exact m) ?_;by_cases b:r.2=0
   .refine ifF (by simp[b]) (hs (by omega) _ _ ⟨Ia,k',r1,by have:=(r4 b).1;omega,r3,by omega,fun l=>?_⟩);rw[f,FM _ hl,List.cons_append];exact (r4 b).2 _
   refine ifT (by simp[b]) ⟨_,rfl,k',r1,by omega,r3,fun h=>Jo h b,fun _ l hc=>?_⟩;rw[f,FM _ hl,List.cons_append]at hc;exact r5 b _ hc
  obtain rfl:i=p.L.n:=by omega
  refine Hg ⟨_,rfl,k,rfl,by omega,s,fun _=>⟨by omega,fun l=>?_⟩,fun h=>Jo rfl h⟩;rw[f,EA];rfl
def Pu {N:Nat}(f:2000<=N){p:Pat}(hp:okPS p):∃e,Ai N p=some e/\(e=0↔chk 40 [p]):=by
 obtain⟨r,b,k,h1,g,i,c,d⟩:=VV (N:=1500) (by omega) 40 (Nat.le_refl _) p hp N (by omega);unfold Ai;refine H0 b ⟨_,rfl,fun h=>?_,fun h=>?_⟩
 .exact ((c h).2 []).2 (VT _)
 by_cases a:r.2=0
 .exact a
 exact Jo h (d a [])
end Go.AM
namespace Go.AM
open Go.Proofs
def Ah4 {T A R:Type}{body:(A->Option R)->T->A->Option R}{k:A->Option R}{I4:R->Prop}(J:List T->A->Prop)(c:∀a,J [] a->∃r,k a=some r/\I4 r)
 (b:∀t L a self,J (t::L) a->(∀a',J L a' -> ∃r,self a' = some r/\I4 r)->∃r,body self t a=some r/\I4 r):∀(L:List T) (a:A),J L a->∃r,AB L body k a=some r/\I4 r
 |[],a,h=>c a h
 |t::L,a,h=>b t L a _ h fun a' h'=>Ah4 J c b L a' h'
end Go.AM
namespace Go.AM
open Go.Proofs
end Go.AM
namespace Go.AM
open Go.Proofs
end Go.AM
namespace Go.AM
variable {N:Nat}
open IntKind (wrap)
open Go.Proofs
def Ue {p:Pat}(hp:okS p.Is):∃e,W3 N p=some e/\(e=0↔FL p):=by
 obtain⟨a,b,i⟩:=hp;have m:=XX i;have V:K7 N p.Is=some (vB a b):=by rw[i];exact VR a b
 have e0:((p.Is.Plus==0)&&(p.Is.Minus==0))=decide (p.Is.Plus=0/\p.Is.Minus=0):=by rw[Bool.eq_iff_iff];simp
 have fin:(FL p↔vS p.Is)->∃e,((K7 N p.Is).bind fun y1=>if (!y1) then some (14:Int)else some 0)=some e/\(e=0↔FL p):=by
  intro c;rw[V];refine H0 rfl ?_;rw[c,m];cases vB a b
  .exact ifT rfl ⟨14,rfl,by simp⟩
  exact Hg ⟨0,rfl,by simp⟩
 have bad:∀{x:Int},x≠0->¬FL p->∃e,some x=some e/\(e=0↔FL p):=fun hx h=>⟨_,rfl,fun d=>Jo d hx,fun d=>Jo d h⟩;unfold W3;by_cases hk:p.Kind=0 \/ p.Kind=2 \/ p.Kind=6
 .refine ifT (by rcases hk with h|h|h<;>simp[h]) (ltX ?_);rw[e0];by_cases g1:p.Is.Plus=0/\p.Is.Minus=0
  case neg=>exact ifT (by simp[g1]) (ifT rfl (bad (by decide) fun h=>g1 (h.2.1 (by omega)).1))
  refine ifF (by simp[g1]) ?_;by_cases g2:p.Not=true
  .exact ifT g2 (ifT rfl (bad (by decide) fun h=>by have:=(h.2.1 (by omega)).2;rw[g2]at this;cases this))
  refine ifF g2 ?_;by_cases g3:p.Min=0
  case neg=>exact ifT (by simp[g3]) (ifT rfl (bad (by decide) fun h=>g3 (h.2.2.2.1 (by omega)).1))
  refine ifF (by simp[g3]) ?_;by_cases g4:p.Max=0
  case neg=>exact ifT (by simp[g4]) (ifT rfl (bad (by decide) fun h=>g4 (h.2.2.2.1 (by omega)).2))
  refine ifF (by simp[g4]) ?_;by_cases g5:p.L.n=0
  case neg=>exact Bz (bad (by decide) fun h=>g5 (h.2.2.1 (by omega) (by omega) (by omega)))
  refine Em (fin ?_);exact⟨fun h=>h.2.2.2.2.2,fun h=>⟨by omega,fun _=>⟨g1,by simpa using g2⟩,fun _ _ _=>g5,fun _=>⟨g3,g4⟩,fun f=>by omega,h⟩⟩
 refine ifF (by simp only[not_or]at hk;simp[hk]) ?_;by_cases k1:p.Kind=1
 .refine ifT (by simp[k1]) (ltX ?_);refine Hg ?_;by_cases g3:p.Min=0
  case neg=>exact ifT (by simp[g3]) (ifT rfl (bad (by decide) fun h=>g3 (h.2.2.2.1 (by omega)).1))
  refine ifF (by simp[g3]) ?_;by_cases g4:p.Max=0
  case neg=>exact ifT (by simp[g4]) (ifT rfl (bad (by decide) fun h=>g4 (h.2.2.2.1 (by omega)).2))
  refine ifF (by simp[g4]) ?_;by_cases g5:p.L.n=0
  case neg=>exact Bz (bad (by decide) fun h=>g5 (h.2.2.1 (by omega) (by omega) (by omega)))
  refine Em (fin ?_);exact⟨fun h=>h.2.2.2.2.2,fun h=>⟨by omega,fun h1=>Jo k1 h1,fun _ _ _=>g5,fun _=>⟨g3,g4⟩,fun f=>by omega,h⟩⟩
 refine ifF (by simp[k1]) (ltX ?_);rw[e0];have tail:∀(x y:Int),(FL p↔(p.Is.Plus=0/\p.Is.Minus=0)/\p.Not=false/\x=0/\y=0/\vS p.Is)->∃e,(if (((((decide (p.Is.Plus=0/\p.Is.Minus=0) != true)||p.Not)||(x != 0))||(y != 0))||(decide (0<0))) then some (2:Int)else
  (K7 N p.Is).bind fun y3=>if (!y3) then some 14 else some 0)=some e/\(e=0↔FL p):=by
  intro x y c;by_cases g:(p.Is.Plus=0/\p.Is.Minus=0)/\p.Not=false/\x=0/\y=0
  .obtain⟨g1,g2,g3,g4⟩:=g;exact ifF (by simp[g1,g2,g3,g4]) (fin (c.trans ⟨fun h=>h.2.2.2.2,fun h=>⟨g1,g2,g3,g4,h⟩⟩))
  refine ifT ?_ (bad (by decide) fun h=>g ⟨(c.1 h).1,(c.1 h).2.1,(c.1 h).2.2.1,(c.1 h).2.2.2.1⟩);simp only[Bool.or_eq_true,bne_iff_ne,ne_eq,Jv];by_cases g1:p.Is.Plus=0/\p.Is.Minus=0
  .by_cases g2:p.Not=true
   .simp[g2]
   by_cases g3:x=0
   .have:¬y=0:=fun g4=>g ⟨g1,by simpa using g2,g3,g4⟩
    simp[this]
   simp[g3]
  simp[g1]
 by_cases k34:p.Kind=3 \/ p.Kind=4
 .refine ifT (by rcases k34 with h|h<;>simp[h]) (tail _ _ ?_);constructor
  .exact fun h=>⟨(h.2.1 k1).1,(h.2.1 k1).2,(h.2.2.2.1 (by omega)).1,(h.2.2.2.1 (by omega)).2,h.2.2.2.2.2⟩
  rintro⟨h1,d,j,l,f⟩;exact⟨by omega,fun _=>⟨h1,d⟩,fun h h'=>by omega,fun _=>⟨j,l⟩,fun h=>by omega,f⟩
 refine ifF (by simp only[not_or]at k34;simp[k34]) ?_;by_cases k5:p.Kind=5
 .refine ifT (by simp[k5]) ?_;by_cases g:p.L.n=1/\0<=p.Min/\p.Min<=32/\(p.Max = -1 \/ (p.Min<=p.Max/\p.Max<=32))
  .refine ifF (by simp only[Bool.or_eq_true,Bool.and_eq_true,bne_iff_ne,ne_eq,Jv];omega) (tail 0 0 ?_);constructor
   .exact fun h=>⟨(h.2.1 k1).1,(h.2.1 k1).2,rfl,rfl,h.2.2.2.2.2⟩
   rintro⟨h1,d,j,l,f⟩;exact⟨by omega,fun _=>⟨h1,d⟩,fun _ _ h=>Jo k5 h,fun h=>Jo k5 h,fun _=>g,f⟩
  exact ifT (by simp only[Bool.or_eq_true,Bool.and_eq_true,bne_iff_ne,ne_eq,Jv];omega) (bad (by decide) fun h=>g (h.2.2.2.2.1 k5))
 exact ifF (by simp[k5]) (bad (by decide) fun h=>by have:=h.1;omega)
def VW {x:Sl Pat}{m:Nat}(h:x.n=m+1):x.toList.reverse=x.g m::(x.take m).toList.reverse:=by unfold Sl.toList;rw[h,List.range_succ,List.map_append,List.reverse_append];rfl
def XZ (z:Sl Pat)(q:Pat):((z.push Pat.nil).upd z.n q).toList.reverse=q::z.toList.reverse:=by
 rw[VW (m:=z.n) rfl];have e1:((z.push Pat.nil).upd z.n q).g z.n=q:=by simp
 have e2:(((z.push Pat.nil).upd z.n q).take z.n).toList=z.toList:=by
  unfold Sl.toList;refine List.map_congr_left fun i a=>?_
  have:i<z.n:=List.mem_range.1 a
  show (if i=z.n then q else if i<z.n then z.g i else Pat.nil)=z.g i;rw[Ji,Jl this]
 rw[e1,e2]
def Rl (q:Sl Pat)(c:q.n<N)(hs:q.n<1000000):C5 N q=some ((List.range q.n).reverse.map fun (i:Nat)=>((i:Int),q.g i)):=by
 unfold C5;have h:∀(m:Nat),m<=q.n->∀F,m<F->R4 F (fun (a:Int->Option (List (Int×Pat))) (x1:Int)=>
  if (decide (0<=x1)) then
   if ((0:Int)<=x1/\x1<(q.n:Int))then
    HV (x1,q.g x1.toNat) (
     a (wrap .i64 (x1-1))
     )
   else none
  else
   some []) ((m:Int)-1)=some ((List.range m).reverse.map fun (i:Nat)=>((i:Int),q.g i)):=by
  intro m
  induction m with
  |zero=>
   intro _ F b
   match F,b with
   |F+1,_=>rfl
  |succ m ih=>
   intro hm F b
   match F,b with
   |F+1,b=>rw[OD];rw[show ((m+1:Nat):Int)-1=(m:Int) by omega,Jl (by simp),J8,W8 (by omega) (by omega),ih (by omega) F (by omega),Int.toNat_natCast,List.range_succ,List.reverse_append,List.reverse_singleton,List.singleton_append,List.map_cons];rfl
 rw[W8 (by omega) (by omega)];exact h q.n (Nat.le_refl _) N c
def Aa3 {k:Nat}(hk:k<=40){c:Sl Pat}{l:List Pat}:chk k ((c.take (min 41 c.n)).toList++l)↔chk k (c.toList++l):=by
 by_cases h:c.n<=41
 .rw[Nat.min_eq_right h]
 constructor
 .intro a
  have:=NB _ _ a
  rw[List.length_append,CS]at this
  have:(c.take (min 41 c.n)).n=41:=Nat.min_eq_left (by omega)
  omega
 intro a
 have:=NB _ _ a
 rw[List.length_append,CS]at this;omega
def Su (hN:2000<=N){p:Pat}(hp:okPS p):∃e,S2 N p=some e/\(e=0↔chk 40 [p]):=by
 unfold S2;refine Ez (fun i x3 x4=>x4=(i:Int)/\x3.n<=1+41*i/\(∀q∈x3.toList.reverse,okPS q)/\(chk 40 [p]↔chk (40-i) x3.toList.reverse)) 40 _ (by omega)
  ⟨rfl,by show 1<=_;omega,fun q l=>by rw[show (Sl.of [p]:Sl Pat).toList.reverse=[p] from rfl]at l;rw[List.mem_singleton.1 l];exact hp,Iff.rfl⟩ ?_
 rintro x i x3 x4 hi ⟨rfl,h1,c,f⟩ hs;rcases hn:x3.n with _|m
 .refine Hg ⟨0,rfl,fun _=>f.2 ?_,fun _=>rfl⟩
  have:x3.toList.reverse=[]:=by unfold Sl.toList;rw[hn];rfl
  rw[this];exact VT _
 rw[VW hn]at f c;refine ifT (decide_eq_true (by omega)) ?_;by_cases r:i=40
 .subst r;refine Ch ⟨12,rfl,fun h=>Jo h (by decide),fun h=>?_⟩
  have:(x3.g m::(x3.take m).toList.reverse)=[]:=f.1 h
  cases this
 refine Em ?_;have hw:IntKind.i64.wrap (((m+1:Nat):Int)-1)=(m:Int):=by rw[W8 (by omega) (by omega)];omega
 simp only[hw,Int.toNat_natCast];refine Bc (Bc ?_);obtain⟨e,y,a⟩:=Ue (N:=N) (c (x3.g m) (by simp)).is;refine H0 y ?_;rw[show 40-i=(39-i)+1 by omega]at f;by_cases o:e=0
 case neg=>exact ifT (by simp[o]) ⟨e,rfl,fun h=>Jo h o,fun h=>Jo (a.2 (f.1 h).1) o⟩
 refine ifF (by simp[o]) ?_;have hc:(if (41:Int)<((x3.g m).L.n:Int)then (41:Int)else ((x3.g m).L.n:Int))=((min 41 (x3.g m).L.n:Nat):Int):=by split<;>omega
 simp only[hc,Int.toNat_natCast];refine Bc (H0 rfl (H0 (Rl _ (by show min 41 _<N;omega) (by show min 41 _<1000000;omega)) ?_));generalize s:(x3.g m).L.take (min 41 (x3.g m).L.n)=C;have a0:C.n<=41:=by rw[<- s];exact Nat.min_le_left _ _
 refine Ah4 (fun L z=>∃j,j<=C.n/\L=((List.range j).reverse.map fun (i:Nat)=>((i:Int),C.g i))/\z.n=m+(C.n-j)/\z.toList.reverse=C.toList.drop j++(x3.take m).toList.reverse) ?_ ?_ _ _ ⟨C.n,Nat.le_refl _,rfl,by show m=_;omega,by rw[EA];rfl⟩
 .rintro z ⟨j,hj,hL,hz,b⟩;have u:j=0:=by
   cases j with
   |zero=>rfl
   |succ j=>simp[List.range_succ]at hL
  subst u;rw[List.drop_zero]at b;refine hs (by omega) _ _ ⟨Ia,by omega,fun q l=>?_,?_⟩
  .rw[b]at l;rcases List.mem_append.1 l with h|h
   .obtain⟨i',d,rfl⟩:=List.mem_map.1 h;have d:=List.mem_range.1 d;rw[<- s]at d⊢;exact (c (x3.g m) (by simp)).L (Nat.lt_of_lt_of_le d (Nat.min_le_right _ _))
   exact c q (by simp[h])
  rw[b,f,show 40-(i+1)=39-i by omega,<- s,Aa3 (by omega)];exact⟨fun h=>h.2,fun h=>⟨a.1 o,h⟩⟩
 rintro t L z v ⟨j,hj,hL,hz,b⟩ w;cases j with
 |zero=>simp at hL
 |succ j=>rw[List.range_succ,List.reverse_append,List.reverse_singleton,List.singleton_append,List.map_cons]at hL;obtain⟨rfl,rfl⟩:=List.cons.inj hL;have e1:(z.n:Int).toNat=z.n:=Int.toNat_natCast _;refine ifT ⟨⟨⟨by show (z.n+1)*64<=_;omega,by show z.n+1<=_;omega⟩,by show (0:Int)<=_/\(z.n:Int)<((z.n+1:Nat):Int);omega⟩,by show z.n<z.n+1;omega⟩ ?_;refine w _ ⟨j,by omega,rfl,by show z.n+1=_;omega,?_⟩;rw[XZ,b,FM C (i:=j) (by omega),List.cons_append]
end Go.AM
namespace Go.AM
open IntKind (wrap)
open Go.Proofs
def Pv {N:Nat}{w:Sl Nd}(m:w.n<N)(hs:w.n<1000000){f:Nd->Option Bool}{b:Nat->Bool}(o:∀i,i<w.n->f (w.g i)=some (b i)) :∃r,B3 N w f=some r/\(r=true ↔ ∃i,i<w.n/\b i=true):=by
 unfold B3 D1
 have:∃y,R4 N (fun (a:Int->Option Int) (x1:Int)=>
  if (decide (x1<(w.n:Int))) then
   if ((0:Int)<=x1/\x1<(w.n:Int))then
    (f (w.g x1.toNat)).bind fun y3=>
    if y3 then
     some x1
    else
     a (wrap .i64 (x1+1))
   else none
  else
   some (-1)) 0=some y/\(0<=y ↔ ∃i,i<w.n/\b i=true):=by
  refine Aq (fun i x1=>x1=(i:Int)/\∀j,j<i->b j=false) w.n _ m ⟨rfl,fun j c=>Jo c (by omega)⟩ ?_;rintro l i x1 q ⟨rfl,h⟩ d;by_cases hl:i<w.n
  .refine Bz (Bc (H0 (by rw[Int.toNat_natCast];exact o i hl) ?_));cases hb:b i
   .refine Hg (d hl _ ⟨Ia,fun j c=>?_⟩);by_cases e:j=i
    .subst e;exact hb
    exact h j (by omega)
   exact ifT rfl ⟨i,rfl,fun _=>⟨i,hl,hb⟩,fun _=>by omega⟩
  refine Em ⟨-1,rfl,fun h=>Jo h (by decide),?_⟩;rintro⟨j,c,hb⟩;rw[h j (by omega)]at hb;cases hb
 obtain⟨y,e,hy⟩:=this;exact H0 e ⟨_,rfl,by rw[Jv];exact hy⟩
end Go.AM
namespace Go.AM
open Go.Proofs
end Go.AM
namespace Go.AM
open Go.Proofs
end Go.AM
namespace Go.AM
open Go.Proofs
def okL (l:Law):Prop:=okPS l.Left/\okPS l.Right/\∀i,i<l.If.n->okS (l.If.g i)
end Go.AM
namespace Go.AM
open Go.Proofs
end Go.AM
namespace Go.AM
open Go.Proofs
def okO (x:Z7):Prop:=okS x.Set/\(∃c:BitVec 32,x.Clear=(c.toNat:Int))/\∃t:BitVec 32,x.Take=(t.toNat:Int)
def outP (l:Law):Prop:=l.Out.n<=6/\∀i,i<l.Out.n->okO (l.Out.g i)/\(l.Out.g i).From<l.If.n/\((l.Out.g i).Take≠0->0<=(l.Out.g i).Of/\(l.Out.g i).Of<l.If.n)
end Go.AM
namespace Go.AM
open Go.Proofs
def ne0 (x:BitVec 32):((x.toNat:Int) != 0)=decide (x≠0#32):=by rw[bne,eq0];simp
def or0 (x y:BitVec 32):x ||| y=0#32↔x=0#32/\y=0#32:=by
 constructor
 .intro h;have h:=(z32 _).1 h;exact⟨(z32 _).2 fun i a=>by have:=h i a;rw[BitVec.getLsbD_or,Bool.or_eq_false_iff]at this;exact this.1,(z32 _).2 fun i a=>by have:=h i a;rw[BitVec.getLsbD_or,Bool.or_eq_false_iff]at this;exact this.2⟩
 rintro⟨rfl,rfl⟩;rfl
def Ah5 (x y z:BitVec 32):x &&& (y ||| z)=(x &&& y) ||| (x &&& z):=by apply BitVec.eq_of_getLsbD_eq;intro i a;simp only[BitVec.getLsbD_and,BitVec.getLsbD_or];cases x.getLsbD i<;>simp
def Ah6 (x y z:BitVec 32):(x ||| y) &&& z=(x &&& z) ||| (y &&& z):=by apply BitVec.eq_of_getLsbD_eq;intro i a;simp only[BitVec.getLsbD_and,BitVec.getLsbD_or];cases z.getLsbD i<;>simp
def Sv {N:Nat}(j:1000<=N){x:Z7}(hx:okO x)(k:Int):∃b,P2 N x k=some b/\CO N x k=some b:=by
 obtain⟨⟨a,b,d⟩,⟨c,hc⟩,t,ht⟩:=hx;have f:(16777215:Int)=((16777215#32).toNat:Int):=rfl;unfold P2 CO;simp only[lt,d,hc,ht,Ka,Mc a b j,Option.bind_some];rw[f];simp only[IW,Vs,To,ne0];by_cases h1:x.From < -1
 .simp[h1]
 by_cases g:k<=x.From
 .simp[h1,g]
 by_cases i:vB a b=true
 case neg=>simp[h1,g,i]
 simp only[h1,g,i,decide_false,Bool.false_eq_true,Js,Bool.not_true];rw[Ah6,Ah5 t];generalize ~~~16777215#32=M;by_cases g1:c &&& M=0#32
 case neg=>simp[g1,or0]
 by_cases g2:t &&& M=0#32
 case neg=>simp[g1,g2,or0]
 by_cases g3:c &&& (a ||| b)=0#32
 case neg=>simp[g1,g2,g3,or0]
 by_cases g4:t &&& (a ||| b)=0#32
 case neg=>simp[g1,g2,g3,g4,or0]
 by_cases g5:t &&& c=0#32
 case neg=>simp[g1,g2,g3,g4,g5,or0]
 simp[g1,g2,g3,g4,g5,or0];by_cases g6:t.toNat=0
 .simp only[g6,Jq];cases x.Of==0<;>simp
 simp only[g6,Js];cases (decide (0<=x.Of)&&decide (x.Of<k))<;>simp
end Go.AM
namespace Go.AM
open Go.Proofs
abbrev nameC:Str:=[97,98,99,100,101,102,103,104,105,106,107,108,109,110,111,112,113,114,115,116,117,118,119,120,121,122,65,66,67,68,69,70,71,72,73,74,75,76,77,78,79,80,81,82,83,84,85,86,87,88,89,90,48,49,50,51,52,53,54,55,56,57,45]
def VX {p:UInt8->Bool}:∀{l:Str},l.dropWhile p=[] ↔ ∀x∈l,p x=true
 |[]=>by simp
 |a::l=>by
  rw[List.dropWhile_cons];by_cases h:p a=true
  .rw[Jl h,VX];simp[h]
  rw[Jm h];simp[h]
def Ya (l cs:Str):Lib.trimS l cs=[] ↔ ∀b∈l,cs.contains b=true:=by
 unfold Lib.trimS Lib.trimLeftS Lib.trimRightS;rw[VX];constructor
 .intro h;have h:∀x∈l.reverse.dropWhile (cs.contains ·),cs.contains x=true:=fun x hx=>h x (List.mem_reverse.2 hx);have a:l.reverse.dropWhile (cs.contains ·)=[]:=by
   rcases e:l.reverse.dropWhile (cs.contains ·)with _|⟨y,r⟩
   .rfl
   have c:=h y (by rw[e];simp);have d:¬cs.contains y=true:=by
    have:=List.head_dropWhile_not (cs.contains ·) (l:=l.reverse) (by rw[e];simp)
    simp only[e,List.head_cons]at this;rw[this];exact Bool.false_ne_true
   exact Jo c d
  rw[VX]at a;exact fun b hb=>a b (List.mem_reverse.2 hb)
 intro h x hx;have hx:=List.mem_reverse.1 hx;exact h x (List.mem_reverse.1 ((List.dropWhile_sublist _).mem hx))
abbrev NC (y:Int):Bool:=((((decide (97<=y))&&(decide (y<=122)))||((decide (65<=y))&&(decide (y<=90))))||((decide (48<=y))&&(decide (y<=57))))||(y==45)
def VY:∀k:Fin 256,nameC.contains (UInt8.ofNat k.val)=NC ((k.val:Nat):Int):=by decide +kernel
def VZ (b:UInt8):nameC.contains b=NC ((b.toNat:Nat):Int):=by
 have:=VY ⟨b.toNat,b.toNat_lt⟩
 rw[show UInt8.ofNat b.toNat=b by simp]at this;exact this
def Pw {N:Nat}{s:Str}(n:s.length<N)(hs:s.length<1000000000):∃b,Al N s=some b/\Aj N s=some b:=by
 have o:∃b,Aj N s=some b/\(b=true↔(∀c∈s,nameC.contains c=true)/\1<=s.length/\s.length<=24):=by
  unfold Aj;refine Aq (fun i x1=>x1=(i:Int)/\∀j (h:j<s.length),j<i->nameC.contains s[j]=true) s.length _ n ⟨rfl,fun j _ a=>Jo a (by omega)⟩ ?_;rintro l i x1 v ⟨rfl,h⟩ f;by_cases hl:i<s.length
  .refine Bz (Bc ?_);have eb:U2 s (i:Int)=((s[i].toNat:Nat):Int):=by simp[U2,hl]
   by_cases hb:nameC.contains s[i]=true
   .refine ifF (by rw[eb];show ¬(!(NC ((s[i].toNat:Nat):Int)))=true;rw[<- VZ,hb];simp) (f hl _ ⟨Ia,fun j a q=>?_⟩);by_cases e:j=i
    .subst e;exact hb
    exact h j a (by omega)
   refine ifT ?_ ⟨false,rfl,by simp,fun t=>Jo (t.1 s[i] (List.getElem_mem hl)) hb⟩;rw[eb];show (!(NC ((s[i].toNat:Nat):Int)))=true;rw[<- VZ];simpa using hb
  refine Em ⟨_,rfl,?_⟩;simp only[Bool.and_eq_true,Jv];constructor
  .rintro⟨g1,g2⟩;refine⟨fun c hc=>?_,by omega,by omega⟩;obtain⟨j,a,rfl⟩:=List.getElem_of_mem hc;exact h j a (by omega)
  rintro⟨_,g1,g2⟩;exact⟨by omega,by omega⟩
 obtain⟨b,e,hb⟩:=o;refine⟨b,?_,e⟩
 suffices h:∃r,Al N s=some r/\(r=true↔(∀c∈s,nameC.contains c=true)/\1<=s.length/\s.length<=24) by obtain⟨r,u,g⟩:=h;rw[u,show r=b by rw[Bool.eq_iff_iff,g,hb]]
 unfold Al;refine ltX ?_;by_cases d:s=[]
 .exact ifF (by simp[d]) ⟨false,rfl,by simp[d]⟩
 refine ifT (by simp[d]) ?_;have m:0<s.length:=List.length_pos_iff.2 d;by_cases h1:s.length<=24
 .refine Bz (H0 (x:=Lib.trimS s nameC) ?_ ⟨_,rfl,?_⟩)
  .unfold Cl;rw[Jl ⟨by omega,by decide,by decide⟩]
  rw[<- Ya];constructor
  .intro h;exact⟨by simpa using h,by omega,h1⟩
  rintro⟨h,_⟩;simp[h]
 exact Em ⟨false,rfl,by simp;intro _ _;omega⟩
end Go.AM
namespace Go.AM
variable {N:Nat}
open IntKind (wrap)
open Go.Proofs
def Px {s:Sl Z7}(m:s.n<N)(hs:s.n<1000000){f:Z7->Option Bool}{b:Nat->Bool}(o:∀i,i<s.n->f (s.g i)=some (b i)) :∃r,C0 N s f=some r/\(r=true ↔ ∃i,i<s.n/\b i=true):=by
 unfold C0 D8
 have:∃y,R4 N (fun (a:Int->Option Int) (x1:Int)=>
  if (decide (x1<(s.n:Int))) then
   if ((0:Int)<=x1/\x1<(s.n:Int))then
    (f (s.g x1.toNat)).bind fun y3=>
    if y3 then
     some x1
    else
     a (wrap .i64 (x1+1))
   else none
  else
   some (-1)) 0=some y/\(0<=y ↔ ∃i,i<s.n/\b i=true):=by
  refine Aq (fun i x1=>x1=(i:Int)/\∀j,j<i->b j=false) s.n _ m ⟨rfl,fun j c=>Jo c (by omega)⟩ ?_;rintro l i x1 q ⟨rfl,h⟩ d;by_cases hl:i<s.n
  .refine Bz (Bc (H0 (by rw[Int.toNat_natCast];exact o i hl) ?_));cases hb:b i
   .refine Hg (d hl _ ⟨Ia,fun j c=>?_⟩);by_cases e:j=i
    .subst e;exact hb
    exact h j (by omega)
   exact ifT rfl ⟨i,rfl,fun _=>⟨i,hl,hb⟩,fun _=>by omega⟩
  refine Em ⟨-1,rfl,fun h=>Jo h (by decide),?_⟩;rintro⟨j,c,hb⟩;rw[h j (by omega)]at hb;cases hb
 obtain⟨y,e,hy⟩:=this;exact H0 e ⟨_,rfl,by rw[Jv];exact hy⟩
def ND (l:Law):Prop:=okL l/\l.Name.length<1100000/\l.If.n<1100000/\l.Out.n<1100000/\∀i,i<l.Out.n->okO (l.Out.g i)
def Uf {s:Nd}(hs:okS s):∃b,F3 N s=some b/\(b=true↔vS s):=by obtain⟨p,m,e⟩:=hs;exact⟨vB p m,by rw[e];exact Ka p m,(XX e).symm⟩
def Ug (a:1000<=N){s:Nd}(hs:okS s):∃b,R6 N s=some b/\(b=true↔vS s):=by obtain⟨p,m,e⟩:=hs;exact⟨vB p m,by rw[e];exact Mc p m a,(XX e).symm⟩
def Yb {x:Z7}(hx:okO x){k:Int}(h:P2 N x k=some true):x.From<k/\(x.Take≠0->0<=x.Of/\x.Of<k):=by
 obtain⟨⟨a,b,c⟩,_,_⟩:=hx;unfold P2 at h;simp only[lt,c,Ka,Option.bind_some]at h;by_cases h1:x.From < -1
 .simp[h1]at h
 by_cases d:k<=x.From
 .simp[h1,d]at h
 refine⟨by omega,fun ht=>?_⟩;simp only[h1,d,decide_false,Bool.false_eq_true,Js]at h;by_cases f:(!vB a b)=true
 .rw[Jl f]at h;cases h
 rw[Jm f]at h;split at h
 .cases h
 rw[Jm (by simp[ht])]at h;simpa using h
def chkAll (N:Nat)(l:Law):Prop:=Aj N l.Name=some true/\chk 40 [l.Left]/\chk 40 [l.Right]/\l.If.n<=4/\l.Out.n<=6/\l.If.n+l.Out.n≠0/\1<=l.Mode/\l.Mode<=3/\(∀i,i<l.If.n->vS (l.If.g i))/\∀i,i<l.Out.n->P2 N (l.Out.g i) l.If.n=some true
def Ah7 (N:Nat)(l:Law)(e:Int):Prop:=(e=0/\chkAll N l) \/ (e=17/\¬chkAll N l)
def lawF (l:Law):Prop:=okL l/\chk 40 [l.Left]/\chk 40 [l.Right]/\l.If.n<=4/\outP l/\l.If.n+l.Out.n≠0/\1<=l.Mode/\l.Mode<=3
def chkAll.f {N:Nat}{l:Law}(hl:ND l)(h:chkAll N l):lawF l:=by obtain⟨_,h1,b,c,d,g,j,m,o,n⟩:=h;exact⟨hl.1,h1,b,c,⟨d,fun i a=>⟨hl.2.2.2.2 i a,Yb (hl.2.2.2.2 i a) (n i a)⟩⟩,g,j,m⟩
def Uh (hN:3000000<=N){l:Law}(hl:ND l):∃e,S4 N l=some e/\Ah7 N l e:=by
 have u:=hl.2.1;have v:=hl.2.2.1;have x:=hl.2.2.2.1;unfold S4;obtain⟨b0,e0,e0'⟩:=Pw (N:=N) (s:=l.Name) (by omega) (by omega);refine H0 e0 ?_;cases b0
 .exact ifT rfl ⟨17,rfl,.inr ⟨rfl,fun h=>by have:=h.1;rw[e0']at this;cases this⟩⟩
 refine Hg ?_;obtain⟨y2,e2,o⟩:=Su (N:=N) (by omega) hl.1.1;refine H0 e2 ?_;by_cases c2:y2=0
 case neg=>exact ifT (by simpa using c2) ⟨17,rfl,.inr ⟨rfl,fun h=>c2 (o.2 h.2.1)⟩⟩
 refine ifF (by simp[c2]) ?_;obtain⟨y3,e3,q⟩:=Su (N:=N) (by omega) hl.1.2.1;refine H0 e3 ?_;by_cases c3:y3=0
 case neg=>exact ifT (by simpa using c3) ⟨17,rfl,.inr ⟨rfl,fun h=>c3 (q.2 h.2.2.1)⟩⟩
 refine ifF (by simp[c3]) ?_;by_cases c4:4<l.If.n
 .exact Bz ⟨17,rfl,.inr ⟨rfl,fun h=>by have:=h.2.2.2.1;omega⟩⟩
 refine Em ?_;by_cases c5:6<l.Out.n
 .exact Bz ⟨17,rfl,.inr ⟨rfl,fun h=>by have:=h.2.2.2.2.1;omega⟩⟩
 refine Em ?_;rw[Ah0 (by omega)];by_cases c6:l.If.n+l.Out.n=0
 .exact ifT (by rw[c6];rfl) ⟨17,rfl,.inr ⟨rfl,fun h=>h.2.2.2.2.2.1 c6⟩⟩
 refine Em ?_;by_cases c7:l.Mode<1 \/ 3<l.Mode
 .exact Bz ⟨17,rfl,.inr ⟨rfl,fun h=>by have g1:=h.2.2.2.2.2.2.1;have g2:=h.2.2.2.2.2.2.2.1;omega⟩⟩
 refine Em ?_;have y:∀i,∃b,i<l.If.n->U0 N (l.If.g i)=some b/\(b=true ↔ ¬vS (l.If.g i)):=by
  intro i;by_cases a:i<l.If.n
  .obtain⟨b,eb,hb⟩:=Uf (N:=N) (hl.1.2.2 i a);refine⟨!b,fun _=>⟨by unfold U0;rw[eb];rfl,?_⟩⟩;rw[<- hb];simp
  exact⟨false,fun h=>Jo h a⟩
 obtain⟨f,j⟩:=Classical.axiomOfChoice y;obtain⟨y4,e4,r⟩:=Pv (N:=N) (w:=l.If) (by omega) (by omega) (f:=fun u1=>U0 N u1) (fun i a=>(j i a).1);refine H0 e4 ?_;cases c:y4
 case true=>obtain⟨i,a,hb⟩:=r.1 c;exact ifT rfl ⟨17,rfl,.inr ⟨rfl,fun h=>(j i a).2.1 hb (h.2.2.2.2.2.2.2.2.1 i a)⟩⟩
 refine Hg ?_;have z:∀i,∃b,i<l.Out.n->T9 N (l.Out.g i) (l.If.n:Int)=some b/\(b=true ↔ ¬P2 N (l.Out.g i) l.If.n=some true):=by
  intro i;by_cases a:i<l.Out.n
  .obtain⟨b,eb,_⟩:=Sv (N:=N) (by omega) (hl.2.2.2.2 i a) (l.If.n:Int);refine⟨!b,fun _=>⟨by unfold T9;rw[eb];rfl,?_⟩⟩;rw[eb];simp
  exact⟨false,fun h=>Jo h a⟩
 obtain⟨g,m⟩:=Classical.axiomOfChoice z;obtain⟨y5,e5,t⟩:=Px (N:=N) (s:=l.Out) (by omega) (by omega) (f:=fun u2=>T9 N u2 (l.If.n:Int)) (fun i a=>(m i a).1);refine H0 e5 ?_;cases d:y5
 case true=>obtain⟨i,a,hb⟩:=t.1 d;exact ifT rfl ⟨17,rfl,.inr ⟨rfl,fun h=>(m i a).2.1 hb (h.2.2.2.2.2.2.2.2.2 i a)⟩⟩
 refine Hg ⟨0,rfl,.inl ⟨rfl,e0',o.1 c2,q.1 c3,by omega,by omega,c6,by omega,by omega,fun i a=>?_,fun i a=>?_⟩⟩
 .refine Classical.byContradiction fun hn=>?_
  have:=r.2 ⟨i,a,(j i a).2.2 hn⟩
  rw[c]at this;cases this
 refine Classical.byContradiction fun hn=>?_
 have:=t.2 ⟨i,a,(m i a).2.2 hn⟩
 rw[d]at this;cases this
def Ui (y:3000000<=N){l:Law}(hl:ND l):∃e,Ak N l=some e/\Ah7 N l e:=by
 have u:=hl.2.1;have v:=hl.2.2.1;have w:=hl.2.2.2.1;unfold Ak;obtain⟨b0,e0,e0'⟩:=Pw (N:=N) (s:=l.Name) (by omega) (by omega);refine H0 e0' (ltX ?_);cases b0
 .exact ifT rfl (ifT rfl ⟨17,rfl,.inr ⟨rfl,fun h=>by have:=h.1;rw[e0']at this;cases this⟩⟩)
 refine Hg ?_;obtain⟨y2,e2,q⟩:=Pu (N:=N) (by omega) hl.1.1;refine H0 e2 ?_;by_cases c2:y2=0
 case neg=>exact ifT (by simpa using c2) (ifT rfl ⟨17,rfl,.inr ⟨rfl,fun h=>c2 (q.2 h.2.1)⟩⟩)
 refine ifF (by simp[c2]) ?_;obtain⟨y3,e3,r⟩:=Pu (N:=N) (by omega) hl.1.2.1;refine H0 e3 ?_;by_cases c3:y3=0
 case neg=>exact ifT (by simpa using c3) ⟨17,rfl,.inr ⟨rfl,fun h=>c3 (r.2 h.2.2.1)⟩⟩
 refine ifF (by simp[c3]) ?_;rw[Ah0 (by omega)];by_cases a:l.If.n<=4/\l.Out.n<=6/\l.If.n+l.Out.n≠0/\1<=l.Mode/\l.Mode<=3
 case neg=>refine ifT ?_ ⟨17,rfl,.inr ⟨rfl,fun h=>a ⟨h.2.2.2.1,h.2.2.2.2.1,h.2.2.2.2.2.1,h.2.2.2.2.2.2.1,h.2.2.2.2.2.2.2.1⟩⟩⟩;simp only[Bool.or_eq_true,Jv,beq_iff_eq];omega
 refine ifF (by simp only[Bool.or_eq_true,Jv,beq_iff_eq];omega) ?_;obtain⟨c4,c5,c6,c7,c8⟩:=a;refine Aq (fun i x1=>x1=(i:Int)/\∀j,j<i->vS (l.If.g j)) l.If.n _ (by omega) ⟨rfl,fun j c=>Jo c (by omega)⟩ ?_;rintro t i x1 z ⟨rfl,h⟩ hs;by_cases d:i<l.If.n
 .obtain⟨b,eb,hb⟩:=Ug (N:=N) (by omega) (hl.1.2.2 i d);refine Bz (Bc (H0 (by rw[Int.toNat_natCast];exact eb) ?_));cases b
  .exact ifT rfl ⟨17,rfl,.inr ⟨rfl,fun h=>by have:=hb.2 (h.2.2.2.2.2.2.2.2.1 i d);cases this⟩⟩
  refine Hg (hs d _ ⟨Ia,fun j c=>?_⟩);by_cases e:j=i
  .subst e;exact hb.1 rfl
  exact h j (by omega)
 refine Em ?_;have x:∀j,j<l.If.n->vS (l.If.g j):=fun j c=>h j (by omega);refine Aq (fun i x1=>x1=(i:Int)/\∀j,j<i->P2 N (l.Out.g j) l.If.n=some true) l.Out.n _ (by omega) ⟨rfl,fun j c=>Jo c (by omega)⟩ ?_;rintro m k x2 hk ⟨rfl,h'⟩ o;by_cases f:k<l.Out.n
 .obtain⟨b,eb,eb'⟩:=Sv (N:=N) (by omega) (hl.2.2.2.2 k f) (l.If.n:Int);refine Bz (Bc (H0 (by rw[Int.toNat_natCast];exact eb') ?_));cases b
  .exact ifT rfl ⟨17,rfl,.inr ⟨rfl,fun h=>by have:=h.2.2.2.2.2.2.2.2.2 k f;rw[eb]at this;cases this⟩⟩
  refine Hg (o f _ ⟨Ia,fun j c=>?_⟩);by_cases e:j=k
  .subst e;exact eb
  exact h' j (by omega)
 exact Em ⟨0,rfl,.inl ⟨rfl,e0',q.1 c2,r.1 c3,c4,c5,c6,c7,c8,x,fun j c=>h' j (by omega)⟩⟩
def Wa {l:Law}{e e' : Int}(h:Ah7 N l e)(h' : Ah7 N l e'):e=e':=by
 rcases h with⟨rfl,h⟩ | ⟨rfl,h⟩<;>rcases h' with⟨rfl,h'⟩ | ⟨rfl,h'⟩
 .rfl
 .exact Jo h h'
 .exact Jo h' h
 rfl
def Py (a:3000000<=N){l:Law}(hl:ND l):∃e,S4 N l=some e/\Ak N l=some e/\Ah7 N l e:=by obtain⟨e,h,c⟩:=Uh a hl;obtain⟨e',h',c'⟩:=Ui a hl;obtain rfl:=Wa c c';exact⟨_,h,h',c⟩
end Go.AM
namespace Go.AM
open Go.Proofs
def PE:Pat->Pat->Prop
 |.nil,q=>q.Kind=0/\q.Is=default/\q.Not=false/\q.Min=0/\q.Max=0/\q.L.n=0
 |.mk k is no mn mx n g,q=>q.Kind=k/\q.Is=is/\q.Not=no/\q.Min=mn/\q.Max=mx/\q.L.n=n/\∀i,i<n->PE (g i) (q.L.g i)
def PE_of {p q:Pat}:PE p q↔q.Kind=p.Kind/\q.Is=p.Is/\q.Not=p.Not/\q.Min=p.Min/\q.Max=p.Max/\q.L.n=p.L.n/\∀i,i<p.L.n->PE (p.L.g i) (q.L.g i):=by
 cases p with
 |nil=>exact⟨fun h=>⟨h.1,h.2.1,h.2.2.1,h.2.2.2.1,h.2.2.2.2.1,h.2.2.2.2.2,fun i a=>Jo a (Nat.not_lt_zero i)⟩,fun h=>⟨h.1,h.2.1,h.2.2.1,h.2.2.2.1,h.2.2.2.2.1,h.2.2.2.2.2.1⟩⟩
 |mk k is no mn mx n g=>exact Iff.rfl
def Rm:∀p:Pat,PE p p
 |.nil=>⟨rfl,rfl,rfl,rfl,rfl,rfl⟩
 |.mk k is no mn mx n g=>⟨rfl,rfl,rfl,rfl,rfl,rfl,fun i _=>Rm (g i)⟩
def Rn:∀{p q:Pat},PE p q->PE q p
 |.nil,q,h=>PE_of.2 ⟨h.1.symm,h.2.1.symm,h.2.2.1.symm,h.2.2.2.1.symm,h.2.2.2.2.1.symm,h.2.2.2.2.2.symm,fun i a=>Jo a (by rw[h.2.2.2.2.2];exact Nat.not_lt_zero i)⟩
 |.mk k is no mn mx n g,q,h=>PE_of.2 ⟨h.1.symm,h.2.1.symm,h.2.2.1.symm,h.2.2.2.1.symm,h.2.2.2.2.1.symm,h.2.2.2.2.2.1.symm,fun i a=>Rn (h.2.2.2.2.2.2 i (by rw[<- h.2.2.2.2.2.1];exact a))⟩
def Yc {p q:Pat}(e:PE p q):FL p↔FL q:=by obtain⟨e1,e2,e3,e4,e5,e6,_⟩:=PE_of.1 e;unfold FL;rw[e1,e2,e3,e4,e5,e6]
def PEs:List Pat->List Pat->Prop
 |[],[]=>True
 |p::l,q::m=>PE p q/\PEs l m
 |_,_=>False
def Wb:∀{a b c d:List Pat},PEs a b->PEs c d->PEs (a++c) (b++d)
 |[],[],_,_,_,h=>h
 |_::_,_::_,_,_,⟨h1,h2⟩,h=>⟨h1,Wb h2 h⟩
 |[],_::_,_,_,h,_=>h.elim
 |_::_,[],_,_,h,_=>h.elim
def Pz {f g:Nat->Pat}:∀(l:List Nat),(∀i∈l,PE (f i) (g i))->PEs (l.map f) (l.map g)
 |[],_=>trivial
 |i::l,h=>⟨h i (by simp),Pz l fun j a=>h j (by simp[a])⟩
def YO:∀(k:Nat) (l m:List Pat),PEs l m->(chk k l↔chk k m)
 |0,[],[],_=>Iff.rfl
 |0,p::l,q::m,_=>⟨fun h=>(by cases h),fun h=>by cases h⟩
 |k+1,[],[],_=>Iff.rfl
 |k+1,p::l,q::m,⟨h1,h2⟩=>by
  obtain⟨_,_,_,_,_,e6,e7⟩:=PE_of.1 h1;show FL p/\chk k (p.L.toList++l)↔FL q/\chk k (q.L.toList++m);rw[Yc h1,YO k _ _ (Wb (c:=l) (d:=m) (show PEs p.L.toList q.L.toList by unfold Sl.toList;rw[e6];exact Pz _ fun i a=>e7 i (List.mem_range.1 a)) h2)]
 |_,[],_::_,h=>h.elim
 |_,_::_,[],h=>h.elim
def NE {p q:Pat}(h:PE p q):chk 40 [p]↔chk 40 [q]:=YO 40 [p] [q] ⟨h,trivial⟩
def okPS_of {p:Pat}:okPS p↔okS p.Is/\∀i,i<p.L.n->okPS (p.L.g i):=by
 cases p with
 |nil=>exact⟨fun _=>⟨⟨0#32,0#32,rfl⟩,fun i a=>Jo a (Nat.not_lt_zero i)⟩,fun _=>trivial⟩
 |mk k is no mn mx n g=>exact Iff.rfl
def Kb:∀{p q:Pat},PE p q->okPS p->okPS q
 |.nil,q,h,_=>okPS_of.2 ⟨by rw[h.2.1];exact⟨0#32,0#32,rfl⟩,fun i a=>Jo a (by rw[h.2.2.2.2.2];exact Nat.not_lt_zero i)⟩
 |.mk k is no mn mx n g,q,h,hp=>okPS_of.2 ⟨by rw[h.2.1];exact hp.1,fun i a=>by
  have a:i<n:=by rw[<- h.2.2.2.2.2.1];exact a
  exact Kb (h.2.2.2.2.2.2 i a) (hp.2 i a)⟩
end Go.AM
namespace Go.AM
open Go.Proofs
def SE {α : Type}(s t:Sl α):Prop:=s.n=t.n/\∀i,i<s.n->s.g i=t.g i
def SE.refl {α : Type}(s:Sl α):SE s s:=⟨rfl,fun _ _=>rfl⟩
def SE.symm {α : Type}{s t:Sl α}(h:SE s t):SE t s:=⟨h.1.symm,fun i a=>(h.2 i (by rw[h.1];exact a)).symm⟩
def SE.trans {α : Type}{s t u:Sl α}(h:SE s t)(h' : SE t u):SE s u:=⟨h.1.trans h'.1,fun i a=>(h.2 i a).trans (h'.2 i (by rw[<- h.1];exact a))⟩
structure LE (l l' : Law):Prop where
 name:l'.Name=l.Name
 left:PE l.Left l'.Left
 right:PE l.Right l'.Right
 cond:SE l.If l'.If
 out:SE l.Out l'.Out
 mode:l'.Mode=l.Mode
def LE.refl (l:Law):LE l l:=⟨rfl,Rm _,Rm _,SE.refl _,SE.refl _,rfl⟩
def LE.symm {l l' : Law}(h:LE l l'):LE l' l:=⟨h.name.symm,Rn h.left,Rn h.right,h.cond.symm,h.out.symm,h.mode.symm⟩
def Yd {l l' : Law}(h:LE l l')(hl:ND l):ND l':=by obtain⟨⟨h1,a,b⟩,c,g,j,d⟩:=hl;have m:=h.cond.1;have n:=h.out.1;exact⟨⟨Kb h.left h1,Kb h.right a,fun i f=>by rw[<- h.cond.2 i (by omega)];exact b i (by omega)⟩,by rw[h.name];exact c,by omega,by omega,fun i f=>by rw[<- h.out.2 i (by omega)];exact d i (by omega)⟩
def Aa4 {l l' : Law}(h:LE l l')(hl:outP l):outP l':=by have a:=h.cond.1;have b:=h.out.1;exact⟨by rw[<- b];exact hl.1,fun i c=>by rw[<- h.out.2 i (by omega),<- a];exact hl.2 i (by omega)⟩
def lawF_LE {l l' : Law}(h:LE l l')(hl:lawF l):lawF l':=by obtain⟨⟨h1,a,b⟩,c,d,j,f,m,n,g⟩:=hl;have o:=h.cond.1;have q:=h.out.1;have hm:=h.mode;exact⟨⟨Kb h.left h1,Kb h.right a,fun i r=>by rw[<- h.cond.2 i (by omega)];exact b i (by omega)⟩,(NE h.left).1 c,(NE h.right).1 d,by omega,Aa4 h f,by omega,by omega,by omega⟩
def Wc {N:Nat}{l l' : Law}(h:LE l l'):chkAll N l↔chkAll N l':=by
 suffices H:∀{l l' : Law},LE l l' -> chkAll N l->chkAll N l' by exact⟨H h,H h.symm⟩
 rintro l l' h ⟨h1,b,c,j,m,n,o,q,d,a⟩;have f:=h.cond.1;have r:=h.out.1;have hm:=h.mode;exact⟨by rw[h.name];exact h1,(NE h.left).1 b,(NE h.right).1 c,by omega,by omega,by omega,by omega,by omega,
  fun i g=>by rw[<- h.cond.2 i (by omega)];exact d i (by omega),fun i g=>by rw[<- h.out.2 i (by omega),<- f];exact a i (by omega)⟩
end Go.AM
namespace Go.AM
open Go.Proofs
end Go.AM
namespace Go.AM
open Go.Proofs
def LS (s t:Sl Law):Prop:=s.n=t.n/\∀i,i<s.n->LE (s.g i) (t.g i)
def LS.refl (s:Sl Law):LS s s:=⟨rfl,fun _ _=>LE.refl _⟩
def Sw (laws:Sl Law):Prop:=∀i,i<laws.n->ND (laws.g i)
def Ye {laws laws' : Sl Law}(h:LS laws laws')(hl:Sw laws):Sw laws':=fun i a=>by exact Yd (h.2 i (by rw[h.1];exact a)) (hl i (by rw[h.1];exact a))
def Sx (N:Nat)(laws:Sl Law):Prop:=laws.n<=64/\∀i,i<laws.n->chkAll N (laws.g i)
end Go.AM
namespace Go.AM
open Go.Proofs
end Go.AM
namespace Go.AM
open Go.Proofs
def dep:Nat->Pat->Prop
 |0,_=>False
 |d+1,p=>p.L.n<=40/\∀i,i<p.L.n->dep d (p.L.g i)
def YP:∀(d:Nat) (p:Pat),dep d p->∀e,d<=e->dep e p
 |0,_,h,_,_=>h.elim
 |d+1,p,h,0,he=>by omega
 |d+1,p,h,e+1,he=>⟨h.1,fun i a=>YP d _ (h.2 i a) e (by omega)⟩
def PA {N:Nat}(o:1000<=N):∀(d:Nat),d<=40->∀(p:Pat) (M:Nat),N+d+2<=M->∃r:Nat,X1 M p ((40-d:Nat):Int)=some (r:Int)/\40-d<r/\r<=41/\(r<=40->dep (d+1) p)
 |d,hd,p,0,hM=>by omega
 |d,hd,p,M+1,hM=>by
  have:∃x,X1 (M+1) p ((40-d:Nat):Int)=some x/\∃r:Nat,x=(r:Int)/\40-d<r/\r<=41/\(r<=40->dep (d+1) p):=by
   show ∃x,Z1 (X1 M) M p _=some x/\_;unfold Z1;rw[Ia];refine Ez (fun i x1 x2=>x2=(i:Int)/\∃k:Nat,x1=(k:Int)/\40-d+1+i<=k/\k<=41/\i<=p.L.n/\(k<=40->∀j,j<i->dep d (p.L.g j))) 41 _ (by omega) ⟨rfl,40-d+1,rfl,by omega,by omega,by omega,fun _ j b=>Jo b (by omega)⟩ ?_;rintro f i x1 x2 q ⟨rfl,k,rfl,h1,c,s,l⟩ hs;by_cases hc:i<p.L.n/\k<=40
   .refine ifT (by simp only[Bool.and_eq_true,Jv];omega) (Bc ?_);obtain⟨r,m,r1,r2,r3⟩:=PA o (40-k) (by omega) (p.L.g i) M (by omega);rw[show ((40-(40-k):Nat):Int)=(k:Int) by omega]at m;refine H0 (by rw[Int.toNat_natCast];exact m) (hs (by omega) _ _ ⟨Ia,r,rfl,by omega,r2,by omega,fun a j b=>?_⟩);by_cases e:j=i
    .subst e;exact YP _ _ (r3 a) d (by omega)
    exact l hc.2 j (by omega)
   refine ifF (by simp only[Bool.and_eq_true,Jv];omega) ⟨_,rfl,k,rfl,by omega,c,fun hk=>⟨by omega,fun j b=>l hk j (by omega)⟩⟩
  obtain⟨x,h1,r,rfl,c⟩:=this;exact⟨r,h1,c⟩
def Kc:∀(d:Nat) (p:Pat),dep d p->∀M,100+d<=M->∃r,T7 M p=some r
 |0,p,h,M,_=>h.elim
 |d+1,p,h,0,hM=>by omega
 |d+1,p,h,M+1,hM=>by
  suffices ∃r,T7 (M+1) p=some r/\True by obtain⟨r,h,_⟩:=this;exact⟨r,h⟩
  show ∃x,R9 (T7 M) M p=some x/\_;unfold R9;have hn:=h.1;refine Ez (fun i x1 x2=>x2=(i:Int)) p.L.n _ (by omega) rfl ?_;rintro a i x1 x2 c rfl hs;by_cases hl:i<p.L.n
  .obtain⟨r,b⟩:=Kc d (p.L.g i) (h.2 i hl) M (by omega);exact Bz (Bc (H0 (by rw[Int.toNat_natCast];exact b) (hs hl _ _ (Ia))))
  exact Em ⟨_,rfl,trivial⟩
def NF {N:Nat}(b:2000<=N)(p:Pat):∃r:Nat,Ah N p=some (r:Int)/\(r<=40->dep 41 p):=by obtain⟨r,h1,_,_,a⟩:=PA (N:=1000) (by omega) 40 (by omega) p N (by omega);exact⟨r,by unfold Ah;rw[show X1 N p 0=some (r:Int) from h1];rfl,a⟩
def Yf {N:Nat}(f:2000<=N)(laws:Sl Law):∃r,Bm N laws=some r:=by
 suffices ∃r,Bm N laws=some r/\True by obtain⟨r,h,_⟩:=this;exact⟨r,h⟩
 unfold Bm;refine Ez (fun i x1 x2=>x2=(i:Int)) 301 _ (by omega) rfl ?_;rintro d i x1 x2 s rfl hs;by_cases hc:i<laws.n/\i<=300
 .refine ifT (by simp only[Bool.and_eq_true,Jv];omega) (Bc ?_);refine Ez (fun j x7 x8=>x8=(j:Int)) 2 _ (by omega) rfl ?_;rintro b j x7 x8 t rfl a;by_cases hl:j<2
  .refine ifT (by show decide ((j:Int)<((2:Nat):Int))=true;simp;omega) (ifT (by show (0:Int)<=(j:Int)/\(j:Int)<((2:Nat):Int);omega) ?_);obtain⟨r,l,m⟩:=NF f ((Sl.of [(laws.g (i:Int).toNat).Left,(laws.g (i:Int).toNat).Right]:Sl Pat).g (j:Int).toNat);refine H0 l ?_;by_cases c:r<=40
   .obtain⟨q,o⟩:=Kc 41 _ (m c) N (by omega);exact Bz (H0 o (a hl _ _ (Ia)))
   exact Em (a hl _ _ (Ia))
  exact ifF (by show ¬decide ((j:Int)<((2:Nat):Int))=true;simp;omega) (hs (by omega) _ _ (Ia))
 exact ifF (by simp only[Bool.and_eq_true,Jv];omega) ⟨_,rfl,trivial⟩
end Go.AM
namespace Go.AM
variable {N:Nat}
open IntKind (wrap)
open Go.Proofs
def KX (s:Str):Bool:=(decide (1<=s.length)&&decide (s.length<=24))&&s.all fun c=>NC ((c.toNat:Nat):Int)
def PB {s:Str}(m:s.length<N)(hs:s.length<1000000000){let_:Int->Option Bool}(hl:∀y,let_ y=some (NC y)){fin:Bool}(n:fin=(decide (1<=s.length)&&decide (s.length<=24))) :R4 N (fun (a:Int->Option Bool) (x1:Int)=>
  if (decide (x1<(s.length:Int))) then
   if ((0:Int)<=x1/\x1<(s.length:Int))then
    (let_ (U2 s x1)).bind fun y3=>
    if (!y3) then
     some false
    else
     a (wrap .i64 (x1+1))
   else none
  else
   some fin
 ) 0=some (KX s):=by
 suffices h:∃b,R4 N (fun (a:Int->Option Bool) (x1:Int)=>
  if (decide (x1<(s.length:Int))) then
   if ((0:Int)<=x1/\x1<(s.length:Int))then
    (let_ (U2 s x1)).bind fun y3=>
    if (!y3) then
     some false
    else
     a (wrap .i64 (x1+1))
   else none
  else
   some fin
  ) 0=some b/\b=KX s by obtain⟨b,h,rfl⟩:=h;exact h
 refine Aq (fun i x1=>x1=(i:Int)/\∀j (h:j<s.length),j<i->NC ((s[j].toNat:Nat):Int)=true) s.length _ m ⟨rfl,fun j _ f=>Jo f (by omega)⟩ ?_;rintro l i x1 q ⟨rfl,h⟩ g;by_cases d:i<s.length
 .have eb:U2 s (i:Int)=((s[i].toNat:Nat):Int):=by simp[U2,d]
  refine Bz (Bc (H0 (hl _) ?_));rw[eb];cases hb:NC ((s[i].toNat:Nat):Int)
  .refine ifT rfl ⟨false,rfl,?_⟩;symm;unfold KX;rw[Bool.and_eq_false_iff]
   right
   rw[List.all_eq_false];exact⟨s[i],List.getElem_mem d,by rw[hb];simp⟩
  refine Hg (g d _ ⟨Ia,fun j f o=>?_⟩);by_cases e:j=i
  .subst e;exact hb
  exact h j f (by omega)
 refine Em ⟨_,rfl,?_⟩;unfold KX;rw[n]
 have:(s.all fun c=>NC ((c.toNat:Nat):Int))=true:=List.all_eq_true.2 fun c hc=>by obtain⟨j,f,rfl⟩:=List.getElem_of_mem hc;exact h j f (by omega)
 rw[this,Bool.and_true]
def Wd {s:Str}(a:s.length<N)(hs:s.length<1000000000):AG N s=some (KX s):=by unfold AG;exact PB a hs (fun y=>rfl) (by rw[Bool.eq_iff_iff];simp;omega)
def Yg {s:Str}(a:s.length<N)(hs:s.length<1000000000):Bo N s=some (KX s):=by unfold Bo;exact PB a hs (fun y=>rfl) (by rw[Bool.eq_iff_iff];simp;omega)
def Aa5 (t:Sl G2)(v:Nat):Prop:=(v=0->(t.g 0).Parent = -1)/\(0<v->0<=(t.g v).Parent/\(t.g v).Parent<v)/\KX (t.g v).Name=true/\∀u,u<v->(t.g u).Name≠(t.g v).Name
def Fj (t:Sl G2):Prop:=1<=t.n/\t.n<=63/\∀v,v<t.n->Aa5 t v
def Uj (t:Sl G2)(e:Int):Prop:=(e=0/\Fj t) \/ (e=16/\¬Fj t)
def Uk {t:Sl G2}{e e' : Int}(h:Uj t e)(h' : Uj t e'):e=e':=by
 rcases h with⟨rfl,h⟩ | ⟨rfl,h⟩<;>rcases h' with⟨rfl,h'⟩ | ⟨rfl,h'⟩
 .rfl
 .exact Jo h h'
 .exact Jo h' h
 rfl
def NG (t:Sl G2):Prop:=∀v,v<t.n->(t.g v).Name.length<1100000
def We (y:3000000<=N){t:Sl G2}(ht:NG t):∃e,Am N t=some e/\Uj t e:=by
 unfold Am;by_cases z:t.n<1
 .exact ifT (fun h=>Jo h (by simp;omega)) (Bz ⟨16,rfl,.inr ⟨rfl,fun h=>by have:=h.1;omega⟩⟩)
 refine ifT (fun _ _=>by omega) ?_;by_cases h1:63<t.n
 .exact Bz ⟨16,rfl,.inr ⟨rfl,fun h=>by have:=h.2.1;omega⟩⟩
 by_cases m:(t.g 0).Parent = -1
 case neg=>exact ifT (by simp[m]) ⟨16,rfl,.inr ⟨rfl,fun h=>m ((h.2.2 0 (by omega)).1 rfl)⟩⟩
 refine ifF (by simp[m];omega) ?_;refine Aq (fun i x1=>x1=(i:Int)/\∀j,j<i->Aa5 t j) t.n _ (by omega) ⟨rfl,fun j x=>Jo x (by omega)⟩ ?_;rintro f i x1 hi ⟨rfl,h⟩ hs;by_cases a:i<t.n
 case neg=>exact Em ⟨0,rfl,.inl ⟨rfl,by omega,by omega,fun v hv=>h v (by omega)⟩⟩
 refine Bz (ltX ?_);have b:=Yg (N:=N) (s:=(t.g i).Name) (by have:=ht i a;omega) (by have:=ht i a;omega);have rest:(0<i->0<=(t.g i).Parent/\(t.g i).Parent<i)->∃r,(if (!KX (t.g i).Name) then some 16 else
  R4 N (fun (d:Int->Option Int) (x7:Int)=>
   if (decide (x7<(i:Int))) then
    if (((0:Int)<=x7/\x7<(t.n:Int))/\((0:Int)<=(i:Int)/\(i:Int)<(t.n:Int)))then
     if (((t.g x7.toNat).Name==(t.g (i:Int).toNat).Name) != false) then
      some 16
     else
      d (wrap .i64 (x7+1))
    else none
   else
    f (wrap .i64 ((i:Int)+1))
   ) 0)=some r/\Uj t r:=by
  intro hp;cases hb:KX (t.g i).Name
  .exact ifT rfl ⟨16,rfl,.inr ⟨rfl,fun h=>by have:=(h.2.2 i a).2.2.1;rw[hb]at this;cases this⟩⟩
  refine Hg ?_;refine Aq (fun k x7=>x7=(k:Int)/\∀u,u<k->(t.g u).Name≠(t.g i).Name) i _ (by omega) ⟨rfl,fun u o=>Jo o (by omega)⟩ ?_;rintro q k x7 hk ⟨rfl,h'⟩ w;by_cases l:k<i
  .refine Bz (Bc ?_);rw[Int.toNat_natCast,Int.toNat_natCast];by_cases e:(t.g k).Name=(t.g i).Name
   .exact ifT (by simp[e]) ⟨16,rfl,.inr ⟨rfl,fun h=>(h.2.2 i a).2.2.2 k l e⟩⟩
   refine ifF (by simp[e]) (w l _ ⟨Ia,fun u o=>?_⟩);by_cases e2:u=k
   .subst e2;exact e
   exact h' u (by omega)
  refine Em (hs a _ ⟨Ia,fun j x=>?_⟩);by_cases e:j=i
  .subst e;exact⟨fun e=>by subst e;exact m,hp,hb,fun u o=>h' u (by omega)⟩
  exact h j (by omega)
 by_cases c:0<i
 .refine Bz (Bc ?_);rw[Int.toNat_natCast];by_cases g1:(t.g i).Parent<0
  .exact ifT (by simpa using g1) (ifT rfl ⟨16,rfl,.inr ⟨rfl,fun h=>by have:=((h.2.2 i a).2.1 c).1;omega⟩⟩)
  refine ifF (by simpa using g1) (Bc ?_);by_cases g2:(i:Int)<=(t.g i).Parent
  .exact ifT (by simpa using g2) (ifT rfl ⟨16,rfl,.inr ⟨rfl,fun h=>by have:=((h.2.2 i a).2.1 c).2;omega⟩⟩)
  exact ifF (by simpa using g2) (Bc (H0 b (rest fun _=>⟨by omega,by omega⟩)))
 exact Em (Bc (H0 (by rw[Int.toNat_natCast];exact b) (rest fun h=>Jo h c)))
def Ho {ν : Type}{k s:Str}{v : ν}:∀es:List (Str × ν),By eqS s (MI eqS k v es)=if s=k then some v else By eqS s es
 |[]=>by simp only[MI,By];by_cases h:s=k<;>simp[eqS,h]
 |(a,x)::es=>by
  simp only[MI];by_cases h:k=a
  .subst h;rw[Jl (by simp[eqS])];simp only[By];by_cases b:s=k<;>simp[eqS,b]
  rw[Jm (by simp[eqS,h])];simp only[By];rw[Ho es];by_cases b:s=k
  .subst b;simp[eqS,h]
  simp[b]
def Sy {ν : Type}{k:Str}{v : ν}:∀{es:List (Str × ν)},By eqS k es=none->(MI eqS k v es).length=es.length+1
 |[],_=>rfl
 |(a,x)::es,h=>by
  simp only[By]at h;simp only[MI];by_cases e:eqS k a=true
  .rw[Jl e]at h;cases h
  rw[Jm e]at h;rw[Jm e,List.length_cons,Sy h];rfl
def Sz {ν : Type}{k:Str}{v x : ν}:∀{es:List (Str × ν)},By eqS k es=some x->(MI eqS k v es).length=es.length
 |[],h=>by cases h
 |(a,y)::es,h=>by
  simp only[By]at h;simp only[MI];by_cases e:eqS k a=true
  .rw[Jl e];rfl
  rw[Jm e]at h;rw[Jm e,List.length_cons,Sz h];rfl
def Wf (m:3000000<=N){t:Sl G2}(ht:NG t):∃e,S6 N t=some e/\Uj t e:=by
 unfold S6;by_cases o:t.n=0 \/ 63<t.n
 .exact Bz ⟨16,rfl,.inr ⟨rfl,fun h=>by have g1:=h.1;have g2:=h.2.1;omega⟩⟩
 refine Em ?_;refine Ez (fun i (x2:List (Str×Bool)) x3=>x3=(i:Int)/\(∀j,j<i->Aa5 t j)/\∀s,(By eqS s x2=some true/\∃u,u<i/\(t.g u).Name=s) \/ (By eqS s x2=none/\∀u,u<i->(t.g u).Name≠s)) t.n _ (by omega) ⟨rfl,fun j f=>Jo f (by omega),fun s=>.inr ⟨rfl,fun u c=>Jo c (by omega)⟩⟩ ?_;rintro l i x2 x3 q ⟨rfl,h,hm⟩ hs;by_cases a:i<t.n
 case neg=>exact Em ⟨0,rfl,.inl ⟨rfl,by omega,by omega,fun v r=>h v (by omega)⟩⟩
 refine Bz (Bc (ltX ?_));rw[Int.toNat_natCast];have b:=Wd (N:=N) (s:=(t.g i).Name) (by have:=ht i a;omega) (by have:=ht i a;omega);have e1:(if 0<wrap .i64 ((i:Int)-1)then (0:Int)else wrap .i64 ((i:Int)-1))=if i=0 then -1 else 0:=by rw[W8 (by omega) (by omega)];split<;>split<;>omega
 rw[e1];by_cases g1:(i:Int)<=(t.g i).Parent
 .refine ifT (by simpa using g1) (ifT rfl ⟨16,rfl,.inr ⟨rfl,fun h=>?_⟩⟩);have hk:=h.2.2 i a;by_cases d:i=0
  .subst d;have:=hk.1 rfl;omega
  have:=(hk.2.1 (by omega)).2;omega
 refine ifF (by simpa using g1) ?_;by_cases g2:(t.g i).Parent<if i=0 then -1 else 0
 .refine ifT (by simpa using g2) (ifT rfl ⟨16,rfl,.inr ⟨rfl,fun h=>?_⟩⟩);have hk:=h.2.2 i a;by_cases d:i=0
  .subst d;have:=hk.1 rfl;simp at g2;omega
  have:=(hk.2.1 (by omega)).1;simp[d]at g2;omega
 refine ifF (by simpa using g2) (H0 b ?_);cases hb:KX (t.g i).Name
 .exact ifT rfl (ifT rfl ⟨16,rfl,.inr ⟨rfl,fun h=>by have:=(h.2.2 i a).2.2.1;rw[hb]at this;cases this⟩⟩)
 refine Hg ?_;rcases hm (t.g i).Name with⟨e,u,c,hn⟩ | ⟨e,hn⟩
 .rw[e];exact⟨16,rfl,.inr ⟨rfl,fun h=>(h.2.2 i a).2.2.2 u c hn⟩⟩
 rw[e,OF];refine ifF (show ¬false=true by simp) (hs a _ _ ⟨Ia,fun j f=>?_,fun s=>?_⟩)
 .by_cases e:j=i
  .subst e;refine⟨fun e=>?_,fun hp=>?_,hb,hn⟩
   .subst e;simp at g2;omega
   have:¬j=0:=by omega
   simp[this]at g2;omega
  exact h j (by omega)
 rw[Ho];by_cases e:s=(t.g i).Name
 .exact .inl ⟨by rw[Jl e],i,by omega,e.symm⟩
 rw[Jm e];rcases hm s with⟨g,u,c,hn⟩ | ⟨g,hn⟩
 .exact .inl ⟨g,u,by omega,hn⟩
 refine .inr ⟨g,fun u c=>?_⟩;by_cases e2:u=i
 .subst e2;exact fun h=>e h.symm
 exact hn u (by omega)
def SA (a:3000000<=N){t:Sl G2}(ht:NG t):∃e,S6 N t=some e/\Am N t=some e/\Uj t e:=by obtain⟨e,h1,b⟩:=Wf a ht;obtain⟨e',c,d⟩:=We a ht;obtain rfl:=Uk b d;exact⟨_,h1,c,b⟩
end Go.AM
namespace Go.AM
open IntKind (wrap)
open Go.Proofs
structure Z8 (h:A5):Prop where
 laws:Sw h.Laws
 tree:NG h.Tree
 on:h.On.n<1100000
 len:∀v,v<h.On.n->(h.On.g v).n<1100000
def S9 (h:A5)(v:Nat):Sl Int:= if hp:0<=(h.Tree.g v).Parent/\(h.Tree.g v).Parent<v then (S9 h (h.Tree.g v).Parent.toNat).app (h.On.g v)else Na.app (h.On.g v)
termination_by v
decreasing_by omega
def Bq {h:A5}{v:Nat}(a:(h.Tree.g v).Parent<0):S9 h v=Na.app (h.On.g v):=by rw[S9,dif_neg (by omega)]
def Cb {h:A5}{v p:Nat}(a:(h.Tree.g v).Parent=(p:Int))(hp:p<v):S9 h v=(S9 h p).app (h.On.g v):=by rw[S9,dif_pos (by omega),a,Int.toNat_natCast]
def EB {t:Sl G2}(ht:Fj t){v:Nat}(a:v<t.n):(v=0/\(t.g v).Parent = -1) \/ ∃p:Nat,p<v/\(t.g v).Parent=(p:Int):=by
 have hk:=ht.2.2 v a;by_cases b:v=0
 .subst b;exact .inl ⟨rfl,hk.1 rfl⟩
 obtain⟨g1,g2⟩:=hk.2.1 (by omega);exact .inr ⟨(t.g v).Parent.toNat,by omega,by omega⟩
def Ro {h:A5}(a:Z8 h)(ht:Fj h.Tree)(hn:h.On.n=h.Tree.n):∀(m v:Nat),v<=m->v<h.Tree.n->(S9 h v).n<=(v+1)*1100000
 |m,v,hm,hv=>by
  have hl:=a.len v (by omega);rcases EB ht hv with⟨_,e⟩ | ⟨p,hp,e⟩
  .rw[Bq (by omega)];show 0+(h.On.g v).n<=_;omega
  rw[Cb e hp]
  match m with
  |0=>omega
  |m+1=>
   have:=Ro a ht hn m p (by omega) (by omega)
   show (S9 h p).n+(h.On.g v).n<=_;have b:(p+1)*1100000+1100000<=(v+1)*1100000:=by omega
   omega
def PC {h:A5}(a:Z8 h)(ht:Fj h.Tree)(hn:h.On.n=h.Tree.n):∀(M v:Nat),v+2<=M->v<h.Tree.n->An M h (v:Int)=some (S9 h v)
 |0,v,hM,_=>by omega
 |M+1,v,hM,hv=>by
  have b:=ht.2.1;show S5 (An M) M h (v:Int)=_;unfold S5;rw[Jm (by simp),J8,Int.toNat_natCast];have hl:=a.len v (by omega);rcases EB ht hv with⟨c,e⟩ | ⟨p,hp,e⟩
  .rw[e,Bq (by omega)]
   have:An M h (-1)=some Na:=by obtain⟨K,rfl⟩:∃K,M=K+1:=⟨M-1,by omega⟩;show S5 (An K) K h (-1)=_;unfold S5;rw[Jl (by decide)]
   rw[this,Option.bind_some,Jl ⟨by omega,by show (0+(h.On.g v).n)*8<=_/\0+(h.On.g v).n<=_;omega⟩]
  have hb:=Ro a ht hn p p (Nat.le_refl _) (by omega);rw[e,PC a ht hn M p (by omega) (by omega),Option.bind_some,Cb e hp,Jl ⟨by omega,by omega⟩]
def KY (h:A5):Prop:=∃v,v<h.On.n/\64<(S9 h v).n
def Wg (h:A5)(v:Nat):Prop:=∃k,k<(h.On.g v).n/\((h.On.g v).g k<0 \/ (h.Laws.n:Int)<=(h.On.g v).g k)
def Wh (h:A5)(e:Int):Prop:=(KY h/\e=2) \/ (¬KY h/\(∃v,v<h.On.n/\Wg h v)/\e=3) \/ (¬KY h/\(∀v,v<h.On.n->¬Wg h v)/\e=0)
def Wi {N:Nat}(hN:3000000<=N){h:A5}(hi:Z8 h)(ht:Fj h.Tree)(hn:h.On.n=h.Tree.n):∃e,S7 N h=some e/\Wh h e:=by
 have h63:=ht.2.1;unfold S7;refine Bc ?_;refine loop3 (fun i (x4:Sl Int) (x5:Bool) x6=>x6=(i:Int)/\x4.n=h.On.n/\(∀v,v<i->x4.g v=((S9 h v).n:Int)/\(S9 h v).n<=64)/\(x5=true ↔ ∃v,v<i/\Wg h v)) h.On.n _ (by omega) ⟨rfl,by show ((h.On.n:Nat):Int).toNat=_;omega,fun v b=>Jo b (by omega),⟨fun g=>(by cases g),fun⟨v,b,_⟩=>Jo b (by omega)⟩⟩ ?_;rintro m i x4 x5 x6 hle ⟨rfl,hx,hp,hb⟩ hs;by_cases o:i<h.On.n
 case neg=>
  refine Em ?_;have hl:¬KY h:=fun⟨v,b,hl⟩=>by have:=(hp v (by omega)).2;omega
  cases x5
  .exact Hg ⟨0,rfl,.inr (.inr ⟨hl,fun v b g=>(by have:=hb.2 ⟨v,by omega,g⟩;cases this),rfl⟩)⟩
  obtain⟨v,b,g⟩:=hb.1 rfl;exact ifT rfl ⟨3,rfl,.inr (.inl ⟨hl,⟨v,by omega,g⟩,rfl⟩)⟩
 refine Bz (ifT (by rw[Int.toNat_natCast];omega) (Bc (ltX ?_)));rw[Int.toNat_natCast];have hl:=hi.len i (by omega);have hlb:=Ro hi ht hn i i (Nat.le_refl _) (by omega);have rest:∀z:Sl Int,z.n=h.On.n->(∀v,v<i->z.g v=x4.g v)->z.g i=((S9 h i).n:Int)->∃r,(if (((0:Int)<=(i:Int)/\(i:Int)<(z.n:Int))/\i<z.n)then
  if (decide (64<(z.g i))) then
   some 2
  else
   BQ N (fun (d:Bool->Int->Option Int) (c:Bool) (a:Int)=>
    if (decide (a<((h.On.g i).n:Int))) then
     if ((0:Int)<=a/\a<((h.On.g i).n:Int))then
      d ((c||(decide (((h.On.g i).g a.toNat)<0)))||(decide ((h.Laws.n:Int)<=((h.On.g i).g a.toNat)))) (wrap .i64 (a+1))
     else none
    else
     m z c (wrap .i64 ((i:Int)+1))
    ) x5 0
  else none)=some r/\Wh h r:=by
  intro z hz u q;refine Bc ?_;rw[q];by_cases w:64<(S9 h i).n
  .exact Bz ⟨2,rfl,.inl ⟨⟨i,o,w⟩,rfl⟩⟩
  refine Em ?_;refine Ez (fun k (c:Bool) a=>a=(k:Int)/\(c=true↔(∃v,v<i/\Wg h v) \/ ∃j,j<k/\j<(h.On.g i).n/\((h.On.g i).g j<0 \/ (h.Laws.n:Int)<=(h.On.g i).g j))) (h.On.g i).n _ (by omega) ⟨rfl,hb.trans ⟨fun g=>.inl g,fun g=>g.resolve_right fun⟨j,f,_⟩=>Jo f (by omega)⟩⟩ ?_;rintro x k c a hk ⟨rfl,s⟩ y;by_cases l:k<(h.On.g i).n
  .refine Bz (Bc (y l _ _ ⟨Ia,?_⟩));rw[Int.toNat_natCast,Bool.or_eq_true,Bool.or_eq_true,s,Jv,Jv];constructor
   .rintro (((g|⟨j,f,g⟩)|g)|g)
    .exact .inl g
    .exact .inr ⟨j,by omega,g⟩
    .exact .inr ⟨k,by omega,l,.inl g⟩
    exact .inr ⟨k,by omega,l,.inr g⟩
   rintro (g|⟨j,f,a0,g⟩)
   .exact .inl (.inl (.inl g))
   by_cases e:j=k
   .subst e;rcases g with g|g
    .exact .inl (.inr g)
    exact .inr g
   exact .inl (.inl (.inr ⟨j,by omega,a0,g⟩))
  refine Em (hs o _ _ _ ⟨Ia,hz,fun v b=>?_,s.trans ?_⟩)
  .by_cases e:v=i
   .subst e;exact⟨q,by omega⟩
   rw[u v (by omega)];exact hp v (by omega)
  constructor
  .rintro (⟨v,b,g⟩ | ⟨j,_,f,g⟩)
   .exact⟨v,by omega,g⟩
   exact⟨i,by omega,j,f,g⟩
  rintro⟨v,b,g⟩;by_cases e:v=i
  .subst e;obtain⟨j,f,g⟩:=g;exact .inr ⟨j,by omega,f,g⟩
  exact .inl ⟨v,by omega,g⟩
 rcases EB ht (v:=i) (by omega)with⟨_,e⟩ | ⟨p,t,e⟩
 .rw[e];refine Hh (rest _ hx (fun v b=>?_) ?_)
  .show (if v=i then _ else x4.g v)=_;rw[Ji]
  show (if i=i then ((h.On.g i).n:Int)else _)=_;rw[Jl rfl,Bq (by omega)];show _=((0+(h.On.g i).n:Nat):Int);omega
 have a1:=hp p t;rw[e];refine Ch (ifT ?_ ?_)
 .show ((((((0:Int)<=(i:Int)/\(i:Int)<(x4.n:Int))/\i<x4.n)/\(0:Int)<=(p:Int)/\(p:Int)<(x4.n:Int))/\(p:Int).toNat<x4.n)/\(0:Int)<=(i:Int)/\(i:Int)<(x4.n:Int))/\i<x4.n;omega
 rw[Int.toNat_natCast];refine rest _ hx (fun v b=>?_) ?_
 .show (if v=i then _ else if v=i then _ else x4.g v)=_;rw[Ji,Ji]
 show (if i=i then wrap .i64 ((if i=i then ((h.On.g i).n:Int)else _)+(if p=i then _ else x4.g p))else _)=_;rw[Jl rfl,Jl rfl,Ji,a1.1,Cb e t,W8 (by omega) (by omega)];show _=(((S9 h p).n+(h.On.g i).n:Nat):Int);omega
end Go.AM
namespace Go.AM
variable {N:Nat}
open Go.Proofs
def Yh (h:A5)(i:Nat):Prop:=∃u v,u<v/\v<i/\(h.Laws.g u).Name=(h.Laws.g v).Name
open Classical in
noncomputable def hres (N:Nat) (h:A5):Int:= if ¬Fj h.Tree then 16 else if 64<h.Laws.n then 12 else if ∃i,i<h.Laws.n/\¬chkAll N (h.Laws.g i)then 17 else if Yh h h.Laws.n then 6 else if h.On.n≠h.Tree.n then 2 else if KY h then 2 else if ∃v,v<h.On.n/\Wg h v then 3 else 0
structure EC (N:Nat) (h:A5):Prop where
 tree:Fj h.Tree
 laws:Sx N h.Laws
 dup:¬Yh h h.Laws.n
 on:h.On.n=h.Tree.n
 long:¬KY h
 bad:∀v,v<h.On.n->¬Wg h v
def hres_zero {h:A5}:hres N h=0↔EC N h:=by
 unfold hres;constructor
 .intro g;split at g
  .cases g
  split at g
  .cases g
  split at g
  .cases g
  split at g
  .cases g
  split at g
  .cases g
  split at g
  .cases g
  split at g
  .cases g
  rename_i h1 n c d f j l;exact⟨Classical.not_not.1 h1,⟨by omega,fun i a=>Classical.byContradiction fun hn=>c ⟨i,a,hn⟩⟩,d,Classical.not_not.1 f,j,fun v b hb=>l ⟨v,b,hb⟩⟩
 intro g;have m:=g.laws.1;rw[Jm (fun k=>k g.tree),Ji,Jm (fun⟨i,a,hn⟩=>hn (g.laws.2 i a)),Jm g.dup,Jm (fun k=>k g.on),Jm g.long,Jm (fun⟨v,b,hb⟩=>g.bad v b hb)]
def CT {h:A5}(h1:Fj h.Tree)(a:Sx N h.Laws)(b:¬Yh h h.Laws.n)(c:h.On.n=h.Tree.n){e:Int}(d:Wh h e):e=hres N h:=by
 have f:=a.1;unfold hres;rw[Jm (fun k=>k h1),Ji,Jm (fun⟨i,j,hn⟩=>hn (a.2 i j)),Jm b,Jm (fun k=>k c)];rcases d with⟨g,rfl⟩ | ⟨g,g2,rfl⟩ | ⟨g,g2,rfl⟩
 .rw[Jl g]
 .rw[Jm g,Jl g2]
 rw[Jm g,Jm (fun⟨v,l,hb⟩=>g2 v l hb)]
def Hq (z:3000000<=N){h:A5}(o:Z8 h):D4 N h=some (hres N h):=by
 suffices g:∃r,D4 N h=some r/\r=hres N h by obtain⟨r,g,rfl⟩:=g;exact g
 obtain⟨e,e1,_,he⟩:=SA z o.tree;unfold D4;refine H0 e1 ?_;rcases he with⟨rfl,ht⟩ | ⟨rfl,ht⟩
 case inr=>exact Ci ⟨16,rfl,by unfold hres;rw[Jl ht]⟩
 refine Hh ?_;by_cases c:64<h.Laws.n
 .exact Bz ⟨12,rfl,by unfold hres;rw[Jm (fun k=>k ht),Jl c]⟩
 refine Em ?_;refine Ez (fun i (x1:List (Str×Int)) x2=>x2=(i:Int)/\(∀j,j<i->chkAll N (h.Laws.g j))/\(∀s,(By eqS s x1=none/\∀u,u<i->(h.Laws.g u).Name≠s) \/ (∃v,By eqS s x1=some v)/\∃u,u<i/\(h.Laws.g u).Name=s)/\((Yh h i/\x1.length<i) \/ (¬Yh h i/\x1.length=i))) h.Laws.n _ (by omega)
  ⟨rfl,fun j hj=>Jo hj (by omega),fun s=>.inl ⟨rfl,fun u q=>Jo q (by omega)⟩,.inr ⟨fun⟨u,v,_,hv,_⟩=>Jo hv (by omega),rfl⟩⟩ ?_
 rintro self i x1 x2 hle ⟨rfl,hc,hm,hl⟩ hs;by_cases d:i<h.Laws.n
 .obtain⟨y,y1,_,hy⟩:=Py z (o.laws i d);refine Bz (Bc (H0 (by rw[Int.toNat_natCast];exact y1) ?_));rcases hy with⟨rfl,hy⟩ | ⟨rfl,hy⟩
  case inr=>exact Ci ⟨17,rfl,by unfold hres;rw[Jm (fun k=>k ht),Jm c,Jl ⟨i,d,hy⟩]⟩
  refine Hh ?_;rw[Int.toNat_natCast];have t : ∀j,j<i+1->chkAll N (h.Laws.g j):=fun j hj=>by
   by_cases e:j=i
   .subst e;exact hy
   exact hc j (by omega)
  have look:∀(v:Int) (s:Str),(By eqS s (MI eqS (h.Laws.g i).Name v x1)=none/\∀u,u<i+1->(h.Laws.g u).Name≠s) \/ (∃w,By eqS s (MI eqS (h.Laws.g i).Name v x1)=some w)/\∃u,u<i+1/\(h.Laws.g u).Name=s:=by
   intro v s;rw[Ho];by_cases e:s=(h.Laws.g i).Name
   .exact .inr ⟨⟨v,by rw[Jl e]⟩,i,by omega,e.symm⟩
   rw[Jm e];rcases hm s with⟨g,g2⟩ | ⟨g,u,q,g2⟩
   .refine .inl ⟨g,fun u q=>?_⟩;by_cases e2:u=i
    .subst e2;exact fun k=>e k.symm
    exact g2 u (by omega)
   exact .inr ⟨g,u,by omega,g2⟩
  rcases hm (h.Laws.g i).Name with⟨g,g2⟩ | ⟨⟨v,g⟩,u,q,g2⟩
  .rw[g,OF];refine hs d _ _ ⟨Ia,t,look _,?_⟩;rw[Sy g];rcases hl with⟨⟨a,b,f,hb,hn⟩,hl⟩ | ⟨m,hl⟩
   .exact .inl ⟨⟨a,b,f,by omega,hn⟩,by omega⟩
   refine .inr ⟨fun⟨a,b,f,hb,hn⟩=>?_,by omega⟩;by_cases e:b=i
   .subst e;exact g2 a f hn
   exact m ⟨a,b,f,by omega,hn⟩
  rw[g,Vv];refine hs d _ _ ⟨Ia,t,look _,?_⟩;rw[Sz g];refine .inl ⟨⟨u,i,q,by omega,g2⟩,?_⟩;rcases hl with⟨_,hl⟩ | ⟨_,hl⟩<;>omega
 obtain rfl:i=h.Laws.n:=by omega
 have hok:Sx N h.Laws:=⟨by omega,hc⟩;have x:¬ ∃i,i<h.Laws.n/\¬chkAll N (h.Laws.g i):=fun⟨i,o,hn⟩=>hn (hc i o);refine Hg ?_;rw[Qp];rcases hl with⟨m,hl⟩ | ⟨m,hl⟩
 .exact Bz ⟨6,rfl,by unfold hres;rw[Jm (fun k=>k ht),Jm c,Jm x,Jl m]⟩
 refine Em ?_;by_cases l:h.On.n=h.Tree.n
 case neg=>exact Bz ⟨2,rfl,by unfold hres;rw[Jm (fun k=>k ht),Jm c,Jm x,Jm m,Jl l]⟩
 refine ifF (by simp[l]) ?_;obtain⟨e,e1,he⟩:=Wi z o ht l;exact H0 e1 ⟨e,rfl,CT ht hok m l he⟩
def GO (hN:3000000<=N){h:A5}(q:Z8 h):Ao N h=some (hres N h):=by
 suffices g:∃r,Ao N h=some r/\r=hres N h by obtain⟨r,g,rfl⟩:=g;exact g
 obtain⟨e,_,e1,he⟩:=SA hN q.tree;unfold Ao;refine H0 e1 ?_;rcases he with⟨rfl,ht⟩ | ⟨rfl,ht⟩
 case inr=>exact Ci ⟨16,rfl,by unfold hres;rw[Jl ht]⟩
 refine Hh ?_;by_cases f:64<h.Laws.n
 .exact Bz ⟨12,rfl,by unfold hres;rw[Jm (fun k=>k ht),Jl f]⟩
 refine Em ?_;refine Aq (fun i x1=>x1=(i:Int)/\∀j,j<i->chkAll N (h.Laws.g j)) h.Laws.n _ (by omega) ⟨rfl,fun j s=>Jo s (by omega)⟩ ?_;rintro self i x1 hle ⟨rfl,hc⟩ hs;by_cases a:i<h.Laws.n
 .obtain⟨y,_,y1,hy⟩:=Py hN (q.laws i a);refine Bz (Bc (H0 (by rw[Int.toNat_natCast];exact y1) ?_));rcases hy with⟨rfl,hy⟩ | ⟨rfl,hy⟩
  case inr=>exact Ci ⟨17,rfl,by unfold hres;rw[Jm (fun k=>k ht),Jm f,Jl ⟨i,a,hy⟩]⟩
  refine Hh (hs a _ ⟨Ia,fun j s=>?_⟩);by_cases e:j=i
  .subst e;exact hy
  exact hc j (by omega)
 obtain rfl:i=h.Laws.n:=by omega
 have l:Sx N h.Laws:=⟨by omega,hc⟩;have w:¬ ∃i,i<h.Laws.n/\¬chkAll N (h.Laws.g i):=fun⟨i,q,hn⟩=>hn (hc i q);refine Hg ?_;refine Aq (fun i x1=>x1=(i:Int)/\¬Yh h i) h.Laws.n _ (by omega) ⟨rfl,fun⟨u,v,_,d,_⟩=>Jo d (by omega)⟩ ?_;rintro a3 i x1 hle2 ⟨rfl,t⟩ a4;by_cases a:i<h.Laws.n
 .refine Bz ?_;refine Aq (fun k x5=>x5=(k:Int)/\∀u,u<k->(h.Laws.g u).Name≠(h.Laws.g i).Name) i _ (by omega) ⟨rfl,fun u hu=>Jo hu (by omega)⟩ ?_;rintro a5 k x5 hk ⟨rfl,x⟩ a6;by_cases z:k<i
  .refine Bz (Bc ?_);rw[Int.toNat_natCast,Int.toNat_natCast];by_cases e:(h.Laws.g k).Name=(h.Laws.g i).Name
   .exact ifT (by simp[e]) ⟨6,rfl,by unfold hres;rw[Jm (fun k=>k ht),Jm f,Jm w,Jl ⟨k,i,z,a,e⟩]⟩
   refine ifF (by simp;exact fun g=>e g.symm) (a6 z _ ⟨Ia,fun u hu=>?_⟩);by_cases e2:u=k
   .subst e2;exact e
   exact x u (by omega)
  refine Em (a4 a _ ⟨Ia,fun⟨u,v,a7,d,hn⟩=>?_⟩);by_cases e:v=i
  .subst e;exact x u (by omega) hn
  exact t ⟨u,v,a7,by omega,hn⟩
 obtain rfl:i=h.Laws.n:=by omega
 refine Hg ?_;by_cases b:h.On.n=h.Tree.n
 case neg=>exact Bz ⟨2,rfl,by unfold hres;rw[Jm (fun k=>k ht),Jm f,Jm w,Jm t,Jl b]⟩
 refine ifF (by simp[b]) ?_;have h63:=ht.2.1;refine Aq (fun i x1=>x1=(i:Int)/\∀v,v<i->¬ 64<(S9 h v).n) h.On.n _ (by omega) ⟨rfl,fun v d=>Jo d (by omega)⟩ ?_;rintro a8 i x1 hle3 ⟨rfl,a0⟩ a9;by_cases a:i<h.On.n
 .refine Bz (H0 (PC q ht b N i (by omega) (by omega)) ?_);by_cases hg:64<(S9 h i).n
  .exact Bz ⟨2,rfl,CT ht l t b (.inl ⟨⟨i,a,hg⟩,rfl⟩)⟩
  refine Em (a9 a _ ⟨Ia,fun v d=>?_⟩);by_cases e:v=i
  .subst e;exact hg
  exact a0 v (by omega)
 refine Em ?_;have m:¬KY h:=fun⟨v,d,g⟩=>a0 v (by omega) g;refine Aq (fun i x1=>x1=(i:Int)/\∀v,v<i->¬Wg h v) h.On.n _ (by omega) ⟨rfl,fun v d=>Jo d (by omega)⟩ ?_;rintro b0 i x1 hle4 ⟨rfl,a1⟩ b1;by_cases c:i<h.On.n
 .have hl:=q.len i c;refine Bz ?_;refine Aq (fun k x1=>x1=(k:Int)/\∀j,j<k->¬((h.On.g i).g j<0 \/ (h.Laws.n:Int)<=(h.On.g i).g j)) (h.On.g i).n _ (by omega) ⟨rfl,fun j s=>Jo s (by omega)⟩ ?_;rintro b2 k x1 hk ⟨rfl,a2⟩ b3;refine Bc ?_;rw[Int.toNat_natCast,Int.toNat_natCast];by_cases o:k<(h.On.g i).n
  .refine Bz (Bc ?_);by_cases g1:(h.On.g i).g k<0
   .exact ifT (by simpa using g1) ⟨3,rfl,CT ht l t b (.inr (.inl ⟨m,⟨i,c,k,o,.inl g1⟩,rfl⟩))⟩
   refine ifF (by simpa using g1) (Bc ?_);by_cases g2:(h.Laws.n:Int)<=(h.On.g i).g k
   .exact ifT (by simpa using g2) ⟨3,rfl,CT ht l t b (.inr (.inl ⟨m,⟨i,c,k,o,.inr g2⟩,rfl⟩))⟩
   refine ifF (by simpa using g2) (b3 o _ ⟨Ia,fun j s=>?_⟩);by_cases e:j=k
   .subst e;exact fun g=>g.elim g1 g2
   exact a2 j (by omega)
  refine Em (b1 c _ ⟨Ia,fun v d=>?_⟩);by_cases e:v=i
  .subst e;exact fun⟨j,s,g⟩=>a2 j (by omega) g
  exact a1 v (by omega)
 exact Em ⟨0,rfl,CT ht l t b (.inr (.inr ⟨m,fun v d=>a1 v (by omega),rfl⟩))⟩
end Go.AM
namespace Go.AM
open Go.Proofs
def FN:∀(d:Nat) (p:Pat),okP d p->∀M,100+d<=M->∃q,K9 M p=some q/\PE p q
 |0,p,h,M,_=>h.elim
 |d+1,p,h,0,hM=>by omega
 |d+1,p,h,M+1,hM=>by
  show ∃q,N0 (K9 M) M p=some q/\_;unfold N0;have hn:=h.1;refine Ez (fun i (x1:Sl Pat) x2=>x2=(i:Int)/\x1.n=i/\∀j,j<i->PE (p.L.g j) (x1.g j)) p.L.n _ (by omega) ⟨rfl,rfl,fun j a=>Jo a (by omega)⟩ ?_;rintro c i x1 x2 f ⟨rfl,hx,a⟩ hs;by_cases hl:i<p.L.n
  .obtain⟨q,q1,q2⟩:=FN d (p.L.g i) (h.2.2 i hl) M (by omega);refine Bz (Bc (H0 (by rw[Int.toNat_natCast];exact q1) (ifT (by show (x1.n+1)*64<=_/\x1.n+1<=_;omega) (hs hl _ _ ⟨Ia,by show x1.n+1=_;omega,fun j b=>?_⟩))));show PE _ (if j<x1.n then x1.g j else q);by_cases e:j=i
   .subst e;rw[Ji];exact q2
   rw[J8];exact a j (by omega)
  exact Em ⟨_,rfl,PE_of.2 ⟨rfl,rfl,rfl,rfl,rfl,by show x1.n=_;omega,fun j b=>a j (by omega)⟩⟩
def Ul {N:Nat}(d:3000000<=N){l:Law}(hl:ND l)(hc:chkAll N l):∃l',N3 N l=some l' /\ LE l l':=by have a:=hc.f hl;obtain⟨_,h1,b,g,c,_⟩:=a;have i:=c.1;obtain⟨q1,e1,g1⟩:=FN 40 l.Left (VU 40 _ (by omega) h1 _ (by simp)) N (by omega);obtain⟨q2,e2,g2⟩:=FN 40 l.Right (VU 40 _ (by omega) b _ (by simp)) N (by omega);unfold N3 A8 E7;rw[e1,e2,Option.bind_some,Option.bind_some,J8,Option.bind_some,J8];exact⟨_,rfl,rfl,g1,g2,SE.refl _,SE.refl _,rfl⟩
end Go.AM
namespace Go.AM
open Go.Proofs
def Aa6 {N:Nat}{h:A5}(a:EC N h){x:Nat}(hx:x<h.Tree.n):(h.On.g x).n<=64/\∀i,i<(h.On.g x).n->0<=(h.On.g x).g i/\(h.On.g x).g i<h.Laws.n:=by
 have c:=a.on;refine⟨?_,fun j b=>?_⟩
 .have hl:(S9 h x).n<=64:=Nat.le_of_not_lt fun g=>a.long ⟨x,by omega,g⟩;rcases EB a.tree hx with⟨_,e⟩ | ⟨p,hp,e⟩
  .rw[Bq (by omega)]at hl;have hl:0+(h.On.g x).n<=64:=hl;omega
  rw[Cb e hp]at hl;have hl:(S9 h p).n+(h.On.g x).n<=64:=hl;omega
 have:=a.bad x (by omega)
 constructor
 .exact Int.not_lt.1 fun g=>this ⟨j,b,.inl g⟩
 exact Int.not_le.1 fun g=>this ⟨j,b,.inr g⟩
end Go.AM
namespace Go.AM
open Go.Proofs
def eqR {R:Type}{x:Option R}{y:R}(h:∃r,x=some r/\r=y):x=some y:=by obtain⟨r,h,rfl⟩:=h;exact h
end Go.AM
namespace Go.AM
open Go.Proofs
end Go.AM
namespace Go.AM
open Go.Proofs
end Go.AM
namespace Go.AM
open Go.Proofs
def Wj {N:Nat}(t:3000000<=N)(h:A5):∃b,BI N h=some b/\True:=by
 unfold BI;by_cases hb:(((decide (70<(h.Tree.n:Int)))||(decide (70<(h.Laws.n:Int))))||(decide (70<(h.On.n:Int))))=true
 .exact ifT hb ⟨_,rfl,trivial⟩
 refine ifF hb ?_;have o : h.Laws.n<=70/\h.On.n<=70:=by simp at hb;omega
 refine Aq (fun i x=>x=(i:Int)) h.On.n _ (by omega) rfl ?_;rintro l i x q rfl hs;by_cases d:i<h.On.n
 .refine Bz (Bc ?_);by_cases m:(decide (70<((h.On.g (i:Int).toNat).n:Int)))=true
  .exact ifT m ⟨_,rfl,trivial⟩
  exact ifF m (hs d _ (Ia))
 refine Em ?_;refine Aq (fun i x=>x=(i:Int)) h.Laws.n _ (by omega) rfl ?_;rintro f i x q rfl j;by_cases d:i<h.Laws.n
 .rw[Ia];refine Bz (Bc ?_);obtain⟨r,s⟩:=Yf (N:=N) (by omega) (h.Laws.sub (i:Int).toNat ((i+1:Nat):Int).toNat);refine H0 s ?_;have last:∀z3:Bool,∃r,(if z3 then some false else f ((i+1:Nat):Int))=some r/\True:=fun z=>by
   cases z
   .exact Hg (j d _ rfl)
   exact ifT rfl ⟨_,rfl,trivial⟩
  refine ltX ?_;by_cases g1:(decide (4<r))=true
  .exact ifT g1 (last _)
  refine ifF g1 ?_;by_cases g2:(decide (20<((h.Laws.g (i:Int).toNat).If.n:Int)))=true
  .exact ifT g2 (last _)
  refine ifF g2 ?_;by_cases g3:(decide (20<((h.Laws.g (i:Int).toNat).Out.n:Int)))=true
  .exact ifT g3 (last _)
  refine ifF g3 ?_;obtain⟨a,ha,_⟩:=NF (N:=N) (by omega) (h.Laws.g (i:Int).toNat).Left;refine H0 ha ?_;by_cases g4:(decide (41<(a:Int)))=true
  .exact ifT g4 (last _)
  refine ifF g4 ?_;obtain⟨c,hc,_⟩:=NF (N:=N) (by omega) (h.Laws.g (i:Int).toNat).Right;exact H0 hc (last _)
 exact Em ⟨_,rfl,trivial⟩
end Go.AM
namespace Go.AM
open Go.Proofs
end Go.AM
namespace Go.AM
open Go.Proofs
end Go.AM
namespace Go.AM
variable {N:Nat}
open Go.Proofs
def Md {a b:Sl Int}(d:a.n<N)(hs:a.n<1000000000)(h:SE a b):X2 N a b=some true:=by
 obtain⟨h1,f⟩:=h;refine eqR ?_;unfold X2;refine ifF (by simp[h1]) ?_;refine Aq (fun i x=>x=(i:Int)) a.n _ d rfl ?_;rintro c i x g rfl hs;by_cases hl:i<a.n
 .refine Bz (Bc ?_);rw[Int.toNat_natCast,f i hl];exact Hg (hs hl _ (Ia))
 exact Em ⟨_,rfl,rfl⟩
def szP:Pat->Nat
 |.nil=>1
 |.mk _ _ _ _ _ n g=>1+((List.range n).map fun i=>szP (g i)+1).sum
def PD (p:Pat):szP p=1+((List.range p.L.n).map fun i=>szP (p.L.g i)+1).sum:=by
 cases p with
 |nil=>rfl
 |mk k is no mn mx n g=>rw[szP];rfl
def Wk {f:Nat->Nat}:∀{n i:Nat},i<n->f i<=((List.range n).map f).sum
 |n+1,i,h=>by
  rw[List.range_succ,List.map_append,List.sum_append];by_cases e:i=n
  .subst e;simp
  have:=Wk (f:=f) (n:=n) (i:=i) (by omega)
  omega
def Ah8 {f:Nat->Nat}(h:∀i,1<=f i):∀n,n<=((List.range n).map f).sum
 |0=>Nat.zero_le _
 |n+1=>by
  rw[List.range_succ,List.map_append,List.sum_append]
  have:=Ah8 h n
  have:=h n
  simp;omega
def FO:∀(d:Nat) (p q:Pat),szP p<=d->PE p q->∀M,1100000+d<=M->d<=1048576->U1 M p q=some true
 |0,p,q,h,_,M,_,_=>by rw[PD]at h;omega
 |d+1,p,q,h,he,0,hM,_=>by omega
 |d+1,p,q,h,he,M+1,hM,hd=>by
  obtain⟨h1,b,c,j,l,m,o⟩:=PE_of.1 he;rw[PD]at h;have hn:=Ah8 (f:=fun i=>szP (p.L.g i)+1) (fun i=>by omega) p.L.n;refine eqR ?_;show ∃r,S8 (U1 M) M p q=some r/\_;unfold S8;refine ifF (by simp[h1]) (ifF (by simp[b]) (ifF (by simp[c]) (ifF (by simp[j]) (ifF (by simp[l]) (ifF (by simp[m]) ?_)))));refine Aq (fun i x=>x=(i:Int)) p.L.n _ (by omega) rfl ?_;rintro a i x t rfl hs;by_cases hl:i<p.L.n
  .refine Bz (Bc ?_);rw[Int.toNat_natCast]
   have:=Wk (f:=fun i=>szP (p.L.g i)+1) hl
   have s:szP (p.L.g i)<=d:=by omega
   exact H0 (FO d _ _ s (o i hl) M (by omega) (by omega)) (Hg (hs hl _ (Ia)))
  exact Em ⟨_,rfl,rfl⟩
def Wl (g:3000000<=N){l l' : Law}(h:LE l l')(hp:szP l.Left<=1048576)(f:szP l.Right<=1048576)(j:l.If.n<1100000)(m:l.Out.n<1100000):CQ N l l' = some true:=by
 refine eqR ?_;unfold CQ;have g1:=h.cond.1;have g2:=h.out.1;refine ltX (ifF (by simp[h.name]) (ifF (by simp[h.mode]) (ifF (by simp[g1]) (ifF (by simp[g2]) (H0 (FO 1048576 _ _ hp h.left N (by omega) (by omega)) (Hg (H0 (FO 1048576 _ _ f h.right N (by omega) (by omega)) (Hg ?_))))))));refine Aq (fun i x=>x=(i:Int)) l.If.n _ (by omega) rfl ?_;rintro d i x a rfl hs;by_cases hl:i<l.If.n
 .refine Bz (Bc ?_);rw[Int.toNat_natCast,h.cond.2 i hl];exact Hg (hs hl _ (Ia))
 refine Em ?_;refine Aq (fun i x=>x=(i:Int)) l.Out.n _ (by omega) rfl ?_;rintro b i x a rfl c;by_cases hl:i<l.Out.n
 .refine Bz (Bc ?_);rw[Int.toNat_natCast,h.out.2 i hl];exact Hg (c hl _ (Ia))
 exact Em ⟨_,rfl,rfl⟩
def GP (l:Sl Law):Prop:=∀i,i<l.n->szP (l.g i).Left<=1048576/\szP (l.g i).Right<=1048576/\(l.g i).If.n<1100000/\(l.g i).Out.n<1100000
def SB (f:3000000<=N){a b:Sl Law}(h:LS a b)(hs:GP a)(hn:a.n<1100000):CR N a b=some true:=by
 obtain⟨h1,g⟩:=h;refine eqR ?_;unfold CR;refine ifF (by simp[h1]) ?_;refine Aq (fun i x=>x=(i:Int)) a.n _ (by omega) rfl ?_;rintro d i x j rfl c;by_cases hl:i<a.n
 .refine Bz (Bc ?_);rw[Int.toNat_natCast];obtain⟨s1,s2,s3,s4⟩:=hs i hl;exact H0 (Wl f (g i hl) s1 s2 s3 s4) (Hg (c hl _ (Ia)))
 exact Em ⟨_,rfl,rfl⟩
structure Wm (h g:A5):Prop where
 tree:g.Tree=h.Tree
 laws:g.Laws=h.Laws
 n:g.On.n=h.On.n
 row:∀v,v<h.On.n->g.On.g v=h.On.g v
def PF (o:3000000<=N){h:A5}(c:Z8 h)(ht:h.Tree.n<1100000)(hl:h.Laws.n<1100000):∃g,Y0 N h=some g/\Wm h g:=by
 have l:=c.on;unfold Y0;refine Bc (Bc ?_);refine Ez (fun i x (X:Sl (Sl Int))=>x=(i:Int)/\X.n=i/\∀v,v<i->X.g v=h.On.g v) h.On.n _ (by omega) ⟨rfl,rfl,fun j b=>Jo b (by omega)⟩ ?_;rintro d i x X hle ⟨rfl,hx,b⟩ hs;by_cases a:i<h.On.n
 .have f:=c.len i a;refine Bz (Bc ?_);rw[Int.toNat_natCast];refine Bc (Bc (hs a _ _ ⟨Ia,by show X.n+1=_;omega,fun v m=>?_⟩));show (if v<X.n then X.g v else h.On.g i)=_;by_cases e:v=i
  .subst e;rw[Ji]
  rw[J8];exact b v (by omega)
 exact Em ⟨_,rfl,rfl,rfl,by show X.n=_;omega,fun v m=>b v (by omega)⟩
def Rp (o:3000000<=N){h g:A5}(hc:Wm h g)(j:Z8 h)(hs:GP h.Laws)(ht:h.Tree.n<1100000)(hl:h.Laws.n<1100000):P4 N g h=some true:=by
 have q:=j.on;have hn:=hc.n;refine eqR ?_;unfold P4;rw[hc.tree,hc.laws];refine ltX (Hg (ifF (by simp[hn]) (H0 (SB o (LS.refl _) hs hl) (Hg ?_))));refine Aq (fun i x=>x=(i:Int)) h.Tree.n _ (by omega) rfl ?_;rintro l i x b rfl c;by_cases a:i<h.Tree.n
 .exact Bz (Bc (Hg (c a _ (Ia))))
 refine Em ?_;refine Aq (fun i x=>x=(i:Int)) g.On.n _ (by omega) rfl ?_;rintro d i x b rfl f;by_cases a:i<g.On.n
 .refine Bz (Bc ?_);rw[Int.toNat_natCast,hc.row i (by omega)];have m:=j.len i (by omega);exact H0 (Md (by omega) (by omega) (SE.refl _)) (Hg (f a _ (Ia)))
 exact Em ⟨_,rfl,rfl⟩
end Go.AM
namespace Go.AM
open Go.Proofs
def SD {h:A5}{v:Nat}(hp:¬(0<=(h.Tree.g v).Parent/\(h.Tree.g v).Parent<v)):S9 h v=Na.app (h.On.g v):=by rw[S9,dif_neg hp]
def Me {h g:A5}(hc:Wm h g):∀(m v:Nat),v<=m->v<h.On.n->S9 g v=S9 h v:=by
 intro m
 induction m using Nat.strongRecOn with
 |_ m ih=>
 intro v hm b;by_cases hp:0<=(h.Tree.g v).Parent/\(h.Tree.g v).Parent<v
 .obtain⟨p,e⟩:∃p:Nat,(h.Tree.g v).Parent=(p:Int):=⟨(h.Tree.g v).Parent.toNat,by omega⟩;have a:p<v:=by omega
  rw[Cb (h:=g) (p:=p) (by rw[hc.tree];exact e) a,Cb e a,hc.row v b,ih p (by omega) p (Nat.le_refl _) (by omega)]
 rw[SD (h:=g) (by rw[hc.tree];exact hp),SD hp,hc.row v b]
open Classical in
theorem Wn {N:Nat}{h g:A5}(hc:Wm h g):hres N g=hres N h:=by
 have hn:=hc.n;have e1:KY g=KY h:=by
  unfold KY;refine propext ⟨?_,?_⟩
  .rintro⟨v,h1,a⟩;rw[Me hc v v (Nat.le_refl _) (by omega)]at a;exact⟨v,by omega,a⟩
  rintro⟨v,h1,a⟩;rw[<- Me hc v v (Nat.le_refl _) h1]at a;exact⟨v,by omega,a⟩
 have e2:(∃v,v<h.On.n/\Wg g v)=(∃v,v<h.On.n/\Wg h v):=by
  refine propext ⟨?_,?_⟩
  .rintro⟨v,h1,a⟩;unfold Wg at a⊢;rw[hc.row v (by omega),hc.laws]at a;exact⟨v,by omega,a⟩
  rintro⟨v,h1,a⟩;unfold Wg at a⊢;rw[<- hc.row v h1,<- hc.laws]at a;exact⟨v,by omega,a⟩
 have e3:∀i,Yh g i=Yh h i:=fun i=>by unfold Yh;rw[hc.laws]
 unfold hres;simp only[hc.tree,hc.laws,e1,e2,e3,hn]
end Go.AM
namespace Go.AM
open Go.Proofs
end Go.AM
namespace Go.AM
open Go.Proofs
def Wo:∀(p q:Pat),PE p q->szP p=szP q
 |.nil,q,h=>by obtain⟨_,_,_,_,_,a,_⟩:=PE_of.1 h;rw[PD q,a];rfl
 |.mk k is no mn mx n g,q,h=>by obtain⟨_,_,_,_,_,a,c⟩:=PE_of.1 h;rw[PD q,a,PD (.mk k is no mn mx n g)];congr 2;refine List.map_congr_left fun i b=>?_;have b:i<n:=List.mem_range.1 b;show szP (g i)+1=_;rw[Wo (g i) _ (c i b)]
end Go.AM
namespace Go.AM
open Go.Proofs
end Go.AM
namespace Go.AM
open Go.Proofs
end Go.AM
namespace Go.AM
open Go.Proofs
end Go.AM
namespace Go.AM
open Go.Proofs
end Go.AM
namespace Go.AM
open Go.Proofs
end Go.AM
namespace Go.AM
open IntKind (wrap)
open Go.Proofs
def NH:∀{p q r:Pat},PE p q->PE q r->PE p r
 |.nil,q,r,h,h'=>by obtain⟨h1,c,d,f,j,a,l⟩:=PE_of.1 h;obtain⟨g1,g2,g3,g4,g5,g6,g7⟩:=PE_of.1 h';exact PE_of.2 ⟨g1.trans h1,g2.trans c,g3.trans d,g4.trans f,g5.trans j,g6.trans a,fun i b=>Jo b (Nat.not_lt_zero i)⟩
 |.mk k is no mn mx n g,q,r,h,h'=>by obtain⟨h1,c,d,f,j,a,l⟩:=PE_of.1 h;obtain⟨g1,g2,g3,g4,g5,g6,g7⟩:=PE_of.1 h';exact PE_of.2 ⟨g1.trans h1,g2.trans c,g3.trans d,g4.trans f,g5.trans j,g6.trans a,fun i b=>NH (l i b) (g7 i (by rw[a];exact b))⟩
def LE.trans {l l' l'' : Law}(h:LE l l')(h' : LE l' l''):LE l l'':=⟨h'.name.trans h.name,NH h.left h'.left,NH h.right h'.right,h.cond.trans h'.cond,h.out.trans h'.out,h'.mode.trans h.mode⟩
structure PG (h g:A5) (u k:Nat):Prop where
 tree:g.Tree=h.Tree
 laws:LS h.Laws g.Laws
 n:g.On.n=h.On.n
 row:∀v,v<h.On.n->v≠u->g.On.g v=h.On.g v
 at' : g.On.g u=((h.On.g u).upd k ((h.On.g u).g (k+1))).upd (k+1) ((h.On.g u).g k)
def Wp {N:Nat}(y:3000000<=N){h:A5}(m:Z8 h)(a:EC N h){u k:Nat}(hu:u<h.Tree.n)(hk:k+1<(h.On.g u).n) :∃g,F0 N h (u:Int) (k:Int)=some (g,0)/\PG h g u k:=by
 suffices ∃r,F0 N h (u:Int) (k:Int)=some r/\(r.2=0/\PG h r.1 u k) by obtain⟨⟨g,e⟩,r1,r2,r3⟩:=this;obtain rfl:e=0:=r2;exact⟨g,r1,r3⟩
 have h63:=a.tree.2.1;have z:=a.laws.1;have hon:=a.on;have ho:=(Aa6 a hu).1;unfold F0;rw[Hq y m,hres_zero.2 a];have eP:wrap .i64 (((h.On.g u).n:Int)-1)=(((h.On.g u).n-1:Nat):Int):=wrapP (by omega) (by omega);refine H0 rfl (Hh (H0 rfl ?_));rw[Int.toNat_natCast,Int.toNat_natCast,eP];have b:((decide (0<=(u:Int)))&&(decide ((u:Int)<(h.Tree.n:Int))))=true:=by simp;omega
 rw[b];refine ifT (fun _ _=>by omega) (Em ?_);refine H0 (x:=h.Tree) (J8) ?_;refine Ez (fun i (x1:Sl Law) x2=>x2=(i:Int)/\x1.n=i/\∀j,j<i->LE (h.Laws.g j) (x1.g j)) h.Laws.n _ (by omega) ⟨rfl,rfl,fun j f=>Jo f (by omega)⟩ ?_;rintro a0 i x1 x2 hle ⟨rfl,hx,f⟩ hs;by_cases c:i<h.Laws.n
 .obtain⟨q,q1,q2⟩:=Ul y (m.laws i c) (a.laws.2 i c);refine Bz (Bc ?_);rw[Int.toNat_natCast];refine H0 q1 (ifT (by show (x1.n+1)*200<=_/\x1.n+1<=_;omega) (hs c _ _ ⟨Ia,by show x1.n+1=_;omega,fun j o=>?_⟩));show LE _ (if j<x1.n then x1.g j else q);by_cases e:j=i
  .subst e;rw[Ji];exact q2
  rw[J8];exact f j (by omega)
 refine Em ?_;clear hs;refine Ez (fun v (x3:Sl (Sl Int)) x4=>x4=(v:Int)/\x3.n=v/\∀j,j<v->x3.g j=h.On.g j) h.On.n _ (by omega) ⟨rfl,rfl,fun j f=>Jo f (by omega)⟩ ?_;rintro s v x3 x4 hv ⟨rfl,hx3,d⟩ t;by_cases l:v<h.On.n
 .have a1:=m.len v l;refine Bz (Bc ?_);rw[Int.toNat_natCast];refine H0 (x:=h.On.g v) (J8) (ifT (by show (x3.n+1)*24<=_/\x3.n+1<=_;omega) (t l _ _ ⟨Ia,by show x3.n+1=_;omega,fun j o=>?_⟩));show (if j<x3.n then x3.g j else h.On.g v)=_;by_cases e:j=v
  .subst e;rw[Ji]
  rw[J8];exact d j (by omega)
 have eK:wrap .i64 ((k:Int)+1)=((k+1:Nat):Int):=Ia;rw[eK,Int.toNat_natCast,d u (by omega)];refine Em (Bc (Bc ⟨_,rfl,rfl,rfl,⟨by show h.Laws.n=x1.n;omega,fun i hii=>f i (by omega)⟩,by show x3.n=_;omega,fun v hv w=>?_,?_⟩))
 .show (if v=u then _ else x3.g v)=_;rw[Jm w];exact d v (by omega)
 show (if u=u then _ else x3.g u)=_;rw[Jl rfl];rfl
def Wq {h g:A5}{u k:Nat}(hc:PG h g u k){v:Nat}(a:v<h.On.n):(g.On.g v).n=(h.On.g v).n:=by
 by_cases e:v=u
 .subst e;rw[hc.at']
 rw[hc.row v a e]
def ctI (s:Sl Int)(c:Int):Nat->Nat
 |0=>0
 |i+1=>ctI s c i+(if s.g i=c then 1 else 0)
def Kd (s:Sl Int)(c:Int)(i:Nat):ctI s c (i+1)=ctI s c i+(if s.g i=c then 1 else 0):=rfl
def Ah9 (s:Sl Int)(c:Int):∀i,ctI s c i<=i
 |0=>Nat.le_refl _
 |i+1=>by
  have:=Ah9 s c i
  rw[Kd];split<;>omega
def Ke {s t:Sl Int}{c:Int}:∀i,(∀j,j<i->s.g j=t.g j)->ctI s c i=ctI t c i
 |0,_=>rfl
 |i+1,h=>by rw[Kd,Kd,Ke i (fun j a=>h j (by omega)),h i (by omega)]
def NI (s t:Sl Int)(c:Int):∀m,ctI (s.app t) c (s.n+m)=ctI s c s.n+ctI t c m
 |0=>Ke s.n fun j a=>by show (if j<s.n then _ else _)=_;rw[Jl a]
 |m+1=>by
  rw[<- Nat.add_assoc,Kd,NI s t c m,Kd]
  have:(s.app t).g (s.n+m)=t.g m:=by show (if s.n+m<s.n then _ else t.g (s.n+m-s.n))=_;rw[Ji,Nat.add_sub_cancel_left]
  rw[this,Nat.add_assoc]
def SF {s:Sl Int}{k:Nat}(c:Int):∀m,k+2<=m->ctI ((s.upd k (s.g (k+1))).upd (k+1) (s.g k)) c m=ctI s c m
 |0,h=>by omega
 |m+1,h=>by
  by_cases e:m=k+1
  .subst e;rw[Kd,Kd,Kd,Kd];have e1:ctI ((s.upd k (s.g (k+1))).upd (k+1) (s.g k)) c k=ctI s c k:=Ke k fun j a=>by show (if j=k+1 then _ else if j=k then _ else s.g j)=_;rw[Ji,Ji]
   have e2:((s.upd k (s.g (k+1))).upd (k+1) (s.g k)).g k=s.g (k+1):=by show (if k=k+1 then _ else if k=k then _ else s.g k)=_;rw[Ji,Jl rfl]
   have e3:((s.upd k (s.g (k+1))).upd (k+1) (s.g k)).g (k+1)=s.g k:=by show (if k+1=k+1 then _ else _)=_;rw[Jl rfl]
   rw[e1,e2,e3];omega
  have e3:((s.upd k (s.g (k+1))).upd (k+1) (s.g k)).g m=s.g m:=by show (if m=k+1 then _ else if m=k then _ else s.g m)=_;rw[Ji,Ji]
  rw[Kd,Kd,SF c m (by omega),e3]
def SH {h g:A5}{u k:Nat}(hc:PG h g u k)(hk:k+1<(h.On.g u).n)(c:Int){v:Nat}(a:v<h.On.n):ctI (g.On.g v) c (h.On.g v).n=ctI (h.On.g v) c (h.On.g v).n:=by
 by_cases e:v=u
 .subst e;rw[hc.at',SF c _ (by omega)]
 rw[hc.row v a e]
def Wr (t:Sl Int)(c:Int):ctI (Na.app t) c t.n=ctI t c t.n:=by
 have:=NI Na t c t.n
 rw[show Na.n=0 from rfl,Nat.zero_add,show ctI Na c 0=0 from rfl,Nat.zero_add]at this;exact this
def PH {h g:A5}{u k:Nat}(hc:PG h g u k)(hk:k+1<(h.On.g u).n)(a:h.On.n=h.Tree.n)(ht:Fj h.Tree):∀(m v:Nat),v<=m->v<h.On.n->(S9 g v).n=(S9 h v).n/\∀c,ctI (S9 g v) c (S9 h v).n=ctI (S9 h v) c (S9 h v).n
 |m,v,hm,hv=>by
  have b:=Wq hc hv;rcases EB ht (v:=v) (by omega)with⟨_,e⟩ | ⟨p,hp,e⟩
  .rw[Bq (h:=h) (by omega),Bq (h:=g) (by rw[hc.tree];omega)];refine⟨by show 0+_=0+_;rw[b],fun c=>?_⟩;have e1:=Wr (g.On.g v) c;have e2:=Wr (h.On.g v) c;have e3:=SH hc hk c hv;show ctI _ c (0+(h.On.g v).n)=ctI _ c (0+(h.On.g v).n);rw[b]at e1;rw[Nat.zero_add,e1,e2,e3]
  rw[Cb (h:=h) e hp,Cb (h:=g) (p:=p) (by rw[hc.tree];exact e) hp]
  match m with
  |0=>omega
  |m+1=>obtain⟨i1,i2⟩:=PH hc hk a ht m p (by omega) (by omega);refine⟨by show (S9 g p).n+_=(S9 h p).n+_;rw[i1,b],fun c=>?_⟩;have e1:=NI (S9 g p) (g.On.g v) c (h.On.g v).n;have e2:=NI (S9 h p) (h.On.g v) c (h.On.g v).n;have e3:=SH hc hk c hv;have e4:=i2 c;rw[i1]at e1;show ctI _ c ((S9 h p).n+(h.On.g v).n)=ctI _ c ((S9 h p).n+(h.On.g v).n);rw[e1,e2,e3,e4]
def Aa7 {h g:A5}{u k:Nat}(hc:PG h g u k)(hk:k+1<(h.On.g u).n){N:Nat}(l:Z8 h)(c:EC N h)(s:u<h.Tree.n):Z8 g/\EC N g:=by
 have m:=c.on;have f:=hc.laws.1;refine⟨⟨Ye hc.laws l.laws,by rw[hc.tree];exact l.tree,by rw[hc.n];exact l.on,fun v d=>?_⟩,⟨by rw[hc.tree];exact c.tree,⟨by rw[<- f];exact c.laws.1,fun i r=>(Wc (hc.laws.2 i (by omega))).1 (c.laws.2 i (by omega))⟩,?_,by rw[hc.n,hc.tree];exact c.on,?_,fun v d=>?_⟩⟩
 .rw[hc.n]at d;rw[Wq hc d];exact l.len v d
 .rintro⟨a,b,h1,t,q⟩;rw[(hc.laws.2 a (by omega)).name,(hc.laws.2 b (by omega)).name]at q;exact c.dup ⟨a,b,h1,by omega,q⟩
 .rintro⟨v,d,hl⟩;rw[hc.n]at d;rw[(PH hc hk m c.tree v v (Nat.le_refl _) d).1]at hl;exact c.long ⟨v,d,hl⟩
 rw[hc.n]at d;rintro⟨j,o,hb⟩;rw[Wq hc d]at o;rw[<- f]at hb;by_cases e:v=u
 .subst e;rw[hc.at']at hb;replace hb:(if j=k+1 then (h.On.g v).g k else if j=k then (h.On.g v).g (k+1)else (h.On.g v).g j)<0 \/ (h.Laws.n:Int)<=(if j=k+1 then (h.On.g v).g k else if j=k then (h.On.g v).g (k+1)else (h.On.g v).g j):=hb;by_cases e1:j=k+1
  .rw[Jl e1]at hb;exact c.bad v d ⟨k,by omega,hb⟩
  by_cases e2:j=k
  .rw[Jm e1,Jl e2]at hb;exact c.bad v d ⟨k+1,hk,hb⟩
  rw[Jm e1,Jm e2]at hb;exact c.bad v d ⟨j,o,hb⟩
 rw[hc.row v d e]at hb;exact c.bad v d ⟨j,o,hb⟩
def Kf {N:Nat}(r:3000000<=N){h g:A5}(ht:g.Tree=h.Tree)(c:LS g.Laws h.Laws)(hs:GP g.Laws)(hn:g.On.n=h.On.n)(s:∀v,v<h.On.n->SE (g.On.g v) (h.On.g v))(m:Z8 h)(t:h.Tree.n<1100000)(hl:g.Laws.n<1100000):P4 N g h=some true:=by
 have u:=m.on;refine eqR ?_;unfold P4;rw[ht];refine ltX (Hg (ifF (by simp[hn]) (H0 (SB r c hs hl) (Hg ?_))));refine Aq (fun i x=>x=(i:Int)) h.Tree.n _ (by omega) rfl ?_;rintro o i x d rfl f;by_cases a:i<h.Tree.n
 .exact Bz (Bc (Hg (f a _ (Ia))))
 refine Em ?_;refine Aq (fun i x=>x=(i:Int)) g.On.n _ (by omega) rfl ?_;rintro j i x d rfl l;by_cases a:i<g.On.n
 .refine Bz (Bc ?_);have b:=s i (by omega);have q:=m.len i (by omega)
  have:=b.1
  rw[Int.toNat_natCast];exact H0 (Md (by omega) (by omega) b) (Hg (l a _ (Ia)))
 exact Em ⟨_,rfl,rfl⟩
def Ws {a b:Sl Law}(h:LS a b)(hs:GP a):GP b:=fun i c=>by
 have hl:=h.2 i (by rw[h.1];exact c);obtain⟨s1,s2,s3,s4⟩:=hs i (by rw[h.1];exact c);rw[Wo _ _ hl.left]at s1;rw[Wo _ _ hl.right]at s2
 have:=hl.cond.1
 have:=hl.out.1
 exact⟨s1,s2,by omega,by omega⟩
end Go.AM
namespace Go.AM
open Go.Proofs
end Go.AM
namespace Go.AM
variable {N:Nat}
open IntKind (wrap)
open Go.Proofs
abbrev YQ:A5:=⟨(Sl.nil:Sl G2),(Sl.nil:Sl Law),(Sl.nil:Sl (Sl Int))⟩
def Wt (f:3000000<=N){h:A5}(i:Z8 h)(v place:Int) :∃g e,F0 N h v place=some (g,e)/\((e=(if hres N h≠0 then hres N h else 3)/\g=YQ/\¬(EC N h/\∃u k:Nat,v=u/\place=k/\u<h.Tree.n/\k+1<(h.On.g u).n)) \/
  (e=0/\EC N h/\∃u k:Nat,v=u/\place=k/\u<h.Tree.n/\k+1<(h.On.g u).n/\PG h g u k)):=by
 by_cases d:hres N h=0
 case neg=>refine⟨YQ,hres N h,?_,.inl ⟨by rw[Jl d],rfl,fun j=>d (hres_zero.2 j.1)⟩⟩;unfold F0;rw[Hq f i,Option.bind_some,Jl (by simpa using d)]
 have c:=hres_zero.1 d;by_cases b:∃u k:Nat,v=u/\place=k/\u<h.Tree.n/\k+1<(h.On.g u).n
 .obtain⟨u,k,rfl,rfl,l,hk⟩:=b;obtain⟨g,g1,g2⟩:=Wp f i c l hk;exact⟨g,0,g1,.inr ⟨rfl,c,u,k,rfl,rfl,l,hk,g2⟩⟩
 refine⟨YQ,3,?_,.inl ⟨by rw[Jm (by simp[d])],rfl,fun j=>b j.2⟩⟩;unfold F0;rw[Hq f i,d,Option.bind_some,Jm (by decide),P3,Option.bind_some];by_cases o:0<=v/\v<(h.Tree.n:Int)
 .obtain⟨u,rfl⟩:∃u:Nat,v=(u:Int):=⟨v.toNat,by omega⟩;have m:=c.on;have q:=(Aa6 c (show u<h.Tree.n by omega)).1;have a:((decide (0<=(u:Int)))&&(decide ((u:Int)<(h.Tree.n:Int))))=true:=by simp;omega
  have eP:wrap .i64 (((h.On.g u).n:Int)-1)=((h.On.g u).n:Int)-1:=W8 (by omega) (by omega);rw[a,Int.toNat_natCast,eP,Jl (fun _ _=>by omega)];rw[Jl];by_cases hp:place<0
  .simp[hp]
  have:((h.On.g u).n:Int)-1<=place:=by apply Classical.byContradiction;intro hc;exact b ⟨u,place.toNat,rfl,by omega,by omega,by omega⟩
  simp[this]
 have a:((decide (0<=v))&&(decide (v<(h.Tree.n:Int))))=false:=by rw[Bool.and_eq_false_iff,decide_eq_false_iff_not,decide_eq_false_iff_not];omega
 rw[a,Jl (fun h=>by simp at h),Jl (by simp)]
def Wu (d:3000000<=N){h:A5}(f:Z8 h)(v place:Int) :∃g e,Y1 N h v place=some (g,e)/\((e=(if hres N h≠0 then hres N h else 3)/\g=YQ/\¬(EC N h/\∃u k:Nat,v=u/\place=k/\u<h.Tree.n/\k+1<(h.On.g u).n)) \/
  (e=0/\EC N h/\∃u k:Nat,v=u/\place=k/\u<h.Tree.n/\k+1<(h.On.g u).n/\PG h g u k)):=by
 by_cases c:hres N h=0
 case neg=>refine⟨YQ,hres N h,?_,.inl ⟨by rw[Jl c],rfl,fun i=>c (hres_zero.2 i.1)⟩⟩;unfold Y1;rw[GO d f,Option.bind_some,Jl (by simpa using c)]
 have b:=hres_zero.1 c;have q:=b.tree.2.1;have o:=b.laws.1;have r:=b.on;by_cases s:0<=v/\v<(h.Tree.n:Int)
 .obtain⟨u,rfl⟩:∃u:Nat,v=(u:Int):=⟨v.toNat,by omega⟩;have j:u<h.Tree.n:=by omega
  have t:=(Aa6 b j).1;have a:((decide (0<=(u:Int)))&&(decide ((u:Int)<(h.Tree.n:Int))))=true:=by simp;omega
  have eP:wrap .i64 (((h.On.g u).n:Int)-1)=((h.On.g u).n:Int)-1:=W8 (by omega) (by omega);by_cases l:0<=place/\place<((h.On.g u).n:Int)-1
  .obtain⟨k,rfl⟩:∃k:Nat,place=(k:Int):=⟨place.toNat,by omega⟩;obtain⟨g,g1,g2⟩:=PF d f (by omega) (by omega);have eg:g.On.g u=h.On.g u:=g2.row u (by omega);have en:=g2.n;have eK:wrap .i64 ((k:Int)+1)=((k+1:Nat):Int):=Ia;refine⟨(⟨g.Tree,g.Laws,g.On.upd u (((h.On.g u).upd k ((h.On.g u).g (k+1))).upd (k+1) ((h.On.g u).g k))⟩:A5),0,?_,.inr ⟨rfl,b,u,k,rfl,rfl,j,by omega,?_⟩⟩
   rotate_left
   .exact⟨g2.tree,by rw[g2.laws];exact LS.refl _,by show g.On.n=_;omega,fun w hw m=>by
     show (if w=u then _ else g.On.g w)=_;rw[Jm m];exact g2.row w hw,by
     show (if u=u then ((h.On.g u).upd k ((h.On.g u).g (k+1))).upd (k+1) ((h.On.g u).g k)else g.On.g u)=_;rw[Jl rfl]⟩
   unfold Y1;rw[GO d f,c,Option.bind_some,Jm (by decide),Bp,Option.bind_some,a,Int.toNat_natCast,eP,Jl (fun _ _=>by omega),Jm (by simp;omega),g1,Option.bind_some,Int.toNat_natCast,eK,Int.toNat_natCast,eg,J8,J8]
  refine⟨YQ,3,?_,.inl ⟨by rw[Jm (by simp[c])],rfl,fun i=>?_⟩⟩
  .unfold Y1;rw[GO d f,c,Option.bind_some,Jm (by decide),Bp,Option.bind_some,a,Int.toNat_natCast,eP,Jl (fun _ _=>by omega),Jl];by_cases hp:place<0
   .simp[hp]
   have:((h.On.g u).n:Int)-1<=place:=by omega
   simp[this]
  obtain⟨_,u',k,e1,e2,e3,e4⟩:=i;obtain rfl:u=u':=by omega
  exact l ⟨by omega,by omega⟩
 refine⟨YQ,3,?_,.inl ⟨by rw[Jm (by simp[c])],rfl,fun i=>?_⟩⟩
 .have a:((decide (0<=v))&&(decide (v<(h.Tree.n:Int))))=false:=by rw[Bool.and_eq_false_iff,decide_eq_false_iff_not,decide_eq_false_iff_not];omega
  unfold Y1;rw[GO d f,c,Option.bind_some,Jm (by decide),Bp,Option.bind_some,a,Jl (fun h=>by simp at h),Jl (by simp)]
 obtain⟨_,u',k,e1,e2,e3,e4⟩:=i;exact s ⟨by omega,by omega⟩
def Rq {h g:A5}(hc:Wm h g)(a:Z8 h):Z8 g:=⟨by rw[hc.laws];exact a.laws,by rw[hc.tree];exact a.tree,by rw[hc.n];exact a.on,fun v b=>by rw[hc.row v (by rw[<- hc.n];exact b)];exact a.len v (by rw[<- hc.n];exact b)⟩
def Um:Z8 YQ:=⟨fun i a=>Jo a (Nat.not_lt_zero i),fun i a=>Jo a (Nat.not_lt_zero i),by show 0<1100000;omega,fun v b=>Jo b (Nat.not_lt_zero v)⟩
def HS (r:3000000<=N)(hw:Ap N=some true){h:A5}(m:Z8 h)(hs:GP h.Laws)(ht:h.Tree.n<1100000)(hl:h.Laws.n<1100000)(v place:Int):Q2 N h v place=some true:=by
 refine eqR ?_;unfold Q2;obtain⟨b,b1,_⟩:=Wj r h;refine H0 b1 ?_;by_cases hb:(!b)=true
 .exact ifT hb (H0 hw ⟨_,rfl,rfl⟩)
 refine ifF hb ?_;obtain⟨c,c1,c2⟩:=PF r m ht hl;obtain⟨g,e,g1,g2⟩:=Wu r m v place;have a5:=Rq c2 m;obtain⟨g',e',s1,s2⟩:=Wt r a5 v place;have a:=Rp r c2 m hs ht hl;have key:e' = e/\P4 N g' g=some true/\g'.Tree.n<1100000/\g'.Laws.n<1100000/\g'.On.n<1100000/\∀v,v<g'.On.n->(g'.On.g v).n<1100000:=by
  have hr:hres N c=hres N h:=Wn c2;have o:∀u,u<h.Tree.n->EC N h->c.On.g u=h.On.g u:=fun u s l=>c2.row u (by have:=l.on;omega);rcases g2 with⟨f1,f2,f3⟩ | ⟨f1,f2,u,k,rfl,rfl,s,hk,f3⟩
  .rcases s2 with⟨t1,t2,t3⟩ | ⟨t1,t2,u,k,rfl,rfl,s,hk,t3⟩
   .rw[hr]at t1;subst f2 t2;exact⟨t1.trans f1.symm,Kf r rfl (LS.refl _) (fun i m=>Jo m (Nat.not_lt_zero i)) rfl (fun v hv=>Jo hv (Nat.not_lt_zero v)) Um (by show 0<1100000;omega) (by show 0<1100000;omega),by show 0<1100000;omega,by show 0<1100000;omega,by show 0<1100000;omega,fun v hv=>Jo hv (Nat.not_lt_zero v)⟩
   have l:EC N h:=hres_zero.1 (by rw[<- hr];exact hres_zero.2 t2);have t:u<h.Tree.n:=by rw[<- c2.tree];exact s
   exact Jo ⟨l,u,k,rfl,rfl,t,by rw[<- o u t l];exact hk⟩ f3
  have d:=o u s f2;rcases s2 with⟨t1,t2,t3⟩ | ⟨t1,t2,u',k',e1,e2,hu',hk',t3⟩
  .exact Jo ⟨hres_zero.1 (by rw[hr];exact hres_zero.2 f2),u,k,rfl,rfl,by rw[c2.tree];exact s,by rw[d];exact hk⟩ t3
  obtain rfl:u=u':=by omega
  obtain rfl:k=k':=by omega
  have hon:=f2.on;obtain⟨y,_⟩:=Aa7 f3 hk m f2 s;have z : GP g'.Laws:=Ws t3.laws (by rw[c2.laws];exact hs);have hn1:=t3.n;have hn2:=c2.n;have hn3:=f3.n;have hl1:=t3.laws.1;have hl2:c.Laws.n=h.Laws.n:=by rw[c2.laws]
  have f:∀w,w<g.On.n->SE (g'.On.g w) (g.On.g w):=by
   intro w hw;by_cases ew:w=u
   .subst ew;rw[t3.at',f3.at',d];exact SE.refl _
   rw[t3.row w (by omega) ew,f3.row w (by omega) ew,c2.row w (by omega)];exact SE.refl _
  refine⟨t1.trans f1.symm,Kf r (by rw[t3.tree,f3.tree,c2.tree]) ?_ z (by omega) f y (by rw[f3.tree];exact ht) (by omega),by rw[t3.tree,c2.tree];exact ht,by omega,by rw[hn1,hn2];exact m.on,fun w hw=>?_⟩
  .have:=t3.laws
   rw[c2.laws]at this;exact⟨this.1.symm.trans f3.laws.1,fun i a0=>(this.2 i (by rw[this.1];exact a0)).symm.trans (f3.laws.2 i (by rw[this.1];exact a0))⟩
  rw[(f w (by omega)).1];exact y.len w (by omega)
 obtain⟨k1,k2,k3,k4,k5,k6⟩:=key;subst k1;refine H0 c1 (H0 g1 ?_);refine Aq (fun i x=>x=(i:Int)) 2 _ (by omega) rfl ?_;rintro self i x hi2 rfl hs1;by_cases hlt:i<2
 case neg=>exact Em (H0 a (ltX (ifT rfl (H0 hw ⟨_,rfl,rfl⟩))))
 refine Bz (H0 s1 (ltX (Hg (H0 k2 (Hg (H0 a (Hg ?_)))))));refine Ez (fun i x (X:Sl G2)=>x=(i:Int)/\X.n=g'.Tree.n) g'.Tree.n _ (by omega) ⟨rfl,rfl⟩ ?_;rintro self2 i2 x2 X hi3 ⟨rfl,hX⟩ hs2;by_cases a1:i2<g'.Tree.n
 .exact Bz (Bc (hs2 a1 _ _ ⟨Ia,hX⟩))
 refine Em ?_;refine Ez (fun i x (X:Sl Law)=>x=(i:Int)/\X.n=g'.Laws.n) g'.Laws.n _ (by omega) ⟨rfl,rfl⟩ ?_;rintro self3 i3 x3 Y hi4 ⟨rfl,hY⟩ hs3;by_cases a2:i3<g'.Laws.n
 .exact Bz (Bc (hs3 a2 _ _ ⟨Ia,hY⟩))
 refine Em ?_;refine Ez (fun i x (Z:Sl (Sl Int))=>x=(i:Int)/\Z.n=g'.On.n/\∀j,i<=j->j<g'.On.n->(Z.g j).n<1100000) g'.On.n _ (by omega) ⟨rfl,rfl,fun j _ hj=>k6 j hj⟩ ?_;rintro self4 i4 x4 Z hi5 ⟨rfl,hZ,a3⟩ hs4;by_cases q:i4<g'.On.n
 .have hrw:=a3 i4 (Nat.le_refl _) q;refine Bz (Bc ?_);rw[Int.toNat_natCast];refine Ez (fun i x (U:Sl Int)=>x=(i:Int)/\U.n=(Z.g i4).n) (Z.g i4).n _ (by omega) ⟨rfl,rfl⟩ ?_;rintro self5 i5 x5 U hi6 ⟨rfl,hU⟩ hs5;by_cases a4:i5<(Z.g i4).n
  .exact Bz (Bc (hs5 a4 _ _ ⟨Ia,hU⟩))
  refine Em (hs4 q _ _ ⟨Ia,hZ,fun j hj hjn=>?_⟩);show (if j=i4 then U else Z.g j).n<_;rw[Ji];exact a3 j (by omega) hjn
 exact Em (hs1 hlt _ (Ia))
end Go.AM
