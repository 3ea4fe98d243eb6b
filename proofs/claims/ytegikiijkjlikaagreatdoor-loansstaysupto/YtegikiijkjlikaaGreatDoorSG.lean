/- Part 7. -/
import Derived.Test.YtegikiijkjlikaaGreatDoorSF
set_option linter.defProp false
set_option linter.unusedSimpArgs false
set_option linter.unusedVariables false
set_option linter.unusedSectionVars false
namespace Go.AM
abbrev Qx:Sl Qz:=Sl.of []
variable {N:Nat}
def Nc{c:Prop}{i:Decidable c}{α:Sort _}{a b:α}(h:¬c:=by simp):(if c then a else b)=b:=Nf h
def Nb{c:Prop}{i:Decidable c}{α:Sort _}{a b:α}(h:¬c:=by simp;omega):(if c then a else b)=b:=Nf h
def J8{c:Prop}{i:Decidable c}{α:Sort _}{a b:α}(h:c:=by simp;omega):(if c then a else b)=a:=Nd h
def Ay8:=@Classical.axiomOfChoice
def Az2:=@Nat.not_lt_zero
def AD8:=@List.mem_reverse
def AE6:=@List.reverse_append
def AG5:=@List.reverse_singleton
def AH2:=@List.singleton_append
def AH3:=@List.length_filter_le
def AI9:=@Nat.lt_of_le_of_lt
def AJ0:=@List.length_range'
open Go.Proofs
def Ao2:∀m:Fin 33,(E9 .and .i64 ((m.val:Nat):Int) 1==1)=decide (m.val % 2=1)/\shI .shr .i64 ((m.val:Nat):Int) 1=((m.val / 2:Nat):Int):=by decide +kernel
def Pk {N n:Nat}{R:Nat->Nat->Prop}{x:Nat->Int}(hn:n<=32)(o:1000<=N)(u:Fwd n R)(hR:TabA n R x){k:Nat}(hk:k<=32) :∃s,D9 N x (k:Int) (n:Int)=some s/\TabA n (Fz n R k) s:=by
 unfold D9;obtain⟨y1,e1,h1⟩:=ED (N:=N) hn o;refine B0 e1 ?_;refine Yf (fun i x1 x2 x3=>x1=((k / 2 ^ i:Nat):Int)/\TabA n (Fz n R (2 ^ i)) x2/\TabA n (Fz n R (k % 2 ^ i)) x3) 6 _ (by omega) ⟨by simp,?_,?_⟩ ?_
 .exact hR.congr fun a b ha hb=>⟨fun h=>⟨a,ha,rfl,h⟩,fun⟨c,hc,(h:a=c),h'⟩=>h ▸ h'⟩
 .rw[Nat.pow_zero,Nat.mod_one];exact h1
 rintro v i x1 x2 x3 w ⟨rfl,q,l⟩ hs;have hm:k / 2 ^ i<=32:=Av6 (Nat.div_le_self _ _) hk;obtain⟨b1,b2⟩:=Ao2 ⟨k / 2 ^ i,by omega⟩;simp only at b1 b2;have f:k / 2 ^ i / 2=k / 2 ^ (i+1):=by rw[Nat.div_div_eq_div_mul,Nat.pow_succ]
 have g:k % 2 ^ (i+1)=k % 2 ^ i+2 ^ i*(k / 2 ^ i % 2):=Nat.mod_pow_succ;have d:∃s,G9 N x2=some s/\TabA n (Fz n R (2 ^ (i+1))) s:=by obtain⟨s,e,h⟩:=IO hn o q q;refine⟨s,(Yn N x2).trans e,h.congr fun a b ha hb=>?_⟩;rw[show 2 ^ (i+1)=2 ^ i+2 ^ i by rw[Nat.pow_succ];omega];exact (Cc u (2 ^ i) ha (2 ^ i) b).symm
 obtain⟨sq,esq,d⟩:=d;by_cases m:k / 2 ^ i=0
 .refine ifF (by simp[m]) ⟨x3,rfl,?_⟩
  have:k % 2 ^ i=k:=Ay5 (by
   have:=AI2.1 m
   rcases this with h|h
   .exact Ng h (Nat.ne_of_gt (Nat.two_pow_pos i))
   exact h)
  rw[this]at l;exact l
 have j:i<6:=by
  by_cases h:i<6
  .exact h
  exact Ng (Ay4 (AI9 hk (As7 (by decide:32<2 ^ 6) (Az7 (by omega) (by omega))))) m
 refine ifT (decide_eq_true (Int.natCast_pos.2 (Nat.pos_of_ne_zero m))) ?_;by_cases r:k / 2 ^ i % 2=1
 .refine ifT (by rw[b1];simp[r]) ?_;obtain⟨t,et,ht⟩:=IO hn o l q;refine B0 et (B0 esq (hs j _ _ _ ⟨by rw[b2,f],d,ht.congr fun a b ha hb=>?_⟩));rw[g,r,Av4];exact (Cc u (k % 2 ^ i) ha (2 ^ i) b).symm
 refine ifF (by rw[b1];simp[r]) (B0 esq (hs j _ _ _ ⟨by rw[b2,f],d,?_⟩));rw[g,show k / 2 ^ i % 2=0 by omega,Nat.mul_zero,Ax1];exact l
def Ae3 {s c:Qz}(hs:okS s)(hc:okS c):((E9 .or .u32 (E9 .andNot .u32 c.Plus s.Plus) (E9 .andNot .u32 c.Minus s.Minus))==0)=QK s c:=by
 obtain⟨p,m,rfl⟩:=hs;obtain⟨a,b,rfl⟩:=hc;have e:∀x y:BitVec 32,((E9 .and .u32 (x.toNat:Int) (y.toNat:Int))==(y.toNat:Int))=decide (y &&& ~~~ x=0#32):=by
  intro x y;rw[Dg,At9];simp only[beq_iff_eq,Nj];constructor
  .intro h;have h:x &&& y=y:=Au3 (by omega);refine (z32 _).2 fun i d=>?_
   have:=congrArg (·.getLsbD i) h
   simp only[As2,Av5,d,decide_true,AC6]at this⊢;cases hx:x.getLsbD i<;>cases hy:y.getLsbD i<;>simp_all
  intro h
  have:x &&& y=y:=GT fun i d=>by
   have:=(z32 _).1 h i d
   simp only[As2,Av5,d,decide_true,AC6]at this⊢;cases hx:x.getLsbD i<;>cases hy:y.getLsbD i<;>simp_all
  rw[this]
 unfold QK;simp only[e,CH,HW,eq0];rw[At9];simp only[Aq7,Nj];constructor
 .intro h;have h:=(z32 _).1 h;exact⟨(z32 _).2 fun i d=>by have:=h i d;rw[As0,Az8]at this;exact this.1,(z32 _).2 fun i d=>by have:=h i d;rw[As0,Az8]at this;exact this.2⟩
 rintro⟨h1,f⟩;rw[h1,f];rfl
def VZ (q:1000<=N){w:Sl Qz}(hw:w.n<=32)(l:∀i,i<w.n->okS (w.g i)){c:Qz}(hc:okS c)(no:Bool) :∃f,S3 N ⟨c,no⟩ w=some f/\TabA w.n (fun a b=>a<w.n/\b=a+1/\(QK (w.g a) c != no)=true) f:=by
 unfold S3;refine Ai (fun i x1 x2=>x2=(i:Int)/\∀a,x1 a=if a<i/\(QK (w.g a) c != no) then U (1#64 <<< (a+1))else 0) w.n _ (by omega) ⟨rfl,fun a=>by rw[Na]⟩ ?_;rintro m i x1 x2 r ⟨rfl,d⟩ hs;by_cases hl:i<w.n
 .refine Ba (Al ?_);rw[Aq6,Ae3 (l i hl) hc];by_cases hb:(QK (w.g i) c != no)=true
  .refine ifT (by revert hb;cases QK (w.g i) c<;>cases no<;>simp) ?_;rw[Iz];refine Al (hs hl _ _ ⟨rfl,fun a=>?_⟩);rw[Cf,At5,Av4,OU _ (by omega)];by_cases e:a=i
   .subst e;rw[Nd rfl,Nd ⟨by omega,hb⟩]
   rw[Nf e,d a];by_cases e2:a<i
   .simp only[e2,show a<i+1 by omega,true_and]
   rw[Na,Na]
  refine ifF (by revert hb;cases QK (w.g i) c<;>cases no<;>simp) (hs hl _ _ ⟨Iz,fun a=>?_⟩);rw[d a];by_cases e:a=i
  .subst e;rw[Na,Nf (fun h=>hb h.2)]
  by_cases e2:a<i
  .simp only[e2,show a<i+1 by omega,true_and]
  rw[Na,Na]
 refine Ft ⟨x1,rfl,fun a ha=>?_,fun a ha=>by rw[d a,Na]⟩;by_cases hb:a<w.n/\(QK (w.g a) c != no)=true
 .refine⟨1#64 <<< (a+1),by rw[d a,Nd ⟨by omega,hb.2⟩],fun b j=>?_⟩;rw[Eo (by omega) j,Nj];exact⟨fun h=>⟨by omega,hb.1,h,hb.2⟩,fun h=>h.2.2.1⟩
 refine⟨0#64,by rw[d a,Nf (fun h=>hb ⟨by omega,h.2⟩)];rfl,fun b j=>?_⟩;simp only[AE5,Ar1,false_iff];rintro⟨_,h1,d,o⟩;exact hb ⟨h1,o⟩
def Wa {n a0 b0:Nat}(ha:a0<=n)(hb:b0<=n)(hn:n<=32):TabA n (fun a b=>a=a0/\b=b0) (Jx (fun _=>0) a0 (U (1#64 <<< b0))):=by
 refine⟨fun a d=>?_,fun a d=>by rw[Cf,Na]⟩;by_cases e:a=a0
 .refine⟨1#64 <<< b0,by rw[Cf,Nd e],fun b c=>?_⟩;rw[Eo (by omega) c,Nj];omega
 refine⟨0#64,by rw[Cf,Nf e];rfl,fun b c=>?_⟩;simp only[AE5,Ar1,false_iff];exact fun h=>e h.2.1
def Sv {w:Sl Qz}(hw:w.n<=32)(e:Bool):∃f,W9 N ⟨e⟩ w=some f/\TabA w.n (fun a b=>a=(if e then w.n else 0)/\b=(if e then w.n else 0)) f:=by
 unfold W9;cases e
 .refine Hs (Ej ⟨_,rfl,?_⟩);exact Wa (n:=w.n) (a0:=0) (b0:=0) (by omega) (by omega) hw
 refine ifT rfl (Al ⟨_,rfl,?_⟩);rw[Aq6,At5,Av4,OU _ (by omega)];exact Wa (Aq9 _) (Aq9 _) hw
def Ae4 (a:1000<=N){w:Sl Qz}(hw:w.n<=32){rec:Part->Sl Qz->Option (Nat->Int)}{m:Nat}(hm:m<=40){g:Nat->Part}{Q:Nat->Nat->Nat->Prop}
 (hc:∀i,i<m->∃f,rec (g i) w=some f/\TabA w.n (Q i) f):∃f,Ab rec N ⟨⟨m,g⟩⟩ w=some f/\TabA w.n (TF w.n Q m) f:=by
 unfold Ab;obtain⟨y1,e1,h1⟩:=ED (N:=N) hw a;refine B0 e1 ?_;refine Ai (fun i x1 x2=>x2=(i:Int)/\i<=m/\TabA w.n (TF w.n Q i) x1) m _ (by omega) ⟨rfl,by omega,h1⟩ ?_;rintro b i x1 x2 o ⟨rfl,d,c⟩ hs;by_cases hl:i<m
 .refine Ba (ifT (by show (0:Int)<=i/\(i:Int)<m;omega) ?_);obtain⟨f,e2,j⟩:=hc i hl;refine B0 (by rw[Aq6];exact e2) ?_;obtain⟨s,e3,l⟩:=IO hw a c j;exact B0 e3 (hs hl _ _ ⟨Iz,hl,l⟩)
 obtain rfl:i=m:=by omega
 exact Hs ⟨x1,rfl,c⟩
def Ae5 (l:1000<=N){w:Sl Qz}(hw:w.n<=32){rec:Part->Sl Qz->Option (Nat->Int)}{m:Nat}(hm:m<=40){g:Nat->Part}{Q:Nat->Nat->Nat->Prop}
 (hc:∀i,i<m->∃f,rec (g i) w=some f/\TabA w.n (Q i) f):∃f,Ac rec N ⟨⟨m,g⟩⟩ w=some f/\TabA w.n (fun a b=>∃i,i<m/\Q i a b) f:=by
 unfold Ac;refine Ai (fun i x1 x2=>x2=(i:Int)/\i<=m/\TabA w.n (fun a b=>∃j,j<i/\Q j a b) x1) m _ (by omega) ⟨rfl,by omega,(zeroA _).congr fun a b _ _=>⟨False.elim,fun⟨j,h,_⟩=>Ng h (by omega)⟩⟩ ?_;rintro c i x1 x2 t ⟨rfl,o,d⟩ hs;by_cases hl:i<m
 .refine Ba (ifT (by show (0:Int)<=i/\(i:Int)<m;omega) ?_);obtain⟨f,e2,q⟩:=hc i hl;refine B0 (by rw[Aq6];exact e2) ?_;obtain⟨s,e3,r⟩:=Zo hw l d q;refine B0 e3 (hs hl _ _ ⟨Iz,hl,r.congr fun a b _ _=>⟨?_,?_⟩⟩)
  .rintro (⟨j,h,h'⟩ | h)
   .exact⟨j,by omega,h'⟩
   exact⟨i,by omega,h⟩
  rintro⟨j,h,h'⟩;by_cases e:j=i
  .subst e;exact .inr h'
  exact .inl ⟨j,by omega,h'⟩
 obtain rfl:i=m:=by omega
 exact Hs ⟨x1,rfl,d⟩
end Go.AM
namespace Go.AM
open Go.Proofs
def Ae6 {N:Nat}(l:1000<=N){w:Sl Qz}(hw:w.n<=32){rec:Part->Sl Qz->Option (Nat->Int)}{pt:Part}{Q:Nat->Nat->Prop}(d:Fwd w.n Q){f:Nat->Int}(u:rec pt w=some f)(r:TabA w.n Q f)
 {mn mx:Int}(y:0<=mn) (h1:mn<=32) (z:mx = -1 \/ (mn<=mx/\mx<=32)) :
 ∃s,Ad rec N ⟨pt,mn,mx⟩ w=some s/\TabA w.n (fun a b=>∃k:Nat,mn<=k/\(mx = -1 \/ (k:Int)<=mx)/\Fz w.n Q k a b) s:=by
 obtain⟨m,rfl⟩:∃m:Nat,mn=(m:Int):=⟨mn.toNat,by omega⟩;unfold Ad;refine B0 u ?_;obtain⟨y2,e2,t2⟩:=Pk hw l d r (k:=m) (by omega);refine B0 e2 ?_;obtain⟨y3,e3,t3⟩:=ED (N:=N) hw l;refine B0 e3 ?_;obtain⟨y4,e4,t4⟩:=Zo hw l r t3;refine B0 e4 ?_;have o : Fwd w.n (fun a b=>Q a b \/ a=b):=fun a b ha h=>by
  rcases h with h|h
  .exact d a b ha h
  omega
 have key:∀(K:Nat),K<=32->∃s,((D9 N y4 (K:Int) (w.n:Int)).bind fun y5=>(C5 N y2 y5).bind fun y6=>some y6)=some s/\TabA w.n (fun a b=>∃j,j<=K/\Fz w.n Q (m+j) a b) s:=by
  intro K v;obtain⟨y5,e5,t5⟩:=Pk hw l o t4 (k:=K) v;refine B0 e5 ?_;obtain⟨y6,e6,t6⟩:=IO hw l t2 t5;refine B0 e6 ⟨y6,rfl,t6.congr fun a b ha hb=>?_⟩;constructor
  .rintro⟨c,hc,g1,g2⟩;obtain⟨j,i,g3⟩:=(JP d hc K b).1 g2;exact⟨j,i,(Cc d m ha j b).2 ⟨c,hc,g1,g3⟩⟩
  rintro⟨j,i,g⟩;obtain⟨c,hc,g1,g3⟩:=(Cc d m ha j b).1 g;exact⟨c,hc,g1,(JP d hc K b).2 ⟨j,i,g3⟩⟩
 by_cases hx:mx<0
 .refine ifT (decide_eq_true hx) ?_;obtain⟨s,e,t⟩:=key w.n hw;refine⟨s,e,t.congr fun a b ha hb=>?_⟩;constructor
  .rintro⟨j,i,g⟩;exact⟨m+j,by omega,.inl (by omega),g⟩
  rintro⟨k,hk,_,g⟩;obtain⟨c,hc,g1,g3⟩:=(Cc d m ha (k-m) b).1 (by rw[show m+(k-m)=k by omega];exact g);obtain⟨j,i,g4⟩:=OW d hc (k-m) g3;exact⟨j,i,(Cc d m ha j b).2 ⟨c,hc,g1,g4⟩⟩
 refine ifF (by simpa using hx) ?_;obtain⟨M,rfl⟩:∃M:Nat,mx=(M:Int):=⟨mx.toNat,by omega⟩;have q:IntKind.i64.wrap ((M:Int)-(m:Int))=((M-m:Nat):Int):=by rw[E8 (by omega) (by omega)];omega
 rw[show IntKind.i64.wrap ((⟨pt,(m:Int),(M:Int)⟩:An0).max-(⟨pt,(m:Int),(M:Int)⟩:An0).min)=((M-m:Nat):Int) from q];obtain⟨s,e,t⟩:=key (M-m) (by omega);refine⟨s,e,t.congr fun a b ha hb=>?_⟩;constructor
 .rintro⟨j,i,g⟩;exact⟨m+j,by omega,.inr (by omega),g⟩
 rintro⟨k,hk,x,g⟩;exact⟨k-m,by omega,by rw[show m+(k-m)=k by omega];exact g⟩
def okQ:Nat->Pat->Prop
 |0,_=>False
 |d+1,p=>Fc p/\p.L.n<=40/\∀i,i<p.L.n->okQ d (p.L.g i)
def Sw:∀(d:Nat) (p:Pat),okQ d p->okQ (d+1) p
 |0,_,h=>h.elim
 |d+1,p,⟨h1,h2,h3⟩=>⟨h1,h2,fun i a=>Sw d _ (h3 i a)⟩
def Wb:∀(k:Nat) (l:List Pat),k<=40->chk k l->∀p∈l,okQ k p
 |0,l,_,h,p,hp=>by rw[show l=[] from h]at hp;cases hp
 |k+1,[],_,_,p,hp=>by cases hp
 |k+1,q::l,hk,⟨hn,h⟩,p,hp=>by
  have ih:=Wb k _ (by omega) h;rcases At6.1 hp with rfl|hp
  .have hl:=Kf k _ h;rw[Au6,U5]at hl;exact⟨hn,by omega,fun i a=>ih _ (At2 _ (HC a))⟩
  exact Sw k p (ih p (Ar9 _ hp))
def vS.ok {s:Qz}(h:vS s):okS s:=by obtain⟨p,m,e,_⟩:=h;exact⟨p,m,e⟩
def Ae7 (K:Nat)(p:Pat)(pt:Part):Prop:=∀(w:Sl Qz),w.n<=32->(∀i,i<w.n->okS (w.g i))->∀M,K<=M->∃f,X1 M pt w=some f/\TabA w.n (PR w p) f
def Kh {N:Nat}(x:1000<=N):∀(d:Nat),d<=40->∀(p:Pat),okQ d p->∀M,N+d<=M->∃pt,X0 M p=some pt/\Ae7 (N+d) p pt
 |0,_,p,h,_,_=>h.elim
 |d+1,hd,p,⟨hn,hc,hch⟩,0,hM=>by omega
 |d+1,hd,p,⟨hn,hc,hch⟩,M+1,hM=>by
  show ∃pt,P8 (X0 M) M p=some pt/\_;unfold P8;refine Ai (fun i x1 x2=>x2=(i:Int)/\i<=p.L.n/\x1.n=i/\∀j,j<i->Ae7 (N+d) (p.L.g j) (x1.g j)) p.L.n _ (by omega) ⟨rfl,by omega,rfl,fun j t=>Ng t (by omega)⟩ ?_;rintro u i x1 x2 v ⟨rfl,h1,q,o⟩ hs;by_cases hl:i<p.L.n
  .refine Ba (Al ?_);obtain⟨pt,e,y⟩:=Kh x d (by omega) (p.L.g i) (hch i hl) M (by omega);refine B0 (by rw[Aq6];exact e) ?_;refine ifT (by show (x1.n+1)*16<=_/\x1.n+1<=_;omega) (hs hl _ _ ⟨Iz,hl,by show x1.n+1=i+1;omega,fun j t=>?_⟩);by_cases e2:j=i
   .subst e2
    have:(x1.push pt).g j=pt:=by simp[Sl.push,q]
    rw[this];exact y
   have:(x1.push pt).g j=x1.g j:=by simp[Sl.push];omega
   rw[this];exact o j (by omega)
  obtain rfl:i=p.L.n:=by omega
  have fin:∀(pt:Part),(∀(w:Sl Qz),w.n<=32->(∀i,i<w.n->okS (w.g i))->∀M,N+d<=M->∃f,X1 (M+1) pt w=some f/\TabA w.n (PR w p) f)->∃r,some pt=some r/\Ae7 (N+(d+1)) p r:=by intro pt h;refine⟨pt,rfl,fun w hw c M' l=>?_⟩;obtain⟨M'',rfl⟩:∃M'',M' = M'' + 1:=⟨M' - 1,by omega⟩;exact h w hw c M'' (by omega)
  refine Hs ?_;obtain⟨⟨k0,k6⟩,n1,n2,n3,n4,n5⟩:=hn;by_cases k1:p.Kind=1
  .refine ifT (by simp[k1]) (fin _ fun w hw c M' l=>?_);obtain⟨f,e,h⟩:=VZ (N:=M') (by omega) hw c n5.ok p.Not;refine⟨f,e,h.congr fun a b _ _=>?_⟩;rw[IE];simp[k1]
  refine ifF (by simp[k1]) ?_;by_cases k2:p.Kind=2
  .refine ifT (by simp[k2]) (fin _ fun w hw c M' l=>?_);obtain⟨f,e,h⟩:=Sv (N:=M') hw false;refine⟨f,e,h.congr fun a b _ _=>?_⟩;rw[IE];simp[k2]
  refine ifF (by simp[k2]) ?_;by_cases k6:p.Kind=6
  .refine ifT (by simp[k6]) (fin _ fun w hw c M' l=>?_);obtain⟨f,e,h⟩:=Sv (N:=M') hw true;refine⟨f,e,h.congr fun a b _ _=>?_⟩;rw[IE];simp[k6]
  refine ifF (by simp[k6]) ?_;by_cases k4:p.Kind=4
  .refine ifT (by simp[k4]) (fin _ fun w hw c M' l=>?_);obtain⟨f,e,h⟩:=Ae5 (N:=M') (by omega) hw (rec:=X1 M') (m:=x1.n) (g:=x1.g) (Q:=fun i=>PR w (p.L.g i)) (by omega) fun i v=>o i (by omega) w hw c M' (by omega);refine⟨f,e,h.congr fun a b _ _=>?_⟩;rw[IE,q];simp[k4]
  refine ifF (by simp[k4]) ?_;by_cases k5:p.Kind=5
  .obtain⟨g1,g2,g3,g4⟩:=n4 k5;refine ifT (by simp[k5]) (Al (fin _ fun w hw c M' l=>?_));obtain⟨f,e,h⟩:=o 0 (by omega) w hw c M' (by omega);obtain⟨s,e2,z⟩:=Ae6 (N:=M') (by omega) hw (rec:=X1 M') (OX w (p.L.g 0)) e h g2 g3 g4;refine⟨s,e2,z.congr fun a b _ _=>?_⟩;rw[IE];simp[k5]
  refine ifF (by simp[k5]) (fin _ fun w hw c M' l=>?_);obtain⟨f,e,h⟩:=Ae4 (N:=M') (by omega) hw (rec:=X1 M') (m:=x1.n) (g:=x1.g) (Q:=fun i=>PR w (p.L.g i)) (by omega) fun i v=>o i (by omega) w hw c M' (by omega);refine⟨f,e,h.congr fun a b _ _=>?_⟩;rw[IE,q];by_cases k3:p.Kind=3
  .simp[k3]
  have k0' : p.Kind=0:=by omega
  rw[n2 k3 k4 k5];simp[k0',TF]
end Go.AM
namespace Go.AM
variable {N:Nat}
open IntKind (wrap)
open Go.Proofs
def TN {p:Pat}(hp:okS p.Is):∃e,W7 N p=some e/\(e=0↔Fc p):=by
 obtain⟨a,b,i⟩:=hp;have m:=QX i;have V:L0 N p.Is=some (vB a b):=by rw[i];exact Pg a b
 have e0:((p.Is.Plus==0)&&(p.Is.Minus==0))=decide (p.Is.Plus=0/\p.Is.Minus=0):=by rw[At9];simp
 have fin:(Fc p↔vS p.Is)->∃e,((L0 N p.Is).bind fun y1=>if (!y1) then some (14:Int)else some 0)=some e/\(e=0↔Fc p):=by
  intro c;rw[V];refine B0 rfl ?_;rw[c,m];cases vB a b
  .exact ifT rfl ⟨14,rfl,by simp⟩
  exact Hs ⟨0,rfl,by simp⟩
 have bad:∀{x:Int},x≠0->¬Fc p->∃e,some x=some e/\(e=0↔Fc p):=fun hx h=>⟨_,rfl,fun d=>Ng d hx,fun d=>Ng d h⟩;unfold W7;by_cases hk:p.Kind=0 \/ p.Kind=2 \/ p.Kind=6
 .refine ifT (by rcases hk with h|h|h<;>simp[h]) (ltX ?_);rw[e0];by_cases g1:p.Is.Plus=0/\p.Is.Minus=0
  case neg=>exact ifT (by simp[g1]) (ifT rfl (bad (by decide) fun h=>g1 (h.2.1 (by omega)).1))
  refine ifF (by simp[g1]) ?_;by_cases g2:p.Not=true
  .exact ifT g2 (ifT rfl (bad (by decide) fun h=>by have:=(h.2.1 (by omega)).2;rw[g2]at this;cases this))
  refine ifF g2 ?_;by_cases g3:p.Min=0
  case neg=>exact ifT (by simp[g3]) (ifT rfl (bad (by decide) fun h=>g3 (h.2.2.2.1 (by omega)).1))
  refine ifF (by simp[g3]) ?_;by_cases g4:p.Max=0
  case neg=>exact ifT (by simp[g4]) (ifT rfl (bad (by decide) fun h=>g4 (h.2.2.2.1 (by omega)).2))
  refine ifF (by simp[g4]) ?_;by_cases g5:p.L.n=0
  case neg=>exact Ba (bad (by decide) fun h=>g5 (h.2.2.1 (by omega) (by omega) (by omega)))
  refine Ft (fin ?_);exact⟨fun h=>h.2.2.2.2.2,fun h=>⟨by omega,fun _=>⟨g1,by simpa using g2⟩,fun _ _ _=>g5,fun _=>⟨g3,g4⟩,fun f=>by omega,h⟩⟩
 refine ifF (by simp only[not_or]at hk;simp[hk]) ?_;by_cases k1:p.Kind=1
 .refine ifT (by simp[k1]) (ltX ?_);refine Hs ?_;by_cases g3:p.Min=0
  case neg=>exact ifT (by simp[g3]) (ifT rfl (bad (by decide) fun h=>g3 (h.2.2.2.1 (by omega)).1))
  refine ifF (by simp[g3]) ?_;by_cases g4:p.Max=0
  case neg=>exact ifT (by simp[g4]) (ifT rfl (bad (by decide) fun h=>g4 (h.2.2.2.1 (by omega)).2))
  refine ifF (by simp[g4]) ?_;by_cases g5:p.L.n=0
  case neg=>exact Ba (bad (by decide) fun h=>g5 (h.2.2.1 (by omega) (by omega) (by omega)))
  refine Ft (fin ?_);exact⟨fun h=>h.2.2.2.2.2,fun h=>⟨by omega,fun h1=>Ng k1 h1,fun _ _ _=>g5,fun _=>⟨g3,g4⟩,fun f=>by omega,h⟩⟩
 refine ifF (by simp[k1]) (ltX ?_);rw[e0];have tail:∀(x y:Int),(Fc p↔(p.Is.Plus=0/\p.Is.Minus=0)/\p.Not=false/\x=0/\y=0/\vS p.Is)->∃e,(if (((((decide (p.Is.Plus=0/\p.Is.Minus=0) != true)||p.Not)||(x != 0))||(y != 0))||(decide (0<0))) then some (2:Int)else
  (L0 N p.Is).bind fun y3=>if (!y3) then some 14 else some 0)=some e/\(e=0↔Fc p):=by
  intro x y c;by_cases g:(p.Is.Plus=0/\p.Is.Minus=0)/\p.Not=false/\x=0/\y=0
  .obtain⟨g1,g2,g3,g4⟩:=g;exact ifF (by simp[g1,g2,g3,g4]) (fin (c.trans ⟨fun h=>h.2.2.2.2,fun h=>⟨g1,g2,g3,g4,h⟩⟩))
  refine ifT ?_ (bad (by decide) fun h=>g ⟨(c.1 h).1,(c.1 h).2.1,(c.1 h).2.2.1,(c.1 h).2.2.2.1⟩);simp only[At0,bne_iff_ne,ne_eq,Nj];by_cases g1:p.Is.Plus=0/\p.Is.Minus=0
  .by_cases g2:p.Not=true
   .simp[g2]
   by_cases g3:x=0
   .have:¬y=0:=fun g4=>g ⟨g1,by simpa using g2,g3,g4⟩
    simp[this]
   simp[g3]
  simp[g1]
 by_cases k34:p.Kind=3 \/ p.Kind=4
 .refine ifT (by rcases k34 with h|h<;>simp[h]) (tail _ _ ?_);constructor
  .exact fun h=>⟨(h.2.1 k1).1,(h.2.1 k1).2,(h.2.2.2.1 (by omega)).1,(h.2.2.2.1 (by omega)).2,h.2.2.2.2.2⟩
  rintro⟨h1,d,j,l,f⟩;exact⟨by omega,fun _=>⟨h1,d⟩,fun h h'=>by omega,fun _=>⟨j,l⟩,fun h=>by omega,f⟩
 refine ifF (by simp only[not_or]at k34;simp[k34]) ?_;by_cases k5:p.Kind=5
 .refine ifT (by simp[k5]) ?_;by_cases g:p.L.n=1/\0<=p.Min/\p.Min<=32/\(p.Max = -1 \/ (p.Min<=p.Max/\p.Max<=32))
  .refine ifF (by simp only[At0,Aq7,bne_iff_ne,ne_eq,Nj];omega) (tail 0 0 ?_);constructor
   .exact fun h=>⟨(h.2.1 k1).1,(h.2.1 k1).2,rfl,rfl,h.2.2.2.2.2⟩
   rintro⟨h1,d,j,l,f⟩;exact⟨by omega,fun _=>⟨h1,d⟩,fun _ _ h=>Ng k5 h,fun h=>Ng k5 h,fun _=>g,f⟩
  exact ifT (by simp only[At0,Aq7,bne_iff_ne,ne_eq,Nj];omega) (bad (by decide) fun h=>g (h.2.2.2.2.1 k5))
 exact ifF (by simp[k5]) (bad (by decide) fun h=>by have:=h.1;omega)
def Wc {x:Sl Pat}{m:Nat}(h:x.n=m+1):x.toList.reverse=x.g m::(x.take m).toList.reverse:=by unfold Sl.toList;rw[h,AB7,AH0,AE6];rfl
def Yo (z:Sl Pat)(q:Pat):((z.push Pat.nil).upd z.n q).toList.reverse=q::z.toList.reverse:=by
 rw[Wc (m:=z.n) rfl];have e1:((z.push Pat.nil).upd z.n q).g z.n=q:=by simp
 have e2:(((z.push Pat.nil).upd z.n q).take z.n).toList=z.toList:=by
  unfold Sl.toList;refine Au0 fun i a=>?_
  have:i<z.n:=Aw8.1 a
  show (if i=z.n then q else if i<z.n then z.g i else Pat.nil)=z.g i;rw[Na,Nd this]
 rw[e1,e2]
def QZ (q:Sl Pat)(c:q.n<N)(hs:q.n<1000000):B7 N q=some ((List.range q.n).reverse.map fun (i:Nat)=>((i:Int),q.g i)):=by
 unfold B7;have h:∀(m:Nat),m<=q.n->∀F,m<F->Ao F (fun (a:Int->Option (List (Int×Pat))) (x1:Int)=>
  if (decide (0<=x1)) then
   if ((0:Int)<=x1/\x1<(q.n:Int))then
    P7 (x1,q.g x1.toNat) (
     a (wrap .i64 (x1-1))
     )
   else none
  else
   some []) ((m:Int)-1)=some ((List.range m).reverse.map fun (i:Nat)=>((i:Int),q.g i)):=by
  intro m
  induction m with
  |zero=>
   intro _ F b
   match F,b with
   |F+1,_=>rfl
  |succ m ih=>
   intro hm F b
   match F,b with
   |F+1,b=>rw[P5];rw[show ((m+1:Nat):Int)-1=(m:Int) by omega,Nd (by simp),J4,E8 (by omega) (by omega),ih (by omega) F (by omega),Aq6,AB7,AE6,AG5,AH2,At4];rfl
 rw[E8 (by omega) (by omega)];exact h q.n (Aq9 _) N c
def Ae8 {k:Nat}(hk:k<=40){c:Sl Pat}{l:List Pat}:chk k ((c.take (min 41 c.n)).toList++l)↔chk k (c.toList++l):=by
 by_cases h:c.n<=41
 .rw[AD6 h]
 constructor
 .intro a
  have:=Kf _ _ a
  rw[Au6,U5]at this
  have:(c.take (min 41 c.n)).n=41:=Ax7 (by omega)
  omega
 intro a
 have:=Kf _ _ a
 rw[Au6,U5]at this;omega
def Nu (hN:2000<=N){p:Pat}(hp:okPS p):∃e,S4 N p=some e/\(e=0↔chk 40 [p]):=by
 unfold S4;refine Ai (fun i x3 x4=>x4=(i:Int)/\x3.n<=1+41*i/\(∀q∈x3.toList.reverse,okPS q)/\(chk 40 [p]↔chk (40-i) x3.toList.reverse)) 40 _ (by omega)
  ⟨rfl,by show 1<=_;omega,fun q l=>by rw[show (Sl.of [p]:Sl Pat).toList.reverse=[p] from rfl]at l;rw[Az5.1 l];exact hp,Az9⟩ ?_
 rintro x i x3 x4 hi ⟨rfl,h1,c,f⟩ hs;rcases hn:x3.n with _|m
 .refine Hs ⟨0,rfl,fun _=>f.2 ?_,fun _=>rfl⟩
  have:x3.toList.reverse=[]:=by unfold Sl.toList;rw[hn];rfl
  rw[this];exact VV _
 rw[Wc hn]at f c;refine ifT (decide_eq_true (by omega)) ?_;by_cases r:i=40
 .subst r;refine Bh ⟨12,rfl,fun h=>Ng h (by decide),fun h=>?_⟩
  have:(x3.g m::(x3.take m).toList.reverse)=[]:=f.1 h
  cases this
 refine Ft ?_;have hw:IntKind.i64.wrap (((m+1:Nat):Int)-1)=(m:Int):=by rw[E8 (by omega) (by omega)];omega
 simp only[hw,Aq6];refine Al (Al ?_);obtain⟨e,y,a⟩:=TN (N:=N) (c (x3.g m) (by simp)).is;refine B0 y ?_;rw[show 40-i=(39-i)+1 by omega]at f;by_cases o:e=0
 case neg=>exact ifT (by simp[o]) ⟨e,rfl,fun h=>Ng h o,fun h=>Ng (a.2 (f.1 h).1) o⟩
 refine ifF (by simp[o]) ?_;have hc:(if (41:Int)<((x3.g m).L.n:Int)then (41:Int)else ((x3.g m).L.n:Int))=((min 41 (x3.g m).L.n:Nat):Int):=by split<;>omega
 simp only[hc,Aq6];refine Al (B0 rfl (B0 (QZ _ (by show min 41 _<N;omega) (by show min 41 _<1000000;omega)) ?_));generalize s:(x3.g m).L.take (min 41 (x3.g m).L.n)=C;have a0:C.n<=41:=by rw[<- s];exact Nat.min_le_left _ _
 refine Ym (fun L z=>∃j,j<=C.n/\L=((List.range j).reverse.map fun (i:Nat)=>((i:Int),C.g i))/\z.n=m+(C.n-j)/\z.toList.reverse=C.toList.drop j++(x3.take m).toList.reverse) ?_ ?_ _ _ ⟨C.n,Aq9 _,rfl,by show m=_;omega,by rw[Ak];rfl⟩
 .rintro z ⟨j,hj,hL,hz,b⟩;have u:j=0:=by
   cases j with
   |zero=>rfl
   |succ j=>simp[AB7]at hL
  subst u;rw[AF1]at b;refine hs (by omega) _ _ ⟨Iz,by omega,fun q l=>?_,?_⟩
  .rw[b]at l;rcases List.mem_append.1 l with h|h
   .obtain⟨i',d,rfl⟩:=Ax4.1 h;have d:=Aw8.1 d;rw[<- s]at d⊢;exact (c (x3.g m) (by simp)).L (As7 d (Nat.min_le_right _ _))
   exact c q (by simp[h])
  rw[b,f,show 40-(i+1)=39-i by omega,<- s,Ae8 (by omega)];exact⟨fun h=>h.2,fun h=>⟨a.1 o,h⟩⟩
 rintro t L z v ⟨j,hj,hL,hz,b⟩ w;cases j with
 |zero=>simp at hL
 |succ j=>rw[AB7,AE6,AG5,AH2,At4]at hL;obtain⟨rfl,rfl⟩:=List.cons.inj hL;have e1:(z.n:Int).toNat=z.n:=Aq6 _;refine ifT ⟨⟨⟨by show (z.n+1)*64<=_;omega,by show z.n+1<=_;omega⟩,by show (0:Int)<=_/\(z.n:Int)<((z.n+1:Nat):Int);omega⟩,by show z.n<z.n+1;omega⟩ ?_;refine w _ ⟨j,by omega,rfl,by show z.n+1=_;omega,?_⟩;rw[Yo,b,BO C (i:=j) (by omega),Au5]
end Go.AM
namespace Go.AM
open IntKind (wrap)
open Go.Proofs
def wOk (w:Sl Qz):Prop:=w.n<=32/\∀i,i<w.n->vS (w.g i)
def Iq {N:Nat}{w:Sl Qz}(m:w.n<N)(hs:w.n<1000000){f:Qz->Option Bool}{b:Nat->Bool}(o:∀i,i<w.n->f (w.g i)=some (b i)) :∃r,A7 N w f=some r/\(r=true ↔ ∃i,i<w.n/\b i=true):=by
 unfold A7 C0
 have:∃y,Ao N (fun (a:Int->Option Int) (x1:Int)=>
  if (decide (x1<(w.n:Int))) then
   if ((0:Int)<=x1/\x1<(w.n:Int))then
    (f (w.g x1.toNat)).bind fun y3=>
    if y3 then
     some x1
    else
     a (wrap .i64 (x1+1))
   else none
  else
   some (-1)) 0=some y/\(0<=y ↔ ∃i,i<w.n/\b i=true):=by
  refine Fb (fun i x1=>x1=(i:Int)/\∀j,j<i->b j=false) w.n _ m ⟨rfl,fun j c=>Ng c (by omega)⟩ ?_;rintro l i x1 q ⟨rfl,h⟩ d;by_cases hl:i<w.n
  .refine Ba (Al (B0 (by rw[Aq6];exact o i hl) ?_));cases hb:b i
   .refine Hs (d hl _ ⟨Iz,fun j c=>?_⟩);by_cases e:j=i
    .subst e;exact hb
    exact h j (by omega)
   exact ifT rfl ⟨i,rfl,fun _=>⟨i,hl,hb⟩,fun _=>by omega⟩
  refine Ft ⟨-1,rfl,fun h=>Ng h (by decide),?_⟩;rintro⟨j,c,hb⟩;rw[h j (by omega)]at hb;cases hb
 obtain⟨y,e,hy⟩:=this;exact B0 e ⟨_,rfl,by rw[Nj];exact hy⟩
def Mf {N:Nat}(z:3000<=N){p:Pat}(hp:okPS p){w:Sl Qz}(hs:w.n<1000000/\w.n+1000<N)(hw:∀i,i<w.n->okS (w.g i)) :∃r,U1 N p w=some r/\(r.2=0↔chk 40 [p]/\wOk w)/\(r.2=0->TabA w.n (PR w p) r.1):=by
 unfold U1;obtain⟨e,l,hc⟩:=Nu (N:=N) (by omega) hp;refine B0 l ?_;by_cases d:e=0
 case neg=>exact ifT (by simp[d]) ⟨_,rfl,⟨fun h=>Ng h d,fun h=>Ng (hc.2 h.1) d⟩,fun h=>Ng h d⟩
 refine ifF (by simp[d]) ?_;by_cases hn:32<w.n
 .exact Ba ⟨_,rfl,⟨fun h=>Ng h (by decide),fun h=>by have:=h.2.1;omega⟩,fun h=>Ng h (by decide)⟩
 refine Ft ?_;have s:∀i,∃b:Bool,i<w.n->O9 N (w.g i)=some b/\(b=true ↔ ¬vS (w.g i)):=by
  intro i;by_cases a:i<w.n
  .obtain⟨x,y,l⟩:=hw i a;refine⟨!vB x y,fun _=>⟨?_,?_⟩⟩
   .unfold O9;rw[l,Pg];rfl
   rw[QX l];cases vB x y<;>simp
  exact⟨false,fun h=>Ng h a⟩
 obtain⟨b,hb⟩:=Ay8 s;obtain⟨r,t,j⟩:=Iq (N:=N) (by omega) hs.1 (f:=fun u1=>O9 N u1) fun i a=>(hb i a).1;refine B0 t ?_;by_cases c:r=true
 .refine ifT c ⟨_,rfl,⟨fun h=>Ng h (by decide),fun h=>?_⟩,fun h=>Ng h (by decide)⟩;obtain⟨i,a,m⟩:=j.1 c;exact Ng (h.2.2 i a) ((hb i a).2.1 m)
 refine ifF c ?_;have o:wOk w:=⟨by omega,fun i a=>Av3 fun q=>c (j.2 ⟨i,a,(hb i a).2.2 q⟩)⟩;obtain⟨pt,ep,u⟩:=Kh (N:=1000) (by omega) 40 (Aq9 _) p (Wb 40 [p] (Aq9 _) (hc.1 d) p (by simp)) N (by omega);refine B0 ep ?_;obtain⟨f,ef,v⟩:=u w (by omega) hw N (by omega);exact B0 ef ⟨_,rfl,⟨fun _=>⟨hc.1 d,o⟩,fun _=>rfl⟩,fun _=>v⟩
end Go.AM
namespace Go.AM
variable {N:Nat}
open Go.Proofs
def TO (o:3000<=N){p:Pat}(hp:okPS p){w:Sl Qz}(hs:w.n<1000000/\w.n+1000<N)(hw:∀i,i<w.n->okS (w.g i))(at_:Int) :∃r,Ae N p w at_=some r/\(0<r.1.n↔chk 40 [p]/\wOk w/\0<=at_/\at_<=w.n/\∃a,a<=w.n/\PR w p a at_.toNat):=by
 unfold Ae;obtain⟨y,e,h1,q⟩:=Mf o hp hs hw;refine B0 e (ltX ?_);by_cases c:y.2=0
 case neg=>refine ifF (by simp[c]) (ifT (by simp[c]) ⟨_,rfl,fun h=>Ng h (by show ¬ 0<0;omega),fun h=>Ng (h1.2 ⟨h.1,h.2.1⟩) c⟩)
 refine ifT (by simp[c]) ?_;obtain⟨hc,d⟩:=h1.1 c;have s:=q c;have hn:=d.1;unfold T7;by_cases f:at_<0 \/ (w.n:Int)<at_
 .rw[Nd (by simpa using f)];refine B0 rfl (Ej ⟨_,rfl,fun h=>Ng h (by show ¬ 0<0;omega),fun h=>by omega⟩)
 rw[Nf (by simpa using f)];refine B0 rfl (Hs ?_);obtain⟨k,rfl⟩:∃k:Nat,at_=(k:Int):=⟨at_.toNat,by omega⟩;rw[Iz,Aq6];refine Ai (fun i x2 x3=>x3=(i:Int)/\x2.n<=i/\(0<x2.n ↔ ∃a,a<i/\PR w p a k)) (w.n+1) _ (by omega) ⟨rfl,Aq9 _,fun h=>Ng h (by show ¬ 0<0;omega),fun⟨a,h,_⟩=>Ng h (by omega)⟩ ?_;rintro m i x2 x3 t ⟨rfl,g1,g2⟩ j;by_cases hl:i<=w.n
 .refine Ba (Al ?_);rw[Aq6,At5,Av4];have hb:=s.1.bit hl (b:=k) (by omega);by_cases l:PR w p i k
  .refine ifT (hb.2 ⟨by omega,l⟩) (ifT (by show (x2.n+1)*8<=_/\x2.n+1<=_;omega) (j (by omega) _ _ ⟨Iz,by show x2.n+1<=_;omega,fun _=>⟨i,by omega,l⟩,fun _=>by show 0<x2.n+1;omega⟩))
  refine ifF (fun h=>l (hb.1 h).2) (j (by omega) _ _ ⟨Iz,by omega,fun h=>?_,fun⟨a,ha,h⟩=>?_⟩)
  .obtain⟨a,ha,h'⟩:=g2.1 h;exact⟨a,by omega,h'⟩
  by_cases e2:a=i
  .subst e2;exact Ng h l
  exact g2.2 ⟨a,by omega,h⟩
 refine Ft ⟨_,rfl,fun h=>?_,fun h=>?_⟩
 .obtain⟨a,ha,h'⟩:=g2.1 h;exact⟨hc,d,by omega,by omega,a,by omega,h'⟩
 obtain⟨a,ha,h'⟩:=h.2.2.2.2;exact g2.2 ⟨a,by omega,h'⟩
def Ra (L:List Int)(hL:L.length<1000):∃s,I6 N L=some s/\s.n=L.length:=by
 unfold I6 F6
 have:∃s:Sl Int,K5 L (fun (a:Sl Int->Option (Sl Int)) (x1:Int) (z1:Sl Int)=>
  if ((z1.n+(Sl.of [x1]:Sl Int).n)*8<=140737488355328/\z1.n+(Sl.of [x1]:Sl Int).n<=140737488355328)then
   a (z1.push x1)
  else none
  ) (fun (z1:Sl Int)=>some z1) Qv=some s/\s.n=L.length:=by
  refine Ym (fun l z=>z.n+l.length=L.length) (fun z h=>⟨z,rfl,by simpa using h⟩) (fun t l z b h hs=>?_) L _ (by simp);simp only[As6]at h;exact ifT (by show (z.n+1)*8<=_/\z.n+1<=_;omega) (hs _ (by show z.n+1+l.length=_;omega))
 obtain⟨s,e,hn⟩:=this;exact B0 e ⟨s,rfl,hn⟩
def Yp (l:3000<=N){p:Pat}(hp:okPS p){w:Sl Qz}(hs:w.n<1000000/\w.n+1000<N)(hw:∀i,i<w.n->okS (w.g i))(at_:Int) :∃r,BL N p w at_=some r/\(0<r.1.n↔chk 40 [p]/\wOk w/\0<=at_/\at_<=w.n/\∃b,b<=w.n/\PR w p at_.toNat b):=by
 unfold BL;obtain⟨y,e,h1,m⟩:=Mf l hp hs hw;refine B0 e (ltX ?_);by_cases c:y.2=0
 case neg=>refine ifF (by simp[c]) (ifT (by simp[c]) ⟨_,rfl,fun h=>Ng h (by show ¬ 0<0;omega),fun h=>Ng (h1.2 ⟨h.1,h.2.1⟩) c⟩)
 refine ifT (by simp[c]) ?_;obtain⟨hc,d⟩:=h1.1 c;have o:=m c;have hn:=d.1;unfold T7;by_cases f:at_<0 \/ (w.n:Int)<at_
 .rw[Nd (by simpa using f)];refine B0 rfl (Ej ⟨_,rfl,fun h=>Ng h (by show ¬ 0<0;omega),fun h=>by omega⟩)
 rw[Nf (by simpa using f)];refine B0 rfl (Hs ?_);obtain⟨k,rfl⟩:∃k:Nat,at_=(k:Int):=⟨at_.toNat,by omega⟩;refine Al ?_;rw[Aq6,At5,Av4];obtain⟨u,e1,g1⟩:=o.1 k (by omega);refine B0 (x:=y.1 k) rfl (B0 (x:=DA u 0) (by rw[e1];exact FY u (by omega)) ?_);obtain⟨s,es,j⟩:=Ra (N:=N) (DA u 0) (by unfold DA;rw[Au9];exact AI9 (AH3 _ _) (by simp))
 refine B0 es ⟨_,rfl,?_⟩;show 0<s.n↔_;rw[j,List.length_pos_iff_exists_mem];constructor
 .rintro⟨t,ht⟩;obtain⟨b,rfl,_,hb,a⟩:=mem_bitsF.1 ht;exact⟨hc,d,by omega,by omega,b,((g1 b hb).1 a).1,((g1 b hb).1 a).2⟩
 rintro⟨_,_,_,_,b,hb,h⟩;exact⟨(b:Int),mem_bitsF.2 ⟨b,rfl,by omega,by omega,(g1 b (by omega)).2 ⟨hb,h⟩⟩⟩
end Go.AM
namespace Go.AM
variable {N:Nat}
open IntKind (wrap)
open Go.Proofs
def Sx (w:Sl Qz)(e:Int):Prop:=(32<w.n/\e=11) \/ (w.n<=32/\(∃i,i<w.n/\¬vS (w.g i))/\e=14) \/ (wOk w/\e=0)
def GU {w:Sl Qz}{e e' : Int}(h:Sx w e)(h' : Sx w e'):e=e':=by
 rcases h with⟨h1,a⟩ | ⟨h1,⟨i,b,c⟩,a⟩ | ⟨h1,a⟩<;>rcases h' with⟨g1,g2⟩ | ⟨g1,⟨j,d,gv⟩,g2⟩ | ⟨g1,g2⟩
 .omega
 .omega
 .have:=g1.1;omega
 .omega
 .omega
 .exact Ng (g1.2 i b) c
 .have:=h1.1;omega
 .exact Ng (h1.2 j d) gv
 omega
def O0 {w:Sl Qz}{e:Int}(h:Sx w e):e=0↔wOk w:=by
 rcases h with⟨h1,a⟩ | ⟨h1,⟨i,b,c⟩,a⟩ | ⟨h1,a⟩
 .exact⟨fun h=>by omega,fun h=>by have:=h.1;omega⟩
 .exact⟨fun h=>by omega,fun h=>Ng (h.2 i b) c⟩
 exact⟨fun _=>h1,fun _=>a⟩
def Pl (o:1000<=N){w:Sl Qz}(hw:∀i,i<w.n->okS (w.g i))(V:Qz->Option Bool)(f:∀p m:BitVec 32,V (sOf p m)=some (vB p m)) :∃e,(if (decide (32<(w.n:Int))) then
 some (11:Int)
 else
  Ao N (fun a (x1:Int)=>
   if (decide (x1<(w.n:Int))) then
    if ((0:Int)<=x1/\x1<(w.n:Int))then
     (V (w.g x1.toNat)).bind fun y3=>
     if (!y3) then
      some 14
     else
      a (wrap .i64 (x1+1))
    else none
   else
    some 0
   ) 0)=some e/\Sx w e:=by
 by_cases hn:32<w.n
 .exact Ba ⟨11,rfl,.inl ⟨hn,rfl⟩⟩
 refine Ft ?_;refine Fb (fun i x1=>x1=(i:Int)/\∀j,j<i->vS (w.g j)) w.n _ (by omega) ⟨rfl,fun j b=>Ng b (by omega)⟩ ?_;rintro d i x1 q ⟨rfl,h⟩ hs;by_cases hl:i<w.n
 .obtain⟨p,m,c⟩:=hw i hl;refine Ba (Al (B0 (by rw[Aq6,c];exact f p m) ?_));cases hb:vB p m
  .refine ifT rfl ⟨14,rfl,.inr (.inl ⟨by omega,⟨i,hl,fun l=>?_⟩,rfl⟩)⟩
   have:=(QX c).1 l;rw[hb]at this;cases this
  refine Hs (hs hl _ ⟨Iz,fun j b=>?_⟩);by_cases e:j=i
  .subst e;exact (QX c).2 hb
  exact h j (by omega)
 exact Ft ⟨0,rfl,.inr (.inr ⟨⟨by omega,fun j b=>h j (by omega)⟩,rfl⟩)⟩
def Pm (a:1000<=N){w:Sl Qz}(hw:∀i,i<w.n->okS (w.g i)):∃e,S0 N w=some e/\Sx w e:=
 Pl a hw (Y8 N) fun p m=>Pf p m
def CT (a:1000<=N){w:Sl Qz}(hw:∀i,i<w.n->okS (w.g i)):∃e,Az N w=some e/\Sx w e:=
 Pl a hw (R9 N) fun p m=>Md p m
def Sy (d:2000<=N){p:Pat}(hp:okPS p){w:Sl Qz}(hw:∀i,i<w.n->okS (w.g i)):∃e,ET N p w=some e/\(e=0↔chk 40 [p]/\wOk w):=by
 unfold ET;obtain⟨e,f,hc⟩:=Kg d hp;refine B0 f ?_;by_cases a:e=0
 .obtain⟨e2,b,c⟩:=CT (N:=N) (by omega) hw;exact ifT (by simp[a]) (B0 b ⟨e2,rfl,(O0 c).trans ⟨fun h=>⟨hc.1 a,h⟩,fun h=>h.2⟩⟩)
 exact ifF (by simp[a]) ⟨e,rfl,fun h=>Ng h a,fun h=>Ng (hc.2 h.1) a⟩
def Rb (s:3000<=N){p:Pat}(hp:okPS p){w:Sl Qz}(hw:∀i,i<w.n->okS (w.g i))(at_:Int) :∃r,Er N p w at_=some r/\(0<r.1.n↔chk 40 [p]/\wOk w/\0<=at_/\at_<=w.n/\∃a,a<=w.n/\PR w p a at_.toNat):=by
 unfold Er;obtain⟨e,o,h1⟩:=Sy (N:=N) (by omega) hp hw;refine B0 o ?_;by_cases j:e=0
 case neg=>exact ifT (by simp[j]) ⟨_,rfl,fun h=>Ng h (by show ¬ 0<0;omega),fun h=>Ng (h1.2 ⟨h.1,h.2.1⟩) j⟩
 refine ifF (by simp[j]) ?_;obtain⟨hc,c⟩:=h1.1 j;have hn:=c.1;by_cases d:at_<0 \/ (w.n:Int)<at_
 .exact ifT (by simpa using d) ⟨_,rfl,fun h=>Ng h (by show ¬ 0<0;omega),fun h=>by omega⟩
 refine ifF (by simpa using d) ?_;obtain⟨k,rfl⟩:∃k:Nat,at_=(k:Int):=⟨at_.toNat,by omega⟩;obtain⟨t,et,tn,q⟩:=Ke (N:=1000) (by omega) hn 40 p (Ph 40 [p] (Aq9 _) hc p (by simp)) N (by omega);refine B0 et ?_;rw[Aq6];refine Ai (fun i x2 x3=>x3=(i:Int)/\x2.n<=i/\(0<x2.n ↔ ∃a,a<i/\PR w p a k)) (w.n+1) _ (by omega) ⟨rfl,Aq9 _,fun h=>Ng h (by show ¬ 0<0;omega),fun⟨a,h,_⟩=>Ng h (by omega)⟩ ?_;rintro m i x2 x3 u ⟨rfl,g1,g2⟩ f;by_cases hl:i<=w.n
 .refine Ba (Al ?_);rw[Aq6];have hb:=q.bit hl (b:=k) (by omega);by_cases l:PR w p i k
  .refine ifT (hb.2 ⟨by omega,l⟩) (ifT (by show (x2.n+1)*8<=_/\x2.n+1<=_;omega) (f (by omega) _ _ ⟨Iz,by show x2.n+1<=_;omega,fun _=>⟨i,by omega,l⟩,fun _=>by show 0<x2.n+1;omega⟩))
  refine ifF (fun h=>l (hb.1 h).2) (f (by omega) _ _ ⟨Iz,by omega,fun h=>?_,fun⟨a,ha,h⟩=>?_⟩)
  .obtain⟨a,ha,h'⟩:=g2.1 h;exact⟨a,by omega,h'⟩
  by_cases e2:a=i
  .subst e2;exact Ng h l
  exact g2.2 ⟨a,by omega,h⟩
 refine Ft ⟨_,rfl,fun h=>?_,fun h=>?_⟩
 .obtain⟨a,ha,h'⟩:=g2.1 h;exact⟨hc,c,by omega,by omega,a,by omega,h'⟩
 obtain⟨a,ha,h'⟩:=h.2.2.2.2;exact g2.2 ⟨a,by omega,h'⟩
def Wd (s:3000<=N){p:Pat}(hp:okPS p){w:Sl Qz}(hw:∀i,i<w.n->okS (w.g i))(at_:Int) :∃r,Hx N p w at_=some r/\(0<r.1.n↔chk 40 [p]/\wOk w/\0<=at_/\at_<=w.n/\∃b,b<=w.n/\PR w p at_.toNat b):=by
 unfold Hx;obtain⟨e,o,h1⟩:=Sy (N:=N) (by omega) hp hw;refine B0 o ?_;by_cases j:e=0
 case neg=>exact ifT (by simp[j]) ⟨_,rfl,fun h=>Ng h (by show ¬ 0<0;omega),fun h=>Ng (h1.2 ⟨h.1,h.2.1⟩) j⟩
 refine ifF (by simp[j]) ?_;obtain⟨hc,c⟩:=h1.1 j;have hn:=c.1;by_cases d:at_<0 \/ (w.n:Int)<at_
 .exact ifT (by simpa using d) ⟨_,rfl,fun h=>Ng h (by show ¬ 0<0;omega),fun h=>by omega⟩
 refine ifF (by simpa using d) ?_;obtain⟨k,rfl⟩:∃k:Nat,at_=(k:Int):=⟨at_.toNat,by omega⟩;obtain⟨t,et,tn,q⟩:=Ke (N:=1000) (by omega) hn 40 p (Ph 40 [p] (Aq9 _) hc p (by simp)) N (by omega);refine B0 et ?_;rw[Aq6];refine Ai (fun i x2 x3=>x3=(i:Int)/\x2.n<=i/\(0<x2.n ↔ ∃b,b<i/\PR w p k b)) (w.n+1) _ (by omega) ⟨rfl,Aq9 _,fun h=>Ng h (by show ¬ 0<0;omega),fun⟨a,h,_⟩=>Ng h (by omega)⟩ ?_;rintro m i x2 x3 u ⟨rfl,g1,g2⟩ f;by_cases hl:i<=w.n
 .refine Ba (Al ?_);have hb:=q.bit (a:=k) (by omega) (b:=i) (by omega);by_cases l:PR w p k i
  .refine ifT (hb.2 ⟨by omega,l⟩) (ifT (by show (x2.n+1)*8<=_/\x2.n+1<=_;omega) (f (by omega) _ _ ⟨Iz,by show x2.n+1<=_;omega,fun _=>⟨i,by omega,l⟩,fun _=>by show 0<x2.n+1;omega⟩))
  refine ifF (fun h=>l (hb.1 h).2) (f (by omega) _ _ ⟨Iz,by omega,fun h=>?_,fun⟨a,ha,h⟩=>?_⟩)
  .obtain⟨a,ha,h'⟩:=g2.1 h;exact⟨a,by omega,h'⟩
  by_cases e2:a=i
  .subst e2;exact Ng h l
  exact g2.2 ⟨a,by omega,h⟩
 refine Ft ⟨_,rfl,fun h=>?_,fun h=>?_⟩
 .obtain⟨a,ha,h'⟩:=g2.1 h;exact⟨hc,c,by omega,by omega,a,by omega,h'⟩
 obtain⟨a,ha,h'⟩:=h.2.2.2.2;exact g2.2 ⟨a,by omega,h'⟩
end Go.AM
namespace Go.AM
variable {N:Nat}
open Go.Proofs
def Ah2 (s c:Qz):Prop:=∃p m a b:BitVec 32,s=sOf p m/\c=sOf a b/\Uk p m a b=true
def We {p m a b:BitVec 32}(h:sOf p m=sOf a b):p=a/\m=b:=by have e1:(p.toNat:Int)=a.toNat:=congrArg Qz.Plus h;have e2:(m.toNat:Int)=b.toNat:=congrArg Qz.Minus h;exact⟨Au3 (by omega),Au3 (by omega)⟩
def satS_of {p m a b:BitVec 32}:Ah2 (sOf p m) (sOf a b)↔Uk p m a b=true:=by
 constructor
 .rintro⟨p',m',a',b',h1,c,d⟩;obtain⟨rfl,rfl⟩:=We h1;obtain⟨rfl,rfl⟩:=We c;exact d
 exact fun h=>⟨_,_,_,_,rfl,rfl,h⟩
def Yq {s c:Qz}(hs:okS s)(hc:okS c):∃b,I0 N s c=some b/\(b=true↔Ah2 s c):=by obtain⟨p,m,rfl⟩:=hs;obtain⟨a,b,rfl⟩:=hc;exact⟨_,Ae0 p m a b,satS_of.symm⟩
def Yr (d:1000<=N){s c:Qz}(hs:okS s)(hc:okS c):∃b,R7 N s c=some b/\(b=true↔Ah2 s c):=by obtain⟨p,m,rfl⟩:=hs;obtain⟨a,b,rfl⟩:=hc;exact⟨_,Ae1 p m a b d,satS_of.symm⟩
def okL (l:Law):Prop:=okPS l.Left/\okPS l.Right/\∀i,i<l.If.n->okS (l.If.g i)
def arP (l:Law)(w:Sl Qz)(i:Nat):Prop:=chk 40 [l.Left]/\chk 40 [l.Right]/\wOk w/\i+l.If.n<=w.n/\(∃a,a<=w.n/\PR w l.Left a i)/\∃b,b<=w.n/\PR w l.Right (i+l.If.n) b
def Mg (l:Law)(w:Sl Qz)(i:Nat):Prop:=i+l.If.n<=w.n/\(∀j,j<l.If.n->Ah2 (w.g (i+j)) (l.If.g j))/\arP l w i
def okW (w:Sl Qz):Prop:=w.n<1000/\∀i,i<w.n->okS (w.g i)
def TP (c:3000<=N){l:Law}(hl:okL l)(hk:l.If.n<=4){w:Sl Qz}(hw:okW w)(i:Nat)(f:i<2000) :∃b,Q1 N (i:Int) l w=some b/\(b=true↔arP l w i):=by
 unfold Q1;obtain⟨y1,e1,h1⟩:=TO (N:=N) c hl.1 (w:=w) ⟨by have:=hw.1;omega,by have:=hw.1;omega⟩ hw.2 (i:Int);refine B0 e1 ?_;rw[Aq6]at h1;by_cases d:y1.1.n=0
 .refine ifT (by simp[d]) ⟨false,rfl,by simp,fun h=>?_⟩
  have:=h1.2 ⟨h.1,h.2.2.1,by omega,by have:=h.2.2.2.1;omega,h.2.2.2.2.1⟩
  omega
 refine Ft ?_;rw[BQ (by omega)];obtain⟨y2,e2,a⟩:=Yp (N:=N) c hl.2.1 (w:=w) ⟨by have:=hw.1;omega,by have:=hw.1;omega⟩ hw.2 ((i+l.If.n:Nat):Int);rw[Aq6]at a;refine B0 e2 ⟨_,rfl,?_⟩;have h1:=h1.1 (by omega);rw[Nj];constructor
 .intro h;have a:=a.1 (by omega);exact⟨h1.1,a.1,h1.2.1,by omega,h1.2.2.2.2,a.2.2.2.2⟩
 intro h
 have:=a.2 ⟨h.2.1,h.2.2.1,by omega,by have:=h.2.2.2.1;omega,h.2.2.2.2.2⟩
 omega
def Nv (f:3000<=N){l:Law}(hl:okL l)(hk:l.If.n<=4){w:Sl Qz}(hw:okW w)(i:Nat)(o:i<2000) :∃b,AP N l w (i:Int)=some b/\(b=true↔Mg l w i):=by
 unfold AP;rw[BQ (by omega)];by_cases hn:w.n<i+l.If.n
 .exact Ba ⟨false,rfl,by simp,fun h=>by have:=h.1;omega⟩
 refine Ft ?_;refine Fb (fun j x1=>x1=(j:Int)/\∀k,k<j->Ah2 (w.g (i+k)) (l.If.g k)) l.If.n _ (by omega) ⟨rfl,fun k hk=>Ng hk (by omega)⟩ ?_;rintro m j x1 q ⟨rfl,h⟩ hs;by_cases c:j<l.If.n
 .rw[BQ (by omega)];refine Ba (Al ?_);obtain⟨b,eb,hb⟩:=Yr (N:=N) (by omega) (hw.2 (i+j) (by omega)) (hl.2.2 j c);refine B0 (by rw[Aq6,Aq6];exact eb) ?_;cases b
  .refine ifT rfl ⟨false,rfl,by simp,fun a=>?_⟩
   have:=hb.2 (a.2.1 j c);cases this
  refine Hs (hs c _ ⟨Iz,fun k d=>?_⟩);by_cases e:k=j
  .subst e;exact hb.1 rfl
  exact h k (by omega)
 refine Ft ?_;obtain⟨y1,e1,h1⟩:=Rb (N:=N) f hl.1 (w:=w) hw.2 (i:Int);obtain⟨y2,e2,a⟩:=Wd (N:=N) f hl.2.1 (w:=w) hw.2 ((i+l.If.n:Nat):Int);rw[Aq6]at h1 a;refine B0 e1 (B0 e2 ⟨_,rfl,?_⟩);simp only[Aq7,Nj];constructor
 .rintro⟨g1,g2⟩;have h1:=h1.1 (by omega);have a:=a.1 (by omega);exact⟨by omega,fun k d=>h k (by omega),h1.1,a.1,h1.2.1,by omega,h1.2.2.2.2,a.2.2.2.2⟩
 intro g;have a1:=h1.2 ⟨g.2.2.1,g.2.2.2.2.1,by omega,by omega,g.2.2.2.2.2.2.1⟩;have a2:=a.2 ⟨g.2.2.2.1,g.2.2.2.2.1,by omega,by omega,g.2.2.2.2.2.2.2⟩;exact⟨by omega,by omega⟩
end Go.AM
namespace Go.AM
open IntKind (wrap)
open Go.Proofs
open Classical in
noncomputable def hitB (l:Law) (w:Sl Qz) (i:Nat):Bool:=decide (Mg l w i)
def hitB_iff {l:Law}{w:Sl Qz}{i:Nat}:hitB l w i=true↔Mg l w i:=by simp[hitB]
noncomputable def Cw (l:Law) (w:Sl Qz) (i:Nat):List Int:=((List.range' i (w.n+1-i)).filter (hitB l w)).map fun (j:Nat)=>(j:Int)
def HE {l:Law}{w:Sl Qz}{i:Nat}(h:w.n<i+l.If.n):Cw l w i=[]:=by
 unfold Cw;rw[AG4.2 fun j a hb=>by
  have:=Az0.1 a
  have:=(hitB_iff.1 hb).1
  omega]
 rfl
def GV {l:Law}{w:Sl Qz}{i:Nat}(a:i<=w.n)(h:Mg l w i):Cw l w i=(i:Int)::Cw l w (i+1):=by unfold Cw;rw[show w.n+1-i=(w.n+1-(i+1))+1 by omega,Az3,AC8 (hitB_iff.2 h)];rfl
def GW {l:Law}{w:Sl Qz}{i:Nat}(h:¬Mg l w i):Cw l w i=Cw l w (i+1):=by
 unfold Cw;by_cases a:i<=w.n
 .rw[show w.n+1-i=(w.n+1-(i+1))+1 by omega,Az3,AC9 fun hb=>h (hitB_iff.1 hb)]
 rw[show w.n+1-i=0 by omega,show w.n+1-(i+1)=0 by omega];rfl
def Ys {l:Law}{w:Sl Qz}{i:Nat}{y:Int}(h:y∈Cw l w i):(i:Int)<=y:=by
 obtain⟨j,a,rfl⟩:=Ax4.1 h
 have:=Az0.1 (AA3.1 a).1
 omega
def Sz {N:Nat}(z:3000<=N){l:Law}(hl:okL l)(hk:l.If.n<=4){w:Sl Qz}(hw:okW w)(i:Nat)(v:i<1500):S5 N l w (i:Int)=some (Cw l w i):=by
 unfold S5;show (some (l,w)).bind _=_;rw[Aq5];simp only[]
 suffices h:∀(k i:Nat),i<1501->w.n+1-i<=k->∀F,k<F->∃r,Ao F (fun (a:Int->Option (List Int)) (x2:Int)=>
  if (decide ((wrap .i64 (x2+(l.If.n:Int)))<=(w.n:Int))) then
   Ao N (fun (d:Int->Option (List Int)) (x4:Int)=>
    if (decide (x4<(l.If.n:Int))) then
     if ((0:Int)<=x4/\x4<(l.If.n:Int))then
      if ((0:Int)<=(wrap .i64 (x2+x4))/\(wrap .i64 (x2+x4))<(w.n:Int))then
       (I0 N (w.g (wrap .i64 (x2+x4)).toNat) (l.If.g x4.toNat)).bind fun s=>
       if (!s) then
        a (wrap .i64 (x2+1))
       else
        d (wrap .i64 (x4+1))
      else none
     else none
    else
     (Q1 N x2 l w).bind fun t=>
     if t then
      P7 x2 (
       a (wrap .i64 (x2+1))
       )
     else
      a (wrap .i64 (x2+1))
    ) 0
  else
   some []
  ) (i:Int)=some r/\r=Cw l w i by
  obtain⟨r,h1,rfl⟩:=h (w.n+1-i) i (by omega) (Aq9 _) N (by have:=hw.1;omega);exact h1
 intro k
 induction k with
 |zero=>
  intro i v f F q
  match F,q with
  |F+1,_=>rw[P5,BQ (by omega)];exact Ft ⟨_,rfl,(HE (by omega)).symm⟩
 |succ k ih=>
  intro i v f F q
  match F,q with
  |F+1,q=>
   rw[P5,BQ (by omega)];by_cases hn:i+l.If.n<=w.n
   case neg=>exact Ft ⟨_,rfl,(HE (by omega)).symm⟩
   refine Ba ?_;have a0:=hw.1;obtain⟨r,x,o⟩:=ih (i+1) (by omega) (by omega) F (by omega);have c:∀(Q:List Int->Prop),Q (Cw l w (i+1))->∃r,Ao F _ (IntKind.i64.wrap ((i:Int)+1))=some r/\Q r:=fun Q hQ=>⟨r,by rw[Iz];exact x,by rw[o];exact hQ⟩;refine Fb (fun j x1=>x1=(j:Int)/\∀k,k<j->Ah2 (w.g (i+k)) (l.If.g k)) l.If.n _ (by omega) ⟨rfl,fun k hk=>Ng hk (by omega)⟩ ?_;rintro y j x1 hj ⟨rfl,h⟩ hs;by_cases m:j<l.If.n
   .rw[BQ (by omega)];refine Ba (Al (Al ?_));obtain⟨b,eb,hb⟩:=Yq (N:=N) (hw.2 (i+j) (by omega)) (hl.2.2 j m);refine B0 (by rw[Aq6,Aq6];exact eb) ?_;cases b
    .refine ifT rfl (c _ ?_);exact (GW fun u=>by have:=hb.2 (u.2.1 j m);cases this).symm
    refine Hs (hs m _ ⟨Iz,fun k f=>?_⟩);by_cases e:k=j
    .subst e;exact hb.1 rfl
    exact h k (by omega)
   refine Ft ?_;obtain⟨b,eb,hb⟩:=TP z hl hk hw i (by omega);refine B0 eb ?_;cases b
   .refine Hs (c _ ?_);exact (GW fun u=>by have:=hb.2 u.2.2;cases this).symm
   refine ifT rfl ?_;have hh:Mg l w i:=⟨hn,fun k f=>h k (by omega),hb.1 rfl⟩;refine⟨(i:Int)::Cw l w (i+1),?_,(GV (by omega) hh).symm⟩;rw[Iz,x,o];rfl
def Wf {N:Nat}(a:3000<=N){l:Law}(hl:okL l)(hk:l.If.n<=4){w:Sl Qz}(hw:okW w)(i:Nat)(c:i<1500) :∃b,AS N l w (i:Int)=some b/\(b=true↔Mg l w i):=by
 unfold AS;refine B0 (x:=(l,w,(i:Int))) rfl (B0 (Sz a hl hk hw i c) ?_);by_cases h:Mg l w i
 .rw[GV (by have:=h.1;omega) h];exact⟨true,by simp[K5],by simp[h]⟩
 rw[GW h];rcases hL:Cw l w (i+1)with _|⟨t,L⟩
 .exact⟨false,rfl,by simp[h]⟩
 have:((i+1:Nat):Int)<=t:=Ys (l:=l) (w:=w) (by rw[hL];simp)
 exact⟨false,by show some (t==(i:Int))=some false;congr 1;simp;omega,by simp[h]⟩
end Go.AM
namespace Go.AM
variable {N:Nat}
open IntKind (wrap)
open Go.Proofs
def okO (x:Ap):Prop:=okS x.Set/\(∃c:BitVec 32,x.Clear=(c.toNat:Int))/\∃t:BitVec 32,x.Take=(t.toNat:Int)
def Zp {p m a b s:BitVec 32}(h1:vB p m=true)(d:vB a b=true):vB (ND p a s) (ND m b s)=true:=by rw[DS]at *;intro i c;have g1:=h1 i c;have g2:=d i c;simp only[ND,As0,As2,Av5];revert g1 g2;cases s.getLsbD i<;>cases p.getLsbD i<;>cases m.getLsbD i<;>cases a.getLsbD i<;>cases b.getLsbD i<;>simp[c]
def vS0:vS (⟨0,0⟩:Qz):=⟨0#32,0#32,rfl,by decide +kernel⟩
def Rc (f:1000<=N){s t:Qz}{c:Int}(hs:okS s)(hc:∃b:BitVec 32,c=(b.toNat:Int))(ht:okS t):∃y,K9 N s c t=some y/\R8 N s c t=some y/\vS y.1:=by
 obtain⟨p,m,rfl⟩:=hs;obtain⟨a,b,rfl⟩:=ht;obtain⟨d,rfl⟩:=hc;refine⟨_,TL p m d a b,TM p m d a b f,?_⟩;unfold Yh;split
 .rename_i h;split
  .exact⟨_,_,rfl,Zp h.1 h.2⟩
  exact vS0
 exact vS0
def Wg (f:1000<=N){s t:Qz}{c:Int}(hs:okS s)(hc:∃b:BitVec 32,c=(b.toNat:Int))(ht:okS t):∃y,P2 N s t c=some y/\Ay N s t c=some y/\vS y.1:=by
 obtain⟨p,m,rfl⟩:=hs;obtain⟨a,b,rfl⟩:=ht;obtain⟨d,rfl⟩:=hc;refine⟨_,Yj p m a b d,Yk p m a b d f,?_⟩;unfold Yi;split
 .rename_i h;split
  .exact⟨_,_,rfl,Zp h.1 h.2⟩
  exact vS0
 exact vS0
def Ah3 (l:Law):Prop:=l.Out.n<=6/\∀i,i<l.Out.n->okO (l.Out.g i)/\(l.Out.g i).From<l.If.n/\((l.Out.g i).Take≠0->0<=(l.Out.g i).Of/\(l.Out.g i).Of<l.If.n)
def eqX {R:Type}{Q:R->Prop}{o o' : Option R}(h:o=o')(a:∃r,o' = some r/\Q r):∃r,o=some r/\Q r:=by rw[h];exact a
def An (f:Nat->Qz):Nat->Sl Qz
 |0=>Sl.nil
 |m+1=>(An f m).push (f m)
def FZ (f:Nat->Qz):∀m,(An f m).n=m
 |0=>rfl
 |m+1=>by show (An f m).n+1=_;rw[FZ f m]
def Rd (f:Nat->Qz):∀{m i:Nat},i<m->(An f m).g i=f i
 |0,i,h=>by omega
 |m+1,i,h=>by
  show (if i<(An f m).n then (An f m).g i else f m)=f i;rw[FZ];by_cases e:i<m
  .rw[Nd e,Rd f e]
  rw[Nf e,show i=m by omega]
abbrev srcS (l:Law)(cut:Sl Qz)(i:Nat):Qz:=⟨(if (decide (0<=(l.Out.g i).From)) then (cut.g (l.Out.g i).From.toNat).Plus else 0),(if (decide (0<=(l.Out.g i).From)) then (cut.g (l.Out.g i).From.toNat).Minus else 0)⟩
def Ae9 (t:1000<=N){l:Law}(u:Ah3 l){cut:Sl Qz}(hn:cut.n=l.If.n)(hc:∀i,i<cut.n->okS (cut.g i)) :∃s,K4 N l cut=some s/\BK N l cut=some s/\s.n=l.Out.n/\∀i,i<s.n->vS (s.g i):=by
 have one:∀i,∃y:Qz,i<l.Out.n->vS y/\∀(R:Type) (k:Qz->Option R),
  (∀(Ch:Nat->Qz->Int->Qz->Option (Qz×Int)) (Ta:Nat->Qz->Qz->Int->Option (Qz×Int)),(Ch=K9/\Ta=P2) \/ (Ch=R8/\Ta=Ay) ->
  (if ((decide (0<=(l.Out.g i).From))=true->((0:Int)<=(l.Out.g i).From/\(l.Out.g i).From<(cut.n:Int)))then
   (Ch N (⟨(if (decide (0<=(l.Out.g i).From)) then (cut.g (l.Out.g i).From.toNat).Plus else 0),(if (decide (0<=(l.Out.g i).From)) then (cut.g (l.Out.g i).From.toNat).Minus else 0)⟩:Qz) (l.Out.g i).Clear (l.Out.g i).Set).bind fun y5=>
   if ((l.Out.g i).Take != 0) then
    if ((0:Int)<=(l.Out.g i).Of/\(l.Out.g i).Of<(cut.n:Int))then
     (Ta N y5.1 (cut.g (l.Out.g i).Of.toNat) (l.Out.g i).Take).bind fun y6=>k y6.1
    else none
   else k y5.1
   else none)=k y):=by
  intro i;by_cases d:i<l.Out.n
  case neg=>exact⟨default,fun h=>Ng h d⟩
  obtain⟨⟨j,m,o⟩,w,q⟩:=u.2 i d;have hs:okS (⟨(if (decide (0<=(l.Out.g i).From)) then (cut.g (l.Out.g i).From.toNat).Plus else 0),(if (decide (0<=(l.Out.g i).From)) then (cut.g (l.Out.g i).From.toNat).Minus else 0)⟩:Qz):=by
   by_cases v:0<=(l.Out.g i).From
   .simp only[v,decide_true,Nh];exact hc _ (by omega)
   simp only[v,decide_false,Ar1,Ni];exact⟨0#32,0#32,rfl⟩
  obtain⟨y,e1,e2,hy⟩:=Rc t hs m j;by_cases ht:(l.Out.g i).Take=0
  .refine⟨y.1,fun _=>⟨hy,fun R k Ch Ta h=>?_⟩⟩;rw[Nd (fun h=>by have:=of_decide_eq_true h;omega)]
   have:Ch N (srcS l cut i) (l.Out.g i).Clear (l.Out.g i).Set=some y:=by
    rcases h with⟨rfl,rfl⟩ | ⟨rfl,rfl⟩
    .exact e1
    exact e2
   rw[this,Aq5,Nf (by simp[ht])]
  obtain⟨g1,g2⟩:=q ht;obtain⟨z,e3,e4,x⟩:=Wg t hy.ok o (hc (l.Out.g i).Of.toNat (by omega));refine⟨z.1,fun _=>⟨x,fun R k Ch Ta h=>?_⟩⟩;rw[Nd (fun h=>by have:=of_decide_eq_true h;omega)]
  have:Ch N (srcS l cut i) (l.Out.g i).Clear (l.Out.g i).Set=some y:=by
   rcases h with⟨rfl,rfl⟩ | ⟨rfl,rfl⟩
   .exact e1
   exact e2
  rw[this,Aq5,Nd (by simp[ht]),J4]
  have:Ta N y.1 (cut.g (l.Out.g i).Of.toNat) (l.Out.g i).Take=some z:=by
   rcases h with⟨rfl,rfl⟩ | ⟨rfl,rfl⟩
   .exact e3
   exact e4
  rw[this,Aq5]
 obtain⟨out,f⟩:=Ay8 one;have a0:=u.1;have b:∀(Ch:Nat->Qz->Int->Qz->Option (Qz×Int)) (Ta:Nat->Qz->Qz->Int->Option (Qz×Int)),(Ch=K9/\Ta=P2) \/ (Ch=R8/\Ta=Ay) ->
  ∀(a:Sl Qz->Int->Option (Sl Qz)) (i:Nat),i<l.Out.n->(∃r,a ((An out i).push (out i)) (wrap .i64 ((i:Int)+1))=some r/\r=An out l.Out.n) ->
  ∃r,(if ((decide (0<=(l.Out.g i).From))=true->((0:Int)<=(l.Out.g i).From/\(l.Out.g i).From<(cut.n:Int)))then
   (Ch N (srcS l cut i) (l.Out.g i).Clear (l.Out.g i).Set).bind fun y5=>
   if ((l.Out.g i).Take != 0) then
    if ((0:Int)<=(l.Out.g i).Of/\(l.Out.g i).Of<(cut.n:Int))then
     (Ta N y5.1 (cut.g (l.Out.g i).Of.toNat) (l.Out.g i).Take).bind fun y6=>
     if (((An out i).n+(Sl.of [y6.1]:Sl Qz).n)*8<=140737488355328/\(An out i).n+(Sl.of [y6.1]:Sl Qz).n<=140737488355328)then
      a ((An out i).push y6.1) (wrap .i64 ((i:Int)+1))
     else none
    else none
   else
    if (((An out i).n+(Sl.of [y5.1]:Sl Qz).n)*8<=140737488355328/\(An out i).n+(Sl.of [y5.1]:Sl Qz).n<=140737488355328)then
     a ((An out i).push y5.1) (wrap .i64 ((i:Int)+1))
    else none
   else none)=some r/\r=An out l.Out.n:=by
  intro Ch Ta h a i d hr;have e:=(f i d).2 (Sl Qz) (fun y=>if (((An out i).n+(Sl.of [y]:Sl Qz).n)*8<=140737488355328/\(An out i).n+(Sl.of [y]:Sl Qz).n<=140737488355328)then a ((An out i).push y) (wrap .i64 ((i:Int)+1))else none) Ch Ta h;refine eqX e (ifT ?_ hr)
  have:=FZ out i
  show ((An out i).n+1)*8<=_/\(An out i).n+1<=_;omega
 have h1:∃r,K4 N l cut=some r/\r=An out l.Out.n:=by
  unfold K4;refine Ai (fun i x1 x2=>x2=(i:Int)/\x1=An out i) l.Out.n _ (by omega) ⟨rfl,rfl⟩ ?_;rintro a i x1 x2 d ⟨rfl,rfl⟩ hs;by_cases c:i<l.Out.n
  .refine Ba (Al ?_);rw[Aq6];exact b _ _ (.inl ⟨rfl,rfl⟩) a i c (hs c _ _ ⟨Iz,rfl⟩)
  exact Ft ⟨_,rfl,by congr 1;omega⟩
 have h2:∃r,BK N l cut=some r/\r=An out l.Out.n:=by
  unfold BK;refine Ai (fun i x1 x2=>x2=(i:Int)/\x1=An out i) l.Out.n _ (by omega) ⟨rfl,rfl⟩ ?_;rintro a i x1 x2 d ⟨rfl,rfl⟩ hs;by_cases c:i<l.Out.n
  .refine Ba (Al ?_);rw[Aq6];exact b _ _ (.inr ⟨rfl,rfl⟩) a i c (hs c _ _ ⟨Iz,rfl⟩)
  exact Ft ⟨_,rfl,by congr 1;omega⟩
 obtain⟨r,e1,rfl⟩:=h1;obtain⟨r,e2,rfl⟩:=h2;exact⟨_,e1,e2,FZ out _,fun i d=>by rw[FZ]at d;rw[Rd out d];exact (f i d).1⟩
end Go.AM
namespace Go.AM
open Go.Proofs
def ne0 (x:BitVec 32):((x.toNat:Int) != 0)=decide (x≠0#32):=by rw[bne,eq0];simp
def or0 (x y:BitVec 32):x ||| y=0#32↔x=0#32/\y=0#32:=by
 constructor
 .intro h;have h:=(z32 _).1 h;exact⟨(z32 _).2 fun i a=>by have:=h i a;rw[As0,Az8]at this;exact this.1,(z32 _).2 fun i a=>by have:=h i a;rw[As0,Az8]at this;exact this.2⟩
 rintro⟨rfl,rfl⟩;rfl
def Ao3 (x y z:BitVec 32):x &&& (y ||| z)=(x &&& y) ||| (x &&& z):=by apply Av9;intro i a;simp only[As2,As0];cases x.getLsbD i<;>simp
def Ao4 (x y z:BitVec 32):(x ||| y) &&& z=(x &&& z) ||| (y &&& z):=by apply Av9;intro i a;simp only[As2,As0];cases z.getLsbD i<;>simp
def SA {N:Nat}(j:1000<=N){x:Ap}(hx:okO x)(k:Int):∃b,Q0 N x k=some b/\Hw N x k=some b:=by
 obtain⟨⟨a,b,d⟩,⟨c,hc⟩,t,ht⟩:=hx;have f:(16777215:Int)=((16777215#32).toNat:Int):=rfl;unfold Q0 Hw;simp only[lt,d,hc,ht,Aj,U4 a b j,Aq5];rw[f];simp only[Dg,HW,CH,ne0];by_cases h1:x.From < -1
 .simp[h1]
 by_cases g:k<=x.From
 .simp[h1,g]
 by_cases i:vB a b=true
 case neg=>simp[h1,g,i]
 simp only[h1,g,i,decide_false,Ar1,Ni,AC5];rw[Ao4,Ao3 t];generalize ~~~16777215#32=M;by_cases g1:c &&& M=0#32
 case neg=>simp[g1,or0]
 by_cases g2:t &&& M=0#32
 case neg=>simp[g1,g2,or0]
 by_cases g3:c &&& (a ||| b)=0#32
 case neg=>simp[g1,g2,g3,or0]
 by_cases g4:t &&& (a ||| b)=0#32
 case neg=>simp[g1,g2,g3,g4,or0]
 by_cases g5:t &&& c=0#32
 case neg=>simp[g1,g2,g3,g4,g5,or0]
 simp[g1,g2,g3,g4,g5,or0];by_cases g6:t.toNat=0
 .simp only[g6,Nh];cases x.Of==0<;>simp
 simp only[g6,Ni];cases (decide (0<=x.Of)&&decide (x.Of<k))<;>simp
end Go.AM
namespace Go.AM
open Go.Proofs
abbrev nameC:Str:=[97,98,99,100,101,102,103,104,105,106,107,108,109,110,111,112,113,114,115,116,117,118,119,120,121,122,65,66,67,68,69,70,71,72,73,74,75,76,77,78,79,80,81,82,83,84,85,86,87,88,89,90,48,49,50,51,52,53,54,55,56,57,45]
def Wh {p:UInt8->Bool}:∀{l:Str},l.dropWhile p=[] ↔ ∀x∈l,p x=true
 |[]=>by simp
 |a::l=>by
  rw[List.dropWhile_cons];by_cases h:p a=true
  .rw[Nd h,Wh];simp[h]
  rw[Nf h];simp[h]
def Yt (l cs:Str):Lib.trimS l cs=[] ↔ ∀b∈l,cs.contains b=true:=by
 unfold Lib.trimS Lib.trimLeftS Lib.trimRightS;rw[Wh];constructor
 .intro h;have h:∀x∈l.reverse.dropWhile (cs.contains ·),cs.contains x=true:=fun x hx=>h x (AD8.2 hx);have a:l.reverse.dropWhile (cs.contains ·)=[]:=by
   rcases e:l.reverse.dropWhile (cs.contains ·)with _|⟨y,r⟩
   .rfl
   have c:=h y (by rw[e];simp);have d:¬cs.contains y=true:=by
    have:=List.head_dropWhile_not (cs.contains ·) (l:=l.reverse) (by rw[e];simp)
    simp only[e,List.head_cons]at this;rw[this];exact Bool.false_ne_true
   exact Ng c d
  rw[Wh]at a;exact fun b hb=>a b (AD8.2 hb)
 intro h x hx;have hx:=AD8.1 hx;exact h x (AD8.1 ((List.dropWhile_sublist _).mem hx))
abbrev Wi (y:Int):Bool:=((((decide (97<=y))&&(decide (y<=122)))||((decide (65<=y))&&(decide (y<=90))))||((decide (48<=y))&&(decide (y<=57))))||(y==45)
def Wj:∀k:Fin 256,nameC.contains (UInt8.ofNat k.val)=Wi ((k.val:Nat):Int):=by decide +kernel
def Wk (b:UInt8):nameC.contains b=Wi ((b.toNat:Nat):Int):=by
 have:=Wj ⟨b.toNat,b.toNat_lt⟩
 rw[show UInt8.ofNat b.toNat=b by simp]at this;exact this
def Pn {N:Nat}{s:Str}(n:s.length<N)(hs:s.length<1000000000):∃b,AA N s=some b/\CR N s=some b:=by
 have o:∃b,CR N s=some b/\(b=true↔(∀c∈s,nameC.contains c=true)/\1<=s.length/\s.length<=24):=by
  unfold CR;refine Fb (fun i x1=>x1=(i:Int)/\∀j (h:j<s.length),j<i->nameC.contains s[j]=true) s.length _ n ⟨rfl,fun j _ a=>Ng a (by omega)⟩ ?_;rintro l i x1 v ⟨rfl,h⟩ f;by_cases hl:i<s.length
  .refine Ba (Al ?_);have eb:Gt s (i:Int)=((s[i].toNat:Nat):Int):=by simp[Gt,hl]
   by_cases hb:nameC.contains s[i]=true
   .refine ifF (by rw[eb];show ¬(!(Wi ((s[i].toNat:Nat):Int)))=true;rw[<- Wk,hb];simp) (f hl _ ⟨Iz,fun j a q=>?_⟩);by_cases e:j=i
    .subst e;exact hb
    exact h j a (by omega)
   refine ifT ?_ ⟨false,rfl,by simp,fun t=>Ng (t.1 s[i] (List.getElem_mem hl)) hb⟩;rw[eb];show (!(Wi ((s[i].toNat:Nat):Int)))=true;rw[<- Wk];simpa using hb
  refine Ft ⟨_,rfl,?_⟩;simp only[Aq7,Nj];constructor
  .rintro⟨g1,g2⟩;refine⟨fun c hc=>?_,by omega,by omega⟩;obtain⟨j,a,rfl⟩:=AH8 hc;exact h j a (by omega)
  rintro⟨_,g1,g2⟩;exact⟨by omega,by omega⟩
 obtain⟨b,e,hb⟩:=o;refine⟨b,?_,e⟩
 suffices h:∃r,AA N s=some r/\(r=true↔(∀c∈s,nameC.contains c=true)/\1<=s.length/\s.length<=24) by obtain⟨r,u,g⟩:=h;rw[u,show r=b by rw[At9,g,hb]]
 unfold AA;refine ltX ?_;by_cases d:s=[]
 .exact ifF (by simp[d]) ⟨false,rfl,by simp[d]⟩
 refine ifT (by simp[d]) ?_;have m:0<s.length:=List.length_pos_iff.2 d;by_cases h1:s.length<=24
 .refine Ba (B0 (x:=Lib.trimS s nameC) ?_ ⟨_,rfl,?_⟩)
  .unfold Co;rw[Nd ⟨by omega,by decide,by decide⟩]
  rw[<- Yt];constructor
  .intro h;exact⟨by simpa using h,by omega,h1⟩
  rintro⟨h,_⟩;simp[h]
 exact Ft ⟨false,rfl,by simp;intro _ _;omega⟩
end Go.AM
namespace Go.AM
variable {N:Nat}
open IntKind (wrap)
open Go.Proofs
def Po {s:Sl Ap}(m:s.n<N)(hs:s.n<1000000){f:Ap->Option Bool}{b:Nat->Bool}(o:∀i,i<s.n->f (s.g i)=some (b i)) :∃r,B3 N s f=some r/\(r=true ↔ ∃i,i<s.n/\b i=true):=by
 unfold B3 D4
 have:∃y,Ao N (fun (a:Int->Option Int) (x1:Int)=>
  if (decide (x1<(s.n:Int))) then
   if ((0:Int)<=x1/\x1<(s.n:Int))then
    (f (s.g x1.toNat)).bind fun y3=>
    if y3 then
     some x1
    else
     a (wrap .i64 (x1+1))
   else none
  else
   some (-1)) 0=some y/\(0<=y ↔ ∃i,i<s.n/\b i=true):=by
  refine Fb (fun i x1=>x1=(i:Int)/\∀j,j<i->b j=false) s.n _ m ⟨rfl,fun j c=>Ng c (by omega)⟩ ?_;rintro l i x1 q ⟨rfl,h⟩ d;by_cases hl:i<s.n
  .refine Ba (Al (B0 (by rw[Aq6];exact o i hl) ?_));cases hb:b i
   .refine Hs (d hl _ ⟨Iz,fun j c=>?_⟩);by_cases e:j=i
    .subst e;exact hb
    exact h j (by omega)
   exact ifT rfl ⟨i,rfl,fun _=>⟨i,hl,hb⟩,fun _=>by omega⟩
  refine Ft ⟨-1,rfl,fun h=>Ng h (by decide),?_⟩;rintro⟨j,c,hb⟩;rw[h j (by omega)]at hb;cases hb
 obtain⟨y,e,hy⟩:=this;exact B0 e ⟨_,rfl,by rw[Nj];exact hy⟩
def Ki (l:Law):Prop:=okL l/\l.Name.length<1100000/\l.If.n<1100000/\l.Out.n<1100000/\∀i,i<l.Out.n->okO (l.Out.g i)
def TQ {s:Qz}(hs:okS s):∃b,F2 N s=some b/\(b=true↔vS s):=by obtain⟨p,m,e⟩:=hs;exact⟨vB p m,by rw[e];exact Aj p m,(QX e).symm⟩
def TR (a:1000<=N){s:Qz}(hs:okS s):∃b,I1 N s=some b/\(b=true↔vS s):=by obtain⟨p,m,e⟩:=hs;exact⟨vB p m,by rw[e];exact U4 p m a,(QX e).symm⟩
def Yu {x:Ap}(hx:okO x){k:Int}(h:Q0 N x k=some true):x.From<k/\(x.Take≠0->0<=x.Of/\x.Of<k):=by
 obtain⟨⟨a,b,c⟩,_,_⟩:=hx;unfold Q0 at h;simp only[lt,c,Aj,Aq5]at h;by_cases h1:x.From < -1
 .simp[h1]at h
 by_cases d:k<=x.From
 .simp[h1,d]at h
 refine⟨by omega,fun ht=>?_⟩;simp only[h1,d,decide_false,Ar1,Ni]at h;by_cases f:(!vB a b)=true
 .rw[Nd f]at h;cases h
 rw[Nf f]at h;split at h
 .cases h
 rw[Nf (by simp[ht])]at h;simpa using h
def chkAll (N:Nat)(l:Law):Prop:=CR N l.Name=some true/\chk 40 [l.Left]/\chk 40 [l.Right]/\l.If.n<=4/\l.Out.n<=6/\l.If.n+l.Out.n≠0/\1<=l.Mode/\l.Mode<=3/\(∀i,i<l.If.n->vS (l.If.g i))/\∀i,i<l.Out.n->Q0 N (l.Out.g i) l.If.n=some true
def Af0 (N:Nat)(l:Law)(e:Int):Prop:=(e=0/\chkAll N l) \/ (e=17/\¬chkAll N l)
def Ah4 (l:Law):Prop:=okL l/\chk 40 [l.Left]/\chk 40 [l.Right]/\l.If.n<=4/\Ah3 l/\l.If.n+l.Out.n≠0/\1<=l.Mode/\l.Mode<=3
def chkAll.f {N:Nat}{l:Law}(hl:Ki l)(h:chkAll N l):Ah4 l:=by obtain⟨_,h1,b,c,d,g,j,m,o,n⟩:=h;exact⟨hl.1,h1,b,c,⟨d,fun i a=>⟨hl.2.2.2.2 i a,Yu (hl.2.2.2.2 i a) (n i a)⟩⟩,g,j,m⟩
def TT (hN:3000000<=N){l:Law}(hl:Ki l):∃e,Y2 N l=some e/\Af0 N l e:=by
 have u:=hl.2.1;have v:=hl.2.2.1;have x:=hl.2.2.2.1;unfold Y2;obtain⟨b0,e0,e0'⟩:=Pn (N:=N) (s:=l.Name) (by omega) (by omega);refine B0 e0 ?_;cases b0
 .exact ifT rfl ⟨17,rfl,.inr ⟨rfl,fun h=>by have:=h.1;rw[e0']at this;cases this⟩⟩
 refine Hs ?_;obtain⟨y2,e2,o⟩:=Nu (N:=N) (by omega) hl.1.1;refine B0 e2 ?_;by_cases c2:y2=0
 case neg=>exact ifT (by simpa using c2) ⟨17,rfl,.inr ⟨rfl,fun h=>c2 (o.2 h.2.1)⟩⟩
 refine ifF (by simp[c2]) ?_;obtain⟨y3,e3,q⟩:=Nu (N:=N) (by omega) hl.1.2.1;refine B0 e3 ?_;by_cases c3:y3=0
 case neg=>exact ifT (by simpa using c3) ⟨17,rfl,.inr ⟨rfl,fun h=>c3 (q.2 h.2.2.1)⟩⟩
 refine ifF (by simp[c3]) ?_;by_cases c4:4<l.If.n
 .exact Ba ⟨17,rfl,.inr ⟨rfl,fun h=>by have:=h.2.2.2.1;omega⟩⟩
 refine Ft ?_;by_cases c5:6<l.Out.n
 .exact Ba ⟨17,rfl,.inr ⟨rfl,fun h=>by have:=h.2.2.2.2.1;omega⟩⟩
 refine Ft ?_;rw[BQ (by omega)];by_cases c6:l.If.n+l.Out.n=0
 .exact ifT (by rw[c6];rfl) ⟨17,rfl,.inr ⟨rfl,fun h=>h.2.2.2.2.2.1 c6⟩⟩
 refine Ft ?_;by_cases c7:l.Mode<1 \/ 3<l.Mode
 .exact Ba ⟨17,rfl,.inr ⟨rfl,fun h=>by have g1:=h.2.2.2.2.2.2.1;have g2:=h.2.2.2.2.2.2.2.1;omega⟩⟩
 refine Ft ?_;have y:∀i,∃b,i<l.If.n->U3 N (l.If.g i)=some b/\(b=true ↔ ¬vS (l.If.g i)):=by
  intro i;by_cases a:i<l.If.n
  .obtain⟨b,eb,hb⟩:=TQ (N:=N) (hl.1.2.2 i a);refine⟨!b,fun _=>⟨by unfold U3;rw[eb];rfl,?_⟩⟩;rw[<- hb];simp
  exact⟨false,fun h=>Ng h a⟩
 obtain⟨f,j⟩:=Ay8 y;obtain⟨y4,e4,r⟩:=Iq (N:=N) (w:=l.If) (by omega) (by omega) (f:=fun u1=>U3 N u1) (fun i a=>(j i a).1);refine B0 e4 ?_;cases c:y4
 case true=>obtain⟨i,a,hb⟩:=r.1 c;exact ifT rfl ⟨17,rfl,.inr ⟨rfl,fun h=>(j i a).2.1 hb (h.2.2.2.2.2.2.2.2.1 i a)⟩⟩
 refine Hs ?_;have z:∀i,∃b,i<l.Out.n->U2 N (l.Out.g i) (l.If.n:Int)=some b/\(b=true ↔ ¬Q0 N (l.Out.g i) l.If.n=some true):=by
  intro i;by_cases a:i<l.Out.n
  .obtain⟨b,eb,_⟩:=SA (N:=N) (by omega) (hl.2.2.2.2 i a) (l.If.n:Int);refine⟨!b,fun _=>⟨by unfold U2;rw[eb];rfl,?_⟩⟩;rw[eb];simp
  exact⟨false,fun h=>Ng h a⟩
 obtain⟨g,m⟩:=Ay8 z;obtain⟨y5,e5,t⟩:=Po (N:=N) (s:=l.Out) (by omega) (by omega) (f:=fun u2=>U2 N u2 (l.If.n:Int)) (fun i a=>(m i a).1);refine B0 e5 ?_;cases d:y5
 case true=>obtain⟨i,a,hb⟩:=t.1 d;exact ifT rfl ⟨17,rfl,.inr ⟨rfl,fun h=>(m i a).2.1 hb (h.2.2.2.2.2.2.2.2.2 i a)⟩⟩
 refine Hs ⟨0,rfl,.inl ⟨rfl,e0',o.1 c2,q.1 c3,by omega,by omega,c6,by omega,by omega,fun i a=>?_,fun i a=>?_⟩⟩
 .refine Av3 fun hn=>?_
  have:=r.2 ⟨i,a,(j i a).2.2 hn⟩
  rw[c]at this;cases this
 refine Av3 fun hn=>?_
 have:=t.2 ⟨i,a,(m i a).2.2 hn⟩
 rw[d]at this;cases this
def TU (y:3000000<=N){l:Law}(hl:Ki l):∃e,BH N l=some e/\Af0 N l e:=by
 have u:=hl.2.1;have v:=hl.2.2.1;have w:=hl.2.2.2.1;unfold BH;obtain⟨b0,e0,e0'⟩:=Pn (N:=N) (s:=l.Name) (by omega) (by omega);refine B0 e0' (ltX ?_);cases b0
 .exact ifT rfl (ifT rfl ⟨17,rfl,.inr ⟨rfl,fun h=>by have:=h.1;rw[e0']at this;cases this⟩⟩)
 refine Hs ?_;obtain⟨y2,e2,q⟩:=Kg (N:=N) (by omega) hl.1.1;refine B0 e2 ?_;by_cases c2:y2=0
 case neg=>exact ifT (by simpa using c2) (ifT rfl ⟨17,rfl,.inr ⟨rfl,fun h=>c2 (q.2 h.2.1)⟩⟩)
 refine ifF (by simp[c2]) ?_;obtain⟨y3,e3,r⟩:=Kg (N:=N) (by omega) hl.1.2.1;refine B0 e3 ?_;by_cases c3:y3=0
 case neg=>exact ifT (by simpa using c3) ⟨17,rfl,.inr ⟨rfl,fun h=>c3 (r.2 h.2.2.1)⟩⟩
 refine ifF (by simp[c3]) ?_;rw[BQ (by omega)];by_cases a:l.If.n<=4/\l.Out.n<=6/\l.If.n+l.Out.n≠0/\1<=l.Mode/\l.Mode<=3
 case neg=>refine ifT ?_ ⟨17,rfl,.inr ⟨rfl,fun h=>a ⟨h.2.2.2.1,h.2.2.2.2.1,h.2.2.2.2.2.1,h.2.2.2.2.2.2.1,h.2.2.2.2.2.2.2.1⟩⟩⟩;simp only[At0,Nj,beq_iff_eq];omega
 refine ifF (by simp only[At0,Nj,beq_iff_eq];omega) ?_;obtain⟨c4,c5,c6,c7,c8⟩:=a;refine Fb (fun i x1=>x1=(i:Int)/\∀j,j<i->vS (l.If.g j)) l.If.n _ (by omega) ⟨rfl,fun j c=>Ng c (by omega)⟩ ?_;rintro t i x1 z ⟨rfl,h⟩ hs;by_cases d:i<l.If.n
 .obtain⟨b,eb,hb⟩:=TR (N:=N) (by omega) (hl.1.2.2 i d);refine Ba (Al (B0 (by rw[Aq6];exact eb) ?_));cases b
  .exact ifT rfl ⟨17,rfl,.inr ⟨rfl,fun h=>by have:=hb.2 (h.2.2.2.2.2.2.2.2.1 i d);cases this⟩⟩
  refine Hs (hs d _ ⟨Iz,fun j c=>?_⟩);by_cases e:j=i
  .subst e;exact hb.1 rfl
  exact h j (by omega)
 refine Ft ?_;have x:∀j,j<l.If.n->vS (l.If.g j):=fun j c=>h j (by omega);refine Fb (fun i x1=>x1=(i:Int)/\∀j,j<i->Q0 N (l.Out.g j) l.If.n=some true) l.Out.n _ (by omega) ⟨rfl,fun j c=>Ng c (by omega)⟩ ?_;rintro m k x2 hk ⟨rfl,h'⟩ o;by_cases f:k<l.Out.n
 .obtain⟨b,eb,eb'⟩:=SA (N:=N) (by omega) (hl.2.2.2.2 k f) (l.If.n:Int);refine Ba (Al (B0 (by rw[Aq6];exact eb') ?_));cases b
  .exact ifT rfl ⟨17,rfl,.inr ⟨rfl,fun h=>by have:=h.2.2.2.2.2.2.2.2.2 k f;rw[eb]at this;cases this⟩⟩
  refine Hs (o f _ ⟨Iz,fun j c=>?_⟩);by_cases e:j=k
  .subst e;exact eb
  exact h' j (by omega)
 exact Ft ⟨0,rfl,.inl ⟨rfl,e0',q.1 c2,r.1 c3,c4,c5,c6,c7,c8,x,fun j c=>h' j (by omega)⟩⟩
def Pp {l:Law}{e e' : Int}(h:Af0 N l e)(h' : Af0 N l e'):e=e':=by
 rcases h with⟨rfl,h⟩ | ⟨rfl,h⟩<;>rcases h' with⟨rfl,h'⟩ | ⟨rfl,h'⟩
 .rfl
 .exact Ng h h'
 .exact Ng h' h
 rfl
def GX (a:3000000<=N){l:Law}(hl:Ki l):∃e,Y2 N l=some e/\BH N l=some e/\Af0 N l e:=by obtain⟨e,h,c⟩:=TT a hl;obtain⟨e',h',c'⟩:=TU a hl;obtain rfl:=Pp c c';exact⟨_,h,h',c⟩
end Go.AM
namespace Go.AM
open Go.Proofs
def PE:Pat->Pat->Prop
 |.nil,q=>q.Kind=0/\q.Is=default/\q.Not=false/\q.Min=0/\q.Max=0/\q.L.n=0
 |.mk k is no mn mx n g,q=>q.Kind=k/\q.Is=is/\q.Not=no/\q.Min=mn/\q.Max=mx/\q.L.n=n/\∀i,i<n->PE (g i) (q.L.g i)
def PE_of {p q:Pat}:PE p q↔q.Kind=p.Kind/\q.Is=p.Is/\q.Not=p.Not/\q.Min=p.Min/\q.Max=p.Max/\q.L.n=p.L.n/\∀i,i<p.L.n->PE (p.L.g i) (q.L.g i):=by
 cases p with
 |nil=>exact⟨fun h=>⟨h.1,h.2.1,h.2.2.1,h.2.2.2.1,h.2.2.2.2.1,h.2.2.2.2.2,fun i a=>Ng a (Az2 i)⟩,fun h=>⟨h.1,h.2.1,h.2.2.1,h.2.2.2.1,h.2.2.2.2.1,h.2.2.2.2.2.1⟩⟩
 |mk k is no mn mx n g=>exact Az9
def Re:∀p:Pat,PE p p
 |.nil=>⟨rfl,rfl,rfl,rfl,rfl,rfl⟩
 |.mk k is no mn mx n g=>⟨rfl,rfl,rfl,rfl,rfl,rfl,fun i _=>Re (g i)⟩
def Rf:∀{p q:Pat},PE p q->PE q p
 |.nil,q,h=>PE_of.2 ⟨h.1.symm,h.2.1.symm,h.2.2.1.symm,h.2.2.2.1.symm,h.2.2.2.2.1.symm,h.2.2.2.2.2.symm,fun i a=>Ng a (by rw[h.2.2.2.2.2];exact Az2 i)⟩
 |.mk k is no mn mx n g,q,h=>PE_of.2 ⟨h.1.symm,h.2.1.symm,h.2.2.1.symm,h.2.2.2.1.symm,h.2.2.2.2.1.symm,h.2.2.2.2.2.1.symm,fun i a=>Rf (h.2.2.2.2.2.2 i (by rw[<- h.2.2.2.2.2.1];exact a))⟩
def Mh {n:Nat}{Q Q' : Nat->Nat->Nat->Prop}:∀{m:Nat},(∀i,i<m->Q i=Q' i)->TF n Q m=TF n Q' m
 |0,_=>rfl
 |m+1,h=>by funext a b;simp only[TF];rw[Mh fun i c=>h i (by omega),h m (by omega)]
def Af1 {w:Sl Qz}:∀(d:Nat) {p q:Pat},okP d p->PE p q->PR w p=PR w q
 |0,p,q,h,_=>h.elim
 |d+1,p,q,h,e=>by
  obtain⟨e1,e2,e3,e4,e5,e6,e7⟩:=PE_of.1 e;have ih:∀i,i<p.L.n->PR w (p.L.g i)=PR w (q.L.g i):=fun i c=>Af1 d (h.2.2 i c) (e7 i c);funext a b;apply propext;rw[IE,IE,e1,e2,e3,e4,e5,e6];have j:TF w.n (fun i=>PR w (p.L.g i)) p.L.n=TF w.n (fun i=>PR w (q.L.g i)) p.L.n:=Mh ih;have l:(∃i,i<p.L.n/\PR w (p.L.g i) a b) ↔ ∃i,i<p.L.n/\PR w (q.L.g i) a b:=⟨fun⟨i,c,g⟩=>⟨i,c,by rw[<- ih i c];exact g⟩,fun⟨i,c,g⟩=>⟨i,c,by rw[ih i c];exact g⟩⟩;rw[j,l];by_cases f:p.Kind=5
  .have:=(h.2.1 f).1
   rw[ih 0 (by omega)]
  simp[f]
def Yv {p q:Pat}(e:PE p q):Fc p↔Fc q:=by obtain⟨e1,e2,e3,e4,e5,e6,_⟩:=PE_of.1 e;unfold Fc;rw[e1,e2,e3,e4,e5,e6]
def PEs:List Pat->List Pat->Prop
 |[],[]=>True
 |p::l,q::m=>PE p q/\PEs l m
 |_,_=>False
def Wl:∀{a b c d:List Pat},PEs a b->PEs c d->PEs (a++c) (b++d)
 |[],[],_,_,_,h=>h
 |_::_,_::_,_,_,⟨h1,h2⟩,h=>⟨h1,Wl h2 h⟩
 |[],_::_,_,_,h,_=>h.elim
 |_::_,[],_,_,h,_=>h.elim
def Pq {f g:Nat->Pat}:∀(l:List Nat),(∀i∈l,PE (f i) (g i))->PEs (l.map f) (l.map g)
 |[],_=>trivial
 |i::l,h=>⟨h i (by simp),Pq l fun j a=>h j (by simp[a])⟩
def Zq:∀(k:Nat) (l m:List Pat),PEs l m->(chk k l↔chk k m)
 |0,[],[],_=>Az9
 |0,p::l,q::m,_=>⟨fun h=>(by cases h),fun h=>by cases h⟩
 |k+1,[],[],_=>Az9
 |k+1,p::l,q::m,⟨h1,h2⟩=>by
  obtain⟨_,_,_,_,_,e6,e7⟩:=PE_of.1 h1;show Fc p/\chk k (p.L.toList++l)↔Fc q/\chk k (q.L.toList++m);rw[Yv h1,Zq k _ _ (Wl (c:=l) (d:=m) (show PEs p.L.toList q.L.toList by unfold Sl.toList;rw[e6];exact Pq _ fun i a=>e7 i (Aw8.1 a)) h2)]
 |_,[],_::_,h=>h.elim
 |_,_::_,[],h=>h.elim
def HF {p q:Pat}(h:PE p q):chk 40 [p]↔chk 40 [q]:=Zq 40 [p] [q] ⟨h,trivial⟩
def okPS_of {p:Pat}:okPS p↔okS p.Is/\∀i,i<p.L.n->okPS (p.L.g i):=by
 cases p with
 |nil=>exact⟨fun _=>⟨⟨0#32,0#32,rfl⟩,fun i a=>Ng a (Az2 i)⟩,fun _=>trivial⟩
 |mk k is no mn mx n g=>exact Az9
def Kj:∀{p q:Pat},PE p q->okPS p->okPS q
 |.nil,q,h,_=>okPS_of.2 ⟨by rw[h.2.1];exact⟨0#32,0#32,rfl⟩,fun i a=>Ng a (by rw[h.2.2.2.2.2];exact Az2 i)⟩
 |.mk k is no mn mx n g,q,h,hp=>okPS_of.2 ⟨by rw[h.2.1];exact hp.1,fun i a=>by
  have a:i<n:=by rw[<- h.2.2.2.2.2.1];exact a
  exact Kj (h.2.2.2.2.2.2 i a) (hp.2 i a)⟩
end Go.AM
namespace Go.AM
variable {N:Nat}
open IntKind (wrap)
open Go.Proofs
def nf:(!false)=true:=rfl
def Ah5 {α : Type}{s t:Sl α}(h:s.n=0):s.app t=t:=by cases t;simp[Sl.app,h]
def Zr {α : Type}[Inhabited α](s:Sl (Sl α)):Nat->Sl α
 |0=>Sl.nil
 |k+1=>(Zr s k).app (s.g k)
def Zs {α : Type}[Inhabited α](s:Sl (Sl α)){B:Nat}:∀k,(∀i,i<k->(s.g i).n<=B)->(Zr s k).n<=k*B
 |0,_=>by simp[Zr]
 |k+1,h=>by
  have:=Zs s k fun i a=>h i (by omega)
  have:=h k (by omega)
  show (Zr s k).n+(s.g k).n<=_;rw[AD5];omega
def Rg {s:Sl (Sl Qz)}(hn:s.n<1000)(d:1000<=N)(hs:∀i,i<s.n->(s.g i).n<=3000000) :A6 N s=some (Zr s s.n):=by
 suffices h:∃r,A6 N s=some r/\r=Zr s s.n by obtain⟨r,h,rfl⟩:=h;exact h
 unfold A6;refine Ai (fun (i:Nat) (x1 x2:Int)=>x2=(i:Int)/\0<=x1/\x1<=(i:Int)*3000000) s.n _ (by omega) ⟨rfl,Int.le_refl 0,by simp⟩ ?_;rintro b i x1 x2 c ⟨rfl,f,h1⟩ a;by_cases hl:i<s.n
 .have:=hs i hl
  refine Ba (Al ?_);rw[Aq6,E8 (by omega) (by omega)];exact Ft (a hl _ _ ⟨Iz,by omega,by omega⟩)
 refine Ft (B0 (x:=Sl.nil) ?_ ?_)
 .unfold G2;rw[J4]
 refine Ai (fun i x1 x2=>x2=(i:Int)/\x1=Zr s i) s.n _ (by omega) ⟨rfl,rfl⟩ ?_;rintro b i x1 x2 c ⟨rfl,rfl⟩ a;by_cases hl:i<s.n
 .have g1:=hs i hl;have g2:=Zs s i (B:=3000000) fun j l=>hs j (by omega);refine Ba (ifT ⟨by omega,?_⟩ (a hl _ _ ⟨Iz,?_⟩))
  .rw[Aq6];omega
  rw[Aq6];rfl
 exact Ft ⟨_,rfl,by congr 1;omega⟩
def Ah6 (w:Sl Qz)(i k:Nat)(y:Sl Qz):Sl Qz:=((w.take i).app y).app (w.drop (i+k))
def Wm {w y:Sl Qz}{i k:Nat}(b:i+k<=w.n)(hw:∀j,j<w.n->vS (w.g j))(hy:∀j,j<y.n->vS (y.g j)):(Ah6 w i k y).n=w.n-k+y.n/\∀j,j<(Ah6 w i k y).n->vS ((Ah6 w i k y).g j):=by
 have hn:(Ah6 w i k y).n=w.n-k+y.n:=by show i+y.n+(w.n-(i+k))=_;omega
 refine⟨hn,fun j a=>?_⟩;rw[hn]at a;show vS (if j<i+y.n then (if j<i then w.g j else y.g (j-i))else w.g (i+k+(j-(i+y.n))));split
 .split
  .exact hw _ (by omega)
  exact hy _ (by omega)
 exact hw _ (by omega)
def Fd (N:Nat)(l:Law)(w:Sl Qz)(i:Nat):Sl Qz:=(K4 N l (w.sub i (i+l.If.n))).getD Sl.nil
def S8 (N:Nat)(l:Law)(w:Sl Qz)(i:Nat):Sl Qz:=Ah6 w i l.If.n (Fd N l w i)
def vOk {w:Sl Qz}(h:wOk w):okW w:=⟨by have:=h.1;omega,fun i a=>(h.2 i a).ok⟩
def EE (a:1000<=N){l:Law}(b:Ah3 l){w:Sl Qz}(hw:∀j,j<w.n->vS (w.g j)){i:Nat}(o:i+l.If.n<=w.n) :K4 N l (w.sub i (i+l.If.n))=some (Fd N l w i)/\BK N l (w.sub i (i+l.If.n))=some (Fd N l w i)/\(Fd N l w i).n=l.Out.n/\∀j,j<(Fd N l w i).n->vS ((Fd N l w i).g j):=by
 obtain⟨s,h1,c,d,f⟩:=Ae9 a b (cut:=w.sub i (i+l.If.n)) (by show i+l.If.n-i=_;omega) fun j m=>(hw (i+j) (by have:j<i+l.If.n-i:=m;omega)).ok;have e:Fd N l w i=s:=by unfold Fd;rw[h1];rfl
 rw[e];exact⟨h1,c,d,f⟩
def cat3 (a b c:Sl Qz):Zr (Sl.of [a,b,c]:Sl (Sl Qz)) 3=(a.app b).app c:=by show ((Qw.app a).app b).app c=_;rw[Ah5 (s:=Qw) rfl]
def Wn (d:1000<=N){a b c:Sl Qz}(ha:a.n<=3000000)(hb:b.n<=3000000)(hc:c.n<=3000000):A6 N (Sl.of [a,b,c]:Sl (Sl Qz))=some ((a.app b).app c):=by
 have h:=Rg (N:=N) (s:=(Sl.of [a,b,c]:Sl (Sl Qz))) (by show 3<1000;omega) d fun i f=>by
  match i,f with
  |0,_=>exact ha
  |1,_=>exact hb
  |2,_=>exact hc
 rw[h];exact congrArg some (cat3 a b c)
def DB (a:1000<=N){l:Law}(b:Ah3 l){w:Sl Qz}(c:w.n<1000)(hw:∀j,j<w.n->vS (w.g j)){i:Nat}(d:i+l.If.n<=w.n) :N9 N l w i=some (S8 N l w i)/\T9 N l w i=some (S8 N l w i):=by
 obtain⟨h1,f,m,o⟩:=EE a b hw d;have q:=b.1;constructor
 .unfold N9;rw[BQ (by omega),J4,Aq6,Aq6,h1,Aq5,J4,
   Wn a (by show i<=_;omega) (by omega) (by show w.n-(i+l.If.n)<=_;omega)]
  rfl
 unfold T9;rw[BQ (by omega),Aq6,Aq6,Ah5 (s:=Qx) rfl,Nd ⟨by omega,by show (0+i)*8<=_/\0+i<=_;omega⟩,J4,f,Aq5,
  Nd (by show (i+(Fd N l w i).n)*8<=_/\i+(Fd N l w i).n<=_;omega),Nd ⟨by omega,by show (i+(Fd N l w i).n+(w.n-(i+l.If.n)))*8<=_/\i+(Fd N l w i).n+(w.n-(i+l.If.n))<=_;omega⟩]
 rfl
def SE {α : Type}(s t:Sl α):Prop:=s.n=t.n/\∀i,i<s.n->s.g i=t.g i
def SE.refl {α : Type}(s:Sl α):SE s s:=⟨rfl,fun _ _=>rfl⟩
def SE.symm {α : Type}{s t:Sl α}(h:SE s t):SE t s:=⟨h.1.symm,fun i a=>(h.2 i (by rw[h.1];exact a)).symm⟩
def SE.trans {α : Type}{s t u:Sl α}(h:SE s t)(h' : SE t u):SE s u:=⟨h.1.trans h'.1,fun i a=>(h.2 i a).trans (h'.2 i (by rw[<- h.1];exact a))⟩
def SE.app {α : Type}{s t u v:Sl α}(h:SE s t)(h' : SE u v):SE (s.app u) (t.app v):=⟨by show s.n+u.n=t.n+v.n;rw[h.1,h'.1],fun i a=>by
 show (if i<s.n then s.g i else u.g (i-s.n))=if i<t.n then t.g i else v.g (i-t.n)
 have a:i<s.n+u.n:=a;rw[<- h.1];split
 .exact h.2 i (by assumption)
 exact h'.2 _ (by omega)⟩
def SE.drop {α : Type}{s t:Sl α}(h:SE s t)(k:Nat):SE (s.drop k) (t.drop k):=⟨by show s.n-k=t.n-k;rw[h.1],fun i a=>by have a:i<s.n-k:=a;exact h.2 _ (by omega)⟩
def SE.take {α : Type}{s t:Sl α}(h:SE s t){k:Nat}(hk:k<=s.n):SE (s.take k) (t.take k):=⟨rfl,fun i a=>h.2 i (by have a:i<k:=a;omega)⟩
def SE.sub {α : Type}{s t:Sl α}(h:SE s t){a b:Nat}(hk:b<=s.n):SE (s.sub a b) (t.sub a b):=⟨rfl,fun i c=>h.2 _ (by have c:i<b-a:=c;omega)⟩
def SE.v {s t:Sl Qz}(h:SE s t)(b:∀j,j<s.n->vS (s.g j)):∀j,j<t.n->vS (t.g j):=fun j a=>by rw[<- h.2 j (by rw[h.1];exact a)];exact b j (by rw[h.1];exact a)
def SE.wOk {s t:Sl Qz}(h:SE s t)(a:wOk s):wOk t:=⟨by rw[<- h.1];exact a.1,h.v a.2⟩
def Nw {w w' : Sl Qz}(h:SE w w'):∀p:Pat,PR w p=PR w' p
 |.nil=>rfl
 |.mk kind is no mn mx m g=>by
  have ih:(fun i=>PR w (g i))=fun i=>PR w' (g i):=funext fun i=>Nw h (g i);have ih1:∀i,PR w (g i)=PR w' (g i):=fun i=>congrFun ih i;have e1:∀a,(a<w.n↔a<w'.n):=fun a=>by rw[h.1]
  funext a b;unfold PR;rw[ih];simp only[ih1,<- h.1];by_cases ha:a<w.n
  .rw[h.2 a ha]
  simp[ha]
def TV {l:Law}{w w' : Sl Qz}(h:SE w w'){i:Nat}:Mg l w i↔Mg l w' i:=by
 suffices H:∀{w w' : Sl Qz},SE w w' -> Mg l w i->Mg l w' i by exact⟨H h,H h.symm⟩
 intro w w' h;rintro⟨h1,f,g,m,n,q,⟨a,ha,c⟩,b,hb,d⟩;have hn:=h.1;refine⟨by omega,fun j o=>?_,g,m,h.wOk n,by omega,⟨a,by omega,?_⟩,b,by omega,?_⟩
 .rw[<- h.2 (i+j) (by omega)];exact f j o
 .rw[<- Nw h];exact c
 rw[<- Nw h];exact d
structure LE (l l' : Law):Prop where
 name:l'.Name=l.Name
 left:PE l.Left l'.Left
 right:PE l.Right l'.Right
 cond:SE l.If l'.If
 out:SE l.Out l'.Out
 mode:l'.Mode=l.Mode
def LE.refl (l:Law):LE l l:=⟨rfl,Re _,Re _,SE.refl _,SE.refl _,rfl⟩
def LE.symm {l l' : Law}(h:LE l l'):LE l' l:=⟨h.name.symm,Rf h.left,Rf h.right,h.cond.symm,h.out.symm,h.mode.symm⟩
def Af2 {l l' : Law}(h:LE l l'){w:Sl Qz}{i:Nat}:Mg l w i↔Mg l' w i:=by
 suffices H:∀{l l' : Law},LE l l' -> Mg l w i->Mg l' w i by exact⟨H h,H h.symm⟩
 intro l l' h;rintro⟨h1,m,f,g,n,o,⟨a,ha,c⟩,b,hb,d⟩;have hn:=h.cond.1;refine⟨by omega,fun j q=>?_,(HF h.left).1 f,(HF h.right).1 g,n,by omega,⟨a,ha,?_⟩,b,hb,?_⟩
 .rw[<- h.cond.2 j (by omega)];exact m j (by omega)
 .rw[<- Af1 40 (Ph 40 _ (by omega) f _ (by simp)) h.left];exact c
 rw[<- hn,<- Af1 40 (Ph 40 _ (by omega) g _ (by simp)) h.right];exact d
def Ga {l l' : Law}(e:LE l l'){w w' : Sl Qz}(h:SE w w'){i:Nat}:Mg l w i↔Mg l' w' i:=(Af2 e).trans (TV h)
def IP {l l' : Law}(h:LE l l')(hl:Ki l):Ki l':=by obtain⟨⟨h1,a,b⟩,c,g,j,d⟩:=hl;have m:=h.cond.1;have n:=h.out.1;exact⟨⟨Kj h.left h1,Kj h.right a,fun i f=>by rw[<- h.cond.2 i (by omega)];exact b i (by omega)⟩,by rw[h.name];exact c,by omega,by omega,fun i f=>by rw[<- h.out.2 i (by omega)];exact d i (by omega)⟩
def Af3 {l l' : Law}(h:LE l l')(hl:Ah3 l):Ah3 l':=by have a:=h.cond.1;have b:=h.out.1;exact⟨by rw[<- b];exact hl.1,fun i c=>by rw[<- h.out.2 i (by omega),<- a];exact hl.2 i (by omega)⟩
def Rh {l l' : Law}(h:LE l l')(hl:Ah4 l):Ah4 l':=by obtain⟨⟨h1,a,b⟩,c,d,j,f,m,n,g⟩:=hl;have o:=h.cond.1;have q:=h.out.1;have hm:=h.mode;exact⟨⟨Kj h.left h1,Kj h.right a,fun i r=>by rw[<- h.cond.2 i (by omega)];exact b i (by omega)⟩,(HF h.left).1 c,(HF h.right).1 d,by omega,Af3 h f,by omega,by omega,by omega⟩
def EF {l l' : Law}(h:LE l l'):chkAll N l↔chkAll N l':=by
 suffices H:∀{l l' : Law},LE l l' -> chkAll N l->chkAll N l' by exact⟨H h,H h.symm⟩
 rintro l l' h ⟨h1,b,c,j,m,n,o,q,d,a⟩;have f:=h.cond.1;have r:=h.out.1;have hm:=h.mode;exact⟨by rw[h.name];exact h1,(HF h.left).1 b,(HF h.right).1 c,by omega,by omega,by omega,by omega,by omega,
  fun i g=>by rw[<- h.cond.2 i (by omega)];exact d i (by omega),fun i g=>by rw[<- h.out.2 i (by omega),<- f];exact a i (by omega)⟩
def Af4 {l l' : Law}(h:LE l l'){e:Int}(b:Af0 N l e):Af0 N l' e:=by
 rcases b with⟨h1,a⟩ | ⟨h1,a⟩
 .exact .inl ⟨h1,(EF h).1 a⟩
 exact .inr ⟨h1,fun g=>a ((EF h).2 g)⟩
def Wo {l:Law}{c c' : Sl Qz}(h:SE c c'):K4 N l c=K4 N l c':=by
 unfold K4;congr 1;funext self x1 x2;by_cases h1:(decide (x2<(l.Out.n:Int)))=true
 case neg=>rw[Nf h1,Nf h1]
 rw[Nd h1,Nd h1,<- h.1];have e1:∀y:Int,(0:Int)<=y->y<(c.n:Int)->c.g y.toNat=c'.g y.toNat:=fun y i h1=>h.2 _ (by omega);by_cases b:(0:Int)<=x2/\x2<(l.Out.n:Int)
 case neg=>rw[Nf b,Nf b]
 rw[Nd b,Nd b];split
 .rename_i f;have e2:(⟨(if (decide (0<=(l.Out.g x2.toNat).From)) then (c.g (l.Out.g x2.toNat).From.toNat).Plus else 0),(if (decide (0<=(l.Out.g x2.toNat).From)) then (c.g (l.Out.g x2.toNat).From.toNat).Minus else 0)⟩:Qz) =
   ⟨(if (decide (0<=(l.Out.g x2.toNat).From)) then (c'.g (l.Out.g x2.toNat).From.toNat).Plus else 0),(if (decide (0<=(l.Out.g x2.toNat).From)) then (c'.g (l.Out.g x2.toNat).From.toNat).Minus else 0)⟩:=by
   by_cases a:decide (0<=(l.Out.g x2.toNat).From)=true
   .have:=f a
    rw[Nd a,Nd a,Nd a,Nd a,e1 _ this.1 this.2]
   rw[Nf a,Nf a,Nf a,Nf a]
  rw[e2];congr 1;funext y5;split
  .split
   .rename_i d;rw[e1 _ d.1 d.2]
   rfl
  rfl
 rfl
def TW {l l' : Law}(h:SE l.Out l'.Out)(c:Sl Qz):K4 N l c=K4 N l' c:=by
 unfold K4;congr 1;funext self x1 x2;rw[<- h.1];by_cases h1:(0:Int)<=x2/\x2<(l.Out.n:Int)
 .rw[h.2 x2.toNat (by omega)]
 by_cases a:(decide (x2<(l.Out.n:Int)))=true
 .rw[Nd a,Nd a,Nf h1,Nf h1]
 rw[Nf a,Nf a]
def Kk {l l' : Law}(e:LE l l'){w w' : Sl Qz}(h:SE w w'){i:Nat}(a:i+l.If.n<=w.n):Fd N l w i=Fd N l' w' i:=by unfold Fd;rw[Wo (h.sub a),TW e.out,<- e.cond.1]
def Ir {l l' : Law}(e:LE l l'){w w' : Sl Qz}(h:SE w w'){i:Nat}(a:i+l.If.n<=w.n):SE (S8 N l w i) (S8 N l' w' i):=by unfold S8 Ah6;rw[Kk e h a,<- e.cond.1];exact ((h.take (by omega)).app (SE.refl _)).app (h.drop _)
def RL:List (Int×Sl Qz)->List (Int×Sl Qz)->Prop
 |[],[]=>True
 |(p,v)::L,(q,u)::M=>p=q/\SE v u/\RL L M
 |_,_=>False
def HG:Sl Int->Sl (Sl Qz)->List (Int×Sl Qz)->Sl Int×Sl (Sl Qz)×Int
 |x,y,[]=>(x,y,0)
 |x,y,(p,v)::L=>if 32<v.n then (Sl.nil,Sl.nil,11)else HG (x.push p) (y.push v) L
abbrev Mi:=List (Int×Sl Qz)
def vL (L:Mi):Prop:=∀x∈L,∀j,j<x.2.n->vS (x.2.g j)
def Pr:vL []:=fun x hx=>Ng hx (by simp)
def Ri {x:Int×Sl Qz}{L:Mi}(h:∀j,j<x.2.n->vS (x.2.g j))(hL:vL L):vL (x::L):=fun y hy=>by
 rcases At6.1 hy with rfl|hy
 .exact h
 exact hL y hy
def Ps (N:Nat)(l:Law)(a:Sl Qz->Int->Option Mi)(x5:Sl Qz)(x6:Int):Option Mi:= if (decide ((wrap .i64 (x6+(l.If.n:Int)))<=(x5.n:Int))) then (AS N l x5 x6).bind fun c=>if (!c) then a x5 (wrap .i64 (x6+1)) else (N9 N l x5 x6).bind fun b=>P7 (x6,b) (if ((l.If.n:Int)==0) then a b (wrap .i64 ((wrap .i64 (x6+(l.Out.n:Int)))+1)) else a b (wrap .i64 (x6+(l.Out.n:Int)))) else some []
abbrev Yw:=(Sl Int)×(Sl (Sl Qz))×Int
def Pt (N:Nat)(l:Law)(a:Sl Qz->Sl Int->Sl (Sl Qz)->Int->Option Yw)(x1:Sl Qz)(x2:Sl Int)(x3:Sl (Sl Qz))(x4:Int):Option Yw:= if (decide ((wrap .i64 (x4+(l.If.n:Int)))<=(x1.n:Int))) then (AP N l x1 x4).bind fun y5=>if (!y5) then a x1 x2 x3 (wrap .i64 (x4+1)) else (T9 N l x1 x4).bind fun y6=>if (decide (32<(y6.n:Int))) then some (Qv,Qy,11) else if (((x2.n+(Sl.of [x4]:Sl Int).n)*8<=140737488355328/\x2.n+(Sl.of [x4]:Sl Int).n<=140737488355328)/\((x3.n+(Sl.of [y6]:Sl (Sl Qz)).n)*24<=140737488355328/\x3.n+(Sl.of [y6]:Sl (Sl Qz)).n<=140737488355328))then if ((l.If.n:Int)==0) then a y6 (x2.push x4) (x3.push y6) (wrap .i64 ((wrap .i64 (x4+(l.Out.n:Int)))+1)) else a y6 (x2.push x4) (x3.push y6) (wrap .i64 (x4+(l.Out.n:Int))) else none else some (x2,x3,0)
def Wp (hN:3000<=N){l l' : Law}(hf:Ah4 l)(s:LE l l'):∀(m:Nat) (w w' : Sl Qz) (i:Nat),SE w w' -> w.n<=100->(∀j,j<w.n->vS (w.g j))->i<=200->w.n+1<=i+m ->
 ∃L L',(∀M,m<M->N6 M (Ps N l) w i=some L)/\vL L/\L.length<=m/\RL L L' /\ ∀M x2 x3,m<M->x2.n+m<=1000->x3.n+m<=1000->XG M (Pt N l') w' x2 x3 i=some (HG x2 x3 L'):=by
 obtain⟨hl,_,_,hk,x,y,_,_⟩:=hf;have h6:=x.1;obtain⟨z,_,_,a0,a1,_,_,_⟩:=Rh s ⟨hl,‹_›, ‹_›,hk,x,y,‹_›, ‹_›⟩;have c:l'.If.n=l.If.n:=s.cond.1.symm;have d:l'.Out.n=l.Out.n:=s.out.1.symm;intro m
 induction m with
 |zero=>
  intro w w' i a hn o hi hm;have a2:=a.1;refine⟨[],[],fun M q=>?_,Pr,Aq9 _,trivial,fun M x2 x3 q _ _=>?_⟩
  .obtain⟨M,rfl⟩:∃K,M=K+1:=⟨M-1,by omega⟩;rw[B6,Ps,BQ (by omega),Nb]
  obtain⟨M,rfl⟩:∃K,M=K+1:=⟨M-1,by omega⟩;rw[P6,Pt,c,d,BQ (by omega),Nb,HG]
 |succ m ih=>
  intro w w' i a hn o hi hm;have a2:=a.1;by_cases hle:i+l.If.n<=w.n
  case neg=>
   refine⟨[],[],fun M q=>?_,Pr,by simp,trivial,fun M x2 x3 q _ _=>?_⟩
   .obtain⟨M,rfl⟩:∃K,M=K+1:=⟨M-1,by omega⟩;rw[B6,Ps,BQ (by omega),Nb]
   obtain⟨M,rfl⟩:∃K,M=K+1:=⟨M-1,by omega⟩;rw[P6,Pt,c,d,BQ (by omega),Nb,HG]
  have hw:okW w:=⟨by omega,fun j hj=>(o j hj).ok⟩;have t:=a.v o;have hw' : okW w':=⟨by omega,fun j hj=>(t j hj).ok⟩;obtain⟨b,e1,h1⟩:=Wf hN hl hk hw i (by omega);obtain⟨b',e2,h2⟩:=Nv hN z a0 hw' i (by omega);obtain rfl:b' = b:=by rw[At9,h1,h2,Ga s a]
  cases b'
  .obtain⟨L,L',g1,g2,g3,g5,g4⟩:=ih w w' (i+1) a hn o (by omega) (by omega);refine⟨L,L',fun M q=>?_,g2,by omega,g5,fun M x2 x3 q hx hy=>?_⟩
   .obtain⟨M,rfl⟩:∃K,M=K+1:=⟨M-1,by omega⟩;rw[B6,Ps,BQ (by omega),J8,e1,Aq5,Nd nf,Iz];exact g1 M (by omega)
   obtain⟨M,rfl⟩:∃K,M=K+1:=⟨M-1,by omega⟩;rw[P6,Pt,c,d,BQ (by omega),J8,e2,Aq5,Nd nf,Iz];exact g4 M x2 x3 (by omega) (by omega) (by omega)
  have hit:=h1.1 rfl;have hw32:=hit.2.2.2.2.1.1;have r1:=(DB (N:=N) (by omega) x (by omega) o hle).1;have r2:=(DB (N:=N) (l:=l') (w:=w') (i:=i) (by omega) a1 (by omega) t (by omega)).2;have r:=Ir (N:=N) s a hle;have hrn:=r.1;obtain⟨_,_,p3,p4⟩:=EE (N:=N) (by omega) x o hle;obtain⟨q1,q2⟩:=Wm hle o p4;have q1:(S8 N l w i).n=w.n-l.If.n+l.Out.n:=by rw[<- p3];exact q1
  have q2:∀j,j<(S8 N l w i).n->vS ((S8 N l w i).g j):=q2;obtain⟨L,L',g1,g2,g3,g5,g4⟩:=ih (S8 N l w i) (S8 N l' w' i) (if l.If.n=0 then i+l.Out.n+1 else i+l.Out.n) r (by omega) q2 (by split<;>omega) (by split<;>omega);refine⟨((i:Int),S8 N l w i)::L,((i:Int),S8 N l' w' i)::L',fun M q=>?_,Ri q2 g2,by simp;omega,⟨rfl,r,g5⟩,fun M x2 x3 q hx hy=>?_⟩
  .obtain⟨M,rfl⟩:∃K,M=K+1:=⟨M-1,by omega⟩;rw[B6,Ps,BQ (by omega),J8,e1,Aq5,Nc,r1,Aq5,BQ (by omega),Iz];have g1:=g1 M (by omega);by_cases f:l.If.n=0
   .rw[Nd f]at g1;rw[Nd (by simp[f]),g1];rfl
   rw[Nf f]at g1;rw[Nf (by simp[f]),g1];rfl
  obtain⟨M,rfl⟩:∃K,M=K+1:=⟨M-1,by omega⟩;rw[P6,Pt,c,d,BQ (by omega),J8,e2,Aq5,Nc,r2,Aq5,BQ (by omega),Iz,HG];by_cases u:32<(S8 N l' w' i).n
  .rw[J8,Nd u]
  rw[Nb,Nf u,Nd (by show ((x2.n+1)*8<=_/\x2.n+1<=_)/\(x3.n+1)*24<=_/\x3.n+1<=_;omega)];have g4:=g4 M (x2.push (i:Int)) (x3.push (S8 N l' w' i)) (by omega) (by show x2.n+1+m<=_;omega) (by show x3.n+1+m<=_;omega);by_cases f:l.If.n=0
  .rw[Nd f]at g4;rw[Nd (by simp[f]),g4]
  rw[Nf f]at g4;rw[Nf (by simp[f]),g4]
def Wq (N:Nat)(l:Law)(a:Sl Qz->Int->Option Mi)(x7:Sl Qz)(x8:Int):Option Mi:= if (decide (0<=x8)) then (AS N l x7 x8).bind fun c=>if (!c) then a x7 (wrap .i64 (x8-1)) else (N9 N l x7 x8).bind fun b=>P7 (x8,b) (a b (wrap .i64 (x8-(if (l.If.n:Int)<1 then 1 else (l.If.n:Int))))) else some []
def Wr (N:Nat)(l:Law)(a:Sl Qz->Sl Int->Sl (Sl Qz)->Int->Option Yw)(x1:Sl Qz)(x2:Sl Int)(x3:Sl (Sl Qz))(x4:Int):Option Yw:= if (decide (0<=x4)) then (AP N l x1 x4).bind fun y5=>if (!y5) then a x1 x2 x3 (wrap .i64 (x4-1)) else (T9 N l x1 x4).bind fun y6=>if (decide (32<(y6.n:Int))) then some (Qv,Qy,11) else if (((x2.n+(Sl.of [x4]:Sl Int).n)*8<=140737488355328/\x2.n+(Sl.of [x4]:Sl Int).n<=140737488355328)/\((x3.n+(Sl.of [y6]:Sl (Sl Qz)).n)*24<=140737488355328/\x3.n+(Sl.of [y6]:Sl (Sl Qz)).n<=140737488355328))then if ((l.If.n:Int)==0) then a y6 (x2.push x4) (x3.push y6) (wrap .i64 ((wrap .i64 (x4-(l.If.n:Int)))-1)) else a y6 (x2.push x4) (x3.push y6) (wrap .i64 (x4-(l.If.n:Int))) else none else some (x2,x3,0)
def Yx (hN:3000<=N){l l' : Law}(hf:Ah4 l)(r:LE l l'):∀(m:Nat) (w w' : Sl Qz) (i:Int),SE w w' -> w.n<=100->(∀j,j<w.n->vS (w.g j)) -> -100<=i->i+1<=m->m<=200 ->
 ∃L L',(∀M,m<M->N6 M (Wq N l) w i=some L)/\vL L/\L.length<=m/\RL L L' /\ ∀M x2 x3,m<M->x2.n+m<=1000->x3.n+m<=1000->XG M (Wr N l') w' x2 x3 i=some (HG x2 x3 L'):=by
 obtain⟨hl,_,_,hk,x,y,_,_⟩:=hf;have h6:=x.1;obtain⟨z,_,_,a0,a1,_,_,_⟩:=Rh r ⟨hl,‹_›, ‹_›,hk,x,y,‹_›, ‹_›⟩;have c:l'.If.n=l.If.n:=r.cond.1.symm;have hof:l'.Out.n=l.Out.n:=r.out.1.symm;intro m
 induction m with
 |zero=>
  intro w w' i a hn d hi hm a2;have a3:=a.1;refine⟨[],[],fun M f=>?_,Pr,Aq9 _,trivial,fun M x2 x3 f _ _=>?_⟩
  .obtain⟨M,rfl⟩:∃K,M=K+1:=⟨M-1,by omega⟩;rw[B6,Wq,Nb]
  obtain⟨M,rfl⟩:∃K,M=K+1:=⟨M-1,by omega⟩;rw[P6,Wr,c,Nb,HG]
 |succ m ih=>
  intro w w' i a hn d hi hm a2;have a3:=a.1;by_cases hle:0<=i
  case neg=>
   refine⟨[],[],fun M f=>?_,Pr,by simp,trivial,fun M x2 x3 f _ _=>?_⟩
   .obtain⟨M,rfl⟩:∃K,M=K+1:=⟨M-1,by omega⟩;rw[B6,Wq,Nb]
   obtain⟨M,rfl⟩:∃K,M=K+1:=⟨M-1,by omega⟩;rw[P6,Wr,c,Nb,HG]
  obtain⟨k,rfl⟩:∃k:Nat,i=(k:Int):=⟨i.toNat,by omega⟩;have hw:okW w:=⟨by omega,fun j hj=>(d j hj).ok⟩;have s:=a.v d;have hw' : okW w':=⟨by omega,fun j hj=>(s j hj).ok⟩;obtain⟨b,e1,h1⟩:=Wf hN hl hk hw k (by omega);obtain⟨b',e2,h2⟩:=Nv hN z a0 hw' k (by omega);obtain rfl:b' = b:=by rw[At9,h1,h2,Ga r a]
  cases b'
  .obtain⟨L,L',g1,g2,g3,g5,g4⟩:=ih w w' ((k:Int)-1) a hn d (by omega) (by omega) (by omega);refine⟨L,L',fun M f=>?_,g2,by omega,g5,fun M x2 x3 f hx hy=>?_⟩
   .obtain⟨M,rfl⟩:∃K,M=K+1:=⟨M-1,by omega⟩;rw[B6,Wq,Nd (by simp),e1,Aq5,Nd nf,E8 (by omega) (by omega)];exact g1 M (by omega)
   obtain⟨M,rfl⟩:∃K,M=K+1:=⟨M-1,by omega⟩;rw[P6,Wr,c,Nd (by simp),e2,Aq5,Nd nf,E8 (by omega) (by omega)];exact g4 M x2 x3 (by omega) (by omega) (by omega)
  have t:=h1.1 rfl;have hle:=t.1;have hw32:=t.2.2.2.2.1.1;have r1:=(DB (N:=N) (by omega) x (by omega) d hle).1;have r2:=(DB (N:=N) (l:=l') (w:=w') (i:=k) (by omega) a1 (by omega) s (by omega)).2;have o:=Ir (N:=N) r a hle;have hrn:=o.1;obtain⟨_,_,p3,p4⟩:=EE (N:=N) (by omega) x d hle;obtain⟨q1,q2⟩:=Wm hle d p4;have q1:(S8 N l w k).n=w.n-l.If.n+l.Out.n:=by rw[<- p3];exact q1
  have q2:∀j,j<(S8 N l w k).n->vS ((S8 N l w k).g j):=q2;obtain⟨L,L',g1,g2,g3,g5,g4⟩:=ih (S8 N l w k) (S8 N l' w' k) (if l.If.n=0 then (k:Int)-1 else (k:Int)-l.If.n) o (by omega) q2 (by split<;>omega) (by split<;>omega) (by omega);refine⟨((k:Int),S8 N l w k)::L,((k:Int),S8 N l' w' k)::L',fun M f=>?_,Ri q2 g2,by simp;omega,⟨rfl,o,g5⟩,fun M x2 x3 f hx hy=>?_⟩
  .obtain⟨M,rfl⟩:∃K,M=K+1:=⟨M-1,by omega⟩;rw[B6,Wq,Nd (by simp),e1,Aq5,Nc,r1,Aq5];have g1:=g1 M (by omega);by_cases q:l.If.n=0
   .rw[Nd q]at g1;rw[J4,E8 (by omega) (by omega),g1];rfl
   rw[Nf q]at g1;rw[Na,E8 (by omega) (by omega),g1];rfl
  obtain⟨M,rfl⟩:∃K,M=K+1:=⟨M-1,by omega⟩;rw[P6,Wr,c,Nd (by simp),e2,Aq5,Nc,r2,Aq5,HG];by_cases u:32<(S8 N l' w' k).n
  .rw[J8,Nd u]
  rw[Nb,Nf u,Nd (by show ((x2.n+1)*8<=_/\x2.n+1<=_)/\(x3.n+1)*24<=_/\x3.n+1<=_;omega)];have g4:=g4 M (x2.push (k:Int)) (x3.push (S8 N l' w' k)) (by omega) (by show x2.n+1+m<=_;omega) (by show x3.n+1+m<=_;omega);rw[E8 (n:=(k:Int)-(l.If.n:Int)) (by omega) (by omega)];by_cases q:l.If.n=0
  .rw[Nd q]at g4;rw[Nd (by simp[q]),E8 (by omega) (by omega),show (k:Int)-(l.If.n:Int)-1=(k:Int)-1 by omega,g4]
  rw[Nf q]at g4;rw[Nf (by simp[q]),g4]
end Go.AM
namespace Go.AM
open IntKind (wrap)
open Go.Proofs
abbrev AllS:=Sl Qz×Int×Int
def IF (N:Nat)(l:Law)(q0:Sl Qz)(a:AllS->Option Mi)(x1:Int)(z1:AllS):Option Mi:= if (decide (x1<z1.2.1)) then a (z1.1,z1.2.1,z1.2.2) else if (((0:Int)<=(wrap .i64 (x1+z1.2.2))/\(wrap .i64 (x1+z1.2.2))<=(z1.1.n:Int))/\((0:Int)<=x1/\x1<=(wrap .i64 (x1+(l.If.n:Int)))/\(wrap .i64 (x1+(l.If.n:Int)))<=(q0.n:Int)))then (K4 N l (q0.sub x1.toNat (wrap .i64 (x1+(l.If.n:Int))).toNat)).bind fun y6=>if ((0:Int)<=(wrap .i64 (x1+(l.If.n:Int)))/\(wrap .i64 (x1+(l.If.n:Int)))<=(q0.n:Int))then (A6 N (Sl.of [z1.1.take (wrap .i64 (x1+z1.2.2)).toNat,y6,q0.drop (wrap .i64 (x1+(l.If.n:Int))).toNat]:Sl (Sl Qz))).bind fun y7=>P7 (x1,y7) (a (y7,wrap .i64 (x1+(if (l.If.n:Int)<1 then 1 else (l.If.n:Int))),wrap .i64 ((wrap .i64 (z1.2.2+(l.Out.n:Int)))-(l.If.n:Int)))) else none else none
def Ah7 (N:Nat)(a:Law)(p_w:Sl Qz)(b:Sl Int->Sl (Sl Qz)->Sl Qz->Int->Option Yw)(x2:Sl Int)(x3:Sl (Sl Qz))(x4:Sl Qz)(x5:Int):Option Yw:= if (decide (x5<=(p_w.n:Int))) then (AP N a p_w x5).bind fun y5=>if (!y5) then lt (fun (z3:Sl Qz)=>b x2 x3 z3 (wrap .i64 (x5+1))) fun k3=>if (decide (x5<(p_w.n:Int))) then if (((0:Int)<=x5/\x5<(p_w.n:Int))/\((x4.n+(Sl.of [p_w.g x5.toNat]:Sl Qz).n)*8<=140737488355328/\x4.n+(Sl.of [p_w.g x5.toNat]:Sl Qz).n<=140737488355328))then k3 (x4.push (p_w.g x5.toNat)) else none else k3 x4 else if ((0:Int)<=x5/\x5<=(wrap .i64 (x5+(a.If.n:Int)))/\(wrap .i64 (x5+(a.If.n:Int)))<=(p_w.n:Int))then (BK N a (p_w.sub x5.toNat (wrap .i64 (x5+(a.If.n:Int))).toNat)).bind fun y6=>if ((x4.n+y6.n)*8<=140737488355328/\x4.n+y6.n<=140737488355328)then if ((x2.n+(Sl.of [x5]:Sl Int).n)*8<=140737488355328/\x2.n+(Sl.of [x5]:Sl Int).n<=140737488355328)then if ((((Qx.n+(x4.app y6).n)*8<=140737488355328/\Qx.n+(x4.app y6).n<=140737488355328)/\((0:Int)<=(wrap .i64 (x5+(a.If.n:Int)))/\(wrap .i64 (x5+(a.If.n:Int)))<=(p_w.n:Int)))/\(((Qx.app (x4.app y6)).n+(p_w.drop (wrap .i64 (x5+(a.If.n:Int))).toNat).n)*8<=140737488355328/\(Qx.app (x4.app y6)).n+(p_w.drop (wrap .i64 (x5+(a.If.n:Int))).toNat).n<=140737488355328))then if (decide (32<(((Qx.app (x4.app y6)).app (p_w.drop (wrap .i64 (x5+(a.If.n:Int))).toNat)).n:Int))) then some (Qv,Qy,11) else if ((x3.n+(Sl.of [(Qx.app (x4.app y6)).app (p_w.drop (wrap .i64 (x5+(a.If.n:Int))).toNat)]:Sl (Sl Qz)).n)*24<=140737488355328/\x3.n+(Sl.of [(Qx.app (x4.app y6)).app (p_w.drop (wrap .i64 (x5+(a.If.n:Int))).toNat)]:Sl (Sl Qz)).n<=140737488355328)then if ((a.If.n:Int)==0) then if (decide ((wrap .i64 (x5+(a.If.n:Int)))<(p_w.n:Int))) then if (((0:Int)<=(wrap .i64 (x5+(a.If.n:Int)))/\(wrap .i64 (x5+(a.If.n:Int)))<(p_w.n:Int))/\(((x4.app y6).n+(Sl.of [p_w.g (wrap .i64 (x5+(a.If.n:Int))).toNat]:Sl Qz).n)*8<=140737488355328/\(x4.app y6).n+(Sl.of [p_w.g (wrap .i64 (x5+(a.If.n:Int))).toNat]:Sl Qz).n<=140737488355328))then b (x2.push x5) (x3.push ((Qx.app (x4.app y6)).app (p_w.drop (wrap .i64 (x5+(a.If.n:Int))).toNat))) ((x4.app y6).push (p_w.g (wrap .i64 (x5+(a.If.n:Int))).toNat)) (wrap .i64 ((wrap .i64 (x5+(a.If.n:Int)))+1)) else none else b (x2.push x5) (x3.push ((Qx.app (x4.app y6)).app (p_w.drop (wrap .i64 (x5+(a.If.n:Int))).toNat))) (x4.app y6) (wrap .i64 ((wrap .i64 (x5+(a.If.n:Int)))+1)) else b (x2.push x5) (x3.push ((Qx.app (x4.app y6)).app (p_w.drop (wrap .i64 (x5+(a.If.n:Int))).toNat))) (x4.app y6) (wrap .i64 (x5+(a.If.n:Int))) else none else none else none else none else none else some (x2,x3,0)
abbrev vW (s:Sl Qz):Prop:=∀j,j<s.n->vS (s.g j)
def Zt {s t:Sl Qz}(h:vW s)(h' : vW t):vW (s.app t):=fun j a=>by
 have a:j<s.n+t.n:=a;show vS (if j<s.n then s.g j else t.g (j-s.n));split
 .exact h j (by assumption)
 exact h' _ (by omega)
def Af5 {s:Sl Qz}(h:vW s)(k:Nat):vW (s.drop k):=fun j a=>h _ (by have a:j<s.n-k:=a;omega)
def Af6 {s:Sl Qz}(h:vW s){k:Nat}(hk:k<=s.n):vW (s.take k):=fun j a=>h _ (by have a:j<k:=a;omega)
def Pu {x s:Sl Qz}{i:Nat}(b:i<s.n):SE (x.app (s.drop i)) ((x.push (s.g i)).app (s.drop (i+1))):=⟨by show x.n+(s.n-i)=x.n+1+(s.n-(i+1));omega,fun j _=>by
 show (if j<x.n then x.g j else s.g (i+(j-x.n)))=if j<x.n+1 then (if j<x.n then x.g j else s.g i)else s.g (i+1+(j-(x.n+1)))
 by_cases h1:j<x.n
 .rw[Nd h1,J4,Nd h1]
 rw[Nf h1];by_cases a:j=x.n
 .rw[J4,Nf h1,a];simp
 rw[Na];congr 1;omega⟩
def Yy {a x t:Sl Qz}(h:SE a (x.app t)):SE (a.take x.n) x:=⟨rfl,fun j b=>by
 have b:j<x.n:=b;have hn:a.n=x.n+t.n:=h.1;have e:a.g j=if j<x.n then x.g j else t.g (j-x.n):=h.2 j (by omega)
 rw[Nd b]at e;exact e⟩
def SB {N:Nat}{l:Law}{w:Sl Qz}{K:AllS->Option Mi}{acc:Sl Qz}{next sh:Int}:∀(d i:Nat),((i+d:Nat):Int)<=next->K5 (Cw l w i) (IF N l w) K (acc,next,sh)=K5 (Cw l w (i+d)) (IF N l w) K (acc,next,sh)
 |0,i,_=>rfl
 |d+1,i,h=>by
  have ih:=SB (N:=N) (l:=l) (w:=w) (K:=K) (acc:=acc) (next:=next) (sh:=sh) d (i+1) (by omega);rw[show i+(d+1)=i+1+d by omega,<- ih];by_cases a:Mg l w i
  .rw[GV (by have:=a.1;omega) a];show IF N l w (K5 (Cw l w (i+1)) (IF N l w) K) (i:Int) (acc,next,sh)=_;unfold IF;rw[J8]
  rw[GW a]
def Af7 {N:Nat}(hN:3000<=N){l l' : Law}(hf:Ah4 l)(he:LE l l'){w w' : Sl Qz}(b:SE w w')(hn:w.n<=32)(hv:vW w):∀(m i:Nat) (x4 acc:Sl Qz) (sh next:Int),i<=w.n+1->w.n+1<=i+m ->
 (i<=w.n->SE acc (x4.app (w'.drop i))/\(x4.n:Int)=i+sh)->next<=i->x4.n<=7*i->vW acc -> -1000<=sh->sh<=1000 ->
 ∃L L',K5 (Cw l w i) (IF N l w) (fun _=>some []) (acc,next,sh)=some L/\vL L/\L.length<=m/\RL L L' /\ ∀M x2 x3,m<M->x2.n+m<=1000->x3.n+m<=1000->XG M (Ah7 N l' w') x2 x3 x4 i=some (HG x2 x3 L'):=by
 obtain⟨hl,_,_,hk,ho,hko,_,_⟩:=hf;have h6:=ho.1;obtain⟨hl',_,_,hk',ho',_,_,_⟩:=Rh he ⟨hl,‹_›, ‹_›,hk,ho,hko,‹_›, ‹_›⟩;have d:l'.If.n=l.If.n:=he.cond.1.symm;have hn':=b.1;have hw:okW w:=⟨by omega,fun j hj=>(hv j hj).ok⟩;have r : vW w':=b.v hv;have hw' : okW w':=⟨by omega,fun j hj=>(r j hj).ok⟩;have fin:∀(m i:Nat) (x4 acc:Sl Qz) (sh next:Int),w.n<i->∃L L',K5 (Cw l w i) (IF N l w) (fun _=>some []) (acc,next,sh)=some L/\vL L/\L.length<=m/\RL L L' /\ ∀M x2 x3,m<M->x2.n+m<=1000->x3.n+m<=1000->XG M (Ah7 N l' w') x2 x3 x4 i=some (HG x2 x3 L'):=by
  intro m i x4 acc sh next hi
  refine⟨[],[],by rw[HE (by omega)];rfl,Pr,by simp,trivial,fun M x2 x3 hM _ _=>?_⟩;obtain⟨M,rfl⟩:∃K,M=K+1:=⟨M-1,by omega⟩;rw[P6,Ah7,Nb,HG]
 intro m
 induction m with
 |zero=>exact fun i x4 acc sh next h1 t _ _ _ _ _ _=>fin 0 i x4 acc sh next (by omega)
 |succ m ih=>
  intro i x4 acc sh next hi hm hx hnx h7 f u x
  by_cases hle:i<=w.n
  case neg=>exact fin _ i x4 acc sh next (by omega)
  obtain⟨o,hnn⟩:=hx hle;have han:acc.n=x4.n+(w.n-i):=by rw[o.1];show x4.n+(w'.n-i)=_;omega
  obtain⟨b',e2,t⟩:=Nv hN hl' hk' hw' i (by omega);have t:=t.trans (Ga he b).symm;cases b'
  .have hno:¬Mg l w i:=fun h=>by have:=t.2 h;cases this
   rw[GW hno];by_cases y:i<w.n
   .obtain⟨L,L',g1,g2,g3,g5,g4⟩:=ih (i+1) (x4.push (w'.g i)) acc sh next (by omega) (by omega) (fun _=>⟨o.trans (Pu (by omega)),by show ((x4.n+1:Nat):Int)=_;omega⟩) (by omega) (by show x4.n+1<=_;omega) f u x
    refine⟨L,L',g1,g2,by omega,g5,fun M x2 x3 hM hx hy=>?_⟩;obtain⟨M,rfl⟩:∃K,M=K+1:=⟨M-1,by omega⟩;rw[P6,Ah7,d,J8,e2,Aq5,Nd nf,lt,J8,Nd ⟨by omega,by show (x4.n+1)*8<=_/\x4.n+1<=_;omega⟩,Iz,Aq6];exact g4 M x2 x3 (by omega) (by omega) (by omega)
   obtain⟨L,L',g1,g2,g3,g5,g4⟩:=ih (i+1) x4 acc sh next (by omega) (by omega) (fun h=>by omega) (by omega) (by omega) f u x
   refine⟨L,L',g1,g2,by omega,g5,fun M x2 x3 hM hx hy=>?_⟩;obtain⟨M,rfl⟩:∃K,M=K+1:=⟨M-1,by omega⟩;rw[P6,Ah7,d,J8,e2,Aq5,Nd nf,lt,Nb,Iz];exact g4 M x2 x3 (by omega) (by omega) (by omega)
  have z:=t.1 rfl;have a0:=z.1;rw[GV hle z];obtain⟨p1,_,p3,p4⟩:=EE (N:=N) (by omega) ho hv a0;obtain⟨_,p2,_,_⟩:=EE (N:=N) (l:=l') (i:=i) (by omega) ho' r (by omega);rw[<- Kk he b a0,d]at p2;generalize hY:Fd N l w i=Y at p1 p2 p3 p4;have c:SE (((acc.take x4.n).app Y).app (w.drop (i+l.If.n))) ((x4.app Y).app (w'.drop (i+l.If.n))):=((Yy o).app (SE.refl _)).app (b.drop _);have q:vW (((acc.take x4.n).app Y).app (w.drop (i+l.If.n))):=Zt (Zt (Af6 f (by omega)) p4) (Af5 hv _);generalize hZ:(((acc.take x4.n).app Y).app (w.drop (i+l.If.n)))=Z at c q;have hZn:Z.n=x4.n+Y.n+(w.n-(i+l.If.n)):=by rw[<- hZ]
  obtain⟨L,L',g1,g2,g3,g5,g4⟩:=ih (if l.If.n=0 then i+1 else i+l.If.n) (if l.If.n=0/\i<w.n then (x4.app Y).push (w'.g i)else x4.app Y) Z (sh+l.Out.n-l.If.n) (if l.If.n=0 then i+1 else i+l.If.n:Nat)
   (by split<;>omega) (by split<;>omega)
   (fun h=>by
    by_cases a:l.If.n=0
    .rw[Nd a]at h;rw[Nd a,Nd ⟨a,by omega⟩];rw[a]at c;exact⟨c.trans (Pu (by omega)),by show ((x4.n+Y.n+1:Nat):Int)=_;omega⟩
    rw[Nf a,Na];exact⟨c,by show ((x4.n+Y.n:Nat):Int)=_;omega⟩)
   (by omega)
   (by
    by_cases a:l.If.n=0
    .rw[Nd a];split
     .show x4.n+Y.n+1<=_;omega
     show x4.n+Y.n<=_;omega
    rw[Nf a,Na];show x4.n+Y.n<=_;omega)
   q (by omega) (by omega)
  refine⟨((i:Int),Z)::L,((i:Int),(x4.app Y).app (w'.drop (i+l.If.n)))::L', ?_,Ri q g2,by simp;omega,⟨rfl,c,g5⟩,fun M x2 x3 hM hx hy=>?_⟩
  .show IF N l w (K5 (Cw l w (i+1)) (IF N l w) fun _=>some []) (i:Int) (acc,next,sh)=_;unfold IF;have es:wrap .i64 ((i:Int)+sh)=((x4.n:Nat):Int):=by rw[E8 (by omega) (by omega),hnn]
   simp only[es];rw[BQ (by omega),Nb,J4];simp only[Aq6];rw[p1,Aq5,J4,Wn (by omega) (by show x4.n<=_;omega) (by omega) (by show w.n-(i+l.If.n)<=_;omega),Aq5,hZ];have en:wrap .i64 ((i:Int)+(if (l.If.n:Int)<1 then 1 else (l.If.n:Int)))=((if l.If.n=0 then i+1 else i+l.If.n:Nat):Int):=by
    by_cases a:l.If.n=0
    .rw[J4,Nd a,E8 (by omega) (by omega)];omega
    rw[Na,Nf a,E8 (by omega) (by omega)];omega
   have eh:wrap .i64 ((wrap .i64 (sh+(l.Out.n:Int)))-(l.If.n:Int))=sh+l.Out.n-l.If.n:=by rw[E8 (n:=sh+(l.Out.n:Int)) (by omega) (by omega),E8 (by omega) (by omega)]
   rw[en,eh];have sk:=SB (N:=N) (l:=l) (w:=w) (K:=fun _=>some []) (acc:=Z) (next:=((if l.If.n=0 then i+1 else i+l.If.n:Nat):Int)) (sh:=sh+l.Out.n-l.If.n) (if l.If.n=0 then 0 else l.If.n-1) (i+1) (by split<;>omega);rw[show i+1+(if l.If.n=0 then 0 else l.If.n-1)=(if l.If.n=0 then i+1 else i+l.If.n) by split<;>omega]at sk;show P7 _ (K5 (Cw l w (i+1)) (IF N l w) (fun _=>some []) (Z,_,_))=_;rw[sk,g1];rfl
  obtain⟨M,rfl⟩:∃K,M=K+1:=⟨M-1,by omega⟩;have hdn:((x4.app Y).app (w'.drop (i+l.If.n))).n=x4.n+Y.n+(w'.n-(i+l.If.n)):=rfl;rw[P6,Ah7,d,J8,e2,Aq5,Nc,BQ (by omega),J4];simp only[Aq6];rw[p2,Aq5,J4,Nd (by show (x2.n+1)*8<=_/\x2.n+1<=_;omega)];rw[Nd ⟨⟨by show (0+(x4.n+Y.n))*8<=_/\0+(x4.n+Y.n)<=_;omega,by omega⟩,by simp only[AA0];omega⟩,HG];by_cases a1:32<((x4.app Y).app (w'.drop (i+l.If.n))).n
  .rw[Nd (by simp only[Nj,AA0];omega),Nd a1]
  rw[Nf (by simp only[Nj,AA0];omega),Nf a1,Ah5 (s:=Qx) rfl,Nd (by show (x3.n+1)*24<=_/\x3.n+1<=_;omega)];have g4:=g4 M (x2.push (i:Int)) (x3.push ((x4.app Y).app (w'.drop (i+l.If.n)))) (by omega) (by show x2.n+1+m<=_;omega) (by show x3.n+1+m<=_;omega);by_cases a:l.If.n=0
  .rw[Nd (by simp[a])];rw[Nd a]at g4;by_cases y:i<w.n
   .rw[Nd ⟨a,y⟩]at g4;rw[Nd (by simp only[Nj];omega),Nd ⟨by omega,by show (x4.n+Y.n+1)*8<=_/\x4.n+Y.n+1<=_;omega⟩,Iz,show w'.g (i+l.If.n)=w'.g i by rw[a];rfl,show i+l.If.n+1=i+1 by omega];exact g4
   rw[Na]at g4;rw[Nf (by simp only[Nj];omega),Iz,show i+l.If.n+1=i+1 by omega];exact g4
  rw[Nf (by simp[a])];rw[Nf a,Na]at g4;exact g4
def trS (r r' : Yw):Prop:=r.1=r'.1/\r.2.1.n=r'.2.1.n/\(∀i,i<r.2.1.n->SE (r.2.1.g i) (r'.2.1.g i))/\r.2.2=r'.2.2
def Zu:∀(L L' : Mi) (x:Sl Int) (y y' : Sl (Sl Qz)),RL L L' -> y.n=y'.n->(∀i,i<y.n->SE (y.g i) (y'.g i))->trS (HG x y L) (HG x y' L')
 |[],[],x,y,y',_,h1,h2=>⟨rfl,h1,h2,rfl⟩
 |(p,v)::L,(q,u)::M,x,y,y',⟨h3,h4,h5⟩,h1,h2=>by
  subst h3;unfold HG;rw[<- h4.1];split
  .exact⟨rfl,rfl,fun i a=>Ng a (Az2 i),rfl⟩
  refine Zu L M _ _ _ h5 (by show y.n+1=y'.n+1;omega) fun i a=>?_;have a:i<y.n+1:=a;show SE (if i<y.n then y.g i else v) (if i<y'.n then y'.g i else u);rw[<- h1];split
  .exact h2 i (by assumption)
  exact h4
 |[],_::_,_,_,_,h,_,_=>h.elim
 |_::_,[],_,_,_,h,_,_=>h.elim
def Ws:∀(L:Mi) (x:Sl Int) (y:Sl (Sl Qz)),vL L->(∀i,i<y.n->wOk (y.g i))->(HG x y L).2.2=11 \/ ((HG x y L).2.2=0/\(HG x y L).2.1.n<=y.n+L.length/\∀i,i<(HG x y L).2.1.n->wOk ((HG x y L).2.1.g i))
 |[],x,y,_,h=>.inr ⟨rfl,Aq9 _,h⟩
 |(p,v)::L,x,y,hv,h=>by
  unfold HG;split
  .exact .inl rfl
  have:=Ws L (x.push p) (y.push v) (fun z b=>hv z (At1 _ b)) fun i d=>by
   show wOk (if i<y.n then y.g i else v);split
   .exact h i (by assumption)
   exact⟨by omega,hv (p,v) (by simp)⟩
  rcases this with h|⟨h1,a,c⟩
  .exact .inl h
  refine .inr ⟨h1,?_,c⟩;have a:_<=y.n+1+L.length:=a;simp only[As6];omega
def Pv:∀(L:Mi) (x:Sl Int) (y:Sl (Sl Qz)),x.n+L.length<=100000->y.n+L.length<=100000 ->
 K5 L (fun (a:Sl Int×Sl (Sl Qz)->Option Yw) (x1:Int×(Sl Qz)) (z1:(Sl Int)×(Sl (Sl Qz)))=>
  if (decide (32<(x1.2.n:Int))) then
   some (Qv,Qy,11)
  else
   if ((z1.1.n+(Sl.of [x1.1]:Sl Int).n)*8<=140737488355328/\z1.1.n+(Sl.of [x1.1]:Sl Int).n<=140737488355328)then
    if ((z1.2.n+(Sl.of [x1.2]:Sl (Sl Qz)).n)*24<=140737488355328/\z1.2.n+(Sl.of [x1.2]:Sl (Sl Qz)).n<=140737488355328)then
     a (z1.1.push x1.1,z1.2.push x1.2)
    else none
   else none
  ) (fun (z1:(Sl Int)×(Sl (Sl Qz)))=>
   some (z1.1,z1.2,0)
  ) (x,y)=some (HG x y L)
 |[],x,y,_,_=>rfl
 |(p,v)::L,x,y,hx,hy=>by
  simp only[As6]at hx hy;have ih:=Pv L (x.push p) (y.push v) (by show x.n+1+_<=_;omega) (by show y.n+1+_<=_;omega);rw[K5,HG];by_cases h:32<v.n
  .rw[J8,Nd h]
  rw[Nb,Nf h,Nd (by show (x.n+1)*8<=_/\x.n+1<=_;omega),Nd (by show (y.n+1)*24<=_/\y.n+1<=_;omega)];exact ih
def trE (N:Nat)(l:Law)(w:Sl Qz)(r:Yw):Prop:=(r.2.2=17/\¬chkAll N l) \/ (chkAll N l/\Sx w r.2.2/\r.2.2≠0) \/ (chkAll N l/\wOk w/\(r.2.2=11 \/ (r.2.2=0/\r.2.1.n<=1000/\∀i,i<r.2.1.n->wOk (r.2.1.g i))))
def Wt (e:Int):trS (Qv,Qy,e) (Qv,Qy,e):=⟨rfl,rfl,fun i a=>Ng a (Az2 i),rfl⟩
def Zv {w w' : Sl Qz}(h:SE w w'){e:Int}(hw:Sx w e):Sx w' e:=by
 rcases hw with⟨h1,a⟩ | ⟨h1,⟨i,b,a⟩,c⟩ | ⟨h1,a⟩
 .exact .inl ⟨by rw[<- h.1];exact h1,a⟩
 .exact .inr (.inl ⟨by rw[<- h.1];exact h1,⟨i,by rw[<- h.1];exact b,by rw[<- h.2 i b];exact a⟩,c⟩)
 exact .inr (.inr ⟨h.wOk h1,a⟩)
def Ao5 {w w' : Sl Qz}(h:SE w w')(hw:∀i,i<w.n->okS (w.g i)):∀i,i<w'.n->okS (w'.g i):=fun i a=>by rw[<- h.2 i (by rw[h.1];exact a)];exact hw i (by rw[h.1];exact a)
def Wu {N:Nat}(u:3000000<=N){l l' : Law}(hl:Ki l)(hle:LE l l'){w w' : Sl Qz}(a:SE w w')(hw:∀i,i<w.n->okS (w.g i)) :∃r r',BM N l w=some r/\FU N l' w' = some r' /\ trS r r' /\ trE N l w r:=by
 obtain⟨e,e1,_,v⟩:=GX u hl;obtain⟨e0,_,e2,q⟩:=GX u (IP hle hl);obtain rfl:=Pp (Af4 hle v) q;unfold BM FU Dx JV;rw[e1,e2,Aq5,Aq5];rcases v with⟨rfl,hc⟩ | ⟨rfl,hc⟩
 case inr=>rw[Nd (by decide),Nd (by decide)];exact⟨_,_,rfl,rfl,Wt 17,.inl ⟨rfl,hc⟩⟩
 rw[Nf (by decide),Nf (by decide)];obtain⟨e',e3,c⟩:=Pm (N:=N) (by omega) hw;obtain⟨e'',e4,j⟩:=CT (N:=N) (by omega) (Ao5 a hw);obtain rfl:=GU (Zv a c) j;rw[e3,e4];simp only[Aq5];by_cases d:e' = 0
 case neg=>rw[Nd (by simpa using d),Nd (by simpa using d)];exact⟨_,_,rfl,rfl,Wt e', .inr (.inl ⟨hc,c,d⟩)⟩
 rw[Nf (by simp[d]),Nf (by simp[d])];have b:wOk w:=(O0 c).1 d;have o:=hc.f hl;obtain⟨s,_,_,hk,ho,y,z,a0⟩:=id o;have hn:=b.1;have t:=a.1;have key:∃L L',AB N w l (l.If.n:Int) (l.Out.n:Int)=some L/\vL L/\L.length<=100/\RL L L' /\
  (if (l'.Mode==1) then (JW N l' w').bind fun y2=>some (y2.1,y2.2.1,y2.2.2)
   else if (l'.Mode==2) then (FT N l' w').bind fun y3=>some (y3.1,y3.2.1,y3.2.2)
   else (EU N l' w').bind fun y4=>some (y4.1,y4.2.1,y4.2.2))=some (HG Qv Qy L'):=by
  unfold AB;rw[hle.mode];by_cases c1:l.Mode=1
  .rw[Nd (show (l.Mode==1)=true by simp[c1]),Nd (show (l.Mode==1)=true by simp[c1])];obtain⟨L,L',g1,g2,g3,g5,g4⟩:=Af7 (N:=N) (by omega) o hle a hn b.2 (w.n+1) 0 Qw w 0 0 (by omega) (by omega) (fun _=>⟨by rw[Ah5 rfl];exact⟨a.1,fun i m=>by rw[a.2 i m];show _=w'.g (0+i);rw[At5]⟩,rfl⟩) (by omega) (by show 0<=_;omega) b.2 (by omega) (by omega);have hh:=Sz (N:=N) (by omega) s hk (w:=w) (vOk b) 0 (by omega);refine⟨L,L', ?_,g2,by omega,g5,?_⟩
   .show ((S5 N l w ((0:Nat):Int)).bind fun L1=>K5 L1 (IF N l w) (fun _=>some []) (w,0,0))=_;rw[hh,Aq5];exact g1
   have:JW N l' w' = some _:=g4 N Qv Qy (by omega) (by show 0+_<=_;omega) (by show 0+_<=_;omega)
   rw[this];rfl
  rw[Nf (show ¬(l.Mode==1)=true by simp[c1]),Nf (show ¬(l.Mode==1)=true by simp[c1])];by_cases c2:l.Mode=2
  .rw[Nd (show (l.Mode==2)=true by simp[c2]),Nd (show (l.Mode==2)=true by simp[c2])];obtain⟨L,L',g1,g2,g3,g5,g4⟩:=Wp (N:=N) (by omega) o hle (w.n+1) w w' 0 a (by omega) b.2 (by omega) (by omega);refine⟨L,L',g1 N (by omega),g2,by omega,g5,?_⟩
   have:FT N l' w' = some _:=g4 N Qv Qy (by omega) (by show 0+_<=_;omega) (by show 0+_<=_;omega)
   rw[this];rfl
  have c3:l.Mode=3:=by omega
  rw[Nf (show ¬(l.Mode==2)=true by simp[c2]),Nf (show ¬(l.Mode==2)=true by simp[c2]),Nd (show (l.Mode==3)=true by simp[c3])];obtain⟨L,L',g1,g2,g3,g5,g4⟩:=Yx (N:=N) (by omega) o hle (w.n+1) w w' ((w.n:Int)-(l.If.n:Int)) a (by omega) b.2 (by omega) (by omega) (by omega);refine⟨L,L', ?_,g2,by omega,g5,?_⟩
  .rw[E8 (by omega) (by omega)];exact g1 N (by omega)
  have g4:=g4 N Qv Qy (by omega) (by show 0+_<=_;omega) (by show 0+_<=_;omega)
  have:EU N l' w' = some (HG Qv Qy L'):=by unfold EU;rw[show wrap .i64 ((w'.n:Int)-(l'.If.n:Int))=(w.n:Int)-(l.If.n:Int) by rw[<- t, <- hle.cond.1,E8 (by omega) (by omega)]];exact g4
  rw[this];rfl
 obtain⟨L,L',g1,g2,g3,g5,g4⟩:=key;refine⟨HG Qv Qy L,_,?_,g4,Zu L L' _ _ _ g5 rfl fun i m=>Ng m (Az2 i),.inr (.inr ⟨hc,b,?_⟩)⟩
 .rw[GQ,Aq5];show ((AB N w l (l.If.n:Int) (l.Out.n:Int)).bind _)=_;rw[g1,Aq5];exact Pv L _ _ (by show 0+_<=_;omega) (by show 0+_<=_;omega)
 rcases Ws L Qv Qy g2 fun i m=>Ng m (Az2 i)with h|⟨h1,x,h3⟩
 .exact .inl h
 exact .inr ⟨h1,by have x:_<=0+L.length:=x;omega,h3⟩
end Go.AM
namespace Go.AM
variable {N:Nat}
open IntKind (wrap)
open Go.Proofs
def apE (N:Nat)(l:Law)(w:Sl Qz)(r:Sl Qz×Int):Prop:=(r.2=17/\¬chkAll N l) \/ (chkAll N l/\Sx w r.2/\r.2≠0) \/ (chkAll N l/\wOk w/\(r.2=11 \/ (r.2=0/\wOk r.1)))
def GY (o:3000000<=N){l l' : Law}(hl:Ki l)(hle:LE l l'){w w' : Sl Qz}(b:SE w w')(hw:∀i,i<w.n->okS (w.g i)) :∃r r',O1 N l w=some r/\Dw N l' w' = some r' /\ SE r.1 r'.1/\r.2=r'.2/\apE N l w r:=by
 obtain⟨⟨x,y,e⟩,⟨x',y',e'⟩,h1,q,⟨_,hn,hs,m⟩,ht⟩:=Wu o hl hle b hw;dsimp only at hn hs m;subst m;have t:=b.1;unfold trE at ht;dsimp only at ht;unfold O1 Dw;rw[h1,q,Aq5,Aq5];dsimp only;by_cases a:e=0
 case neg=>
  rw[Nd (show (e != 0)=true by simpa using a),Nd (show (e != 0)=true by simpa using a)];refine⟨_,_,rfl,rfl,SE.refl _,rfl,?_⟩;rcases ht with h|h|⟨j,c,d⟩
  .exact .inl h
  .exact .inr (.inl h)
  exact .inr (.inr ⟨j,c,.inl (d.resolve_right fun h=>a h.1)⟩)
 rw[Nf (show ¬(e != 0)=true by simp[a]),Nf (show ¬(e != 0)=true by simp[a])];rcases ht with h|h|⟨j,c,d⟩
 .exact Ng (h.1.symm.trans a) (by decide)
 .exact Ng a h.2.2
 rcases d with d|⟨_,h6,u⟩
 .exact Ng (d.symm.trans a) (by decide)
 have v:=c.1;by_cases hy:y.n=0
 .rw[Nf (show ¬decide ((0:Int)<(y.n:Int))=true by simp[hy]),Nd (show ((y'.n:Int)==0)=true by simp[<- hn,hy]),Nd (by show (0+w'.n)*8<=_/\0+w'.n<=_;omega),Ah5 (s:=Qx) rfl];unfold A2;rw[J4];exact⟨_,_,rfl,rfl,b,rfl,.inr (.inr ⟨j,c,.inr ⟨rfl,c⟩⟩)⟩
 have hk:=u (y.n-1) (by omega);have f:=hs (y.n-1) (by omega);have hb:=hk.1;have z:=f.1;have e1:wrap .i64 ((y.n:Int)-1)=((y.n-1:Nat):Int):=wrapP (by omega) (by omega);have e2:wrap .i64 ((y'.n:Int)-1)=((y.n-1:Nat):Int):=by rw[<- hn];exact e1
 rw[e1,e2,Aq6,Nd (show decide ((0:Int)<(y.n:Int))=true by simp;omega),J4,Nf (show ¬((y'.n:Int)==0)=true by simp;omega),Nd ⟨by omega,by show (0+(y'.g (y.n-1)).n)*8<=_/\0+(y'.g (y.n-1)).n<=_;omega⟩,Ah5 (s:=Qx) rfl];exact⟨_,_,rfl,rfl,f,rfl,.inr (.inr ⟨j,c,.inr ⟨rfl,hk⟩⟩)⟩
def Pw {s:Sl Law}(m:s.n<N)(hs:s.n<1000000){f:Law->Option Bool}{b:Nat->Bool}(o:∀i,i<s.n->f (s.g i)=some (b i)) :∃r,B4 N s f=some r/\(r=true ↔ ∃i,i<s.n/\b i=true):=by
 unfold B4 D5
 have:∃y,Ao N (fun (a:Int->Option Int) (x1:Int)=>
  if (decide (x1<(s.n:Int))) then
   if ((0:Int)<=x1/\x1<(s.n:Int))then
    (f (s.g x1.toNat)).bind fun y3=>
    if y3 then
     some x1
    else
     a (wrap .i64 (x1+1))
   else none
  else
   some (-1)) 0=some y/\(0<=y ↔ ∃i,i<s.n/\b i=true):=by
  refine Fb (fun i x1=>x1=(i:Int)/\∀j,j<i->b j=false) s.n _ m ⟨rfl,fun j c=>Ng c (by omega)⟩ ?_;rintro l i x1 q ⟨rfl,h⟩ d;by_cases hl:i<s.n
  .refine Ba (Al (B0 (by rw[Aq6];exact o i hl) ?_));cases hb:b i
   .refine Hs (d hl _ ⟨Iz,fun j c=>?_⟩);by_cases e:j=i
    .subst e;exact hb
    exact h j (by omega)
   exact ifT rfl ⟨i,rfl,fun _=>⟨i,hl,hb⟩,fun _=>by omega⟩
  refine Ft ⟨-1,rfl,fun h=>Ng h (by decide),?_⟩;rintro⟨j,c,hb⟩;rw[h j (by omega)]at hb;cases hb
 obtain⟨y,e,hy⟩:=this;exact B0 e ⟨_,rfl,by rw[Nj];exact hy⟩
def IG (N:Nat)(laws:Sl Law)(e:Int):Prop:=(64<laws.n/\e=12) \/ (laws.n<=64/\(∃i,i<laws.n/\¬chkAll N (laws.g i))/\e=17) \/ ((laws.n<=64/\∀i,i<laws.n->chkAll N (laws.g i))/\e=0)
def Br {laws:Sl Law}{e e' : Int}(h:IG N laws e)(h' : IG N laws e'):e=e':=by rcases h with⟨h,rfl⟩ | ⟨h,⟨i,b,a⟩,rfl⟩ | ⟨⟨h,a⟩,rfl⟩<;>rcases h' with⟨g,rfl⟩ | ⟨g,⟨j,c,g2⟩,rfl⟩ | ⟨⟨g,g2⟩,rfl⟩<;>first|rfl|(exfalso;omega)|exact Ng (g2 i b) a|exact Ng (a j c) g2
def LS (s t:Sl Law):Prop:=s.n=t.n/\∀i,i<s.n->LE (s.g i) (t.g i)
def LS.refl (s:Sl Law):LS s s:=⟨rfl,fun _ _=>LE.refl _⟩
def Wv {laws laws' : Sl Law}(h:LS laws laws'){e:Int}(hw:IG N laws e):IG N laws' e:=by
 have hn:=h.1;rcases hw with⟨h1,a⟩ | ⟨h1,⟨i,c,a⟩,b⟩ | ⟨⟨h1,a⟩,b⟩
 .exact .inl ⟨by omega,a⟩
 .exact .inr (.inl ⟨by omega,⟨i,by omega,fun g=>a ((EF (h.2 i c)).2 g)⟩,b⟩)
 exact .inr (.inr ⟨⟨by omega,fun i c=>(EF (h.2 i (by omega))).1 (a i (by omega))⟩,b⟩)
def S9 (laws:Sl Law):Prop:=∀i,i<laws.n->Ki (laws.g i)
def Yz {laws laws' : Sl Law}(h:LS laws laws')(hl:S9 laws):S9 laws':=fun i a=>by exact IP (h.2 i (by rw[h.1];exact a)) (hl i (by rw[h.1];exact a))
def HH (o:3000000<=N){laws:Sl Law}(hl:S9 laws):∃e,M0 N laws=some e/\BI N laws=some e/\IG N laws e:=by
 have h1:∃e,M0 N laws=some e/\IG N laws e:=by
  unfold M0;by_cases hn:64<laws.n
  .exact Ba ⟨12,rfl,.inl ⟨hn,rfl⟩⟩
  refine Ft ?_;have u:∀i,∃b,i<laws.n->N5 N (laws.g i)=some b/\(b=true ↔ ¬chkAll N (laws.g i)):=by
   intro i;by_cases a:i<laws.n
   .obtain⟨e,e1,_,d⟩:=GX o (hl i a);refine⟨e != 0,fun _=>⟨by unfold N5;rw[e1];rfl,?_⟩⟩;rcases d with⟨rfl,h⟩ | ⟨rfl,h⟩
    .exact⟨fun h=>Ng h (by decide),fun g=>Ng h g⟩
    exact⟨fun _=>h,fun _=>by decide⟩
   exact⟨false,fun h=>Ng h a⟩
  obtain⟨f,l⟩:=Ay8 u;obtain⟨r,e1,h1⟩:=Pw (N:=N) (s:=laws) (by omega) (by omega) (f:=fun u1=>N5 N u1) (fun i a=>(l i a).1);refine B0 e1 ?_;cases q:r
  .refine Hs ⟨0,rfl,.inr (.inr ⟨⟨by omega,fun i a=>Av3 fun hn=>?_⟩,rfl⟩)⟩
   have:=h1.2 ⟨i,a,(l i a).2.2 hn⟩
   rw[q]at this;cases this
  obtain⟨i,a,hb⟩:=h1.1 q;exact ifT rfl ⟨17,rfl,.inr (.inl ⟨by omega,⟨i,a,(l i a).2.1 hb⟩,rfl⟩)⟩
 have v:∃e,BI N laws=some e/\IG N laws e:=by
  unfold BI;by_cases hn:64<laws.n
  .exact Ba ⟨12,rfl,.inl ⟨hn,rfl⟩⟩
  refine Ft ?_;refine Fb (fun i x1=>x1=(i:Int)/\∀j,j<i->chkAll N (laws.g j)) laws.n _ (by omega) ⟨rfl,fun j m=>Ng m (by omega)⟩ ?_;rintro t i x1 a ⟨rfl,h⟩ hs;by_cases c:i<laws.n
  .obtain⟨e,_,e1,d⟩:=GX o (hl i c);refine Ba (Al (B0 (by rw[Aq6];exact e1) ?_));rcases d with⟨rfl,hc⟩ | ⟨rfl,hc⟩
   .refine Iy (hs c _ ⟨Iz,fun j m=>?_⟩);by_cases e:j=i
    .subst e;exact hc
    exact h j (by omega)
   exact Ej ⟨17,rfl,.inr (.inl ⟨by omega,⟨i,c,hc⟩,rfl⟩)⟩
  exact Ft ⟨0,rfl,.inr (.inr ⟨⟨by omega,fun j m=>h j (by omega)⟩,rfl⟩)⟩
 obtain⟨e,e1,g1⟩:=h1;obtain⟨e',e2,g2⟩:=v;obtain rfl:=Br g1 g2;exact⟨_,e1,e2,g1⟩
def Zw (l:Sl (Sl Qz))(e:Int):Prop:=(e=0/\∀i,i<l.n->wOk (l.g i)) \/ (∃i,i<l.n/\(∀j,j<i->wOk (l.g j))/\Sx (l.g i) e/\e≠0)
def Mj (o:3000000<=N){l:Sl (Sl Qz)}(hn:l.n<2000000)(hw:∀i,i<l.n->∀j,j<(l.g i).n->okS ((l.g i).g j)) :∃e,Ao N (fun (a:Int->Option Int) (x1:Int)=>
  if (decide (x1<(l.n:Int))) then
   if ((0:Int)<=x1/\x1<(l.n:Int))then
    (S0 N (l.g x1.toNat)).bind fun y4=>
    if (y4 != 0) then
     some y4
    else
     a (wrap .i64 (x1+1))
   else none
  else
   some 0
  ) 0=some e/\Zw l e:=by
 refine Fb (fun i x1=>x1=(i:Int)/\∀j,j<i->wOk (l.g j)) l.n _ (by omega) ⟨rfl,fun j d=>Ng d (by omega)⟩ ?_;rintro f i x1 q ⟨rfl,h⟩ hs;by_cases b:i<l.n
 .obtain⟨e,e1,m⟩:=Pm (N:=N) (by omega) (hw i b);refine Ba (Al (B0 (by rw[Aq6];exact e1) ?_));by_cases c:e=0
  .refine ifF (by simp[c]) (hs b _ ⟨Iz,fun j d=>?_⟩);by_cases e:j=i
   .subst e;exact (O0 m).1 c
   exact h j (by omega)
  exact ifT (by simpa using c) ⟨e,rfl,.inr ⟨i,b,h,m,c⟩⟩
 exact Ft ⟨0,rfl,.inl ⟨rfl,fun j d=>h j (by omega)⟩⟩
def Af8 {w:Sl Qz}{e:Int}(h:Zw (Sl.of [w]:Sl (Sl Qz)) e):Sx w e:=by
 rcases h with⟨rfl,h⟩ | ⟨i,a,_,h,_⟩
 .exact .inr (.inr ⟨h 0 (by show 0<1;omega),rfl⟩)
 match i,a with
 |0,_=>exact h
def DC (b:3000000<=N){laws:Sl Law}(hl:S9 laws){w:Sl Qz}(hw:∀i,i<w.n->okS (w.g i)) :∃e,O2 N laws (Sl.of [w]:Sl (Sl Qz))=some e/\((IG N laws e/\e≠0) \/ (IG N laws 0/\Sx w e)):=by
 unfold O2;obtain⟨e,e1,_,h1⟩:=HH b hl;refine B0 e1 ?_;by_cases a:e=0
 case neg=>exact ifT (by simpa using a) ⟨e,rfl,.inl ⟨h1,a⟩⟩
 refine ifF (by simp[a]) (ifF (by show ¬decide ((256:Int)<((1:Nat):Int))=true;decide) ?_);obtain⟨e2,e3,c⟩:=Mj (N:=N) b (l:=(Sl.of [w]:Sl (Sl Qz))) (by show 1<_;omega) fun i d=>by
  match i,d with
  |0,_=>exact hw
 exact⟨e2,e3,.inr ⟨a ▸ h1,Af8 c⟩⟩
def F8 (N:Nat)(c:Int)(q1:Sl Law)(a:Sl Qz->Int->Option Mi)(x1:Sl Qz)(x2:Int):Option Mi:= if (decide (x2<(q1.n:Int))) then if ((0:Int)<=x2/\x2<(q1.n:Int))then (O1 N (q1.g x2.toNat) x1).bind fun y4=>if (y4.2 != 0) then if y4.2=c then some []else none else P7 (wrap .i64 (x2+1),y4.1) (a y4.1 (wrap .i64 (x2+1))) else none else if c=0 then some []else none
def G8 {c:Int}{laws:Sl Law}{a:Sl Qz->Int->Option Mi}{w:Sl Qz}{i:Nat}(d:i<laws.n)(b:laws.n<=64){y:Sl Qz×Int}(h:O1 N (laws.g i) w=some y) :F8 N c laws a w (i:Int)=if (y.2 != 0) then (if y.2=c then some []else none)else P7 (((i+1:Nat):Int),y.1) (a y.1 ((i+1:Nat):Int)):=by unfold F8;rw[Nd (show decide ((i:Int)<(laws.n:Int))=true by simp;omega),J4,Aq6,h,Aq5,Iz]
abbrev Ao6:=(Sl (Sl Qz))×Int
def EG (N:Nat)(p_laws:Sl Law)(a:Sl (Sl Qz)->Int->Option Ao6)(x2:Sl (Sl Qz))(x3:Int):Option Ao6:= if (decide (x3<(p_laws.n:Int))) then if ((((0:Int)<=x3/\x3<(p_laws.n:Int))/\((0:Int)<=x3/\x3<(x2.n:Int)))/\x3.toNat<x2.n)then (Dw N (p_laws.g x3.toNat) (x2.g x3.toNat)).bind fun y7=>if (y7.2 != 0) then some (Qy,y7.2) else if ((x2.n+(Sl.of [y7.1]:Sl (Sl Qz)).n)*24<=140737488355328/\x2.n+(Sl.of [y7.1]:Sl (Sl Qz)).n<=140737488355328)then a (x2.push y7.1) (wrap .i64 (x3+1)) else none else none else some (x2,0)
def GZ:Sl Qz->Mi->Sl Qz
 |w,[]=>w
 |_,(_,v)::L=>GZ v L
def Ha:∀(L:Mi) (w:Sl Qz),K5 L (fun (a:Sl Qz->Option (Sl Qz)) (x1:Int×(Sl Qz)) (z1:Sl Qz)=>a x1.2) (fun (z1:Sl Qz)=>some z1) w=some (GZ w L)
 |[],w=>rfl
 |(p,v)::L,w=>Ha L v
def CU (N:Nat)(laws:Sl Law):Prop:=laws.n<=64/\∀i,i<laws.n->chkAll N (laws.g i)
def Ww (x:3000000<=N){laws laws' : Sl Law}(hl:S9 laws)(o:LS laws laws')(q:CU N laws):∀(m i:Nat) (w w' : Sl Qz),SE w w' -> wOk w->i<=laws.n->laws.n<=i+m ->
 (∃L v',SE (GZ w L) v' /\ wOk (GZ w L)/\(∀M,m<M->N6 M (F8 N 0 laws) w i=some L)/\∀M x2,m<M->x2.n=i+1->x2.g i=w' -> ∃y,N6 M (EG N laws') x2 i=some (y,0)/\y.n=laws.n+1/\y.g laws.n=v') \/
 ((∃L,∀M,m<M->N6 M (F8 N 0 laws) w i=none/\N6 M (F8 N 11 laws) w i=some L)/\∀M x2,m<M->x2.n=i+1->x2.g i=w' -> N6 M (EG N laws') x2 i=some (Qy,11)):=by
 have z:=o.1;have b:=q.1;intro m
 induction m with
 |zero=>
  intro i w w' c hw hi hm;refine .inl ⟨[],w',c,hw,fun M d=>?_,fun M x2 d hx f=>⟨x2,?_,by omega,by rw[<- f];congr 1;omega⟩⟩
  .obtain⟨M,rfl⟩:∃K,M=K+1:=⟨M-1,by omega⟩;rw[B6,F8,Nb,Nd rfl]
  obtain⟨M,rfl⟩:∃K,M=K+1:=⟨M-1,by omega⟩;rw[B6,EG,Nb]
 |succ m ih=>
  intro i w w' c hw hi hm;by_cases a:i<laws.n
  case neg=>
   refine .inl ⟨[],w',c,hw,fun M d=>?_,fun M x2 d hx f=>⟨x2,?_,by omega,by rw[<- f];congr 1;omega⟩⟩
   .obtain⟨M,rfl⟩:∃K,M=K+1:=⟨M-1,by omega⟩;rw[B6,F8,Nb,Nd rfl]
   obtain⟨M,rfl⟩:∃K,M=K+1:=⟨M-1,by omega⟩;rw[B6,EG,Nb]
  obtain⟨⟨v,e⟩,⟨v',e'⟩,h1,r,s,t,l⟩:=GY x (hl i a) (o.2 i a) c fun j hj=>(hw.2 j hj).ok;simp only at s t;subst t;rcases l with⟨_,l⟩ | ⟨_,l,h6⟩ | ⟨_,_,l⟩
  .exact Ng (q.2 i a) l
  .exact Ng ((O0 l).2 hw) h6
  rcases l with rfl|⟨rfl,hv⟩
  .refine .inr ⟨⟨[],fun M d=>?_⟩,fun M x2 d hx f=>?_⟩
   .obtain⟨M,rfl⟩:∃K,M=K+1:=⟨M-1,by omega⟩;rw[B6,B6,G8 a b h1,G8 a b h1];exact⟨rfl,rfl⟩
   obtain⟨M,rfl⟩:∃K,M=K+1:=⟨M-1,by omega⟩;rw[B6,EG,J8,J4,Aq6,f,r,Aq5,Nd (by simp)]
  rcases ih (i+1) v v' s hv (by omega) (by omega)with⟨L,u,g1,g2,g3,g4⟩ | ⟨⟨L,g1⟩,g2⟩
  .refine .inl ⟨((i+1:Nat),v)::L,u,g1,g2,fun M d=>?_,fun M x2 d hx f=>?_⟩
   .obtain⟨M,rfl⟩:∃K,M=K+1:=⟨M-1,by omega⟩;rw[B6,G8 a b h1,Nc];show P7 _ (N6 M (F8 N 0 laws) v _)=_;rw[g3 M (by omega)];rfl
   obtain⟨M,rfl⟩:∃K,M=K+1:=⟨M-1,by omega⟩;rw[B6,EG,J8,J4,Aq6,f,r,Aq5,Nc,Nd (by show (x2.n+1)*24<=_/\x2.n+1<=_;omega),Iz];exact g4 M (x2.push v') (by omega) (by show x2.n+1=_;omega) (by show (if i+1<x2.n then x2.g (i+1)else v')=v';rw[Na])
  refine .inr ⟨⟨((i+1:Nat),v)::L,fun M d=>?_⟩,fun M x2 d hx f=>?_⟩
  .obtain⟨M,rfl⟩:∃K,M=K+1:=⟨M-1,by omega⟩;obtain⟨a1,a2⟩:=g1 M (by omega);rw[B6,B6,G8 a b h1,G8 a b h1,Nc,Nc];refine⟨?_,?_⟩
   .show P7 _ (N6 M (F8 N 0 laws) v _)=_;rw[a1];rfl
   show P7 _ (N6 M (F8 N 11 laws) v _)=_;rw[a2];rfl
  obtain⟨M,rfl⟩:∃K,M=K+1:=⟨M-1,by omega⟩;rw[B6,EG,J8,J4,Aq6,f,r,Aq5,Nc,Nd (by show (x2.n+1)*24<=_/\x2.n+1<=_;omega),Iz];exact g2 M (x2.push v') (by omega) (by show x2.n+1=_;omega) (by show (if i+1<x2.n then x2.g (i+1)else v')=v';rw[Na])
def YA {w:Sl Qz}(d:w.n<N)(hs:w.n<10000000):∃y,EQ N w=some y/\SE w y:=by
 suffices h:∃y,EQ N w=some y/\y=An w.g w.n by obtain⟨y,h,rfl⟩:=h;exact⟨_,h,(FZ _ _).symm,fun i b=>(Rd w.g b).symm⟩
 unfold EQ;refine Ai (fun i x1 x2=>x2=(i:Int)/\x1=An w.g i) w.n _ d ⟨rfl,rfl⟩ ?_;rintro c i x1 x2 b ⟨rfl,rfl⟩ a;by_cases hl:i<w.n
 .have:=FZ w.g i
  refine Ba (ifT ⟨by omega,by show ((An w.g i).n+1)*8<=_/\(An w.g i).n+1<=_;omega⟩ (a hl _ _ ⟨Iz,by rw[Aq6];rfl⟩))
 exact Ft ⟨_,rfl,by congr 1;omega⟩
def deE (N:Nat)(laws:Sl Law)(w:Sl Qz)(r:Sl Qz×Int):Prop:=(IG N laws r.2/\r.2≠0) \/ (IG N laws 0/\Sx w r.2/\r.2≠0) \/ (CU N laws/\wOk w/\(r.2=11 \/ (r.2=0/\wOk r.1)))
def lawsE_zero {laws:Sl Law}:IG N laws 0↔CU N laws:=by
 constructor
 .rintro (⟨_,h⟩ | ⟨_,_,h⟩ | ⟨h,_⟩)
  .cases h
  .cases h
  exact h
 exact fun h=>.inr (.inr ⟨h,rfl⟩)
def Mk (v:3000000<=N){laws laws' : Sl Law}(hl:S9 laws)(j:LS laws laws'){w w' : Sl Qz}(m:SE w w')(hw:∀i,i<w.n->okS (w.g i)) :∃r r',E3 N laws w=some r/\Es N laws' w' = some r' /\ SE r.1 r'.1/\r.2=r'.2/\deE N laws w r:=by
 obtain⟨e,e1,h1⟩:=DC v hl hw;obtain⟨a,_,a1,ha⟩:=HH v (Yz j hl);unfold E3 Es JX;rw[e1,a1,Aq5,Aq5];rcases h1 with⟨h1,u⟩ | ⟨h1,x⟩
 .obtain rfl:=Br (Wv j h1) ha;have d:(e != 0)=true:=by simpa using u
  have o:¬(e==0)=true:=by simpa using u
  rw[Nd d,lt,Nf o];dsimp only;rw[Nd d,Aq5];dsimp only;rw[Nd d];exact⟨_,_,rfl,rfl,SE.refl _,rfl,.inl ⟨h1,u⟩⟩
 obtain rfl:=Br (Wv j h1) ha;rw[lt,Nd (show ((0:Int)==0)=true from rfl)];obtain⟨b,b1,hb⟩:=CT (N:=N) (by omega) (Ao5 m hw);obtain rfl:=GU (Zv m x) hb;rw[b1,Aq5];dsimp only;by_cases u:e=0
 case neg=>
  have d:(e != 0)=true:=by simpa using u
  rw[Nd d,Nd d,Aq5];dsimp only;rw[Nd d];exact⟨_,_,rfl,rfl,SE.refl _,rfl,.inr (.inl ⟨h1,x,u⟩)⟩
 have o:¬(e != 0)=true:=by simp[u]
 rw[Nf o,Nf o];have q:=lawsE_zero.1 h1;have s:wOk w:=(O0 x).1 u;have a0:=s.1;have a2:=m.1;have a3:=q.1;have a4:=j.1;obtain⟨y4,c1,c2⟩:=YA (N:=N) (w:=w') (by omega) (by omega);have t:A2 N w=some w:=by unfold A2;rw[J4]
 have l:∀c,A9 N c laws w=(P7 (0,w) (N6 N (F8 N c laws) w 0)).bind fun L1=>K5 L1 (fun (f:Sl Qz->Option (Sl Qz)) (x1:Int×(Sl Qz)) (z1:Sl Qz)=>f x1.2) (fun (z1:Sl Qz)=>some z1) Qw:=by intro c;unfold A9 M4 H6;rw[Aq5,t,Aq5];rfl
 have z:∀(x2:Sl (Sl Qz)),(N6 N (fun f (x2:Sl (Sl Qz)) (x3:Int)=>EG N laws' f x2 x3) x2 0)=N6 N (EG N laws') x2 ((0:Nat):Int):=fun _=>rfl;rw[c1,Aq5];rcases Ww v hl j q laws.n 0 w y4 (m.trans c2) s (by omega) (by omega)with⟨L,v',g1,g2,g3,g4⟩ | ⟨⟨L,g1⟩,g2⟩
 .obtain⟨y,d1,d2,d3⟩:=g4 N (Sl.of [y4]:Sl (Sl Qz)) (by omega) rfl rfl
  have:D6 N laws w=some (GZ w L,true):=by
   have e0:A9 N 0 laws w=some (GZ w L):=by rw[l];have g3:N6 N (F8 N 0 laws) w 0=some L:=g3 N (by omega);rw[g3];exact Ha _ _
   unfold D6;rw[e0]
  rw[this,Aq5,Nc];refine⟨_,(v',0),rfl,?_,g1,rfl,.inr (.inr ⟨q,s,.inr ⟨rfl,g2⟩⟩)⟩;show Option.bind (N6 N (EG N laws') (Sl.of [y4]:Sl (Sl Qz)) ((0:Nat):Int)) _=_;rw[d1,Aq5,Nc];have ew:wrap .i64 ((y.n:Int)-1)=((laws.n:Nat):Int):=by rw[d2,E8 (by omega) (by omega)];omega
  simp only[ew,Aq6];rw[J4,d3]
 have:D6 N laws w=some (Qw,false):=by
  obtain⟨g3,g4⟩:=g1 N (by omega);have g3:N6 N (F8 N 0 laws) w 0=none:=g3;have g4:N6 N (F8 N 11 laws) w 0=some L:=g4;have e0:A9 N 0 laws w=none:=by rw[l,g3];rfl
  have e11:A9 N 11 laws w=some (GZ w L):=by rw[l,g4];exact Ha _ _
  unfold D6;rw[e0,e11];rfl
 rw[this,Aq5,Nd (by simp)];refine⟨_,(Qw,11),rfl,?_,SE.refl _,rfl,.inr (.inr ⟨q,s,.inl rfl⟩)⟩;show Option.bind (N6 N (EG N laws') (Sl.of [y4]:Sl (Sl Qz)) ((0:Nat):Int)) _=_;rw[g2 N (Sl.of [y4]:Sl (Sl Qz)) (by omega) rfl rfl,Aq5,Nd (by decide)]
end Go.AM
namespace Go.AM
variable {N:Nat}
open IntKind (wrap)
open Go.Proofs
def Wx {α : Type}(s:Sl α)(a : α):(s.push a).toList=s.toList++[a]:=by
 show (List.range (s.n+1)).map (fun i=>if i<s.n then s.g i else a)=_;rw[AB7,AH0];congr 1
 .exact Au0 fun i b=>Nd (Aw8.1 b)
 simp
def sEq (x y:Qz):((x.Plus==y.Plus)&&(x.Minus==y.Minus))=decide (x=y):=by cases x;cases y;rw[At9];simp
def Wy {x y:Sl Qz}(l:x.n<N)(hs:x.n<10000000) :∃b,(if ((x.n:Int) != (y.n:Int)) then
 some false
 else
  Ao N (fun (a:Int->Option Bool) (x1:Int)=>
   if (decide (x1<(x.n:Int))) then
    if (((0:Int)<=x1/\x1<(x.n:Int))/\((0:Int)<=x1/\x1<(y.n:Int)))then
     if ((((x.g x1.toNat).Plus==(y.g x1.toNat).Plus)&&((x.g x1.toNat).Minus==(y.g x1.toNat).Minus)) != true) then
      some false
     else
      a (wrap .i64 (x1+1))
    else none
   else
    some true
   ) 0)=some b/\(b=true↔SE x y):=by
 by_cases hn:x.n=y.n
 case neg=>exact Ba ⟨false,rfl,by simp,fun h=>Ng h.1 hn⟩
 refine ifF (by simp[hn]) ?_;refine Fb (fun i x1=>x1=(i:Int)/\∀j,j<i->x.g j=y.g j) x.n _ l ⟨rfl,fun j c=>Ng c (by omega)⟩ ?_;rintro f i x1 m ⟨rfl,h⟩ d;by_cases hl:i<x.n
 .refine Ba (Al ?_);rw[Aq6,sEq];by_cases e:x.g i=y.g i
  .refine ifF (by simp[e]) (d hl _ ⟨Iz,fun j c=>?_⟩);by_cases e2:j=i
   .subst e2;exact e
   exact h j (by omega)
  exact ifT (by simp[e]) ⟨false,rfl,by simp,fun h=>Ng (h.2 i hl) e⟩
 exact Ft ⟨true,rfl,fun _=>⟨hn,fun j c=>h j (by omega)⟩,fun _=>rfl⟩
def Wz {x y:Sl Qz}(a:x.n<N)(hs:x.n<10000000):∃b,Y9 N x y=some b/\(b=true↔SE x y):=by obtain⟨b,h,hb⟩:=Wy (N:=N) (x:=x) (y:=y) a hs;exact⟨b,by unfold Y9;rw[show D3 N x y=some b from h];rfl,hb⟩
def Af9 {x y:Sl Qz}(a:x.n<N)(hs:x.n<10000000):∃b,Du N x y=some b/\(b=true↔SE x y):=Wy a hs
abbrev okA (w:Sl Qz):Prop:=∀i,i<w.n->okS (w.g i)
def WA (m:3000000<=N){laws laws' : Sl Law}(hl:S9 laws)(c:LS laws laws'){v v' w w' : Sl Qz}(n:SE v v')(d:okA v)(hw:SE w w') :∃b,H4 N laws v w=some b/\BN N laws' v' w' = some b/\(b=true ↔ ∃r,E3 N laws v=some r/\r.2=0/\SE r.1 w):=by
 obtain⟨r,r',h1,o,f,s,t⟩:=Mk m hl c n d;unfold H4 BN;rw[h1,o,Aq5,Aq5,lt,lt,<- s];by_cases a:r.2=0
 .rw[Nd (by simp[a]),Nd (by simp[a])];have hk:wOk r.1:=by
   rcases t with⟨_,h⟩ | ⟨_,_,h⟩ | ⟨_,_,h|⟨_,h⟩⟩
   .exact Ng a h
   .exact Ng a h
   .rw[h]at a;cases a
   exact h
  have u:=hk.1;have hn:=f.1;obtain⟨b,e1,hb⟩:=Wz (N:=N) (x:=r.1) (y:=w) (by omega) (by omega);obtain⟨b',e2,g⟩:=Af9 (N:=N) (x:=r'.1) (y:=w') (by omega) (by omega)
  have:b=b':=by rw[At9,hb,g];exact⟨fun h=>f.symm.trans (h.trans hw),fun h=>f.trans (h.trans hw.symm)⟩
  subst this;rw[e1,e2];refine⟨b,rfl,rfl,hb.trans ⟨fun h=>⟨r,rfl,a,h⟩,?_⟩⟩;rintro⟨q,i,_,j⟩;obtain rfl:=As9 i;exact j
 rw[Nf (by simp[a]),Nf (by simp[a])];refine⟨false,rfl,rfl,by simp,?_⟩;rintro⟨q,i,l,_⟩;obtain rfl:=As9 i;exact Ng l a
def gv (N:Nat)(laws:Sl Law)(v w:Sl Qz):Bool:=(H4 N laws v w).getD false
def SD (d:3000000<=N){laws laws' : Sl Law}(hl:S9 laws)(a:LS laws laws'){v v' w w' : Sl Qz}(f:SE v v')(c:okA v)(hw:SE w w') :H4 N laws v w=some (gv N laws v w)/\BN N laws' v' w' = some (gv N laws v w)/\(gv N laws v w=true ↔ ∃r,E3 N laws v=some r/\r.2=0/\SE r.1 w):=by
 obtain⟨b,h1,g,i⟩:=WA d hl a f c hw;have e:gv N laws v w=b:=by unfold gv;rw[h1];rfl
 rw[e];exact⟨h1,g,i⟩
def Ku (P:Nat->Bool)(n i:Nat):List Int:=((List.range' i (n-i)).filter P).map fun (j:Nat)=>(j:Int)
def IQ {P:Nat->Bool}{n i:Nat}(h:n<=i):Ku P n i=[]:=by unfold Ku;rw[show n-i=0 by omega];rfl
def SF {P:Nat->Bool}{n i:Nat}(h:i<n)(hp:P i=true):Ku P n i=(i:Int)::Ku P n (i+1):=by unfold Ku;rw[show n-i=n-(i+1)+1 by omega,Az3,AC8 hp];rfl
def WB {P:Nat->Bool}{n i:Nat}(h:i<n)(hp:P i=false):Ku P n i=Ku P n (i+1):=by unfold Ku;rw[show n-i=n-(i+1)+1 by omega,Az3,AC9 (by simp[hp])]
def Ml {P Q:Nat->Bool}{n i:Nat}(h:∀j,i<=j->j<n->P j=Q j):Ku P n i=Ku Q n i:=by unfold Ku;congr 1;exact List.filter_congr fun j a=>h j (Az0.1 a).1 (by have:=Az0.1 a;omega)
def YB (P:Nat->Bool)(n i:Nat):(Ku P n i).length<=n-i:=by
 unfold Ku;rw[Au9]
 have:=AH3 P (List.range' i (n-i))
 rw[AJ0]at this;exact this
def YC {P:Nat->Bool}{n i:Nat}{y:Int}:y∈Ku P n i ↔ ∃j:Nat,y=(j:Int)/\i<=j/\j<n/\P j=true:=by
 unfold Ku;constructor
 .intro h;obtain⟨j,b,rfl⟩:=Ax4.1 h;obtain⟨h1,a⟩:=AA3.1 b
  have:=Az0.1 h1
  exact⟨j,rfl,by omega,by omega,a⟩
 rintro⟨j,rfl,h1,a,c⟩;exact Ax4.2 ⟨j,AA3.2 ⟨Az0.2 (by omega),c⟩,rfl⟩
def filI {P:Nat->Bool}{n:Nat}{body:(Int->Option (List Int))->Int->Option (List Int)}
 (a:∀self i,n<=i->body self ((i:Nat):Int)=some []) (b:∀self i,i<n->P i=true->body self ((i:Nat):Int)=P7 (i:Int) (self ((i+1:Nat):Int))) (c:∀self i,i<n->P i=false->body self ((i:Nat):Int)=self ((i+1:Nat):Int)) :
 ∀(m i N:Nat),n<=i+m->m<N->Ao N body (i:Int)=some (Ku P n i)
 |0,i,N,h,hN=>by obtain⟨M,rfl⟩:∃K,N=K+1:=⟨N-1,by omega⟩;rw[P5,a _ i (by omega),IQ (by omega)]
 |m+1,i,N,h,hN=>by
  obtain⟨M,rfl⟩:∃K,N=K+1:=⟨N-1,by omega⟩;rw[P5];by_cases d:i<n
  .have ih:=filI a b c m (i+1) M (by omega) (by omega);cases hp:P i
   .rw[c _ i d hp,ih,WB d hp]
   rw[b _ i d hp,ih,SF d hp];rfl
  rw[a _ i (by omega),IQ (by omega)]
def filD {R:Type}{P:Nat->Bool}{n:Nat}{body:(Sl Int->Int->Option R)->Sl Int->Int->Option R}{k:Sl Int->Option R}
 (a:∀self x i,n<=i->x.n<=3000000->body self x ((i:Nat):Int)=k x) (b:∀self x i,i<n->x.n<=3000000->P i=true->body self x ((i:Nat):Int)=self (x.push (i:Int)) ((i+1:Nat):Int)) (c:∀self x i,i<n->x.n<=3000000->P i=false->body self x ((i:Nat):Int)=self x ((i+1:Nat):Int)) :
 ∀(m i:Nat) (x:Sl Int) (N:Nat),n<=i+m->m<N->x.n+m<=3000000->∃y,N6 N body x (i:Int)=k y/\y.toList=x.toList++Ku P n i
 |0,i,x,N,h,hN,hx=>by obtain⟨M,rfl⟩:∃K,N=K+1:=⟨N-1,by omega⟩;exact⟨x,by rw[B6,a _ x i (by omega) (by omega)],by rw[IQ (by omega),Az1]⟩
 |m+1,i,x,N,h,hN,hx=>by
  obtain⟨M,rfl⟩:∃K,N=K+1:=⟨N-1,by omega⟩;rw[B6];by_cases d:i<n
  .cases hp:P i
   .obtain⟨y,h1,f⟩:=filD a b c m (i+1) x M (by omega) (by omega) (by omega);exact⟨y,by rw[c _ x i d (by omega) hp,h1],by rw[f,WB d hp]⟩
   obtain⟨y,h1,f⟩:=filD a b c m (i+1) (x.push (i:Int)) M (by omega) (by omega) (by show x.n+1+m<=_;omega);exact⟨y,by rw[b _ x i d (by omega) hp,h1],by rw[f,Wx,SF d hp];simp⟩
  exact⟨x,by rw[a _ x i (by omega) (by omega)],by rw[IQ (by omega),Az1]⟩
def Ag0 {l:Sl Int}(f:l.n<N)(hs:l.n<10000000)(k:Int):∃b,EA N l k=some b/\(b=true↔k∈l.toList):=by
 unfold EA;refine Fb (fun i x1=>x1=(i:Int)/\∀j,j<i->l.g j≠k) l.n _ f ⟨rfl,fun j a=>Ng a (by omega)⟩ ?_;rintro d i x1 m ⟨rfl,h⟩ c;by_cases hl:i<l.n
 .refine Ba (Al ?_);rw[Aq6];by_cases e:l.g i=k
  .exact ifT (by simp[e]) ⟨true,rfl,fun _=>e ▸ HC hl,fun _=>rfl⟩
  refine ifF (by simp[e]) (c hl _ ⟨Iz,fun j a=>?_⟩);by_cases e2:j=i
  .subst e2;exact e
  exact h j (by omega)
 refine Ft ⟨false,rfl,by simp,fun hm=>?_⟩;obtain⟨j,a,e⟩:=Ax4.1 hm;exact Ng e (h j (by have:=Aw8.1 a;omega))
def Px (L:List Int)(hL:L.length<100000):∃s,I7 N L=some s/\s.toList=L:=by
 have:∀(L:List Int) (x:Sl Int),x.n+L.length<100000->∃s,K5 L (fun (b:Sl Int->Option (Sl Int)) (x1:Int) (z1:Sl Int)=>
  if ((z1.n+(Sl.of [x1]:Sl Int).n)*8<=140737488355328/\z1.n+(Sl.of [x1]:Sl Int).n<=140737488355328)then
   b (z1.push x1)
  else none
  ) (fun (z1:Sl Int)=>some z1) x=some s/\s.toList=x.toList++L:=by
  intro L
  induction L with
  |nil=>exact fun x _=>⟨x,rfl,by simp⟩
  |cons a L ih=>intro x hx;simp only[As6]at hx;obtain⟨s,h1,c⟩:=ih (x.push a) (by show x.n+1+_<_;omega);refine⟨s,?_,by rw[c,Wx];simp⟩;rw[K5,Nd (by show (x.n+1)*8<=_/\x.n+1<=_;omega)];exact h1
 obtain⟨s,h1,c⟩:=this L Qv (by show 0+_<_;omega);refine⟨s,?_,by rw[c];rfl⟩;unfold I7 F7;rw[h1];rfl
end Go.AM
namespace Go.AM
variable {N:Nat}
open IntKind (wrap)
open Go.Proofs
def dep:Nat->Pat->Prop
 |0,_=>False
 |d+1,p=>p.L.n<=40/\∀i,i<p.L.n->dep d (p.L.g i)
def Zx:∀(d:Nat) (p:Pat),dep d p->∀e,d<=e->dep e p
 |0,_,h,_,_=>h.elim
 |d+1,p,h,0,he=>by omega
 |d+1,p,h,e+1,he=>⟨h.1,fun i a=>Zx d _ (h.2 i a) e (by omega)⟩
def Py {N:Nat}(o:1000<=N):∀(d:Nat),d<=40->∀(p:Pat) (M:Nat),N+d+2<=M->∃r:Nat,Y1 M p ((40-d:Nat):Int)=some (r:Int)/\40-d<r/\r<=41/\(r<=40->dep (d+1) p)
 |d,hd,p,0,hM=>by omega
 |d,hd,p,M+1,hM=>by
  have:∃x,Y1 (M+1) p ((40-d:Nat):Int)=some x/\∃r:Nat,x=(r:Int)/\40-d<r/\r<=41/\(r<=40->dep (d+1) p):=by
   show ∃x,Aa (Y1 M) M p _=some x/\_;unfold Aa;rw[Iz];refine Ai (fun i x1 x2=>x2=(i:Int)/\∃k:Nat,x1=(k:Int)/\40-d+1+i<=k/\k<=41/\i<=p.L.n/\(k<=40->∀j,j<i->dep d (p.L.g j))) 41 _ (by omega) ⟨rfl,40-d+1,rfl,by omega,by omega,by omega,fun _ j b=>Ng b (by omega)⟩ ?_;rintro f i x1 x2 q ⟨rfl,k,rfl,h1,c,s,l⟩ hs;by_cases hc:i<p.L.n/\k<=40
   .refine ifT (by simp only[Aq7,Nj];omega) (Al ?_);obtain⟨r,m,r1,r2,r3⟩:=Py o (40-k) (by omega) (p.L.g i) M (by omega);rw[show ((40-(40-k):Nat):Int)=(k:Int) by omega]at m;refine B0 (by rw[Aq6];exact m) (hs (by omega) _ _ ⟨Iz,r,rfl,by omega,r2,by omega,fun a j b=>?_⟩);by_cases e:j=i
    .subst e;exact Zx _ _ (r3 a) d (by omega)
    exact l hc.2 j (by omega)
   refine ifF (by simp only[Aq7,Nj];omega) ⟨_,rfl,k,rfl,by omega,c,fun hk=>⟨by omega,fun j b=>l hk j (by omega)⟩⟩
  obtain⟨x,h1,r,rfl,c⟩:=this;exact⟨r,h1,c⟩
def Kl:∀(d:Nat) (p:Pat),dep d p->∀M,100+d<=M->∃r,T8 M p=some r
 |0,p,h,M,_=>h.elim
 |d+1,p,h,0,hM=>by omega
 |d+1,p,h,M+1,hM=>by
  suffices ∃r,T8 (M+1) p=some r/\True by obtain⟨r,h,_⟩:=this;exact⟨r,h⟩
  show ∃x,S1 (T8 M) M p=some x/\_;unfold S1;have hn:=h.1;refine Ai (fun i x1 x2=>x2=(i:Int)) p.L.n _ (by omega) rfl ?_;rintro a i x1 x2 c rfl hs;by_cases hl:i<p.L.n
  .obtain⟨r,b⟩:=Kl d (p.L.g i) (h.2 i hl) M (by omega);exact Ba (Al (B0 (by rw[Aq6];exact b) (hs hl _ _ (Iz))))
  exact Ft ⟨_,rfl,trivial⟩
def YD (b:2000<=N)(p:Pat):∃r:Nat,CP N p=some (r:Int)/\(r<=40->dep 41 p):=by obtain⟨r,h1,_,_,a⟩:=Py (N:=1000) (by omega) 40 (by omega) p N (by omega);exact⟨r,by unfold CP;rw[show Y1 N p 0=some (r:Int) from h1];rfl,a⟩
def YE (f:2000<=N)(laws:Sl Law):∃r,Bq N laws=some r:=by
 suffices ∃r,Bq N laws=some r/\True by obtain⟨r,h,_⟩:=this;exact⟨r,h⟩
 unfold Bq;refine Ai (fun i x1 x2=>x2=(i:Int)) 301 _ (by omega) rfl ?_;rintro d i x1 x2 s rfl hs;by_cases hc:i<laws.n/\i<=300
 .refine ifT (by simp only[Aq7,Nj];omega) (Al ?_);refine Ai (fun j x7 x8=>x8=(j:Int)) 2 _ (by omega) rfl ?_;rintro b j x7 x8 t rfl a;by_cases hl:j<2
  .refine ifT (by show decide ((j:Int)<((2:Nat):Int))=true;simp;omega) (ifT (by show (0:Int)<=(j:Int)/\(j:Int)<((2:Nat):Int);omega) ?_);obtain⟨r,l,m⟩:=YD f ((Sl.of [(laws.g (i:Int).toNat).Left,(laws.g (i:Int).toNat).Right]:Sl Pat).g (j:Int).toNat);refine B0 l ?_;by_cases c:r<=40
   .obtain⟨q,o⟩:=Kl 41 _ (m c) N (by omega);exact Ba (B0 o (a hl _ _ (Iz)))
   exact Ft (a hl _ _ (Iz))
  exact ifF (by show ¬decide ((j:Int)<((2:Nat):Int))=true;simp;omega) (hs (by omega) _ _ (Iz))
 exact ifF (by simp only[Aq7,Nj];omega) ⟨_,rfl,trivial⟩
def TX (n:3000000<=N){laws:Sl Law}(hl:S9 laws){v w:Sl Qz}(o:okA v)(hw:okA w) :∃e,K6 N laws (Sl.of [v,w]:Sl (Sl Qz))=some e/\FX N laws v w=some e/\(e=0↔CU N laws/\wOk v/\wOk w):=by
 obtain⟨e,e1,e2,q⟩:=HH n hl;unfold K6 FX;rw[e1,e2,Aq5,Aq5];by_cases d:e=0
 case neg=>rw[Nd (by simpa using d),Nd (by simpa using d)];exact⟨e,rfl,rfl,fun h=>Ng h d,fun h=>Ng (Br q (lawsE_zero.2 h.1)) d⟩
 rw[Nf (by simp[d]),Nf (by simp[d])];subst d;have j:=lawsE_zero.1 q;obtain⟨a,a1,ha⟩:=Mj (N:=N) n (l:=(Sl.of [v,w]:Sl (Sl Qz))) (by show 2<_;omega) fun i f=>by
  match i,f with
  |0,_=>exact o
  |1,_=>exact hw
 obtain⟨b,b1,hb⟩:=CT (N:=N) (by omega) o;obtain⟨c,c1,hc⟩:=CT (N:=N) (by omega) hw;rw[b1,c1,Aq5];refine⟨a,a1,?_,?_⟩
 .rcases ha with⟨rfl,h⟩ | ⟨i,f,h1,g,m⟩
  .rw[Nf (by rw[(O0 hb).2 (h 0 (by show 0<2;omega))];decide),Aq5,(O0 hc).2 (h 1 (by show 1<2;omega))]
  match i,f with
  |0,_=>obtain rfl:a=b:=GU g hb;rw[Nd (by simpa using m)]
  |1,_=>obtain rfl:a=c:=GU g hc;rw[Nf (by rw[(O0 hb).2 (h1 0 (by omega))];decide),Aq5]
 rcases ha with⟨rfl,h⟩ | ⟨i,f,h1,g,m⟩
 .exact⟨fun _=>⟨j,h 0 (by show 0<2;omega),h 1 (by show 1<2;omega)⟩,fun _=>rfl⟩
 refine⟨fun h=>Ng h m,fun⟨_,r,s⟩=>?_⟩
 match i,f with
 |0,_=>exact (O0 g).2 r
 |1,_=>exact (O0 g).2 s
def DE {laws:Sl Law}(hl:S9 laws)(k:Nat):S9 (laws.drop k):=fun i a=>hl _ (by have a:i<laws.n-k:=a;omega)
abbrev okPs (l:Sl Bp):Prop:=∀j,j<l.n->okA (l.g j).From/\okA (l.g j).To
def Zy (N:Nat)(laws:Sl Law)(l:Sl Bp)(i:Nat):Bool:=decide (∀j,j<l.n->gv N (laws.drop i) (l.g j).From (l.g j).To=true)
def TY (s:3000000<=N){laws:Sl Law}(hl:S9 laws)(hn:laws.n<=1000){l:Sl Bp}(t:okPs l)(u:l.n<=1000) :H7 N laws l=some (Ku (Zy N laws l) (laws.n+1) 0):=by
 have inner:∀(a:Int->Option (List Int)) (i:Nat),i<=laws.n->∀(m j M:Nat),l.n<=j+m->m<M->(∀q,q<j->gv N (laws.drop i) (l.g q).From (l.g q).To=true) ->
  Ao M (fun (d:Int->Option (List Int)) (x4:Int)=>
   if (decide (x4<(l.n:Int))) then
    if ((0:Int)<=x4/\x4<(l.n:Int))then
     if ((0:Int)<=(i:Int)/\(i:Int)<=(laws.n:Int))then
      (H4 N (laws.drop (i:Int).toNat) (l.g x4.toNat).From (l.g x4.toNat).To).bind fun y9=>
      if (!y9) then
       a (wrap .i64 ((i:Int)+1))
      else
       d (wrap .i64 (x4+1))
     else none
    else none
   else
    P7 (i:Int) (
     a (wrap .i64 ((i:Int)+1))
     )
   ) (j:Int)=if Zy N laws l i then P7 (i:Int) (a ((i+1:Nat):Int))else a ((i+1:Nat):Int):=by
  intro a i o m
  induction m with
  |zero=>intro j M h v c;obtain⟨M,rfl⟩:∃K,M=K+1:=⟨M-1,by omega⟩;rw[P5,Nb,Nd (by unfold Zy;exact decide_eq_true fun q f=>c q (by omega)),Iz]
  |succ m ih=>
   intro j M h v c;obtain⟨M,rfl⟩:∃K,M=K+1:=⟨M-1,by omega⟩;by_cases r:j<l.n
   case neg=>rw[P5,Nb,Nd (by unfold Zy;exact decide_eq_true fun q f=>c q (by omega)),Iz]
   have w:=(SD (N:=N) s (DE hl i) (LS.refl _) (SE.refl (l.g j).From) (t j r).1 (SE.refl (l.g j).To)).1;rw[P5,J8,J4,J4,Aq6,Aq6,w,Aq5];cases hb:gv N (laws.drop i) (l.g j).From (l.g j).To
   .rw[Nd nf,Nf,Iz];unfold Zy;intro h
    have:=of_decide_eq_true h j r
    rw[hb]at this;cases this
   rw[Nc,C4 (i:=j) (by omega)];exact ih (j+1) M (by omega) (by omega) fun q f=>by
    by_cases e:q=j
    .subst e;exact hb
    exact c q (by omega)
 unfold H7;rw[Iz];refine filI (P:=Zy N laws l) (n:=laws.n+1) ?_ ?_ ?_ (laws.n+1) 0 N (by omega) (by omega)
 .intro b i o;rw[Nb]
 .intro b i o hp;have e:=inner b i (by omega) l.n 0 N (by omega) (by omega) fun q c=>Ng c (by omega);rw[Nd hp]at e;rw[J8];exact e
 intro b i o hp;have e:=inner b i (by omega) l.n 0 N (by omega) (by omega) fun q c=>Ng c (by omega);rw[Nf (by simp[hp])]at e;rw[J8];exact e
def plL (N:Nat)(laws:Sl Law)(v w:Sl Qz):List Int:=Ku (fun i=>gv N (laws.drop i) v w) (laws.n+1) 0
def Ag1 (N:Nat)(laws:Sl Law)(l:Sl Bp)(h:l.n=1):Ku (Zy N laws l) (laws.n+1) 0=plL N laws (l.g 0).From (l.g 0).To:=by
 refine Ml fun i _ _=>?_;unfold Zy;rw[At9,Nj];constructor
 .exact fun g=>g 0 (by omega)
 intro g j a;obtain rfl:j=0:=by omega
 exact g
def Rj (f:3000000<=N){laws:Sl Law}(hl:S9 laws)(hn:laws.n<=1000){v w:Sl Qz}(g:okA v) :∃s,EB N laws v w=some s/\s.toList=plL N laws v w:=by
 have c:=fun i=>(SD (N:=N) f (DE hl i) (LS.refl _) (SE.refl v) g (SE.refl w)).2.1;unfold EB;obtain⟨y,h1,j⟩:=filD (P:=fun i=>gv N (laws.drop i) v w) (n:=laws.n+1) (k:=fun x=>some x) (body:=fun a (x1:Sl Int) (x2:Int)=>
  if (decide (x2<=(laws.n:Int))) then
   if ((0:Int)<=x2/\x2<=(laws.n:Int))then
    (BN N (laws.drop x2.toNat) v w).bind fun y3=>
    if y3 then
     if ((x1.n+(Sl.of [x2]:Sl Int).n)*8<=140737488355328/\x1.n+(Sl.of [x2]:Sl Int).n<=140737488355328)then
      a (x1.push x2) (wrap .i64 (x2+1))
     else none
    else
     a x1 (wrap .i64 (x2+1))
   else none
  else
   some x1) (fun b x i d _=>by rw[Nb])
  (fun b x i d hx hp=>by rw[J8,J4,Aq6,c i,Aq5,Nd hp,Nd (by show (x.n+1)*8<=_/\x.n+1<=_;omega),Iz])
  (fun b x i d hx hp=>by have hp:gv N (laws.drop i) v w=false:=hp;rw[J8,J4,Aq6,c i,Aq5,Nf (by simp[hp]),Iz])
  (laws.n+1) 0 Qv N (by omega) (by omega) (by show 0+_<=_;omega)
 exact⟨y,h1,j⟩
def Ag2 (N:Nat)(laws:Sl Law)(v w:Sl Qz):(plL N laws v w).length<=laws.n+1:=YB _ _ 0
def tl_n {s:Sl Int}{L:List Int}(h:s.toList=L):s.n=L.length:=by rw[<- h,U5]
abbrev oneP (v w:Sl Qz):Sl Bp:=Sl.of [(⟨v,w⟩:Bp)]
def YF {v w:Sl Qz}(a:okA v)(hw:okA w):okPs (oneP v w):=fun j b=>by
 match j,b with
 |0,_=>exact⟨a,hw⟩
def TZ (b:3000000<=N){laws:Sl Law}(hl:S9 laws){v w:Sl Qz}(c:okA v)(hw:okA w) :∃e s s',Q3 N laws v w=some (s,e)/\Ip N laws v w=some (s',e)/\(e=0↔CU N laws/\wOk v/\wOk w)/\s.toList=(if e=0 then plL N laws v w else [])/\s'.toList=(if e=0 then plL N laws v w else [])/\s.n<=1000/\s'.n<=1000:=by
 obtain⟨e,e1,e2,d⟩:=TX b hl c hw;unfold Q3 Ip;rw[e1,e2,Aq5,Aq5];by_cases a:e=0
 case neg=>rw[Nd (by simpa using a),Nd (by simpa using a)];exact⟨e,_,_,rfl,rfl,d,(Nf a).symm,(Nf a).symm,Az6 _,Az6 _⟩
 have g:=(d.1 a).1.1;rw[Nf (by simp[a]),Nf (by simp[a]),Q2,Aq5];have hp:=TY b hl (by omega) (YF c hw) (by show 1<=_;omega);rw[Ag1 _ _ _ rfl]at hp;have f:=Ag2 N laws v w;obtain⟨s,s1,s2⟩:=Px (N:=N) (plL N laws v w) (by omega);obtain⟨s',t1,t2⟩:=Rj (N:=N) (w:=w) b hl (by omega) c;have hp:H7 N laws (Sl.of [(⟨v,w⟩:Bp)])=some (plL N laws v w):=hp;rw[hp,Aq5,s1,t1];exact⟨e,s,s',by rw[a];rfl,by rw[a];rfl,d,s2.trans (Nd a).symm,t2.trans (Nd a).symm,by rw[tl_n s2];omega,by rw[tl_n t2];omega⟩
end Go.AM
namespace Go.AM
open Go.Proofs
end Go.AM
namespace Go.AM
variable {N:Nat}
open Go.Proofs
abbrev isT (o:Option Bool):Prop:=∃r,o=some r/\r=true
def isT.eq {o:Option Bool}(h:isT o):o=some true:=by obtain⟨r,h,rfl⟩:=h;exact h
def Ag3 {laws:Sl Law}{v w:Sl Qz}{k:Nat}(hk:k<=laws.n):(k:Int)∈plL N laws v w↔gv N (laws.drop k) v w=true:=by
 unfold plL;rw[YC];constructor
 .rintro⟨j,h1,_,_,a⟩;rw[show k=j by omega];exact a
 exact fun h=>⟨k,rfl,by omega,by omega,h⟩
def Ua (f:3000000<=N){laws:Sl Law}(o:laws.n=0){v w:Sl Qz}(g:wOk v):gv N laws v w=true↔SE v w:=by
 have hl:S9 laws:=fun i d=>by omega
 have j:LS laws (Sl.nil:Sl Law):=⟨o,fun i d=>by omega⟩;have b:okA v:=fun i d=>(g.2 i d).ok;rw[(SD f hl j (SE.refl v) b (SE.refl w)).2.2];obtain⟨r,r',h1,x,y,z,h5⟩:=Mk f hl (LS.refl laws) (SE.refl v) b;have l:CU N laws:=⟨by omega,fun i d=>by omega⟩;have key:E3 N laws v=some (v,0):=by
  obtain⟨e,e1,s⟩:=DC f hl b
  have:e=0:=by
   rcases s with⟨h,h'⟩ | ⟨_,h⟩
   .exact Br h (lawsE_zero.2 l)
   exact (O0 h).2 g
  subst this;have t:=g.1;have a:A2 N v=some v:=by unfold A2;rw[J4]
  have u:N6 N (F8 N 0 laws) v 0=some []:=by obtain⟨M,rfl⟩:∃K,N=K+1:=⟨N-1,by omega⟩;rw[B6,F8,Nb,Nd rfl]
  have c:A9 N 0 laws v=some v:=by unfold A9 M4 H6;rw[Aq5,a,Aq5];show (P7 (0,v) (N6 N (F8 N 0 laws) v 0)).bind _=_;rw[u];rfl
  unfold E3 D6;rw[e1,Aq5,Nf (by decide),c];rfl
 constructor
 .rintro⟨q,m,_,h⟩;rw[key]at m;obtain rfl:=As9 m;exact h
 exact fun h=>⟨_,key,rfl,h⟩
def Rk {laws:Sl Law}(h:CU N laws)(k:Nat):CU N (laws.drop k):=⟨by have:=h.1;show laws.n-k<=64;omega,fun i a=>h.2 _ (by have a:i<laws.n-k:=a;omega)⟩
end Go.AM
namespace Go.AM
open Go.Proofs
def nameB (s:Str):Bool:=(decide (1<=s.length)&&decide (s.length<=24))&&s.all fun c=>Wi ((c.toNat:Nat):Int)
def nodeK (t:Sl Node)(v:Nat):Prop:=(v=0->(t.g 0).Parent = -1)/\(0<v->0<=(t.g v).Parent/\(t.g v).Parent<v)/\nameB (t.g v).Name=true/\∀u,u<v->(t.g u).Name≠(t.g v).Name
def Ao7 (t:Sl Node):Prop:=1<=t.n/\t.n<=63/\∀v,v<t.n->nodeK t v
end Go.AM
namespace Go.AM
open Go.Proofs
def Ao8 (h:JA)(v:Nat):Sl Int:= if hp:0<=(h.Tree.g v).Parent/\(h.Tree.g v).Parent<v then (Ao8 h (h.Tree.g v).Parent.toNat).app (h.On.g v)else Qv.app (h.On.g v)
termination_by v
decreasing_by omega
def longL (h:JA):Prop:=∃v,v<h.On.n/\64<(Ao8 h v).n
def badL (h:JA)(v:Nat):Prop:=∃k,k<(h.On.g v).n/\((h.On.g v).g k<0 \/ (h.Laws.n:Int)<=(h.On.g v).g k)
end Go.AM
namespace Go.AM
open Go.Proofs
def dupB (h:JA)(i:Nat):Prop:=∃u v,u<v/\v<i/\(h.Laws.g u).Name=(h.Laws.g v).Name
open Classical in
noncomputable def hres (N:Nat) (h:JA):Int:= if ¬Ao7 h.Tree then 16 else if 64<h.Laws.n then 12 else if ∃i,i<h.Laws.n/\¬chkAll N (h.Laws.g i)then 17 else if dupB h h.Laws.n then 6 else if h.On.n≠h.Tree.n then 2 else if longL h then 2 else if ∃v,v<h.On.n/\badL h v then 3 else 0
end Go.AM
namespace Go.AM
open Go.Proofs
end Go.AM
namespace Go.AM
variable {N:Nat}
open Go.Proofs
def HI (N:Nat)(l:Law)(w:Sl Qz):Option (Sl Qz):=(O1 N l w).bind fun y=>if y.2=0 then some y.1 else none
def Km (N:Nat):List Law->Sl Qz->Option (Sl Qz)
 |[],w=>some w
 |l::L,w=>(HI N l w).bind (Km N L)
def YG (N:Nat)(l:Law):Prop:=Ki l/\chkAll N l
def YH {l l' : Law}(h:LE l l')(g:YG N l):YG N l':=⟨IP h g.1,(EF h).1 g.2⟩
def OR (o o' : Option (Sl Qz)):Prop:=(o=none/\o' = none) \/ ∃v v',o=some v/\o' = some v' /\ SE v v' /\ wOk v
def Nx (a:3000000<=N){l:Law}(hl:YG N l){w:Sl Qz}(hw:wOk w):(∃v,O1 N l w=some (v,0)/\HI N l w=some v/\wOk v) \/ (∃v,O1 N l w=some (v,11)/\HI N l w=none):=by
 obtain⟨⟨v,e⟩,_,h1,_,_,_,b⟩:=GY a hl.1 (LE.refl l) (SE.refl w) fun i c=>(hw.2 i c).ok;rcases b with⟨_,h⟩ | ⟨_,h,h'⟩ | ⟨_,_,h|⟨h,h'⟩⟩
 .exact Ng hl.2 h
 .exact Ng ((O0 h).2 hw) h'
 .dsimp only at h;subst h;exact .inr ⟨v,h1,by unfold HI;rw[h1];rfl⟩
 dsimp only at h h';subst h;exact .inl ⟨v,h1,by unfold HI;rw[h1];rfl,h'⟩
def Ao9 (c:3000000<=N){l l' : Law}(hl:YG N l)(hle:LE l l'){w w' : Sl Qz}(hw:wOk w)(a:SE w w'):OR (HI N l w) (HI N l' w'):=by
 have b:=a.wOk hw;obtain⟨r,r',h1,g,j,f,_⟩:=GY c hl.1 hle a fun i d=>(hw.2 i d).ok;obtain⟨q,q',k1,k2,k3,k4,_⟩:=GY c (IP hle hl.1) (LE.refl l') (SE.refl w') fun i d=>(b.2 i d).ok;obtain rfl:=As9 (g.symm.trans k2);rcases Nx c hl hw with⟨v,g1,g2,g3⟩ | ⟨v,g1,g2⟩<;>rcases Nx c (YH hle hl) b with⟨u,p1,p2,p3⟩ | ⟨u,p1,p2⟩
 .obtain rfl:=As9 (g1.symm.trans h1);obtain rfl:=As9 (p1.symm.trans k1);exact .inr ⟨v,u,g2,p2,j.trans k3.symm,g3⟩
 .obtain rfl:=As9 (g1.symm.trans h1);obtain rfl:=As9 (p1.symm.trans k1);exact Ng (f.trans k4.symm) (by show ¬((0:Int)=11);decide)
 .obtain rfl:=As9 (g1.symm.trans h1);obtain rfl:=As9 (p1.symm.trans k1);exact Ng (f.trans k4.symm) (by show ¬((11:Int)=0);decide)
 exact .inl ⟨g2,p2⟩
def Rl (f:3000000<=N){laws:Sl Law}(hl:S9 laws)(c:CU N laws):∀(m i:Nat) (w:Sl Qz),wOk w->i<=laws.n->laws.n<=i+m ->
 (∃L,(∀M,m<M->N6 M (F8 N 0 laws) w i=some L)/\Km N (laws.toList.drop i) w=some (GZ w L)/\wOk (GZ w L)) \/
 ((∃L,∀M,m<M->N6 M (F8 N 0 laws) w i=none/\N6 M (F8 N 11 laws) w i=some L)/\Km N (laws.toList.drop i) w=none):=by
 have b:=c.1;have fin:∀(m i:Nat) (w:Sl Qz),wOk w->i=laws.n->∃L,(∀M,m<M->N6 M (F8 N 0 laws) w i=some L)/\Km N (laws.toList.drop i) w=some (GZ w L)/\wOk (GZ w L):=by rintro m i w hw rfl;refine⟨[],fun M d=>?_,by rw[Ak];rfl,hw⟩;obtain⟨M,rfl⟩:∃K,M=K+1:=⟨M-1,by omega⟩;rw[B6,F8,Nc,Nd rfl]
 intro m
 induction m with
 |zero=>exact fun i w hw g hm=>.inl (fin 0 i w hw (by omega))
 |succ m ih=>
  intro i w hw g hm;by_cases a:i<laws.n
  case neg=>exact .inl (fin _ i w hw (by omega))
  rw[BO _ a];rcases Nx f ⟨hl i a,c.2 i a⟩ hw with⟨v,g1,g2,g3⟩ | ⟨v,g1,g2⟩
  .rcases ih (i+1) v g3 (by omega) (by omega)with⟨L,a1,a2,a3⟩ | ⟨⟨L,a1⟩,a2⟩
   .refine .inl ⟨((i+1:Nat),v)::L,fun M d=>?_,by unfold Km;rw[g2];exact a2,a3⟩;obtain⟨M,rfl⟩:∃K,M=K+1:=⟨M-1,by omega⟩;rw[B6,G8 a b g1,Nc];show P7 _ (N6 M (F8 N 0 laws) v _)=_;rw[a1 M (by omega)];rfl
   refine .inr ⟨⟨((i+1:Nat),v)::L,fun M d=>?_⟩,by unfold Km;rw[g2];exact a2⟩;obtain⟨M,rfl⟩:∃K,M=K+1:=⟨M-1,by omega⟩;obtain⟨b1,b2⟩:=a1 M (by omega);rw[B6,B6,G8 a b g1,G8 a b g1,Nc,Nc];refine⟨?_,?_⟩
   .show P7 _ (N6 M (F8 N 0 laws) v _)=_;rw[b1];rfl
   show P7 _ (N6 M (F8 N 11 laws) v _)=_;rw[b2];rfl
  refine .inr ⟨⟨[],fun M d=>?_⟩,by unfold Km;rw[g2];rfl⟩;obtain⟨M,rfl⟩:∃K,M=K+1:=⟨M-1,by omega⟩;rw[B6,B6,G8 a b g1,G8 a b g1];exact⟨rfl,rfl⟩
def Rm (g:3000000<=N){laws:Sl Law}(hl:S9 laws)(d:CU N laws){w:Sl Qz}(hw:wOk w) :(∃v,Km N laws.toList w=some v/\E3 N laws w=some (v,0)/\wOk v) \/ (Km N laws.toList w=none/\E3 N laws w=some (Qw,11)):=by
 have j:=d.1;have l:=hw.1;obtain⟨e,e1,m⟩:=DC g hl (w:=w) fun i o=>(hw.2 i o).ok
 have:e=0:=by
  rcases m with⟨h,h'⟩ | ⟨_,h⟩
  .exact Br h (lawsE_zero.2 d)
  exact (O0 h).2 hw
 subst this;have b:A2 N w=some w:=by unfold A2;rw[J4]
 have a:∀c,A9 N c laws w=(P7 (0,w) (N6 N (F8 N c laws) w 0)).bind fun L1=>K5 L1 (fun (f:Sl Qz->Option (Sl Qz)) (x1:Int×(Sl Qz)) (z1:Sl Qz)=>f x1.2) (fun (z1:Sl Qz)=>some z1) Qw:=by intro c;unfold A9 M4 H6;rw[Aq5,b,Aq5];rfl
 unfold E3;rw[e1,Aq5,Nf (by decide)];rcases Rl g hl d laws.n 0 w hw (by omega) (by omega)with⟨L,g1,g2,g3⟩ | ⟨⟨L,g1⟩,g2⟩
 .have g1:N6 N (F8 N 0 laws) w 0=some L:=g1 N (by omega)
  have:D6 N laws w=some (GZ w L,true):=by
   have e0:A9 N 0 laws w=some (GZ w L):=by rw[a,g1];exact Ha _ _
   unfold D6;rw[e0]
  rw[this];exact .inl ⟨_,g2,rfl,g3⟩
 obtain⟨g3,g4⟩:=g1 N (by omega);have g3:N6 N (F8 N 0 laws) w 0=none:=g3;have g4:N6 N (F8 N 11 laws) w 0=some L:=g4
 have:D6 N laws w=some (Qw,false):=by
  have e0:A9 N 0 laws w=none:=by rw[a,g3];rfl
  have e11:A9 N 11 laws w=some (GZ w L):=by rw[a,g4];exact Ha _ _
  unfold D6;rw[e0,e11];rfl
 rw[this];exact .inr ⟨g2,rfl⟩
end Go.AM
namespace Go.AM
open Go.Proofs
end Go.AM
namespace Go.AM
open Go.Proofs
end Go.AM
namespace Go.AM
open Go.Proofs
def emp (s:Sl Form):Prop:=∃i,i<s.n/\(s.g i).Has=false/\0<(s.g i).W.n
open Classical in
noncomputable def e2 (l:Sl Entry) (k:Nat) (i:Nat):Int:=if (l.g i).Forms.n≠k \/ emp (l.g i).Forms then 2 else 0
end Go.AM
namespace Go.AM
open Go.Proofs
end Go.AM
namespace Go.AM
variable {N:Nat}
open IntKind (wrap)
open Go.Proofs
def Rn:Sl Qz->Mi->Nat->Sl Qz
 |w,_,0=>w
 |w,[],_+1=>w
 |_,(_,v)::L,k+1=>Rn v L k
def Kn:∀(L:Mi) (p:Int) (w:Sl Qz) (k:Nat),k<=L.length->(((p,w)::L).getD k default).2=Rn w L k
 |L,p,w,0,_=>by simp[Rn]
 |[],p,w,k+1,h=>Ng h (by simp)
 |(q,v)::L,p,w,k+1,h=>by
  have:=Kn L q v k (by simpa using h)
  simpa[Rn]using this
def Ub (j:3000000<=N){laws:Sl Law}(hl:S9 laws)(c:CU N laws):∀(m i:Nat) (w:Sl Qz),wOk w->i<=laws.n->laws.n<=i+m ->
 (∃L,(∀M,m<M->N6 M (F8 N 0 laws) w i=some L)/\L.length=laws.n-i/\(∀k,k<=laws.n-i->wOk (Rn w L k))/\∀k,k<laws.n-i->HI N (laws.g (i+k)) (Rn w L k)=some (Rn w L (k+1))) \/
 (∃L,(∀p∈L,wOk p.2)/\L.length<=laws.n/\∀M,m<M->N6 M (F8 N 0 laws) w i=none/\N6 M (F8 N 11 laws) w i=some L):=by
 have b:=c.1;have fin:∀(m i:Nat) (w:Sl Qz),wOk w->i=laws.n->∃L,(∀M,m<M->N6 M (F8 N 0 laws) w i=some L)/\L.length=laws.n-i/\(∀k,k<=laws.n-i->wOk (Rn w L k))/\∀k,k<laws.n-i->HI N (laws.g (i+k)) (Rn w L k)=some (Rn w L (k+1)):=by
  rintro m i w hw rfl;refine⟨[],fun M d=>?_,by simp,fun k hk=>?_,fun k hk=>by omega⟩
  .obtain⟨M,rfl⟩:∃K,M=K+1:=⟨M-1,by omega⟩;rw[B6,F8,Nc,Nd rfl]
  obtain rfl:k=0:=by omega
  exact hw
 have len:∀(m i:Nat) (w:Sl Qz),True:=fun _ _ _=>trivial;intro m
 suffices h:∀(m i:Nat) (w:Sl Qz),wOk w->i<=laws.n->laws.n<=i+m ->
  (∃L,(∀M,m<M->N6 M (F8 N 0 laws) w i=some L)/\L.length=laws.n-i/\(∀k,k<=laws.n-i->wOk (Rn w L k))/\∀k,k<laws.n-i->HI N (laws.g (i+k)) (Rn w L k)=some (Rn w L (k+1))) \/
  (∃L,(∀p∈L,wOk p.2)/\L.length<=laws.n-i/\∀M,m<M->N6 M (F8 N 0 laws) w i=none/\N6 M (F8 N 11 laws) w i=some L) by
  intro i w hw f hm;rcases h m i w hw f hm with h|⟨L,h1,o,l⟩
  .exact .inl h
  exact .inr ⟨L,h1,by omega,l⟩
 intro m
 induction m with
 |zero=>exact fun i w hw f hm=>.inl (fin 0 i w hw (by omega))
 |succ m ih=>
  intro i w hw f hm;by_cases a:i<laws.n
  case neg=>exact .inl (fin _ i w hw (by omega))
  rcases Nx j ⟨hl i a,c.2 i a⟩ hw with⟨v,g1,g2,g3⟩ | ⟨v,g1,g2⟩
  .rcases ih (i+1) v g3 (by omega) (by omega)with⟨L,a1,a2,a3,a4⟩ | ⟨L,a1,a2,a3⟩
   .refine .inl ⟨((i+1:Nat),v)::L,fun M d=>?_,by simp only[As6];omega,fun k hk=>?_,fun k hk=>?_⟩
    .obtain⟨M,rfl⟩:∃K,M=K+1:=⟨M-1,by omega⟩;rw[B6,G8 a b g1,Nc];show P7 _ (N6 M (F8 N 0 laws) v _)=_;rw[a1 M (by omega)];rfl
    .cases k with
     |zero=>exact hw
     |succ k=>exact a3 k (by omega)
    cases k with
    |zero=>rw[Ax1];show HI N (laws.g i) w=some (Rn v L 0);rw[g2];cases L<;>rfl
    |succ k=>
     have:=a4 k (by omega)
     rw[show i+1+k=i+(k+1) by omega]at this;exact this
   refine .inr ⟨((i+1:Nat),v)::L,fun p hp=>?_,by simp only[As6];omega,fun M d=>?_⟩
   .rcases At6.1 hp with rfl|hp
    .exact g3
    exact a1 p hp
   obtain⟨M,rfl⟩:∃K,M=K+1:=⟨M-1,by omega⟩;obtain⟨b1,b2⟩:=a3 M (by omega);rw[B6,B6,G8 a b g1,G8 a b g1,Nc,Nc];refine⟨?_,?_⟩
   .show P7 _ (N6 M (F8 N 0 laws) v _)=_;rw[b1];rfl
   show P7 _ (N6 M (F8 N 11 laws) v _)=_;rw[b2];rfl
  refine .inr ⟨[],fun p hp=>by simp at hp,by simp,fun M d=>?_⟩;obtain⟨M,rfl⟩:∃K,M=K+1:=⟨M-1,by omega⟩;rw[B6,B6,G8 a b g1,G8 a b g1];exact⟨rfl,rfl⟩
def WC (o:3000000<=N){laws:Sl Law}(hl:S9 laws)(i:CU N laws){f:Nat->Sl Qz}(s:∀k,k<=laws.n->wOk (f k))(hs:∀k,k<laws.n->HI N (laws.g k) (f k)=some (f (k+1))){v:Sl Qz}(q:∀k,k<=laws.n->SE (f k) v) :∀(m j:Nat) (u:Sl Qz),j+m=laws.n->wOk u->SE u (f j)->∃u',Km N (laws.toList.drop j) u=some u' /\ SE u' v:=by
 intro m
 induction m with
 |zero=>
  intro j u r l d;obtain rfl:j=laws.n:=by omega
  rw[Ak];exact⟨u,rfl,d.trans (q _ (by omega))⟩
 |succ m ih=>
  intro j u r l d;have c:j<laws.n:=by omega
  rw[BO _ c];unfold Km;rcases Ao9 o ⟨hl j c,i.2 j c⟩ (LE.refl _) l d with⟨_,e2⟩ | ⟨a,b,e1,e2,e3,e4⟩
  .rw[hs j c]at e2;cases e2
  rw[hs j c]at e2;obtain rfl:=As9 e2;rw[e1];exact ih (j+1) a (by omega) e4 e3
def Ny {w:Sl Qz}(hw:wOk w):A2 N w=some w:=by
 have:=hw.1
 unfold A2;rw[J4]
def Nz (N:Nat):∀(L:Mi) (x:Sl (Sl Qz)),x.n+L.length<100000->(∀p∈L,wOk p.2)->∃s,K5 L (fun a (x1:Int×(Sl Qz)) (z1:Sl (Sl Qz))=>
 (A2 N x1.2).bind fun y4=>
 if ((z1.n+(Sl.of [y4]:Sl (Sl Qz)).n)*24<=140737488355328/\z1.n+(Sl.of [y4]:Sl (Sl Qz)).n<=140737488355328)then
  a (z1.push y4)
 else none
 ) (fun (z1:Sl (Sl Qz))=>some z1) x=some s/\s.n=x.n+L.length/\(∀i,i<x.n->s.g i=x.g i)/\∀k,k<L.length->s.g (x.n+k)=(L.getD k default).2
 |[],x,_,_=>⟨x,rfl,rfl,fun _ _=>rfl,fun k hk=>Ng hk (by simp)⟩
 |p::L,x,hx,hp=>by
  simp only[As6]at hx;obtain⟨s,h1,d,b,c⟩:=Nz N L (x.push p.2) (by show x.n+1+L.length<_;omega) (fun q f=>hp q (by simp[f]));have e2:(x.push p.2).n=x.n+1:=rfl;rw[e2]at d b c;refine⟨s,?_,by simp only[As6];omega,fun i j=>?_,fun k hk=>?_⟩
  .simp only[K5];rw[Ny (hp p (by simp)),Aq5,Nd (by show (x.n+1)*24<=_/\x.n+1<=_;omega)];exact h1
  .rw[b i (by omega)];show (if i<x.n then x.g i else p.2)=_;rw[Nd j]
  cases k with
  |zero=>rw[Ax1,b x.n (by omega)];show (if x.n<x.n then x.g x.n else p.2)=_;rw[Na];rfl
  |succ k=>
   have:=c k (by simpa using hk)
   rw[show x.n+1+k=x.n+(k+1) by omega]at this;rw[this];simp
def WD (l:3000000<=N){laws:Sl Law}(hl:S9 laws){w:Sl Qz}(hw:okA w) :∃s e,O3 N laws w=some (s,e)/\((e=0/\CU N laws/\s.n=laws.n+1/\s.g 0=w/\(∀k,k<=laws.n->wOk (s.g k))/\∀k,k<laws.n->HI N (laws.g k) (s.g k)=some (s.g (k+1))) \/ e≠0):=by
 obtain⟨e,e1,m⟩:=DC l hl (w:=w) hw;unfold O3;rw[e1,Aq5];by_cases i:e=0
 case neg=>rw[Nd (by simpa using i)];exact⟨_,_,rfl,.inr i⟩
 subst i;rw[Nf (by decide)];rcases m with⟨_,h⟩ | ⟨h1,o⟩
 .exact Ng rfl h
 have b:=lawsE_zero.1 h1;have d:=(O0 o).1 rfl;have q:=b.1;have a:∀c,Af N c laws w=(P7 (0,w) (N6 N (F8 N c laws) w 0)).bind fun L1=>K5 L1 (fun f (x1:Int×(Sl Qz)) (z1:Sl (Sl Qz))=>
  (A2 N x1.2).bind fun y4=>
  if ((z1.n+(Sl.of [y4]:Sl (Sl Qz)).n)*24<=140737488355328/\z1.n+(Sl.of [y4]:Sl (Sl Qz)).n<=140737488355328)then
   f (z1.push y4)
  else none
  ) (fun (z1:Sl (Sl Qz))=>some z1) Qy:=by
  intro c;unfold Af M4 H6;rw[Aq5,Ny d,Aq5];rfl
 rcases Ub l hl b laws.n 0 w d (by omega) (by omega)with⟨L,g1,g2,g3,g4⟩ | ⟨L,g1,g2,g3⟩
 .have g1:N6 N (F8 N 0 laws) w 0=some L:=g1 N (by omega);rw[Nat.sub_zero]at g2 g3 g4;have r:∀p∈((0:Int),w)::L,wOk p.2:=by
   intro p hp;obtain⟨k,hk,rfl⟩:=Ay6.1 hp;have j:k<=L.length:=by simp only[As6]at hk;omega
   have:=Kn L 0 w k j
   rw[Aq1,Aq4 hk,Ar3]at this;rw[this];exact g3 k (by omega)
  obtain⟨s,s1,s2,_,s4⟩:=Nz N (((0:Int),w)::L) Qy (by show 0+(L.length+1)<_;omega) r;have e0:Af N 0 laws w=some s:=by rw[a,g1];exact s1
  rw[e0];have hs:∀k,k<=laws.n->s.g k=Rn w L k:=by
   intro k hk
   have:=s4 k (by simp only[As6];omega)
   rw[show Qy.n+k=k from At5 k]at this;rw[this,Kn L 0 w k (by omega)]
  refine⟨s,0,rfl,.inl ⟨rfl,b,?_,?_,fun k hk=>?_,fun k hk=>?_⟩⟩
  .rw[s2];show 0+(L.length+1)=_;omega
  .rw[hs 0 (by omega)];cases L<;>rfl
  .rw[hs k hk];exact g3 k hk
  rw[hs k (by omega),hs (k+1) (by omega)]
  have:=g4 k hk
  rwa [At5]at this
 obtain⟨g4,g5⟩:=g3 N (by omega);have g4:N6 N (F8 N 0 laws) w 0=none:=g4;have g5:N6 N (F8 N 11 laws) w 0=some L:=g5;obtain⟨s,s1,_⟩:=Nz N (((0:Int),w)::L) Qy (by show 0+(L.length+1)<_;omega) (fun p hp=>by
  rcases At6.1 hp with rfl|hp
  .exact d
  exact g1 p hp)
 have e0:Af N 0 laws w=none:=by rw[a,g4];rfl
 have e11:Af N 11 laws w=some s:=by rw[a,g5];exact s1
 rw[e0,e11];exact⟨_,11,rfl,.inr (by decide)⟩
def WE {α : Type}(s:Sl α)(k:Nat):(s.drop k).toList=s.toList.drop k:=by have hn:(s.drop k).n=s.n-k:=rfl;refine List.ext_getElem (by rw[As5,U5,U5,hn]) fun i h1 a=>?_;rw[List.getElem_drop];simp[Sl.toList,Sl.drop,AJ3]
def WF (l:3000000<=N){laws:Sl Law}(hl:S9 laws){v:Sl Qz}(t:okA v) :∃r,X3 N laws v=some r/\(r.2=0->r.1.n=0->∀k,k<=laws.n->gv N (laws.drop k) v v=true):=by
 obtain⟨s,e,e1,m⟩:=WD l hl t;unfold X3;refine B0 e1 ?_;rcases m with⟨rfl,a,h1,w,o,h4⟩ | m
 case inr=>exact ifT (by simpa using m) ⟨_,rfl,fun h=>Ng h m⟩
 have h64:=a.1;refine Hs ?_;dsimp only;refine Ai (fun i x1 x2=>x2=(i:Int)/\x1.n<=i/\(x1.n=0->∀j,j<i->SE (s.g j) (s.g (j+1)))) laws.n _ (by omega) ⟨rfl,by exact Aq9 _,fun _ j hj=>Ng hj (by omega)⟩ ?_;rintro self i x1 x2 hi ⟨rfl,hx,q⟩ hs;by_cases c:i<laws.n
 .have ew:wrap .i64 ((i:Int)+1)=((i+1:Nat):Int):=Iz;have k0:=o i (by omega);have k1:=o (i+1) (by omega);have b0:=k0.1;have b1:=k1.1;rw[ew];refine Ba (Al ?_);rw[Aq6,Aq6];obtain⟨b,q1,q2⟩:=Wz (N:=N) (x:=s.g i) (y:=s.g (i+1)) (by omega) (by omega);refine B0 q1 ?_;cases b with
  |false=>
   refine ifT rfl (Al (B0 (Ny k0) (Al (B0 (Ny k1) (ifT ?_ (hs c _ _ ⟨rfl,?_,fun h=>?_⟩))))))
   .show (x1.n+1)*56<=_/\x1.n+1<=_;omega
   .show x1.n+1<=i+1;omega
   exact Ng h (by show ¬(x1.n+1=0);omega)
  |true=>
   refine Iy (hs c _ _ ⟨rfl,by omega,fun h j hj=>?_⟩);by_cases ej:j=i
   .subst ej;exact q2.1 rfl
   exact q h j (by omega)
 refine Ft ⟨(x1,0),rfl,fun _ hn=>?_⟩;have q:=q hn;obtain rfl:i=laws.n:=by omega
 have d:∀k,k<=laws.n->SE (s.g k) v:=by
  intro k
  induction k with
  |zero=>intro _;rw[w];exact SE.refl _
  |succ k ih=>exact fun hk=>(q k (by omega)).symm.trans (ih (by omega))
 intro k hk;have f:wOk v:=by rw[<- w];exact o 0 (by omega)
 obtain⟨u,u1,u2⟩:=WC l hl a o h4 d (laws.n-k) k v (by omega) f (d k hk).symm;refine ((SD (N:=N) l (DE hl k) (LS.refl _) (SE.refl v) t (SE.refl v)).2.2).2 ?_;rcases Rm l (DE hl k) (Rk a k) f with⟨z,f1,f2,_⟩ | ⟨f1,_⟩
 .rw[WE]at f1;rw[u1]at f1;obtain rfl:=As9 f1;exact⟨_,f2,rfl,u2⟩
 rw[WE,u1]at f1;cases f1
def Kv (f:3000000<=N)(d:S7 N=some true){laws:Sl Law}(hl:S9 laws){v:Sl Qz}(g:okA v):X7 N laws v=some true:=by
 refine isT.eq ?_;unfold X7;obtain⟨r,u⟩:=YE (N:=N) (by omega) laws;refine B0 u ?_;by_cases q:decide (4<r)=true
 .exact ifT q (B0 d ⟨true,rfl,rfl⟩)
 refine ifF q ?_;obtain⟨e,s,s',p1,_,w,p3,_,p5,_⟩:=TZ f hl g g;obtain⟨t,t1,ht⟩:=WF f hl g;refine B0 p1 (B0 t1 ?_);by_cases hc:(((decide (8<(laws.n:Int)))||(e != 0))||(t.2 != 0))=true
 .exact ifT hc (B0 d ⟨true,rfl,rfl⟩)
 refine ifF hc ?_;simp only[At0,Nj,bne_iff_ne,ne_eq,not_or,Classical.not_not]at hc;obtain⟨⟨c1,c2⟩,c3⟩:=hc;obtain⟨x,j,_⟩:=w.1 c2;rw[Nd c2]at p3;have c1:laws.n<=8:=by omega
 have a:gv N (laws.drop laws.n) v v=true:=(Ua f (by show laws.n-laws.n=0;omega) j).2 (SE.refl v);obtain⟨b,b1,b2⟩:=Ag0 (N:=N) (l:=s) (by omega) (by omega) (laws.n:Int);have hb:b=true:=b2.2 (by rw[p3];exact (Ag3 (Aq9 _)).2 a);subst hb;refine B0 b1 (Iy ?_);by_cases m:((t.1.n:Int)==0)=true
 .have o : t.1.n=0:=by simpa using m
  have c:=ht c3 o;have hn:s.n=laws.n+1:=by
   rw[tl_n p3]
   have:plL N laws v v=Ku (fun _=>true) (laws.n+1) 0:=Ml fun i _ h=>c i (by omega)
   rw[this];unfold Ku;rw[List.filter_eq_self.2 (by simp),Au9,AJ0];omega
  refine ifT m (ltX (ifT ?_ (B0 d ⟨true,rfl,rfl⟩)));dsimp only;rw[hn,E8 (by omega) (by omega)];simp
 exact ifF m (B0 d ⟨true,rfl,rfl⟩)
end Go.AM
namespace Go.AM
set_option maxRecDepth 1000000
def SK:S7 4194304=some true:=by decide +kernel
end Go.AM
