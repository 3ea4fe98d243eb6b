/- What a law's walk and its plain proof need, part 8: no condition of its own. -/
import Derived.Test.YtegikiijkjlikaaGreatDoorCmG
import Derived.Test.YtegikiijkjlikaaGreatDoorCmF
set_option linter.defProp false
set_option linter.unusedSimpArgs false
set_option linter.unusedVariables false
set_option linter.unusedSectionVars false
set_option linter.unusedVariables false
namespace Go.AM
open IntKind (wrap)
def AX9:=@Nat.not_lt_zero
open Go.Proofs
theorem Tt {N:Nat}{s:Sl AW}(hN:s.n<N)(hs:s.n<1000000){f:AW->Option Bool}{b:Nat->Bool}(hf:∀i,i<s.n->f (s.g i)=some (b i)) :∃r,C5 N s f=some r/\(r=true ↔ ∃i,i<s.n/\b i=true):=by
 unfold C5 E7
 have:∃y,U3 N (fun (self1:Int->Option Int) (x1:Int)=>
  if (decide (x1<(s.n:Int)))=true then
   if ((0:Int)<=x1/\x1<(s.n:Int))then
    (f (s.g x1.toNat)).bind fun y3=>
    if y3=true then
     some x1
    else
     self1 (wrap .i64 (x1+1))
   else none
  else
   some (-1)) 0=some y/\(0<=y ↔ ∃i,i<s.n/\b i=true):=by
  refine Cg (fun i x1=>x1=(i:Int)/\∀j,j<i->b j=false) s.n _ hN ⟨rfl,fun j hj=>absurd hj (by omega)⟩ ?_;rintro self i x1 hi ⟨rfl,h⟩ hs2;by_cases hl:i<s.n
  ·refine ifT (by simp;omega) (ifT (by omega) (B4 (by rw[AR8];exact hf i hl) ?_));cases hb:b i
   ·refine ifF (by simp) (hs2 hl _ ⟨C0 (by omega),fun j hj=>?_⟩);by_cases e:j=i
    ·subst e;exact hb
    ·exact h j (by omega)
   ·exact ifT rfl ⟨i,rfl,fun _=>⟨i,hl,hb⟩,fun _=>by omega⟩
  ·refine ifF (by simp;omega) ⟨-1,rfl,fun h=>absurd h (by decide),?_⟩;rintro⟨j,hj,hb⟩;rw[h j (by omega)]at hb;cases hb
 obtain⟨y,e,hy⟩:=this;exact B4 e ⟨_,rfl,by rw[decide_eq_true_eq];exact hy⟩
def Ku (l:Law):Prop:=okL l/\l.Name.length<1100000/\l.If.n<1100000/\l.Out.n<1100000/\∀i,i<l.Out.n->okO (l.Out.g i)
theorem Zi {N:Nat}{s:Sound}(hs:okS s):∃b,F6 N s=some b/\(b=true↔vS s):=by obtain⟨p,m,e⟩:=hs;exact⟨vB p m,by rw[e];exact Bp p m,(VF e).symm⟩
theorem Zj {N:Nat}(hN:1000<=N){s:Sound}(hs:okS s):∃b,H0 N s=some b/\(b=true↔vS s):=by obtain⟨p,m,e⟩:=hs;exact⟨vB p m,by rw[e];exact Z2 p m hN,(VF e).symm⟩
theorem At5 {N:Nat}{x:AW}(hx:okO x){k:Int}(h:T5 N x k=some true):x.From<k/\(x.Take≠0->0<=x.Of/\x.Of<k):=by
 obtain⟨⟨a,b,hset⟩,_,_⟩:=hx;unfold T5 at h;simp only[lt,hset,Bp,AS1]at h;by_cases h1:x.From < -1
 ·simp[h1]at h
 by_cases h2:k<=x.From
 ·simp[h1,h2]at h
 refine⟨by omega,fun ht=>?_⟩;simp only[h1,h2,decide_false,AS6,if_false]at h;by_cases h3:(!vB a b)=true
 ·rw[if_pos h3]at h;cases h
 rw[if_neg h3]at h;split at h
 ·cases h
 ·rw[if_neg (by simp[ht])]at h;simpa using h
def chkAll (N:Nat)(l:Law):Prop:=BB N l.Name=some true/\chk 40 [l.Left]/\chk 40 [l.Right]/\l.If.n<=4/\l.Out.n<=6/\l.If.n+l.Out.n≠0/\1<=l.Mode/\l.Mode<=3/\(∀i,i<l.If.n->vS (l.If.g i))/\∀i,i<l.Out.n->T5 N (l.Out.g i) l.If.n=some true
def AH0 (N:Nat)(l:Law)(e:Int):Prop:=(e=0/\chkAll N l) \/ (e=17/\¬chkAll N l)
def AK0 (l:Law):Prop:=okL l/\chk 40 [l.Left]/\chk 40 [l.Right]/\l.If.n<=4/\AJ9 l/\l.If.n+l.Out.n≠0/\1<=l.Mode/\l.Mode<=3
theorem chkAll.f {N:Nat}{l:Law}(hl:Ku l)(h:chkAll N l):AK0 l:=by obtain⟨_,h1,h2,h3,h4,h5,h6,h7,h8,h9⟩:=h;exact⟨hl.1,h1,h2,h3,⟨h4,fun i hi=>⟨hl.2.2.2.2 i hi,At5 (hl.2.2.2.2 i hi) (h9 i hi)⟩⟩,h5,h6,h7⟩
theorem Zk {N:Nat}(hN:3000000<=N){l:Law}(hl:Ku l):∃e,W6 N l=some e/\AH0 N l e:=by
 have hb1:=hl.2.1;have hb2:=hl.2.2.1;have hb3:=hl.2.2.2.1;unfold W6;obtain⟨b0,e0,e0'⟩:=Ts (N:=N) (s:=l.Name) (by omega) (by omega);refine B4 e0 ?_;cases b0
 ·exact ifT rfl ⟨17,rfl,.inr ⟨rfl,fun h=>by have:=h.1;rw[e0']at this;cases this⟩⟩
 refine ifF (by simp) ?_;obtain⟨y2,e2,h2⟩:=QF (N:=N) (by omega) hl.1.1;refine B4 e2 ?_;by_cases c2:y2=0
 case neg=>exact ifT (by simpa using c2) ⟨17,rfl,.inr ⟨rfl,fun h=>c2 (h2.2 h.2.1)⟩⟩
 refine ifF (by simp[c2]) ?_;obtain⟨y3,e3,h3⟩:=QF (N:=N) (by omega) hl.1.2.1;refine B4 e3 ?_;by_cases c3:y3=0
 case neg=>exact ifT (by simpa using c3) ⟨17,rfl,.inr ⟨rfl,fun h=>c3 (h3.2 h.2.2.1)⟩⟩
 refine ifF (by simp[c3]) ?_;by_cases c4:4<l.If.n
 ·exact ifT (by simp;omega) ⟨17,rfl,.inr ⟨rfl,fun h=>by have:=h.2.2.2.1;omega⟩⟩
 refine ifF (by simp;omega) ?_;by_cases c5:6<l.Out.n
 ·exact ifT (by simp;omega) ⟨17,rfl,.inr ⟨rfl,fun h=>by have:=h.2.2.2.2.1;omega⟩⟩
 refine ifF (by simp;omega) ?_;rw[Dp (by omega)];by_cases c6:l.If.n+l.Out.n=0
 ·exact ifT (by rw[c6];rfl) ⟨17,rfl,.inr ⟨rfl,fun h=>h.2.2.2.2.2.1 c6⟩⟩
 refine ifF (by simp;omega) ?_;by_cases c7:l.Mode<1 \/ 3<l.Mode
 ·exact ifT (by simp;omega) ⟨17,rfl,.inr ⟨rfl,fun h=>by have g1:=h.2.2.2.2.2.2.1;have g2:=h.2.2.2.2.2.2.2.1;omega⟩⟩
 refine ifF (by simp;omega) ?_;have hv:∀i,∃b,i<l.If.n->Y8 N (l.If.g i)=some b/\(b=true ↔ ¬vS (l.If.g i)):=by
  intro i;by_cases hi:i<l.If.n
  ·obtain⟨b,eb,hb⟩:=Zi (N:=N) (hl.1.2.2 i hi);refine⟨!b,fun _=>⟨by unfold Y8;rw[eb];rfl,?_⟩⟩;rw[<- hb];simp
  ·exact⟨false,fun h=>absurd h hi⟩
 obtain⟨f,hf⟩:=AZ9 hv;obtain⟨y4,e4,h4⟩:=Kc (N:=N) (w:=l.If) (by omega) (by omega) (f:=fun u1=>Y8 N u1) (fun i hi=>(hf i hi).1);refine B4 e4 ?_;cases hy4:y4
 case true=>obtain⟨i,hi,hb⟩:=h4.1 hy4;exact ifT rfl ⟨17,rfl,.inr ⟨rfl,fun h=>(hf i hi).2.1 hb (h.2.2.2.2.2.2.2.2.1 i hi)⟩⟩
 refine ifF (by simp) ?_;have ho:∀i,∃b,i<l.Out.n->Y7 N (l.Out.g i) (l.If.n:Int)=some b/\(b=true ↔ ¬T5 N (l.Out.g i) l.If.n=some true):=by
  intro i;by_cases hi:i<l.Out.n
  ·obtain⟨b,eb,_⟩:=Xe (N:=N) (by omega) (hl.2.2.2.2 i hi) (l.If.n:Int);refine⟨!b,fun _=>⟨by unfold Y7;rw[eb];rfl,?_⟩⟩;rw[eb];simp
  ·exact⟨false,fun h=>absurd h hi⟩
 obtain⟨g,hg⟩:=AZ9 ho;obtain⟨y5,e5,h5⟩:=Tt (N:=N) (s:=l.Out) (by omega) (by omega) (f:=fun u2=>Y7 N u2 (l.If.n:Int)) (fun i hi=>(hg i hi).1);refine B4 e5 ?_;cases hy5:y5
 case true=>obtain⟨i,hi,hb⟩:=h5.1 hy5;exact ifT rfl ⟨17,rfl,.inr ⟨rfl,fun h=>(hg i hi).2.1 hb (h.2.2.2.2.2.2.2.2.2 i hi)⟩⟩
 refine ifF (by simp) ⟨0,rfl,.inl ⟨rfl,e0',h2.1 c2,h3.1 c3,by omega,by omega,c6,by omega,by omega,fun i hi=>?_,fun i hi=>?_⟩⟩
 ·refine AV5 fun hn=>?_
  have:=h4.2 ⟨i,hi,(hf i hi).2.2 hn⟩
  rw[hy4]at this;cases this
 ·refine AV5 fun hn=>?_
  have:=h5.2 ⟨i,hi,(hg i hi).2.2 hn⟩
  rw[hy5]at this;cases this
theorem Zl {N:Nat}(hN:3000000<=N){l:Law}(hl:Ku l):∃e,W2 N l=some e/\AH0 N l e:=by
 have hb1:=hl.2.1;have hb2:=hl.2.2.1;have hb3:=hl.2.2.2.1;unfold W2;obtain⟨b0,e0,e0'⟩:=Ts (N:=N) (s:=l.Name) (by omega) (by omega);refine B4 e0' (ltX ?_);cases b0
 ·exact ifT rfl (ifT rfl ⟨17,rfl,.inr ⟨rfl,fun h=>by have:=h.1;rw[e0']at this;cases this⟩⟩)
 refine ifF (by simp) ?_;obtain⟨y2,e2,h2⟩:=MI (N:=N) (by omega) hl.1.1;refine B4 e2 ?_;by_cases c2:y2=0
 case neg=>exact ifT (by simpa using c2) (ifT rfl ⟨17,rfl,.inr ⟨rfl,fun h=>c2 (h2.2 h.2.1)⟩⟩)
 refine ifF (by simp[c2]) ?_;obtain⟨y3,e3,h3⟩:=MI (N:=N) (by omega) hl.1.2.1;refine B4 e3 ?_;by_cases c3:y3=0
 case neg=>exact ifT (by simpa using c3) ⟨17,rfl,.inr ⟨rfl,fun h=>c3 (h3.2 h.2.2.1)⟩⟩
 refine ifF (by simp[c3]) ?_;rw[Dp (by omega)];by_cases hall:l.If.n<=4/\l.Out.n<=6/\l.If.n+l.Out.n≠0/\1<=l.Mode/\l.Mode<=3
 case neg=>refine ifT ?_ ⟨17,rfl,.inr ⟨rfl,fun h=>hall ⟨h.2.2.2.1,h.2.2.2.2.1,h.2.2.2.2.2.1,h.2.2.2.2.2.2.1,h.2.2.2.2.2.2.2.1⟩⟩⟩;simp only[AT6,decide_eq_true_eq,beq_iff_eq];omega
 refine ifF (by simp only[AT6,decide_eq_true_eq,beq_iff_eq];omega) ?_;obtain⟨c4,c5,c6,c7,c8⟩:=hall;refine Cg (fun i x1=>x1=(i:Int)/\∀j,j<i->vS (l.If.g j)) l.If.n _ (by omega) ⟨rfl,fun j hj=>absurd hj (by omega)⟩ ?_;rintro self i x1 hi ⟨rfl,h⟩ hs;by_cases hlt:i<l.If.n
 ·obtain⟨b,eb,hb⟩:=Zj (N:=N) (by omega) (hl.1.2.2 i hlt);refine ifT (by simp;omega) (ifT (by omega) (B4 (by rw[AR8];exact eb) ?_));cases b
  ·exact ifT rfl ⟨17,rfl,.inr ⟨rfl,fun h=>by have:=hb.2 (h.2.2.2.2.2.2.2.2.1 i hlt);cases this⟩⟩
  ·refine ifF (by simp) (hs hlt _ ⟨C0 (by omega),fun j hj=>?_⟩);by_cases e:j=i
   ·subst e;exact hb.1 rfl
   ·exact h j (by omega)
 refine ifF (by simp;omega) ?_;have hV:∀j,j<l.If.n->vS (l.If.g j):=fun j hj=>h j (by omega);refine Cg (fun i x1=>x1=(i:Int)/\∀j,j<i->T5 N (l.Out.g j) l.If.n=some true) l.Out.n _ (by omega) ⟨rfl,fun j hj=>absurd hj (by omega)⟩ ?_;rintro self2 k x2 hk ⟨rfl,h'⟩ hs2;by_cases hlk:k<l.Out.n
 ·obtain⟨b,eb,eb'⟩:=Xe (N:=N) (by omega) (hl.2.2.2.2 k hlk) (l.If.n:Int);refine ifT (by simp;omega) (ifT (by omega) (B4 (by rw[AR8];exact eb') ?_));cases b
  ·exact ifT rfl ⟨17,rfl,.inr ⟨rfl,fun h=>by have:=h.2.2.2.2.2.2.2.2.2 k hlk;rw[eb]at this;cases this⟩⟩
  ·refine ifF (by simp) (hs2 hlk _ ⟨C0 (by omega),fun j hj=>?_⟩);by_cases e:j=k
   ·subst e;exact eb
   ·exact h' j (by omega)
 ·exact ifF (by simp;omega) ⟨0,rfl,.inl ⟨rfl,e0',h2.1 c2,h3.1 c3,c4,c5,c6,c7,c8,hV,fun j hj=>h' j (by omega)⟩⟩
theorem Tu {N:Nat}{l:Law}{e e' : Int}(h:AH0 N l e)(h' : AH0 N l e'):e=e':=by
 rcases h with⟨rfl,h⟩ | ⟨rfl,h⟩<;>rcases h' with⟨rfl,h'⟩ | ⟨rfl,h'⟩
 ·rfl
 ·exact absurd h h'
 ·exact absurd h' h
 ·rfl
theorem Er {N:Nat}(hN:3000000<=N){l:Law}(hl:Ku l):∃e,W6 N l=some e/\W2 N l=some e/\AH0 N l e:=by obtain⟨e,h,c⟩:=Zk hN hl;obtain⟨e',h',c'⟩:=Zl hN hl;obtain rfl:=Tu c c';exact⟨_,h,h',c⟩
end Go.AM
set_option linter.unusedVariables false
namespace Go.AM
open Go.Proofs
def PE:Pat->Pat->Prop
 |.nil,q=>q.Kind=0/\q.Is=default/\q.Not=false/\q.Min=0/\q.Max=0/\q.L.n=0
 |.mk k is no mn mx n g,q=>q.Kind=k/\q.Is=is/\q.Not=no/\q.Min=mn/\q.Max=mx/\q.L.n=n/\∀i,i<n->PE (g i) (q.L.g i)
theorem PE_of {p q:Pat}:PE p q↔q.Kind=p.Kind/\q.Is=p.Is/\q.Not=p.Not/\q.Min=p.Min/\q.Max=p.Max/\q.L.n=p.L.n/\∀i,i<p.L.n->PE (p.L.g i) (q.L.g i):=by
 cases p with
 |nil=>exact⟨fun h=>⟨h.1,h.2.1,h.2.2.1,h.2.2.2.1,h.2.2.2.2.1,h.2.2.2.2.2,fun i hi=>absurd hi (AX9 i)⟩,fun h=>⟨h.1,h.2.1,h.2.2.1,h.2.2.2.1,h.2.2.2.2.1,h.2.2.2.2.2.1⟩⟩
 |mk k is no mn mx n g=>exact Bc0
theorem VN:∀p:Pat,PE p p
 |.nil=>⟨rfl,rfl,rfl,rfl,rfl,rfl⟩
 |.mk k is no mn mx n g=>⟨rfl,rfl,rfl,rfl,rfl,rfl,fun i _=>VN (g i)⟩
theorem VO:∀{p q:Pat},PE p q->PE q p
 |.nil,q,h=>PE_of.2 ⟨h.1.symm,h.2.1.symm,h.2.2.1.symm,h.2.2.2.1.symm,h.2.2.2.2.1.symm,h.2.2.2.2.2.symm,fun i hi=>absurd hi (by rw[h.2.2.2.2.2];exact AX9 i)⟩
 |.mk k is no mn mx n g,q,h=>PE_of.2 ⟨h.1.symm,h.2.1.symm,h.2.2.1.symm,h.2.2.2.1.symm,h.2.2.2.2.1.symm,h.2.2.2.2.2.1.symm,fun i hi=>VO (h.2.2.2.2.2.2 i (by rw[<- h.2.2.2.2.2.1];exact hi))⟩
theorem Pp {n:Nat}{Q Q' : Nat->Nat->Nat->Prop}:∀{m:Nat},(∀i,i<m->Q i=Q' i)->YK n Q m=YK n Q' m
 |0,_=>rfl
 |m+1,h=>by funext a b;simp only[YK];rw[Pp fun i hi=>h i (by omega),h m (by omega)]
theorem AH1 {w:Sl Sound}:∀(d:Nat) {p q:Pat},okP d p->PE p q->PR w p=PR w q
 |0,p,q,h,_=>h.elim
 |d+1,p,q,h,e=>by
  obtain⟨e1,e2,e3,e4,e5,e6,e7⟩:=PE_of.1 e;have ih:∀i,i<p.L.n->PR w (p.L.g i)=PR w (q.L.g i):=fun i hi=>AH1 d (h.2.2 i hi) (e7 i hi);funext a b;apply propext;rw[Kt,Kt,e1,e2,e3,e4,e5,e6];have h3:YK w.n (fun i=>PR w (p.L.g i)) p.L.n=YK w.n (fun i=>PR w (q.L.g i)) p.L.n:=Pp ih;have h4:(∃i,i<p.L.n/\PR w (p.L.g i) a b) ↔ ∃i,i<p.L.n/\PR w (q.L.g i) a b:=⟨fun⟨i,hi,g⟩=>⟨i,hi,by rw[<- ih i hi];exact g⟩,fun⟨i,hi,g⟩=>⟨i,hi,by rw[ih i hi];exact g⟩⟩;rw[h3,h4];by_cases h5:p.Kind=5
  ·have:=(h.2.1 h5).1
   rw[ih 0 (by omega)]
  ·simp[h5]
theorem At6 {p q:Pat}(e:PE p q):GA p↔GA q:=by obtain⟨e1,e2,e3,e4,e5,e6,_⟩:=PE_of.1 e;unfold GA;rw[e1,e2,e3,e4,e5,e6]
def PEs:List Pat->List Pat->Prop
 |[],[]=>True
 |p::l,q::m=>PE p q/\PEs l m
 |_,_=>False
theorem Ah5:∀{a b c d:List Pat},PEs a b->PEs c d->PEs (a++c) (b++d)
 |[],[],_,_,_,h=>h
 |_::_,_::_,_,_,⟨h1,h2⟩,h=>⟨h1,Ah5 h2 h⟩
 |[],_::_,_,_,h,_=>h.elim
 |_::_,[],_,_,h,_=>h.elim
theorem Tv {f g:Nat->Pat}:∀(l:List Nat),(∀i∈l,PE (f i) (g i))->PEs (l.map f) (l.map g)
 |[],_=>trivial
 |i::l,h=>⟨h i (by simp),Tv l fun j hj=>h j (by simp[hj])⟩
theorem Ay2:∀(k:Nat) (l m:List Pat),PEs l m->(chk k l↔chk k m)
 |0,[],[],_=>Bc0
 |0,p::l,q::m,_=>⟨fun h=>(by cases h),fun h=>by cases h⟩
 |k+1,[],[],_=>Bc0
 |k+1,p::l,q::m,⟨h1,h2⟩=>by
  obtain⟨_,_,_,_,_,e6,e7⟩:=PE_of.1 h1;show GA p/\chk k (p.L.toList++l)↔GA q/\chk k (q.L.toList++m);rw[At6 h1,Ay2 k _ _ (Ah5 (c:=l) (d:=m) (show PEs p.L.toList q.L.toList by unfold Sl.toList;rw[e6];exact Tv _ fun i hi=>e7 i (AW2.1 hi)) h2)]
 |_,[],_::_,h=>h.elim
 |_,_::_,[],h=>h.elim
theorem Jo {p q:Pat}(h:PE p q):chk 40 [p]↔chk 40 [q]:=Ay2 40 [p] [q] ⟨h,trivial⟩
theorem okPS_of {p:Pat}:okPS p↔okS p.Is/\∀i,i<p.L.n->okPS (p.L.g i):=by
 cases p with
 |nil=>exact⟨fun _=>⟨⟨0#32,0#32,rfl⟩,fun i hi=>absurd hi (AX9 i)⟩,fun _=>trivial⟩
 |mk k is no mn mx n g=>exact Bc0
theorem ML:∀{p q:Pat},PE p q->okPS p->okPS q
 |.nil,q,h,_=>okPS_of.2 ⟨by rw[h.2.1];exact⟨0#32,0#32,rfl⟩,fun i hi=>absurd hi (by rw[h.2.2.2.2.2];exact AX9 i)⟩
 |.mk k is no mn mx n g,q,h,hp=>okPS_of.2 ⟨by rw[h.2.1];exact hp.1,fun i hi=>by
  have hi:i<n:=by rw[<- h.2.2.2.2.2.1];exact hi
  exact ML (h.2.2.2.2.2.2 i hi) (hp.2 i hi)⟩
end Go.AM
set_option linter.unusedVariables false
namespace Go.AM
open IntKind (wrap)
open Go.Proofs
theorem nf:(!false)=true:=rfl
theorem AH2 {α : Type}{s t:Sl α}(h:s.n=0):s.app t=t:=by cases t;simp[Sl.app,h]
def Ay3 {α : Type}[Inhabited α](s:Sl (Sl α)):Nat->Sl α
 |0=>Sl.nil
 |k+1=>(Ay3 s k).app (s.g k)
theorem Ay4 {α : Type}[Inhabited α](s:Sl (Sl α)){B:Nat}:∀k,(∀i,i<k->(s.g i).n<=B)->(Ay3 s k).n<=k*B
 |0,_=>by simp[Ay3]
 |k+1,h=>by
  have:=Ay4 s k fun i hi=>h i (by omega)
  have:=h k (by omega)
  show (Ay3 s k).n+(s.g k).n<=_;rw[Be4];omega
theorem VP {N:Nat}{s:Sl (Sl Sound)}(hn:s.n<1000)(hN:1000<=N)(hs:∀i,i<s.n->(s.g i).n<=3000000) :B0 N s=some (Ay3 s s.n):=by
 suffices h:∃r,B0 N s=some r/\r=Ay3 s s.n by obtain⟨r,h,rfl⟩:=h;exact h
 unfold B0;refine T1 (fun (i:Nat) (x1 x2:Int)=>x2=(i:Int)/\0<=x1/\x1<=(i:Int)*3000000) s.n _ (by omega) ⟨rfl,Int.le_refl 0,by simp⟩ ?_;rintro self i x1 x2 hi ⟨rfl,h0,h1⟩ hs2;by_cases hl:i<s.n
 ·have:=hs i hl
  refine ifT (by simp;omega) (ifT (by omega) ?_);rw[AR8,F0 (by omega) (by omega)];exact ifF (by simp;omega) (hs2 hl _ _ ⟨C0 (by omega),by omega,by omega⟩)
 refine ifF (by simp;omega) (B4 (x:=Sl.nil) ?_ ?_)
 ·unfold G3;rw[if_pos (by omega)]
 refine T1 (fun i x1 x2=>x2=(i:Int)/\x1=Ay3 s i) s.n _ (by omega) ⟨rfl,rfl⟩ ?_;rintro self i x1 x2 hi ⟨rfl,rfl⟩ hs2;by_cases hl:i<s.n
 ·have g1:=hs i hl;have g2:=Ay4 s i (B:=3000000) fun j hj=>hs j (by omega);refine ifT (by simp;omega) (ifT ⟨by omega,?_⟩ (hs2 hl _ _ ⟨C0 (by omega),?_⟩))
  ·rw[AR8];omega
  ·rw[AR8];rfl
 ·exact ifF (by simp;omega) ⟨_,rfl,by congr 1;omega⟩
def AK1 (w:Sl Sound)(i k:Nat)(y:Sl Sound):Sl Sound:=((w.take i).app y).app (w.drop (i+k))
theorem Ah6 {w y:Sl Sound}{i k:Nat}(hi:i+k<=w.n)(hw:∀j,j<w.n->vS (w.g j))(hy:∀j,j<y.n->vS (y.g j)):(AK1 w i k y).n=w.n-k+y.n/\∀j,j<(AK1 w i k y).n->vS ((AK1 w i k y).g j):=by
 have hn:(AK1 w i k y).n=w.n-k+y.n:=by show i+y.n+(w.n-(i+k))=_;omega
 refine⟨hn,fun j hj=>?_⟩;rw[hn]at hj;show vS (if j<i+y.n then (if j<i then w.g j else y.g (j-i))else w.g (i+k+(j-(i+y.n))));split
 ·split
  ·exact hw _ (by omega)
  ·exact hy _ (by omega)
 ·exact hw _ (by omega)
def GB (N:Nat)(l:Law)(w:Sl Sound)(i:Nat):Sl Sound:=(N1 N l (w.sub i (i+l.If.n))).getD Sl.nil
def X3 (N:Nat)(l:Law)(w:Sl Sound)(i:Nat):Sl Sound:=AK1 w i l.If.n (GB N l w i)
theorem vOk {w:Sl Sound}(h:wOk w):okW w:=⟨by have:=h.1;omega,fun i hi=>(h.2 i hi).ok⟩
theorem Gf {N:Nat}(hN:1000<=N){l:Law}(ho:AJ9 l){w:Sl Sound}(hw:∀j,j<w.n->vS (w.g j)){i:Nat}(hi:i+l.If.n<=w.n) :N1 N l (w.sub i (i+l.If.n))=some (GB N l w i)/\Bi N l (w.sub i (i+l.If.n))=some (GB N l w i)/\(GB N l w i).n=l.Out.n/\∀j,j<(GB N l w i).n->vS ((GB N l w i).g j):=by
 obtain⟨s,h1,h2,h3,h4⟩:=AG9 hN ho (cut:=w.sub i (i+l.If.n)) (by show i+l.If.n-i=_;omega) fun j hj=>(hw (i+j) (by have:j<i+l.If.n-i:=hj;omega)).ok;have e:GB N l w i=s:=by unfold GB;rw[h1];rfl
 rw[e];exact⟨h1,h2,h3,h4⟩
theorem cat3 (a b c:Sl Sound):Ay3 (Sl.of [a,b,c]:Sl (Sl Sound)) 3=(a.app b).app c:=by show (((Sl.nil:Sl Sound).app a).app b).app c=_;rw[AH2 (s:=(Sl.nil:Sl Sound)) rfl]
theorem Ah7 {N:Nat}(hN:1000<=N){a b c:Sl Sound}(ha:a.n<=3000000)(hb:b.n<=3000000)(hc:c.n<=3000000):B0 N (Sl.of [a,b,c]:Sl (Sl Sound))=some ((a.app b).app c):=by
 have h:=VP (N:=N) (s:=(Sl.of [a,b,c]:Sl (Sl Sound))) (by show 3<1000;omega) hN fun i hi=>by
  match i,hi with
  |0,_=>exact ha
  |1,_=>exact hb
  |2,_=>exact hc
 rw[h];exact congrArg some (cat3 a b c)
theorem EV {N:Nat}(hN:1000<=N){l:Law}(ho:AJ9 l){w:Sl Sound}(hwn:w.n<1000)(hw:∀j,j<w.n->vS (w.g j)){i:Nat}(hi:i+l.If.n<=w.n) :P5 N l w i=some (X3 N l w i)/\P4 N l w i=some (X3 N l w i):=by
 obtain⟨h1,h2,h3,h4⟩:=Gf hN ho hw hi;have h6:=ho.1;constructor
 ·unfold P5;rw[Dp (by omega),if_pos (by omega),AR8,AR8,h1,AS1,if_pos (by omega),
   Ah7 hN (by show i<=_;omega) (by omega) (by show w.n-(i+l.If.n)<=_;omega)]
  rfl
 ·unfold P4;rw[Dp (by omega),AR8,AR8,AH2 (s:=(Sl.of []:Sl Sound)) rfl,if_pos ⟨by omega,by show (0+i)*8<=_/\0+i<=_;omega⟩,if_pos (by omega),h2,AS1,
   if_pos (by show (i+(GB N l w i).n)*8<=_/\i+(GB N l w i).n<=_;omega),if_pos ⟨by omega,by show (i+(GB N l w i).n+(w.n-(i+l.If.n)))*8<=_/\i+(GB N l w i).n+(w.n-(i+l.If.n))<=_;omega⟩]
  rfl
def SE {α : Type}(s t:Sl α):Prop:=s.n=t.n/\∀i,i<s.n->s.g i=t.g i
theorem SE.refl {α : Type}(s:Sl α):SE s s:=⟨rfl,fun _ _=>rfl⟩
theorem SE.symm {α : Type}{s t:Sl α}(h:SE s t):SE t s:=⟨h.1.symm,fun i hi=>(h.2 i (by rw[h.1];exact hi)).symm⟩
theorem SE.trans {α : Type}{s t u:Sl α}(h:SE s t)(h' : SE t u):SE s u:=⟨h.1.trans h'.1,fun i hi=>(h.2 i hi).trans (h'.2 i (by rw[<- h.1];exact hi))⟩
theorem SE.app {α : Type}{s t u v:Sl α}(h:SE s t)(h' : SE u v):SE (s.app u) (t.app v):=⟨by show s.n+u.n=t.n+v.n;rw[h.1,h'.1],fun i hi=>by
 show (if i<s.n then s.g i else u.g (i-s.n))=if i<t.n then t.g i else v.g (i-t.n)
 have hi:i<s.n+u.n:=hi;rw[<- h.1];split
 ·exact h.2 i (by assumption)
 ·exact h'.2 _ (by omega)⟩
theorem SE.drop {α : Type}{s t:Sl α}(h:SE s t)(k:Nat):SE (s.drop k) (t.drop k):=⟨by show s.n-k=t.n-k;rw[h.1],fun i hi=>by have hi:i<s.n-k:=hi;exact h.2 _ (by omega)⟩
theorem SE.take {α : Type}{s t:Sl α}(h:SE s t){k:Nat}(hk:k<=s.n):SE (s.take k) (t.take k):=⟨rfl,fun i hi=>h.2 i (by have hi:i<k:=hi;omega)⟩
theorem SE.sub {α : Type}{s t:Sl α}(h:SE s t){a b:Nat}(hk:b<=s.n):SE (s.sub a b) (t.sub a b):=⟨rfl,fun i hi=>h.2 _ (by have hi:i<b-a:=hi;omega)⟩
theorem SE.v {s t:Sl Sound}(h:SE s t)(hv:∀j,j<s.n->vS (s.g j)):∀j,j<t.n->vS (t.g j):=fun j hj=>by rw[<- h.2 j (by rw[h.1];exact hj)];exact hv j (by rw[h.1];exact hj)
theorem SE.wOk {s t:Sl Sound}(h:SE s t)(hv:wOk s):wOk t:=⟨by rw[<- h.1];exact hv.1,h.v hv.2⟩
theorem QI {w w' : Sl Sound}(h:SE w w'):∀p:Pat,PR w p=PR w' p
 |.nil=>rfl
 |.mk kind is no mn mx m g=>by
  have ih:(fun i=>PR w (g i))=fun i=>PR w' (g i):=funext fun i=>QI h (g i);have ih1:∀i,PR w (g i)=PR w' (g i):=fun i=>congrFun ih i;have e1:∀a,(a<w.n↔a<w'.n):=fun a=>by rw[h.1]
  funext a b;unfold PR;rw[ih];simp only[ih1,<- h.1];by_cases ha:a<w.n
  ·rw[h.2 a ha]
  ·simp[ha]
theorem Zm {l:Law}{w w' : Sl Sound}(h:SE w w'){i:Nat}:Po l w i↔Po l w' i:=by
 suffices H:∀{w w' : Sl Sound},SE w w' -> Po l w i->Po l w' i by exact⟨H h,H h.symm⟩
 intro w w' h;rintro⟨h1,h2,h3,h4,h5,h6,⟨a,ha,ha2⟩,b,hb,hb2⟩;have hn:=h.1;refine⟨by omega,fun j hj=>?_,h3,h4,h.wOk h5,by omega,⟨a,by omega,?_⟩,b,by omega,?_⟩
 ·rw[<- h.2 (i+j) (by omega)];exact h2 j hj
 ·rw[<- QI h];exact ha2
 ·rw[<- QI h];exact hb2
structure LE (l l' : Law):Prop where
 name:l'.Name=l.Name
 left:PE l.Left l'.Left
 right:PE l.Right l'.Right
 cond:SE l.If l'.If
 out:SE l.Out l'.Out
 mode:l'.Mode=l.Mode
theorem LE.refl (l:Law):LE l l:=⟨rfl,VN _,VN _,SE.refl _,SE.refl _,rfl⟩
theorem LE.symm {l l' : Law}(h:LE l l'):LE l' l:=⟨h.name.symm,VO h.left,VO h.right,h.cond.symm,h.out.symm,h.mode.symm⟩
theorem AH3 {l l' : Law}(h:LE l l'){w:Sl Sound}{i:Nat}:Po l w i↔Po l' w i:=by
 suffices H:∀{l l' : Law},LE l l' -> Po l w i->Po l' w i by exact⟨H h,H h.symm⟩
 intro l l' h;rintro⟨h1,h2,h3,h4,h5,h6,⟨a,ha,ha2⟩,b,hb,hb2⟩;have hn:=h.cond.1;refine⟨by omega,fun j hj=>?_,(Jo h.left).1 h3,(Jo h.right).1 h4,h5,by omega,⟨a,ha,?_⟩,b,hb,?_⟩
 ·rw[<- h.cond.2 j (by omega)];exact h2 j (by omega)
 ·rw[<- AH1 40 (MH 40 _ (by omega) h3 _ (by simp)) h.left];exact ha2
 ·rw[<- hn,<- AH1 40 (MH 40 _ (by omega) h4 _ (by simp)) h.right];exact hb2
theorem HA {l l' : Law}(e:LE l l'){w w' : Sl Sound}(h:SE w w'){i:Nat}:Po l w i↔Po l' w' i:=(AH3 e).trans (Zm h)
theorem KJ {l l' : Law}(h:LE l l')(hl:Ku l):Ku l':=by obtain⟨⟨h1,h2,h3⟩,h4,h5,h6,h7⟩:=hl;have hi:=h.cond.1;have ho:=h.out.1;exact⟨⟨ML h.left h1,ML h.right h2,fun i hj=>by rw[<- h.cond.2 i (by omega)];exact h3 i (by omega)⟩,by rw[h.name];exact h4,by omega,by omega,fun i hj=>by rw[<- h.out.2 i (by omega)];exact h7 i (by omega)⟩
theorem AH4 {l l' : Law}(h:LE l l')(hl:AJ9 l):AJ9 l':=by have hi:=h.cond.1;have ho:=h.out.1;exact⟨by rw[<- ho];exact hl.1,fun i hj=>by rw[<- h.out.2 i (by omega),<- hi];exact hl.2 i (by omega)⟩
theorem VQ {l l' : Law}(h:LE l l')(hl:AK0 l):AK0 l':=by obtain⟨⟨h1,h2,h3⟩,h4,h5,h6,h7,h8,h9,h10⟩:=hl;have hi:=h.cond.1;have ho:=h.out.1;have hm:=h.mode;exact⟨⟨ML h.left h1,ML h.right h2,fun i hj=>by rw[<- h.cond.2 i (by omega)];exact h3 i (by omega)⟩,(Jo h.left).1 h4,(Jo h.right).1 h5,by omega,AH4 h h7,by omega,by omega,by omega⟩
theorem Es {N:Nat}{l l' : Law}(h:LE l l'):chkAll N l↔chkAll N l':=by
 suffices H:∀{l l' : Law},LE l l' -> chkAll N l->chkAll N l' by exact⟨H h,H h.symm⟩
 rintro l l' h ⟨h1,h2,h3,h4,h5,h6,h7,h8,h9,h10⟩;have hi:=h.cond.1;have ho:=h.out.1;have hm:=h.mode;exact⟨by rw[h.name];exact h1,(Jo h.left).1 h2,(Jo h.right).1 h3,by omega,by omega,by omega,by omega,by omega,
  fun i hj=>by rw[<- h.cond.2 i (by omega)];exact h9 i (by omega),fun i hj=>by rw[<- h.out.2 i (by omega),<- hi];exact h10 i (by omega)⟩
theorem AH5 {N:Nat}{l l' : Law}(h:LE l l'){e:Int}(he:AH0 N l e):AH0 N l' e:=by
 rcases he with⟨h1,h2⟩ | ⟨h1,h2⟩
 ·exact .inl ⟨h1,(Es h).1 h2⟩
 ·exact .inr ⟨h1,fun g=>h2 ((Es h).2 g)⟩
theorem Ah8 {N:Nat}{l:Law}{c c' : Sl Sound}(h:SE c c'):N1 N l c=N1 N l c':=by
 unfold N1;congr 1;funext self x1 x2;by_cases h1:(decide (x2<(l.Out.n:Int)))=true
 case neg=>rw[if_neg h1,if_neg h1]
 rw[if_pos h1,if_pos h1,<- h.1];have e1:∀y:Int,(0:Int)<=y->y<(c.n:Int)->c.g y.toNat=c'.g y.toNat:=fun y h0 h1=>h.2 _ (by omega);by_cases h2:(0:Int)<=x2/\x2<(l.Out.n:Int)
 case neg=>rw[if_neg h2,if_neg h2]
 rw[if_pos h2,if_pos h2];split
 ·rename_i h3;have e2:(⟨(if (decide (0<=(l.Out.g x2.toNat).From))=true then (c.g (l.Out.g x2.toNat).From.toNat).Plus else 0),(if (decide (0<=(l.Out.g x2.toNat).From))=true then (c.g (l.Out.g x2.toNat).From.toNat).Minus else 0)⟩:Sound) =
   ⟨(if (decide (0<=(l.Out.g x2.toNat).From))=true then (c'.g (l.Out.g x2.toNat).From.toNat).Plus else 0),(if (decide (0<=(l.Out.g x2.toNat).From))=true then (c'.g (l.Out.g x2.toNat).From.toNat).Minus else 0)⟩:=by
   by_cases h4:decide (0<=(l.Out.g x2.toNat).From)=true
   ·have:=h3 h4
    rw[if_pos h4,if_pos h4,if_pos h4,if_pos h4,e1 _ this.1 this.2]
   ·rw[if_neg h4,if_neg h4,if_neg h4,if_neg h4]
  rw[e2];congr 1;funext y5;split
  ·split
   ·rename_i h5;rw[e1 _ h5.1 h5.2]
   ·rfl
  ·rfl
 ·rfl
theorem Zn {N:Nat}{l l' : Law}(h:SE l.Out l'.Out)(c:Sl Sound):N1 N l c=N1 N l' c:=by
 unfold N1;congr 1;funext self x1 x2;rw[<- h.1];by_cases h1:(0:Int)<=x2/\x2<(l.Out.n:Int)
 ·rw[h.2 x2.toNat (by omega)]
 ·by_cases h2:(decide (x2<(l.Out.n:Int)))=true
  ·rw[if_pos h2,if_pos h2,if_neg h1,if_neg h1]
  ·rw[if_neg h2,if_neg h2]
theorem MM {N:Nat}{l l' : Law}(e:LE l l'){w w' : Sl Sound}(h:SE w w'){i:Nat}(hi:i+l.If.n<=w.n):GB N l w i=GB N l' w' i:=by unfold GB;rw[Ah8 (h.sub hi),Zn e.out,<- e.cond.1]
theorem Kd {N:Nat}{l l' : Law}(e:LE l l'){w w' : Sl Sound}(h:SE w w'){i:Nat}(hi:i+l.If.n<=w.n):SE (X3 N l w i) (X3 N l' w' i):=by unfold X3 AK1;rw[MM e h hi,<- e.cond.1];exact ((h.take (by omega)).app (SE.refl _)).app (h.drop _)
def RL:List (Int×Sl Sound)->List (Int×Sl Sound)->Prop
 |[],[]=>True
 |(p,v)::L,(q,u)::M=>p=q/\SE v u/\RL L M
 |_,_=>False
def Jp:Sl Int->Sl (Sl Sound)->List (Int×Sl Sound)->Sl Int×Sl (Sl Sound)×Int
 |x,y,[]=>(x,y,0)
 |x,y,(p,v)::L=>if 32<v.n then (Sl.nil,Sl.nil,11)else Jp (x.push p) (y.push v) L
abbrev Tw:=List (Int×Sl Sound)
def vL (L:Tw):Prop:=∀x∈L,∀j,j<x.2.n->vS (x.2.g j)
theorem Tx:vL []:=fun x hx=>absurd hx (by simp)
theorem VR {x:Int×Sl Sound}{L:Tw}(h:∀j,j<x.2.n->vS (x.2.g j))(hL:vL L):vL (x::L):=fun y hy=>by
 rcases AW0.1 hy with rfl|hy
 ·exact h
 ·exact hL y hy
def Ty (N:Nat)(l:Law)(self2:Sl Sound->Int->Option Tw)(x5:Sl Sound)(x6:Int):Option Tw:=
 if (decide ((wrap .i64 (x6+(l.If.n:Int)))<=(x5.n:Int)))=true then
  (BZ N l x5 x6).bind fun y12=>
  if (!y12)=true then
   self2 x5 (wrap .i64 (x6+1))
  else
   (P5 N l x5 x6).bind fun y13=>
   U5 (x6,y13) (
    if ((l.If.n:Int)==0)=true then
     self2 y13 (wrap .i64 ((wrap .i64 (x6+(l.Out.n:Int)))+1))
    else
     self2 y13 (wrap .i64 (x6+(l.Out.n:Int)))
    )
 else
  some []
abbrev At7:=(Sl Int)×(Sl (Sl Sound))×Int
def Tz (N:Nat)(l:Law)(self1:Sl Sound->Sl Int->Sl (Sl Sound)->Int->Option At7)(x1:Sl Sound)(x2:Sl Int)(x3:Sl (Sl Sound))(x4:Int):Option At7:=
 if (decide ((wrap .i64 (x4+(l.If.n:Int)))<=(x1.n:Int)))=true then
  (Am N l x1 x4).bind fun y5=>
  if (!y5)=true then
   self1 x1 x2 x3 (wrap .i64 (x4+1))
  else
   (P4 N l x1 x4).bind fun y6=>
   if (decide (32<(y6.n:Int)))=true then
    some ((Sl.nil:Sl Int),(Sl.nil:Sl (Sl Sound)),11)
   else
    if (((x2.n+(Sl.of [x4]:Sl Int).n)*8<=140737488355328/\x2.n+(Sl.of [x4]:Sl Int).n<=140737488355328)/\((x3.n+(Sl.of [y6]:Sl (Sl Sound)).n)*24<=140737488355328/\x3.n+(Sl.of [y6]:Sl (Sl Sound)).n<=140737488355328))then
     if ((l.If.n:Int)==0)=true then
      self1 y6 (x2.push x4) (x3.push y6) (wrap .i64 ((wrap .i64 (x4+(l.Out.n:Int)))+1))
     else
      self1 y6 (x2.push x4) (x3.push y6) (wrap .i64 (x4+(l.Out.n:Int)))
    else none
 else
  some (x2,x3,0)
theorem Ah9 {N:Nat}(hN:3000<=N){l l' : Law}(hf:AK0 l)(he:LE l l'):∀(m:Nat) (w w' : Sl Sound) (i:Nat),SE w w' -> w.n<=100->(∀j,j<w.n->vS (w.g j))->i<=200->w.n+1<=i+m ->
 ∃L L',(∀M,m<M->P6 M (Ty N l) w i=some L)/\vL L/\L.length<=m/\RL L L' /\ ∀M x2 x3,m<M->x2.n+m<=1000->x3.n+m<=1000->Ak6 M (Tz N l') w' x2 x3 i=some (Jp x2 x3 L'):=by
 obtain⟨hl,_,_,hk,ho,hko,_,_⟩:=hf;have h6:=ho.1;obtain⟨hl',_,_,hk',ho',_,_,_⟩:=VQ he ⟨hl,‹_›, ‹_›,hk,ho,hko,‹_›, ‹_›⟩;have hif:l'.If.n=l.If.n:=he.cond.1.symm;have hof:l'.Out.n=l.Out.n:=he.out.1.symm;intro m
 induction m with
 |zero=>
  intro w w' i hse hn hv hi hm;have hn':=hse.1;refine⟨[],[],fun M hM=>?_,Tx,AS4 _,trivial,fun M x2 x3 hM _ _=>?_⟩
  ·obtain⟨M,rfl⟩:∃K,M=K+1:=⟨M-1,by omega⟩;rw[D3,Ty,Dp (by omega),if_neg (by simp;omega)]
  ·obtain⟨M,rfl⟩:∃K,M=K+1:=⟨M-1,by omega⟩;rw[S6,Tz,hif,hof,Dp (by omega),if_neg (by simp;omega),Jp]
 |succ m ih=>
  intro w w' i hse hn hv hi hm;have hn':=hse.1;by_cases hle:i+l.If.n<=w.n
  case neg=>
   refine⟨[],[],fun M hM=>?_,Tx,by simp,trivial,fun M x2 x3 hM _ _=>?_⟩
   ·obtain⟨M,rfl⟩:∃K,M=K+1:=⟨M-1,by omega⟩;rw[D3,Ty,Dp (by omega),if_neg (by simp;omega)]
   ·obtain⟨M,rfl⟩:∃K,M=K+1:=⟨M-1,by omega⟩;rw[S6,Tz,hif,hof,Dp (by omega),if_neg (by simp;omega),Jp]
  have hw:okW w:=⟨by omega,fun j hj=>(hv j hj).ok⟩;have hv':=hse.v hv;have hw' : okW w':=⟨by omega,fun j hj=>(hv' j hj).ok⟩;obtain⟨b,e1,h1⟩:=Ah0 hN hl hk hw i (by omega);obtain⟨b',e2,h2⟩:=QG hN hl' hk' hw' i (by omega);obtain rfl:b' = b:=by rw[AU7,h1,h2,HA he hse]
  cases b'
  ·obtain⟨L,L',g1,g2,g3,g5,g4⟩:=ih w w' (i+1) hse hn hv (by omega) (by omega);refine⟨L,L',fun M hM=>?_,g2,by omega,g5,fun M x2 x3 hM hx hy=>?_⟩
   ·obtain⟨M,rfl⟩:∃K,M=K+1:=⟨M-1,by omega⟩;rw[D3,Ty,Dp (by omega),if_pos (by simp;omega),e1,AS1,if_pos nf,C0 (by omega)];exact g1 M (by omega)
   ·obtain⟨M,rfl⟩:∃K,M=K+1:=⟨M-1,by omega⟩;rw[S6,Tz,hif,hof,Dp (by omega),if_pos (by simp;omega),e2,AS1,if_pos nf,C0 (by omega)];exact g4 M x2 x3 (by omega) (by omega) (by omega)
  ·have hit:=h1.1 rfl;have hw32:=hit.2.2.2.2.1.1;have r1:=(EV (N:=N) (by omega) ho (by omega) hv hle).1;have r2:=(EV (N:=N) (l:=l') (w:=w') (i:=i) (by omega) ho' (by omega) hv' (by omega)).2;have hrc:=Kd (N:=N) he hse hle;have hrn:=hrc.1;obtain⟨_,_,p3,p4⟩:=Gf (N:=N) (by omega) ho hv hle;obtain⟨q1,q2⟩:=Ah6 hle hv p4;have q1:(X3 N l w i).n=w.n-l.If.n+l.Out.n:=by rw[<- p3];exact q1
   have q2:∀j,j<(X3 N l w i).n->vS ((X3 N l w i).g j):=q2;obtain⟨L,L',g1,g2,g3,g5,g4⟩:=ih (X3 N l w i) (X3 N l' w' i) (if l.If.n=0 then i+l.Out.n+1 else i+l.Out.n) hrc (by omega) q2 (by split<;>omega) (by split<;>omega);refine⟨((i:Int),X3 N l w i)::L,((i:Int),X3 N l' w' i)::L',fun M hM=>?_,VR q2 g2,by simp;omega,⟨rfl,hrc,g5⟩,fun M x2 x3 hM hx hy=>?_⟩
   ·obtain⟨M,rfl⟩:∃K,M=K+1:=⟨M-1,by omega⟩;rw[D3,Ty,Dp (by omega),if_pos (by simp;omega),e1,AS1,if_neg (by simp),r1,AS1,Dp (by omega),C0 (by omega)];have g1:=g1 M (by omega);by_cases h0:l.If.n=0
    ·rw[if_pos h0]at g1;rw[if_pos (by simp[h0]),g1];rfl
    ·rw[if_neg h0]at g1;rw[if_neg (by simp[h0]),g1];rfl
   ·obtain⟨M,rfl⟩:∃K,M=K+1:=⟨M-1,by omega⟩;rw[S6,Tz,hif,hof,Dp (by omega),if_pos (by simp;omega),e2,AS1,if_neg (by simp),r2,AS1,Dp (by omega),C0 (by omega),Jp];by_cases h32:32<(X3 N l' w' i).n
    ·rw[if_pos (by simp;omega),if_pos h32]
    rw[if_neg (by simp;omega),if_neg h32,if_pos (by show ((x2.n+1)*8<=_/\x2.n+1<=_)/\(x3.n+1)*24<=_/\x3.n+1<=_;omega)];have g4:=g4 M (x2.push (i:Int)) (x3.push (X3 N l' w' i)) (by omega) (by show x2.n+1+m<=_;omega) (by show x3.n+1+m<=_;omega);by_cases h0:l.If.n=0
    ·rw[if_pos h0]at g4;rw[if_pos (by simp[h0]),g4]
    ·rw[if_neg h0]at g4;rw[if_neg (by simp[h0]),g4]
def Ai0 (N:Nat)(l:Law)(self3:Sl Sound->Int->Option Tw)(x7:Sl Sound)(x8:Int):Option Tw:=
 if (decide (0<=x8))=true then
  (BZ N l x7 x8).bind fun y18=>
  if (!y18)=true then
   self3 x7 (wrap .i64 (x8-1))
  else
   (P5 N l x7 x8).bind fun y19=>
   U5 (x8,y19) (
    self3 y19 (wrap .i64 (x8-(if (l.If.n:Int)<1 then 1 else (l.If.n:Int))))
    )
 else
  some []
def Ai1 (N:Nat)(l:Law)(self1:Sl Sound->Sl Int->Sl (Sl Sound)->Int->Option At7)(x1:Sl Sound)(x2:Sl Int)(x3:Sl (Sl Sound))(x4:Int):Option At7:=
 if (decide (0<=x4))=true then
  (Am N l x1 x4).bind fun y5=>
  if (!y5)=true then
   self1 x1 x2 x3 (wrap .i64 (x4-1))
  else
   (P4 N l x1 x4).bind fun y6=>
   if (decide (32<(y6.n:Int)))=true then
    some ((Sl.nil:Sl Int),(Sl.nil:Sl (Sl Sound)),11)
   else
    if (((x2.n+(Sl.of [x4]:Sl Int).n)*8<=140737488355328/\x2.n+(Sl.of [x4]:Sl Int).n<=140737488355328)/\((x3.n+(Sl.of [y6]:Sl (Sl Sound)).n)*24<=140737488355328/\x3.n+(Sl.of [y6]:Sl (Sl Sound)).n<=140737488355328))then
     if ((l.If.n:Int)==0)=true then
      self1 y6 (x2.push x4) (x3.push y6) (wrap .i64 ((wrap .i64 (x4-(l.If.n:Int)))-1))
     else
      self1 y6 (x2.push x4) (x3.push y6) (wrap .i64 (x4-(l.If.n:Int)))
    else none
 else
  some (x2,x3,0)
theorem At8 {N:Nat}(hN:3000<=N){l l' : Law}(hf:AK0 l)(he:LE l l'):∀(m:Nat) (w w' : Sl Sound) (i:Int),SE w w' -> w.n<=100->(∀j,j<w.n->vS (w.g j)) -> -100<=i->i+1<=m->m<=200 ->
 ∃L L',(∀M,m<M->P6 M (Ai0 N l) w i=some L)/\vL L/\L.length<=m/\RL L L' /\ ∀M x2 x3,m<M->x2.n+m<=1000->x3.n+m<=1000->Ak6 M (Ai1 N l') w' x2 x3 i=some (Jp x2 x3 L'):=by
 obtain⟨hl,_,_,hk,ho,hko,_,_⟩:=hf;have h6:=ho.1;obtain⟨hl',_,_,hk',ho',_,_,_⟩:=VQ he ⟨hl,‹_›, ‹_›,hk,ho,hko,‹_›, ‹_›⟩;have hif:l'.If.n=l.If.n:=he.cond.1.symm;have hof:l'.Out.n=l.Out.n:=he.out.1.symm;intro m
 induction m with
 |zero=>
  intro w w' i hse hn hv hi hm hm2;have hn':=hse.1;refine⟨[],[],fun M hM=>?_,Tx,AS4 _,trivial,fun M x2 x3 hM _ _=>?_⟩
  ·obtain⟨M,rfl⟩:∃K,M=K+1:=⟨M-1,by omega⟩;rw[D3,Ai0,if_neg (by simp;omega)]
  ·obtain⟨M,rfl⟩:∃K,M=K+1:=⟨M-1,by omega⟩;rw[S6,Ai1,hif,if_neg (by simp;omega),Jp]
 |succ m ih=>
  intro w w' i hse hn hv hi hm hm2;have hn':=hse.1;by_cases hle:0<=i
  case neg=>
   refine⟨[],[],fun M hM=>?_,Tx,by simp,trivial,fun M x2 x3 hM _ _=>?_⟩
   ·obtain⟨M,rfl⟩:∃K,M=K+1:=⟨M-1,by omega⟩;rw[D3,Ai0,if_neg (by simp;omega)]
   ·obtain⟨M,rfl⟩:∃K,M=K+1:=⟨M-1,by omega⟩;rw[S6,Ai1,hif,if_neg (by simp;omega),Jp]
  obtain⟨k,rfl⟩:∃k:Nat,i=(k:Int):=⟨i.toNat,by omega⟩;have hw:okW w:=⟨by omega,fun j hj=>(hv j hj).ok⟩;have hv':=hse.v hv;have hw' : okW w':=⟨by omega,fun j hj=>(hv' j hj).ok⟩;obtain⟨b,e1,h1⟩:=Ah0 hN hl hk hw k (by omega);obtain⟨b',e2,h2⟩:=QG hN hl' hk' hw' k (by omega);obtain rfl:b' = b:=by rw[AU7,h1,h2,HA he hse]
  cases b'
  ·obtain⟨L,L',g1,g2,g3,g5,g4⟩:=ih w w' ((k:Int)-1) hse hn hv (by omega) (by omega) (by omega);refine⟨L,L',fun M hM=>?_,g2,by omega,g5,fun M x2 x3 hM hx hy=>?_⟩
   ·obtain⟨M,rfl⟩:∃K,M=K+1:=⟨M-1,by omega⟩;rw[D3,Ai0,if_pos (by simp),e1,AS1,if_pos nf,F0 (by omega) (by omega)];exact g1 M (by omega)
   ·obtain⟨M,rfl⟩:∃K,M=K+1:=⟨M-1,by omega⟩;rw[S6,Ai1,hif,if_pos (by simp),e2,AS1,if_pos nf,F0 (by omega) (by omega)];exact g4 M x2 x3 (by omega) (by omega) (by omega)
  ·have hit:=h1.1 rfl;have hle:=hit.1;have hw32:=hit.2.2.2.2.1.1;have r1:=(EV (N:=N) (by omega) ho (by omega) hv hle).1;have r2:=(EV (N:=N) (l:=l') (w:=w') (i:=k) (by omega) ho' (by omega) hv' (by omega)).2;have hrc:=Kd (N:=N) he hse hle;have hrn:=hrc.1;obtain⟨_,_,p3,p4⟩:=Gf (N:=N) (by omega) ho hv hle;obtain⟨q1,q2⟩:=Ah6 hle hv p4;have q1:(X3 N l w k).n=w.n-l.If.n+l.Out.n:=by rw[<- p3];exact q1
   have q2:∀j,j<(X3 N l w k).n->vS ((X3 N l w k).g j):=q2;obtain⟨L,L',g1,g2,g3,g5,g4⟩:=ih (X3 N l w k) (X3 N l' w' k) (if l.If.n=0 then (k:Int)-1 else (k:Int)-l.If.n) hrc (by omega) q2 (by split<;>omega) (by split<;>omega) (by omega);refine⟨((k:Int),X3 N l w k)::L,((k:Int),X3 N l' w' k)::L',fun M hM=>?_,VR q2 g2,by simp;omega,⟨rfl,hrc,g5⟩,fun M x2 x3 hM hx hy=>?_⟩
   ·obtain⟨M,rfl⟩:∃K,M=K+1:=⟨M-1,by omega⟩;rw[D3,Ai0,if_pos (by simp),e1,AS1,if_neg (by simp),r1,AS1];have g1:=g1 M (by omega);by_cases h0:l.If.n=0
    ·rw[if_pos h0]at g1;rw[if_pos (by omega),F0 (by omega) (by omega),g1];rfl
    ·rw[if_neg h0]at g1;rw[if_neg (by omega),F0 (by omega) (by omega),g1];rfl
   ·obtain⟨M,rfl⟩:∃K,M=K+1:=⟨M-1,by omega⟩;rw[S6,Ai1,hif,if_pos (by simp),e2,AS1,if_neg (by simp),r2,AS1,Jp];by_cases h32:32<(X3 N l' w' k).n
    ·rw[if_pos (by simp;omega),if_pos h32]
    rw[if_neg (by simp;omega),if_neg h32,if_pos (by show ((x2.n+1)*8<=_/\x2.n+1<=_)/\(x3.n+1)*24<=_/\x3.n+1<=_;omega)];have g4:=g4 M (x2.push (k:Int)) (x3.push (X3 N l' w' k)) (by omega) (by show x2.n+1+m<=_;omega) (by show x3.n+1+m<=_;omega);rw[F0 (n:=(k:Int)-(l.If.n:Int)) (by omega) (by omega)];by_cases h0:l.If.n=0
    ·rw[if_pos h0]at g4;rw[if_pos (by simp[h0]),F0 (by omega) (by omega),show (k:Int)-(l.If.n:Int)-1=(k:Int)-1 by omega,g4]
    ·rw[if_neg h0]at g4;rw[if_neg (by simp[h0]),g4]
end Go.AM
set_option linter.unusedVariables false
namespace Go.AM
open IntKind (wrap)
open Go.Proofs
abbrev AllS:=Sl Sound×Int×Int
def Kv (N:Nat)(l:Law)(q0:Sl Sound)(self1:AllS->Option Tw)(x1:Int)(z1:AllS):Option Tw:=
 if (decide (x1<z1.2.1))=true then
  self1 (z1.1,z1.2.1,z1.2.2)
 else
  if (((0:Int)<=(wrap .i64 (x1+z1.2.2))/\(wrap .i64 (x1+z1.2.2))<=(z1.1.n:Int))/\((0:Int)<=x1/\x1<=(wrap .i64 (x1+(l.If.n:Int)))/\(wrap .i64 (x1+(l.If.n:Int)))<=(q0.n:Int)))then
   (N1 N l (q0.sub x1.toNat (wrap .i64 (x1+(l.If.n:Int))).toNat)).bind fun y6=>
   if ((0:Int)<=(wrap .i64 (x1+(l.If.n:Int)))/\(wrap .i64 (x1+(l.If.n:Int)))<=(q0.n:Int))then
    (B0 N (Sl.of [z1.1.take (wrap .i64 (x1+z1.2.2)).toNat,y6,q0.drop (wrap .i64 (x1+(l.If.n:Int))).toNat]:Sl (Sl Sound))).bind fun y7=>
    U5 (x1,y7) (
     self1 (y7,wrap .i64 (x1+(if (l.If.n:Int)<1 then 1 else (l.If.n:Int))),wrap .i64 ((wrap .i64 (z1.2.2+(l.Out.n:Int)))-(l.If.n:Int)))
     )
   else none
  else none
def AK2 (N:Nat)(p_l:Law)(p_w:Sl Sound)(self1:Sl Int->Sl (Sl Sound)->Sl Sound->Int->Option At7)(x2:Sl Int)(x3:Sl (Sl Sound))(x4:Sl Sound)(x5:Int):Option At7:=
 if (decide (x5<=(p_w.n:Int)))=true then
  (Am N p_l p_w x5).bind fun y5=>
  if (!y5)=true then
   lt (fun (z3:Sl Sound)=>
    self1 x2 x3 z3 (wrap .i64 (x5+1))
    ) fun k3=>
    if (decide (x5<(p_w.n:Int)))=true then
     if (((0:Int)<=x5/\x5<(p_w.n:Int))/\((x4.n+(Sl.of [p_w.g x5.toNat]:Sl Sound).n)*8<=140737488355328/\x4.n+(Sl.of [p_w.g x5.toNat]:Sl Sound).n<=140737488355328))then
      k3 (x4.push (p_w.g x5.toNat))
     else none
    else
     k3 x4
  else
   if ((0:Int)<=x5/\x5<=(wrap .i64 (x5+(p_l.If.n:Int)))/\(wrap .i64 (x5+(p_l.If.n:Int)))<=(p_w.n:Int))then
    (Bi N p_l (p_w.sub x5.toNat (wrap .i64 (x5+(p_l.If.n:Int))).toNat)).bind fun y6=>
    if ((x4.n+y6.n)*8<=140737488355328/\x4.n+y6.n<=140737488355328)then
     if ((x2.n+(Sl.of [x5]:Sl Int).n)*8<=140737488355328/\x2.n+(Sl.of [x5]:Sl Int).n<=140737488355328)then
      if (((((Sl.of []:Sl Sound).n+(x4.app y6).n)*8<=140737488355328/\(Sl.of []:Sl Sound).n+(x4.app y6).n<=140737488355328)/\((0:Int)<=(wrap .i64 (x5+(p_l.If.n:Int)))/\(wrap .i64 (x5+(p_l.If.n:Int)))<=(p_w.n:Int)))/\((((Sl.of []:Sl Sound).app (x4.app y6)).n+(p_w.drop (wrap .i64 (x5+(p_l.If.n:Int))).toNat).n)*8<=140737488355328/\((Sl.of []:Sl Sound).app (x4.app y6)).n+(p_w.drop (wrap .i64 (x5+(p_l.If.n:Int))).toNat).n<=140737488355328))then
       if (decide (32<((((Sl.of []:Sl Sound).app (x4.app y6)).app (p_w.drop (wrap .i64 (x5+(p_l.If.n:Int))).toNat)).n:Int)))=true then
        some ((Sl.nil:Sl Int),(Sl.nil:Sl (Sl Sound)),11)
       else
        if ((x3.n+(Sl.of [((Sl.of []:Sl Sound).app (x4.app y6)).app (p_w.drop (wrap .i64 (x5+(p_l.If.n:Int))).toNat)]:Sl (Sl Sound)).n)*24<=140737488355328/\x3.n+(Sl.of [((Sl.of []:Sl Sound).app (x4.app y6)).app (p_w.drop (wrap .i64 (x5+(p_l.If.n:Int))).toNat)]:Sl (Sl Sound)).n<=140737488355328)then
         if ((p_l.If.n:Int)==0)=true then
          if (decide ((wrap .i64 (x5+(p_l.If.n:Int)))<(p_w.n:Int)))=true then
           if (((0:Int)<=(wrap .i64 (x5+(p_l.If.n:Int)))/\(wrap .i64 (x5+(p_l.If.n:Int)))<(p_w.n:Int))/\(((x4.app y6).n+(Sl.of [p_w.g (wrap .i64 (x5+(p_l.If.n:Int))).toNat]:Sl Sound).n)*8<=140737488355328/\(x4.app y6).n+(Sl.of [p_w.g (wrap .i64 (x5+(p_l.If.n:Int))).toNat]:Sl Sound).n<=140737488355328))then
            self1 (x2.push x5) (x3.push (((Sl.of []:Sl Sound).app (x4.app y6)).app (p_w.drop (wrap .i64 (x5+(p_l.If.n:Int))).toNat))) ((x4.app y6).push (p_w.g (wrap .i64 (x5+(p_l.If.n:Int))).toNat)) (wrap .i64 ((wrap .i64 (x5+(p_l.If.n:Int)))+1))
           else none
          else
           self1 (x2.push x5) (x3.push (((Sl.of []:Sl Sound).app (x4.app y6)).app (p_w.drop (wrap .i64 (x5+(p_l.If.n:Int))).toNat))) (x4.app y6) (wrap .i64 ((wrap .i64 (x5+(p_l.If.n:Int)))+1))
         else
          self1 (x2.push x5) (x3.push (((Sl.of []:Sl Sound).app (x4.app y6)).app (p_w.drop (wrap .i64 (x5+(p_l.If.n:Int))).toNat))) (x4.app y6) (wrap .i64 (x5+(p_l.If.n:Int)))
        else none
      else none
     else none
    else none
   else none
 else
  some (x2,x3,0)
abbrev vW (s:Sl Sound):Prop:=∀j,j<s.n->vS (s.g j)
theorem Ay5 {s t:Sl Sound}(h:vW s)(h' : vW t):vW (s.app t):=fun j hj=>by
 have hj:j<s.n+t.n:=hj;show vS (if j<s.n then s.g j else t.g (j-s.n));split
 ·exact h j (by assumption)
 ·exact h' _ (by omega)
theorem AH6 {s:Sl Sound}(h:vW s)(k:Nat):vW (s.drop k):=fun j hj=>h _ (by have hj:j<s.n-k:=hj;omega)
theorem AH7 {s:Sl Sound}(h:vW s){k:Nat}(hk:k<=s.n):vW (s.take k):=fun j hj=>h _ (by have hj:j<k:=hj;omega)
theorem TA {x s:Sl Sound}{i:Nat}(hi:i<s.n):SE (x.app (s.drop i)) ((x.push (s.g i)).app (s.drop (i+1))):=⟨by show x.n+(s.n-i)=x.n+1+(s.n-(i+1));omega,fun j _=>by
 show (if j<x.n then x.g j else s.g (i+(j-x.n)))=if j<x.n+1 then (if j<x.n then x.g j else s.g i)else s.g (i+1+(j-(x.n+1)))
 by_cases h1:j<x.n
 ·rw[if_pos h1,if_pos (by omega),if_pos h1]
 ·rw[if_neg h1];by_cases h2:j=x.n
  ·rw[if_pos (by omega),if_neg h1,h2];simp
  ·rw[if_neg (by omega)];congr 1;omega⟩
theorem At9 {a x t:Sl Sound}(h:SE a (x.app t)):SE (a.take x.n) x:=⟨rfl,fun j hj=>by
 have hj:j<x.n:=hj;have hn:a.n=x.n+t.n:=h.1;have e:a.g j=if j<x.n then x.g j else t.g (j-x.n):=h.2 j (by omega)
 rw[if_pos hj]at e;exact e⟩
theorem Xf {N:Nat}{l:Law}{w:Sl Sound}{K:AllS->Option Tw}{acc:Sl Sound}{next sh:Int}:∀(d i:Nat),((i+d:Nat):Int)<=next->K0 (DQ l w i) (Kv N l w) K (acc,next,sh)=K0 (DQ l w (i+d)) (Kv N l w) K (acc,next,sh)
 |0,i,_=>rfl
 |d+1,i,h=>by
  have ih:=Xf (N:=N) (l:=l) (w:=w) (K:=K) (acc:=acc) (next:=next) (sh:=sh) d (i+1) (by omega);rw[show i+(d+1)=i+1+d by omega,<- ih];by_cases hh:Po l w i
  ·rw[IE (by have:=hh.1;omega) hh];show Kv N l w (K0 (DQ l w (i+1)) (Kv N l w) K) (i:Int) (acc,next,sh)=_;unfold Kv;rw[if_pos (by simp;omega)]
  ·rw[IF hh]
theorem AH8 {N:Nat}(hN:3000<=N){l l' : Law}(hf:AK0 l)(he:LE l l'){w w' : Sl Sound}(hse:SE w w')(hn:w.n<=32)(hv:vW w):∀(m i:Nat) (x4 acc:Sl Sound) (sh next:Int),i<=w.n+1->w.n+1<=i+m ->
 (i<=w.n->SE acc (x4.app (w'.drop i))/\(x4.n:Int)=i+sh)->next<=i->x4.n<=7*i->vW acc -> -1000<=sh->sh<=1000 ->
 ∃L L',K0 (DQ l w i) (Kv N l w) (fun _=>some []) (acc,next,sh)=some L/\vL L/\L.length<=m/\RL L L' /\ ∀M x2 x3,m<M->x2.n+m<=1000->x3.n+m<=1000->Ak6 M (AK2 N l' w') x2 x3 x4 i=some (Jp x2 x3 L'):=by
 obtain⟨hl,_,_,hk,ho,hko,_,_⟩:=hf;have h6:=ho.1;obtain⟨hl',_,_,hk',ho',_,_,_⟩:=VQ he ⟨hl,‹_›, ‹_›,hk,ho,hko,‹_›, ‹_›⟩;have hif:l'.If.n=l.If.n:=he.cond.1.symm;have hn':=hse.1;have hw:okW w:=⟨by omega,fun j hj=>(hv j hj).ok⟩;have hv' : vW w':=hse.v hv;have hw' : okW w':=⟨by omega,fun j hj=>(hv' j hj).ok⟩;have fin:∀(m i:Nat) (x4 acc:Sl Sound) (sh next:Int),w.n<i->∃L L',K0 (DQ l w i) (Kv N l w) (fun _=>some []) (acc,next,sh)=some L/\vL L/\L.length<=m/\RL L L' /\ ∀M x2 x3,m<M->x2.n+m<=1000->x3.n+m<=1000->Ak6 M (AK2 N l' w') x2 x3 x4 i=some (Jp x2 x3 L'):=by
  intro m i x4 acc sh next hi
  refine⟨[],[],by rw[Jn (by omega)];rfl,Tx,by simp,trivial,fun M x2 x3 hM _ _=>?_⟩;obtain⟨M,rfl⟩:∃K,M=K+1:=⟨M-1,by omega⟩;rw[S6,AK2,if_neg (by simp;omega),Jp]
 intro m
 induction m with
 |zero=>exact fun i x4 acc sh next h1 h2 _ _ _ _ _ _=>fin 0 i x4 acc sh next (by omega)
 |succ m ih=>
  intro i x4 acc sh next hi hm hx hnx h7 hva hs1 hs2
  by_cases hle:i<=w.n
  case neg=>exact fin _ i x4 acc sh next (by omega)
  obtain⟨hsx,hnn⟩:=hx hle;have han:acc.n=x4.n+(w.n-i):=by rw[hsx.1];show x4.n+(w'.n-i)=_;omega
  obtain⟨b',e2,h2⟩:=QG hN hl' hk' hw' i (by omega);have h2:=h2.trans (HA he hse).symm;cases b'
  ·have hno:¬Po l w i:=fun h=>by have:=h2.2 h;cases this
   rw[IF hno];by_cases hlt:i<w.n
   ·obtain⟨L,L',g1,g2,g3,g5,g4⟩:=ih (i+1) (x4.push (w'.g i)) acc sh next (by omega) (by omega) (fun _=>⟨hsx.trans (TA (by omega)),by show ((x4.n+1:Nat):Int)=_;omega⟩) (by omega) (by show x4.n+1<=_;omega) hva hs1 hs2
    refine⟨L,L',g1,g2,by omega,g5,fun M x2 x3 hM hx hy=>?_⟩;obtain⟨M,rfl⟩:∃K,M=K+1:=⟨M-1,by omega⟩;rw[S6,AK2,hif,if_pos (by simp;omega),e2,AS1,if_pos nf,lt,if_pos (by simp;omega),if_pos ⟨by omega,by show (x4.n+1)*8<=_/\x4.n+1<=_;omega⟩,C0 (by omega),AR8];exact g4 M x2 x3 (by omega) (by omega) (by omega)
   ·obtain⟨L,L',g1,g2,g3,g5,g4⟩:=ih (i+1) x4 acc sh next (by omega) (by omega) (fun h=>by omega) (by omega) (by omega) hva hs1 hs2
    refine⟨L,L',g1,g2,by omega,g5,fun M x2 x3 hM hx hy=>?_⟩;obtain⟨M,rfl⟩:∃K,M=K+1:=⟨M-1,by omega⟩;rw[S6,AK2,hif,if_pos (by simp;omega),e2,AS1,if_pos nf,lt,if_neg (by simp;omega),C0 (by omega)];exact g4 M x2 x3 (by omega) (by omega) (by omega)
  ·have hit:=h2.1 rfl;have hik:=hit.1;rw[IE hle hit];obtain⟨p1,_,p3,p4⟩:=Gf (N:=N) (by omega) ho hv hik;obtain⟨_,p2,_,_⟩:=Gf (N:=N) (l:=l') (i:=i) (by omega) ho' hv' (by omega);rw[<- MM he hse hik,hif]at p2;generalize hY:GB N l w i=Y at p1 p2 p3 p4;have hYw:SE (((acc.take x4.n).app Y).app (w.drop (i+l.If.n))) ((x4.app Y).app (w'.drop (i+l.If.n))):=((At9 hsx).app (SE.refl _)).app (hse.drop _);have hvY:vW (((acc.take x4.n).app Y).app (w.drop (i+l.If.n))):=Ay5 (Ay5 (AH7 hva (by omega)) p4) (AH6 hv _);generalize hZ:(((acc.take x4.n).app Y).app (w.drop (i+l.If.n)))=Z at hYw hvY;have hZn:Z.n=x4.n+Y.n+(w.n-(i+l.If.n)):=by rw[<- hZ]
   obtain⟨L,L',g1,g2,g3,g5,g4⟩:=ih (if l.If.n=0 then i+1 else i+l.If.n) (if l.If.n=0/\i<w.n then (x4.app Y).push (w'.g i)else x4.app Y) Z (sh+l.Out.n-l.If.n) (if l.If.n=0 then i+1 else i+l.If.n:Nat)
    (by split<;>omega) (by split<;>omega)
    (fun h=>by
     by_cases h0:l.If.n=0
     ·rw[if_pos h0]at h;rw[if_pos h0,if_pos ⟨h0,by omega⟩];rw[h0]at hYw;exact⟨hYw.trans (TA (by omega)),by show ((x4.n+Y.n+1:Nat):Int)=_;omega⟩
     ·rw[if_neg h0,if_neg (by omega)];exact⟨hYw,by show ((x4.n+Y.n:Nat):Int)=_;omega⟩)
    (by omega)
    (by
     by_cases h0:l.If.n=0
     ·rw[if_pos h0];split
      ·show x4.n+Y.n+1<=_;omega
      ·show x4.n+Y.n<=_;omega
     ·rw[if_neg h0,if_neg (by omega)];show x4.n+Y.n<=_;omega)
    hvY (by omega) (by omega)
   refine⟨((i:Int),Z)::L,((i:Int),(x4.app Y).app (w'.drop (i+l.If.n)))::L', ?_,VR hvY g2,by simp;omega,⟨rfl,hYw,g5⟩,fun M x2 x3 hM hx hy=>?_⟩
   ·show Kv N l w (K0 (DQ l w (i+1)) (Kv N l w) fun _=>some []) (i:Int) (acc,next,sh)=_;unfold Kv;have es:wrap .i64 ((i:Int)+sh)=((x4.n:Nat):Int):=by rw[F0 (by omega) (by omega),hnn]
    simp only[es];rw[Dp (by omega),if_neg (by simp;omega),if_pos (by omega)];simp only[AR8];rw[p1,AS1,if_pos (by omega),Ah7 (by omega) (by show x4.n<=_;omega) (by omega) (by show w.n-(i+l.If.n)<=_;omega),AS1,hZ];have en:wrap .i64 ((i:Int)+(if (l.If.n:Int)<1 then 1 else (l.If.n:Int)))=((if l.If.n=0 then i+1 else i+l.If.n:Nat):Int):=by
     by_cases h0:l.If.n=0
     ·rw[if_pos (by omega),if_pos h0,F0 (by omega) (by omega)];omega
     ·rw[if_neg (by omega),if_neg h0,F0 (by omega) (by omega)];omega
    have eh:wrap .i64 ((wrap .i64 (sh+(l.Out.n:Int)))-(l.If.n:Int))=sh+l.Out.n-l.If.n:=by rw[F0 (n:=sh+(l.Out.n:Int)) (by omega) (by omega),F0 (by omega) (by omega)]
    rw[en,eh];have sk:=Xf (N:=N) (l:=l) (w:=w) (K:=fun _=>some []) (acc:=Z) (next:=((if l.If.n=0 then i+1 else i+l.If.n:Nat):Int)) (sh:=sh+l.Out.n-l.If.n) (if l.If.n=0 then 0 else l.If.n-1) (i+1) (by split<;>omega);rw[show i+1+(if l.If.n=0 then 0 else l.If.n-1)=(if l.If.n=0 then i+1 else i+l.If.n) by split<;>omega]at sk;show U5 _ (K0 (DQ l w (i+1)) (Kv N l w) (fun _=>some []) (Z,_,_))=_;rw[sk,g1];rfl
   ·obtain⟨M,rfl⟩:∃K,M=K+1:=⟨M-1,by omega⟩;have hdn:((x4.app Y).app (w'.drop (i+l.If.n))).n=x4.n+Y.n+(w'.n-(i+l.If.n)):=rfl;rw[S6,AK2,hif,if_pos (by simp;omega),e2,AS1,if_neg (by simp),Dp (by omega),if_pos (by omega)];simp only[AR8];rw[p2,AS1,if_pos (by omega),if_pos (by show (x2.n+1)*8<=_/\x2.n+1<=_;omega)];rw[if_pos ⟨⟨by show (0+(x4.n+Y.n))*8<=_/\0+(x4.n+Y.n)<=_;omega,by omega⟩,by simp only[Bc2];omega⟩,Jp];by_cases h32:32<((x4.app Y).app (w'.drop (i+l.If.n))).n
    ·rw[if_pos (by simp only[decide_eq_true_eq,Bc2];omega),if_pos h32]
    rw[if_neg (by simp only[decide_eq_true_eq,Bc2];omega),if_neg h32,AH2 (s:=(Sl.of []:Sl Sound)) rfl,if_pos (by show (x3.n+1)*24<=_/\x3.n+1<=_;omega)];have g4:=g4 M (x2.push (i:Int)) (x3.push ((x4.app Y).app (w'.drop (i+l.If.n)))) (by omega) (by show x2.n+1+m<=_;omega) (by show x3.n+1+m<=_;omega);by_cases h0:l.If.n=0
    ·rw[if_pos (by simp[h0])];rw[if_pos h0]at g4;by_cases hlt:i<w.n
     ·rw[if_pos ⟨h0,hlt⟩]at g4;rw[if_pos (by simp only[decide_eq_true_eq];omega),if_pos ⟨by omega,by show (x4.n+Y.n+1)*8<=_/\x4.n+Y.n+1<=_;omega⟩,C0 (by omega),show w'.g (i+l.If.n)=w'.g i by rw[h0];rfl,show i+l.If.n+1=i+1 by omega];exact g4
     ·rw[if_neg (by omega)]at g4;rw[if_neg (by simp only[decide_eq_true_eq];omega),C0 (by omega),show i+l.If.n+1=i+1 by omega];exact g4
    ·rw[if_neg (by simp[h0])];rw[if_neg h0,if_neg (by omega)]at g4;exact g4
def trS (r r' : At7):Prop:=r.1=r'.1/\r.2.1.n=r'.2.1.n/\(∀i,i<r.2.1.n->SE (r.2.1.g i) (r'.2.1.g i))/\r.2.2=r'.2.2
theorem Ay6:∀(L L' : Tw) (x:Sl Int) (y y' : Sl (Sl Sound)),RL L L' -> y.n=y'.n->(∀i,i<y.n->SE (y.g i) (y'.g i))->trS (Jp x y L) (Jp x y' L')
 |[],[],x,y,y',_,h1,h2=>⟨rfl,h1,h2,rfl⟩
 |(p,v)::L,(q,u)::M,x,y,y',⟨h3,h4,h5⟩,h1,h2=>by
  subst h3;unfold Jp;rw[<- h4.1];split
  ·exact⟨rfl,rfl,fun i hi=>absurd hi (AX9 i),rfl⟩
  ·refine Ay6 L M _ _ _ h5 (by show y.n+1=y'.n+1;omega) fun i hi=>?_;have hi:i<y.n+1:=hi;show SE (if i<y.n then y.g i else v) (if i<y'.n then y'.g i else u);rw[<- h1];split
   ·exact h2 i (by assumption)
   ·exact h4
 |[],_::_,_,_,_,h,_,_=>h.elim
 |_::_,[],_,_,_,h,_,_=>h.elim
theorem Ai2:∀(L:Tw) (x:Sl Int) (y:Sl (Sl Sound)),vL L->(∀i,i<y.n->wOk (y.g i))->(Jp x y L).2.2=11 \/ ((Jp x y L).2.2=0/\(Jp x y L).2.1.n<=y.n+L.length/\∀i,i<(Jp x y L).2.1.n->wOk ((Jp x y L).2.1.g i))
 |[],x,y,_,h=>.inr ⟨rfl,AS4 _,h⟩
 |(p,v)::L,x,y,hv,h=>by
  unfold Jp;split
  ·exact .inl rfl
  ·have:=Ai2 L (x.push p) (y.push v) (fun z hz=>hv z (AU9 _ hz)) fun i hi=>by
    show wOk (if i<y.n then y.g i else v);split
    ·exact h i (by assumption)
    ·exact⟨by omega,hv (p,v) (by simp)⟩
   rcases this with h|⟨h1,h2,h3⟩
   ·exact .inl h
   ·refine .inr ⟨h1,?_,h3⟩;have h2:_<=y.n+1+L.length:=h2;simp only[AV1];omega
theorem TB:∀(L:Tw) (x:Sl Int) (y:Sl (Sl Sound)),x.n+L.length<=100000->y.n+L.length<=100000 ->
 K0 L (fun (self1:Sl Int×Sl (Sl Sound)->Option At7) (x1:Int×(Sl Sound)) (z1:(Sl Int)×(Sl (Sl Sound)))=>
  if (decide (32<(x1.2.n:Int)))=true then
   some ((Sl.nil:Sl Int),(Sl.nil:Sl (Sl Sound)),11)
  else
   if ((z1.1.n+(Sl.of [x1.1]:Sl Int).n)*8<=140737488355328/\z1.1.n+(Sl.of [x1.1]:Sl Int).n<=140737488355328)then
    if ((z1.2.n+(Sl.of [x1.2]:Sl (Sl Sound)).n)*24<=140737488355328/\z1.2.n+(Sl.of [x1.2]:Sl (Sl Sound)).n<=140737488355328)then
     self1 (z1.1.push x1.1,z1.2.push x1.2)
    else none
   else none
  ) (fun (z1:(Sl Int)×(Sl (Sl Sound)))=>
   some (z1.1,z1.2,0)
  ) (x,y)=some (Jp x y L)
 |[],x,y,_,_=>rfl
 |(p,v)::L,x,y,hx,hy=>by
  simp only[AV1]at hx hy;have ih:=TB L (x.push p) (y.push v) (by show x.n+1+_<=_;omega) (by show y.n+1+_<=_;omega);rw[K0,Jp];by_cases h:32<v.n
  ·rw[if_pos (by simp;omega),if_pos h]
  ·rw[if_neg (by simp;omega),if_neg h,if_pos (by show (x.n+1)*8<=_/\x.n+1<=_;omega),if_pos (by show (y.n+1)*24<=_/\y.n+1<=_;omega)];exact ih
def trE (N:Nat)(l:Law)(w:Sl Sound)(r:At7):Prop:=(r.2.2=17/\¬chkAll N l) \/ (chkAll N l/\Xb w r.2.2/\r.2.2≠0) \/ (chkAll N l/\wOk w/\(r.2.2=11 \/ (r.2.2=0/\r.2.1.n<=1000/\∀i,i<r.2.1.n->wOk (r.2.1.g i))))
theorem Ai3 (e:Int):trS ((Sl.nil:Sl Int),(Sl.nil:Sl (Sl Sound)),e) ((Sl.nil:Sl Int),(Sl.nil:Sl (Sl Sound)),e):=⟨rfl,rfl,fun i hi=>absurd hi (AX9 i),rfl⟩
theorem Ai4 {w w' : Sl Sound}(h:SE w w'){e:Int}(hw:Xb w e):Xb w' e:=by
 rcases hw with⟨h1,h2⟩ | ⟨h1,⟨i,hi,h2⟩,h3⟩ | ⟨h1,h2⟩
 ·exact .inl ⟨by rw[<- h.1];exact h1,h2⟩
 ·exact .inr (.inl ⟨by rw[<- h.1];exact h1,⟨i,by rw[<- h.1];exact hi,by rw[<- h.2 i hi];exact h2⟩,h3⟩)
 ·exact .inr (.inr ⟨h.wOk h1,h2⟩)
theorem Ai5 {w w' : Sl Sound}(h:SE w w')(hw:∀i,i<w.n->okS (w.g i)):∀i,i<w'.n->okS (w'.g i):=fun i hi=>by rw[<- h.2 i (by rw[h.1];exact hi)];exact hw i (by rw[h.1];exact hi)
theorem Ai6 {N:Nat}(hN:3000000<=N){l l' : Law}(hl:Ku l)(hle:LE l l'){w w' : Sl Sound}(hse:SE w w')(hw:∀i,i<w.n->okS (w.g i)) :∃r r',Dg N l w=some r/\De N l' w' = some r' /\ trS r r' /\ trE N l w r:=by
 obtain⟨e,e1,_,he⟩:=Er hN hl;obtain⟨e0,_,e2,he0⟩:=Er hN (KJ hle hl);obtain rfl:=Tu (AH5 hle he) he0;unfold Dg De ER EP;rw[e1,e2,AS1,AS1];rcases he with⟨rfl,hc⟩ | ⟨rfl,hc⟩
 case inr=>rw[if_pos (by decide),if_pos (by decide)];exact⟨_,_,rfl,rfl,Ai3 17,.inl ⟨rfl,hc⟩⟩
 rw[if_neg (by decide),if_neg (by decide)];obtain⟨e',e3,he'⟩:=MK (N:=N) (by omega) hw;obtain⟨e'',e4,he''⟩:=CK (N:=N) (by omega) (Ai5 hse hw);obtain rfl:=Ge (Ai4 hse he') he'';rw[e3,e4];simp only[AS1];by_cases h0:e' = 0
 case neg=>rw[if_pos (by simpa using h0),if_pos (by simpa using h0)];exact⟨_,_,rfl,rfl,Ai3 e', .inr (.inl ⟨hc,he',h0⟩)⟩
 rw[if_neg (by simp[h0]),if_neg (by simp[h0])];have hok:wOk w:=(R6 he').1 h0;have hf:=hc.f hl;obtain⟨hol,_,_,hk,ho,hko,hm1,hm3⟩:=id hf;have hn:=hok.1;have hn':=hse.1;have key:∃L L',BG N w l (l.If.n:Int) (l.Out.n:Int)=some L/\vL L/\L.length<=100/\RL L L' /\
  (if (l'.Mode==1)=true then (FP N l' w').bind fun y2=>some (y2.1,y2.2.1,y2.2.2)
   else if (l'.Mode==2)=true then (Dd N l' w').bind fun y3=>some (y3.1,y3.2.1,y3.2.2)
   else (CF N l' w').bind fun y4=>some (y4.1,y4.2.1,y4.2.2))=some (Jp (Sl.nil:Sl Int) (Sl.nil:Sl (Sl Sound)) L'):=by
  unfold BG;rw[hle.mode];by_cases c1:l.Mode=1
  ·rw[if_pos (show (l.Mode==1)=true by simp[c1]),if_pos (show (l.Mode==1)=true by simp[c1])];obtain⟨L,L',g1,g2,g3,g5,g4⟩:=AH8 (N:=N) (by omega) hf hle hse hn hok.2 (w.n+1) 0 (Sl.nil:Sl Sound) w 0 0 (by omega) (by omega) (fun _=>⟨by rw[AH2 rfl];exact⟨hse.1,fun i hi=>by rw[hse.2 i hi];show _=w'.g (0+i);rw[AV3]⟩,rfl⟩) (by omega) (by show 0<=_;omega) hok.2 (by omega) (by omega);have hh:=Xd (N:=N) (by omega) hol hk (w:=w) (vOk hok) 0 (by omega);refine⟨L,L', ?_,g2,by omega,g5,?_⟩
   ·show ((W7 N l w ((0:Nat):Int)).bind fun L1=>K0 L1 (Kv N l w) (fun _=>some []) (w,0,0))=_;rw[hh,AS1];exact g1
   ·have:FP N l' w' = some _:=g4 N (Sl.nil:Sl Int) (Sl.nil:Sl (Sl Sound)) (by omega) (by show 0+_<=_;omega) (by show 0+_<=_;omega)
    rw[this];rfl
  rw[if_neg (show ¬(l.Mode==1)=true by simp[c1]),if_neg (show ¬(l.Mode==1)=true by simp[c1])];by_cases c2:l.Mode=2
  ·rw[if_pos (show (l.Mode==2)=true by simp[c2]),if_pos (show (l.Mode==2)=true by simp[c2])];obtain⟨L,L',g1,g2,g3,g5,g4⟩:=Ah9 (N:=N) (by omega) hf hle (w.n+1) w w' 0 hse (by omega) hok.2 (by omega) (by omega);refine⟨L,L',g1 N (by omega),g2,by omega,g5,?_⟩
   have:Dd N l' w' = some _:=g4 N (Sl.nil:Sl Int) (Sl.nil:Sl (Sl Sound)) (by omega) (by show 0+_<=_;omega) (by show 0+_<=_;omega)
   rw[this];rfl
  ·have c3:l.Mode=3:=by omega
   rw[if_neg (show ¬(l.Mode==2)=true by simp[c2]),if_neg (show ¬(l.Mode==2)=true by simp[c2]),if_pos (show (l.Mode==3)=true by simp[c3])];obtain⟨L,L',g1,g2,g3,g5,g4⟩:=At8 (N:=N) (by omega) hf hle (w.n+1) w w' ((w.n:Int)-(l.If.n:Int)) hse (by omega) hok.2 (by omega) (by omega) (by omega);refine⟨L,L', ?_,g2,by omega,g5,?_⟩
   ·rw[F0 (by omega) (by omega)];exact g1 N (by omega)
   ·have g4:=g4 N (Sl.nil:Sl Int) (Sl.nil:Sl (Sl Sound)) (by omega) (by show 0+_<=_;omega) (by show 0+_<=_;omega)
    have:CF N l' w' = some (Jp (Sl.nil:Sl Int) (Sl.nil:Sl (Sl Sound)) L'):=by unfold CF;rw[show wrap .i64 ((w'.n:Int)-(l'.If.n:Int))=(w.n:Int)-(l.If.n:Int) by rw[<- hn', <- hle.cond.1,F0 (by omega) (by omega)]];exact g4
    rw[this];rfl
 obtain⟨L,L',g1,g2,g3,g5,g4⟩:=key;refine⟨Jp (Sl.nil:Sl Int) (Sl.nil:Sl (Sl Sound)) L,_,?_,g4,Ay6 L L' _ _ _ g5 rfl fun i hi=>absurd hi (AX9 i),.inr (.inr ⟨hc,hok,?_⟩)⟩
 ·rw[Iv,AS1];show ((BG N w l (l.If.n:Int) (l.Out.n:Int)).bind _)=_;rw[g1,AS1];exact TB L _ _ (by show 0+_<=_;omega) (by show 0+_<=_;omega)
 ·rcases Ai2 L (Sl.nil:Sl Int) (Sl.nil:Sl (Sl Sound)) g2 fun i hi=>absurd hi (AX9 i)with h|⟨h1,h2,h3⟩
  ·exact .inl h
  ·exact .inr ⟨h1,by have h2:_<=0+L.length:=h2;omega,h3⟩
end Go.AM
set_option linter.unusedVariables false
namespace Go.AM
open IntKind (wrap)
open Go.Proofs
def apE (N:Nat)(l:Law)(w:Sl Sound)(r:Sl Sound×Int):Prop:=(r.2=17/\¬chkAll N l) \/ (chkAll N l/\Xb w r.2/\r.2≠0) \/ (chkAll N l/\wOk w/\(r.2=11 \/ (r.2=0/\wOk r.1)))
theorem IG {N:Nat}(hN:3000000<=N){l l' : Law}(hl:Ku l)(hle:LE l l'){w w' : Sl Sound}(hse:SE w w')(hw:∀i,i<w.n->okS (w.g i)) :∃r r',P8 N l w=some r/\BD N l' w' = some r' /\ SE r.1 r'.1/\r.2=r'.2/\apE N l w r:=by
 obtain⟨⟨x,y,e⟩,⟨x',y',e'⟩,h1,h2,⟨_,hn,hs,he⟩,ht⟩:=Ai6 hN hl hle hse hw;dsimp only at hn hs he;subst he;have hn':=hse.1;unfold trE at ht;dsimp only at ht;unfold P8 BD;rw[h1,h2,AS1,AS1];dsimp only;by_cases h0:e=0
 case neg=>
  rw[if_pos (show (e != 0)=true by simpa using h0),if_pos (show (e != 0)=true by simpa using h0)];refine⟨_,_,rfl,rfl,SE.refl _,rfl,?_⟩;rcases ht with h|h|⟨h3,h4,h5⟩
  ·exact .inl h
  ·exact .inr (.inl h)
  ·exact .inr (.inr ⟨h3,h4,.inl (h5.resolve_right fun h=>h0 h.1)⟩)
 rw[if_neg (show ¬(e != 0)=true by simp[h0]),if_neg (show ¬(e != 0)=true by simp[h0])];rcases ht with h|h|⟨h3,h4,h5⟩
 ·exact absurd (h.1.symm.trans h0) (by decide)
 ·exact absurd h0 h.2.2
 rcases h5 with h5|⟨_,h6,h7⟩
 ·exact absurd (h5.symm.trans h0) (by decide)
 have h32:=h4.1;by_cases hy:y.n=0
 ·rw[if_neg (show ¬decide ((0:Int)<(y.n:Int))=true by simp[hy]),if_pos (show ((y'.n:Int)==0)=true by simp[<- hn,hy]),if_pos (by show (0+w'.n)*8<=_/\0+w'.n<=_;omega),AH2 (s:=(Sl.of []:Sl Sound)) rfl];unfold A3;rw[if_pos (by omega)];exact⟨_,_,rfl,rfl,hse,rfl,.inr (.inr ⟨h3,h4,.inr ⟨rfl,h4⟩⟩)⟩
 ·have hk:=h7 (y.n-1) (by omega);have hk2:=hs (y.n-1) (by omega);have hb:=hk.1;have hb2:=hk2.1;have e1:wrap .i64 ((y.n:Int)-1)=((y.n-1:Nat):Int):=AP6 (by omega) (by omega);have e2:wrap .i64 ((y'.n:Int)-1)=((y.n-1:Nat):Int):=by rw[<- hn];exact e1
  rw[e1,e2,AR8,if_pos (show decide ((0:Int)<(y.n:Int))=true by simp;omega),if_pos (by omega),if_neg (show ¬((y'.n:Int)==0)=true by simp;omega),if_pos ⟨by omega,by show (0+(y'.g (y.n-1)).n)*8<=_/\0+(y'.g (y.n-1)).n<=_;omega⟩,AH2 (s:=(Sl.of []:Sl Sound)) rfl];exact⟨_,_,rfl,rfl,hk2,rfl,.inr (.inr ⟨h3,h4,.inr ⟨rfl,hk⟩⟩)⟩
theorem TC {N:Nat}{s:Sl Law}(hN:s.n<N)(hs:s.n<1000000){f:Law->Option Bool}{b:Nat->Bool}(hf:∀i,i<s.n->f (s.g i)=some (b i)) :∃r,C6 N s f=some r/\(r=true ↔ ∃i,i<s.n/\b i=true):=by
 unfold C6 E8
 have:∃y,U3 N (fun (self1:Int->Option Int) (x1:Int)=>
  if (decide (x1<(s.n:Int)))=true then
   if ((0:Int)<=x1/\x1<(s.n:Int))then
    (f (s.g x1.toNat)).bind fun y3=>
    if y3=true then
     some x1
    else
     self1 (wrap .i64 (x1+1))
   else none
  else
   some (-1)) 0=some y/\(0<=y ↔ ∃i,i<s.n/\b i=true):=by
  refine Cg (fun i x1=>x1=(i:Int)/\∀j,j<i->b j=false) s.n _ hN ⟨rfl,fun j hj=>absurd hj (by omega)⟩ ?_;rintro self i x1 hi ⟨rfl,h⟩ hs2;by_cases hl:i<s.n
  ·refine ifT (by simp;omega) (ifT (by omega) (B4 (by rw[AR8];exact hf i hl) ?_));cases hb:b i
   ·refine ifF (by simp) (hs2 hl _ ⟨C0 (by omega),fun j hj=>?_⟩);by_cases e:j=i
    ·subst e;exact hb
    ·exact h j (by omega)
   ·exact ifT rfl ⟨i,rfl,fun _=>⟨i,hl,hb⟩,fun _=>by omega⟩
  ·refine ifF (by simp;omega) ⟨-1,rfl,fun h=>absurd h (by decide),?_⟩;rintro⟨j,hj,hb⟩;rw[h j (by omega)]at hb;cases hb
 obtain⟨y,e,hy⟩:=this;exact B4 e ⟨_,rfl,by rw[decide_eq_true_eq];exact hy⟩
def Kw (N:Nat)(laws:Sl Law)(e:Int):Prop:=(64<laws.n/\e=12) \/ (laws.n<=64/\(∃i,i<laws.n/\¬chkAll N (laws.g i))/\e=17) \/ ((laws.n<=64/\∀i,i<laws.n->chkAll N (laws.g i))/\e=0)
theorem Et {N:Nat}{laws:Sl Law}{e e' : Int}(h:Kw N laws e)(h' : Kw N laws e'):e=e':=by rcases h with⟨h,rfl⟩ | ⟨h,⟨i,hi,h2⟩,rfl⟩ | ⟨⟨h,h2⟩,rfl⟩<;>rcases h' with⟨g,rfl⟩ | ⟨g,⟨j,hj,g2⟩,rfl⟩ | ⟨⟨g,g2⟩,rfl⟩<;>first|rfl|(exfalso;omega)|exact absurd (g2 i hi) h2|exact absurd (h2 j hj) g2
def LS (s t:Sl Law):Prop:=s.n=t.n/\∀i,i<s.n->LE (s.g i) (t.g i)
theorem LS.refl (s:Sl Law):LS s s:=⟨rfl,fun _ _=>LE.refl _⟩
theorem SE.ls {s t:Sl Law}(h:SE s t):LS s t:=⟨h.1,fun i hi=>by rw[h.2 i hi];exact LE.refl _⟩
theorem Ai7 {N:Nat}{laws laws' : Sl Law}(h:LS laws laws'){e:Int}(hw:Kw N laws e):Kw N laws' e:=by
 have hn:=h.1;rcases hw with⟨h1,h2⟩ | ⟨h1,⟨i,hi,h2⟩,h3⟩ | ⟨⟨h1,h2⟩,h3⟩
 ·exact .inl ⟨by omega,h2⟩
 ·exact .inr (.inl ⟨by omega,⟨i,by omega,fun g=>h2 ((Es (h.2 i hi)).2 g)⟩,h3⟩)
 ·exact .inr (.inr ⟨⟨by omega,fun i hi=>(Es (h.2 i (by omega))).1 (h2 i (by omega))⟩,h3⟩)
def T2 (laws:Sl Law):Prop:=∀i,i<laws.n->Ku (laws.g i)
theorem KK {laws laws' : Sl Law}(h:LS laws laws')(hl:T2 laws):T2 laws':=fun i hi=>by exact KJ (h.2 i (by rw[h.1];exact hi)) (hl i (by rw[h.1];exact hi))
theorem Jq {N:Nat}(hN:3000000<=N){laws:Sl Law}(hl:T2 laws):∃e,N7 N laws=some e/\AE N laws=some e/\Kw N laws e:=by
 have h1:∃e,N7 N laws=some e/\Kw N laws e:=by
  unfold N7;by_cases hn:64<laws.n
  ·exact ifT (by simp;omega) ⟨12,rfl,.inl ⟨hn,rfl⟩⟩
  refine ifF (by simp;omega) ?_;have hv:∀i,∃b,i<laws.n->O9 N (laws.g i)=some b/\(b=true ↔ ¬chkAll N (laws.g i)):=by
   intro i;by_cases hi:i<laws.n
   ·obtain⟨e,e1,_,he⟩:=Er hN (hl i hi);refine⟨e != 0,fun _=>⟨by unfold O9;rw[e1];rfl,?_⟩⟩;rcases he with⟨rfl,h⟩ | ⟨rfl,h⟩
    ·exact⟨fun h=>absurd h (by decide),fun g=>absurd h g⟩
    ·exact⟨fun _=>h,fun _=>by decide⟩
   ·exact⟨false,fun h=>absurd h hi⟩
  obtain⟨f,hf⟩:=AZ9 hv;obtain⟨r,e1,h1⟩:=TC (N:=N) (s:=laws) (by omega) (by omega) (f:=fun u1=>O9 N u1) (fun i hi=>(hf i hi).1);refine B4 e1 ?_;cases hr:r
  ·refine ifF (by simp) ⟨0,rfl,.inr (.inr ⟨⟨by omega,fun i hi=>AV5 fun hn=>?_⟩,rfl⟩)⟩
   have:=h1.2 ⟨i,hi,(hf i hi).2.2 hn⟩
   rw[hr]at this;cases this
  ·obtain⟨i,hi,hb⟩:=h1.1 hr;exact ifT rfl ⟨17,rfl,.inr (.inl ⟨by omega,⟨i,hi,(hf i hi).2.1 hb⟩,rfl⟩)⟩
 have h2:∃e,AE N laws=some e/\Kw N laws e:=by
  unfold AE;by_cases hn:64<laws.n
  ·exact ifT (by simp;omega) ⟨12,rfl,.inl ⟨hn,rfl⟩⟩
  refine ifF (by simp;omega) ?_;refine Cg (fun i x1=>x1=(i:Int)/\∀j,j<i->chkAll N (laws.g j)) laws.n _ (by omega) ⟨rfl,fun j hj=>absurd hj (by omega)⟩ ?_;rintro self i x1 hi ⟨rfl,h⟩ hs;by_cases hlt:i<laws.n
  ·obtain⟨e,_,e1,he⟩:=Er hN (hl i hlt);refine ifT (by simp;omega) (ifT (by omega) (B4 (by rw[AR8];exact e1) ?_));rcases he with⟨rfl,hc⟩ | ⟨rfl,hc⟩
   ·refine ifF (by decide) (hs hlt _ ⟨C0 (by omega),fun j hj=>?_⟩);by_cases e:j=i
    ·subst e;exact hc
    ·exact h j (by omega)
   ·exact ifT (by decide) ⟨17,rfl,.inr (.inl ⟨by omega,⟨i,hlt,hc⟩,rfl⟩)⟩
  ·exact ifF (by simp;omega) ⟨0,rfl,.inr (.inr ⟨⟨by omega,fun j hj=>h j (by omega)⟩,rfl⟩)⟩
 obtain⟨e,e1,g1⟩:=h1;obtain⟨e',e2,g2⟩:=h2;obtain rfl:=Et g1 g2;exact⟨_,e1,e2,g1⟩
def Ay7 (l:Sl (Sl Sound))(e:Int):Prop:=(e=0/\∀i,i<l.n->wOk (l.g i)) \/ (∃i,i<l.n/\(∀j,j<i->wOk (l.g j))/\Xb (l.g i) e/\e≠0)
theorem Pq {N:Nat}(hN:3000000<=N){l:Sl (Sl Sound)}(hn:l.n<2000000)(hw:∀i,i<l.n->∀j,j<(l.g i).n->okS ((l.g i).g j)) :∃e,U3 N (fun (self1:Int->Option Int) (x1:Int)=>
  if (decide (x1<(l.n:Int)))=true then
   if ((0:Int)<=x1/\x1<(l.n:Int))then
    (S1 N (l.g x1.toNat)).bind fun y4=>
    if (y4 != 0)=true then
     some y4
    else
     self1 (wrap .i64 (x1+1))
   else none
  else
   some 0
  ) 0=some e/\Ay7 l e:=by
 refine Cg (fun i x1=>x1=(i:Int)/\∀j,j<i->wOk (l.g j)) l.n _ (by omega) ⟨rfl,fun j hj=>absurd hj (by omega)⟩ ?_;rintro self i x1 hi ⟨rfl,h⟩ hs;by_cases hlt:i<l.n
 ·obtain⟨e,e1,he⟩:=MK (N:=N) (by omega) (hw i hlt);refine ifT (by simp;omega) (ifT (by omega) (B4 (by rw[AR8];exact e1) ?_));by_cases h0:e=0
  ·refine ifF (by simp[h0]) (hs hlt _ ⟨C0 (by omega),fun j hj=>?_⟩);by_cases e:j=i
   ·subst e;exact (R6 he).1 h0
   ·exact h j (by omega)
  ·exact ifT (by simpa using h0) ⟨e,rfl,.inr ⟨i,hlt,h,he,h0⟩⟩
 ·exact ifF (by simp;omega) ⟨0,rfl,.inl ⟨rfl,fun j hj=>h j (by omega)⟩⟩
theorem AH9 {w:Sl Sound}{e:Int}(h:Ay7 (Sl.of [w]:Sl (Sl Sound)) e):Xb w e:=by
 rcases h with⟨rfl,h⟩ | ⟨i,hi,_,h,_⟩
 ·exact .inr (.inr ⟨h 0 (by show 0<1;omega),rfl⟩)
 ·match i,hi with
  |0,_=>exact h
theorem MN {N:Nat}(hN:3000000<=N){laws:Sl Law}(hl:T2 laws){w:Sl Sound}(hw:∀i,i<w.n->okS (w.g i)) :∃e,At N laws (Sl.of [w]:Sl (Sl Sound))=some e/\((Kw N laws e/\e≠0) \/ (Kw N laws 0/\Xb w e)):=by
 unfold At;obtain⟨e,e1,_,h1⟩:=Jq hN hl;refine B4 e1 ?_;by_cases h0:e=0
 case neg=>exact ifT (by simpa using h0) ⟨e,rfl,.inl ⟨h1,h0⟩⟩
 refine ifF (by simp[h0]) (ifF (by show ¬decide ((256:Int)<((1:Nat):Int))=true;decide) ?_);obtain⟨e2,e3,h3⟩:=Pq (N:=N) hN (l:=(Sl.of [w]:Sl (Sl Sound))) (by show 1<_;omega) fun i hi=>by
  match i,hi with
  |0,_=>exact hw
 exact⟨e2,e3,.inr ⟨h0 ▸ h1,AH9 h3⟩⟩
def S2 (N:Nat)(c:Int)(q1:Sl Law)(self1:Sl Sound->Int->Option Tw)(x1:Sl Sound)(x2:Int):Option Tw:=
 if (decide (x2<(q1.n:Int)))=true then
  if ((0:Int)<=x2/\x2<(q1.n:Int))then
   (P8 N (q1.g x2.toNat) x1).bind fun y4=>
   if (y4.2 != 0)=true then
    if y4.2=c then some []else none
   else
    U5 (wrap .i64 (x2+1),y4.1) (
     self1 y4.1 (wrap .i64 (x2+1))
     )
  else none
 else
  if c=0 then some []else none
theorem Q0 {N:Nat}{c:Int}{laws:Sl Law}{self1:Sl Sound->Int->Option Tw}{w:Sl Sound}{i:Nat}(hi:i<laws.n)(h64:laws.n<=64){y:Sl Sound×Int}(h:P8 N (laws.g i) w=some y) :S2 N c laws self1 w (i:Int)=if (y.2 != 0)=true then (if y.2=c then some []else none)else U5 (((i+1:Nat):Int),y.1) (self1 y.1 ((i+1:Nat):Int)):=by unfold S2;rw[if_pos (show decide ((i:Int)<(laws.n:Int))=true by simp;omega),if_pos (by omega),AR8,h,AS1,C0 (by omega)]
abbrev AQ3:=(Sl (Sl Sound))×Int
def Gg (N:Nat)(p_laws:Sl Law)(self1:Sl (Sl Sound)->Int->Option AQ3)(x2:Sl (Sl Sound))(x3:Int):Option AQ3:=
 if (decide (x3<(p_laws.n:Int)))=true then
  if ((((0:Int)<=x3/\x3<(p_laws.n:Int))/\((0:Int)<=x3/\x3<(x2.n:Int)))/\x3.toNat<x2.n)then
   (BD N (p_laws.g x3.toNat) (x2.g x3.toNat)).bind fun y7=>
   if (y7.2 != 0)=true then
    some ((Sl.nil:Sl (Sl Sound)),y7.2)
   else
    if ((x2.n+(Sl.of [y7.1]:Sl (Sl Sound)).n)*24<=140737488355328/\x2.n+(Sl.of [y7.1]:Sl (Sl Sound)).n<=140737488355328)then
     self1 (x2.push y7.1) (wrap .i64 (x3+1))
    else none
  else none
 else
  some (x2,0)
def IH:Sl Sound->Tw->Sl Sound
 |w,[]=>w
 |_,(_,v)::L=>IH v L
theorem II:∀(L:Tw) (w:Sl Sound),K0 L (fun (self1:Sl Sound->Option (Sl Sound)) (x1:Int×(Sl Sound)) (z1:Sl Sound)=>self1 x1.2) (fun (z1:Sl Sound)=>some z1) w=some (IH w L)
 |[],w=>rfl
 |(p,v)::L,w=>II L v
def DB (N:Nat)(laws:Sl Law):Prop:=laws.n<=64/\∀i,i<laws.n->chkAll N (laws.g i)
theorem Ai8 {N:Nat}(hN:3000000<=N){laws laws' : Sl Law}(hl:T2 laws)(hls:LS laws laws')(hok:DB N laws):∀(m i:Nat) (w w' : Sl Sound),SE w w' -> wOk w->i<=laws.n->laws.n<=i+m ->
 (∃L v',SE (IH w L) v' /\ wOk (IH w L)/\(∀M,m<M->P6 M (S2 N 0 laws) w i=some L)/\∀M x2,m<M->x2.n=i+1->x2.g i=w' -> ∃y,P6 M (Gg N laws') x2 i=some (y,0)/\y.n=laws.n+1/\y.g laws.n=v') \/
 ((∃L,∀M,m<M->P6 M (S2 N 0 laws) w i=none/\P6 M (S2 N 11 laws) w i=some L)/\∀M x2,m<M->x2.n=i+1->x2.g i=w' -> P6 M (Gg N laws') x2 i=some ((Sl.nil:Sl (Sl Sound)),11)):=by
 have hn':=hls.1;have h64:=hok.1;intro m
 induction m with
 |zero=>
  intro i w w' hse hw hi hm;refine .inl ⟨[],w',hse,hw,fun M hM=>?_,fun M x2 hM hx hg=>⟨x2,?_,by omega,by rw[<- hg];congr 1;omega⟩⟩
  ·obtain⟨M,rfl⟩:∃K,M=K+1:=⟨M-1,by omega⟩;rw[D3,S2,if_neg (by simp;omega),if_pos rfl]
  ·obtain⟨M,rfl⟩:∃K,M=K+1:=⟨M-1,by omega⟩;rw[D3,Gg,if_neg (by simp;omega)]
 |succ m ih=>
  intro i w w' hse hw hi hm;by_cases hlt:i<laws.n
  case neg=>
   refine .inl ⟨[],w',hse,hw,fun M hM=>?_,fun M x2 hM hx hg=>⟨x2,?_,by omega,by rw[<- hg];congr 1;omega⟩⟩
   ·obtain⟨M,rfl⟩:∃K,M=K+1:=⟨M-1,by omega⟩;rw[D3,S2,if_neg (by simp;omega),if_pos rfl]
   ·obtain⟨M,rfl⟩:∃K,M=K+1:=⟨M-1,by omega⟩;rw[D3,Gg,if_neg (by simp;omega)]
  obtain⟨⟨v,e⟩,⟨v',e'⟩,h1,h2,h3,h4,h5⟩:=IG hN (hl i hlt) (hls.2 i hlt) hse fun j hj=>(hw.2 j hj).ok;simp only at h3 h4;subst h4;rcases h5 with⟨_,h5⟩ | ⟨_,h5,h6⟩ | ⟨_,_,h5⟩
  ·exact absurd (hok.2 i hlt) h5
  ·exact absurd ((R6 h5).2 hw) h6
  rcases h5 with rfl|⟨rfl,hv⟩
  ·refine .inr ⟨⟨[],fun M hM=>?_⟩,fun M x2 hM hx hg=>?_⟩
   ·obtain⟨M,rfl⟩:∃K,M=K+1:=⟨M-1,by omega⟩;rw[D3,D3,Q0 hlt h64 h1,Q0 hlt h64 h1];exact⟨rfl,rfl⟩
   ·obtain⟨M,rfl⟩:∃K,M=K+1:=⟨M-1,by omega⟩;rw[D3,Gg,if_pos (by simp;omega),if_pos (by omega),AR8,hg,h2,AS1,if_pos (by simp)]
  ·rcases ih (i+1) v v' h3 hv (by omega) (by omega)with⟨L,u,g1,g2,g3,g4⟩ | ⟨⟨L,g1⟩,g2⟩
   ·refine .inl ⟨((i+1:Nat),v)::L,u,g1,g2,fun M hM=>?_,fun M x2 hM hx hg=>?_⟩
    ·obtain⟨M,rfl⟩:∃K,M=K+1:=⟨M-1,by omega⟩;rw[D3,Q0 hlt h64 h1,if_neg (by simp)];show U5 _ (P6 M (S2 N 0 laws) v _)=_;rw[g3 M (by omega)];rfl
    ·obtain⟨M,rfl⟩:∃K,M=K+1:=⟨M-1,by omega⟩;rw[D3,Gg,if_pos (by simp;omega),if_pos (by omega),AR8,hg,h2,AS1,if_neg (by simp),if_pos (by show (x2.n+1)*24<=_/\x2.n+1<=_;omega),C0 (by omega)];exact g4 M (x2.push v') (by omega) (by show x2.n+1=_;omega) (by show (if i+1<x2.n then x2.g (i+1)else v')=v';rw[if_neg (by omega)])
   ·refine .inr ⟨⟨((i+1:Nat),v)::L,fun M hM=>?_⟩,fun M x2 hM hx hg=>?_⟩
    ·obtain⟨M,rfl⟩:∃K,M=K+1:=⟨M-1,by omega⟩;obtain⟨a1,a2⟩:=g1 M (by omega);rw[D3,D3,Q0 hlt h64 h1,Q0 hlt h64 h1,if_neg (by simp),if_neg (by simp)];refine⟨?_,?_⟩
     ·show U5 _ (P6 M (S2 N 0 laws) v _)=_;rw[a1];rfl
     ·show U5 _ (P6 M (S2 N 11 laws) v _)=_;rw[a2];rfl
    ·obtain⟨M,rfl⟩:∃K,M=K+1:=⟨M-1,by omega⟩;rw[D3,Gg,if_pos (by simp;omega),if_pos (by omega),AR8,hg,h2,AS1,if_neg (by simp),if_pos (by show (x2.n+1)*24<=_/\x2.n+1<=_;omega),C0 (by omega)];exact g2 M (x2.push v') (by omega) (by show x2.n+1=_;omega) (by show (if i+1<x2.n then x2.g (i+1)else v')=v';rw[if_neg (by omega)])
theorem Au0 {N:Nat}{w:Sl Sound}(hN:w.n<N)(hs:w.n<10000000):∃y,Cz N w=some y/\SE w y:=by
 suffices h:∃y,Cz N w=some y/\y=Bu w.g w.n by obtain⟨y,h,rfl⟩:=h;exact⟨_,h,(Hz _ _).symm,fun i hi=>(VM w.g hi).symm⟩
 unfold Cz;refine T1 (fun i x1 x2=>x2=(i:Int)/\x1=Bu w.g i) w.n _ hN ⟨rfl,rfl⟩ ?_;rintro self i x1 x2 hi ⟨rfl,rfl⟩ hs2;by_cases hl:i<w.n
 ·have:=Hz w.g i
  refine ifT (by simp;omega) (ifT ⟨by omega,by show ((Bu w.g i).n+1)*8<=_/\(Bu w.g i).n+1<=_;omega⟩ (hs2 hl _ _ ⟨C0 (by omega),by rw[AR8];rfl⟩))
 ·exact ifF (by simp;omega) ⟨_,rfl,by congr 1;omega⟩
def deE (N:Nat)(laws:Sl Law)(w:Sl Sound)(r:Sl Sound×Int):Prop:=(Kw N laws r.2/\r.2≠0) \/ (Kw N laws 0/\Xb w r.2/\r.2≠0) \/ (DB N laws/\wOk w/\(r.2=11 \/ (r.2=0/\wOk r.1)))
theorem lawsE_zero {N:Nat}{laws:Sl Law}:Kw N laws 0↔DB N laws:=by
 constructor
 ·rintro (⟨_,h⟩ | ⟨_,_,h⟩ | ⟨h,_⟩)
  ·cases h
  ·cases h
  ·exact h
 ·exact fun h=>.inr (.inr ⟨h,rfl⟩)
theorem Pr {N:Nat}(hN:3000000<=N){laws laws' : Sl Law}(hl:T2 laws)(hls:LS laws laws'){w w' : Sl Sound}(hse:SE w w')(hw:∀i,i<w.n->okS (w.g i)) :∃r r',F3 N laws w=some r/\AN N laws' w' = some r' /\ SE r.1 r'.1/\r.2=r'.2/\deE N laws w r:=by
 obtain⟨e,e1,h1⟩:=MN hN hl hw;obtain⟨a,_,a1,ha⟩:=Jq hN (KK hls hl);unfold F3 AN EQ;rw[e1,a1,AS1,AS1];rcases h1 with⟨h1,h0⟩ | ⟨h1,h2⟩
 ·obtain rfl:=Et (Ai7 hls h1) ha;have hne:(e != 0)=true:=by simpa using h0
  have hnz:¬(e==0)=true:=by simpa using h0
  rw[if_pos hne,lt,if_neg hnz];dsimp only;rw[if_pos hne,AS1];dsimp only;rw[if_pos hne];exact⟨_,_,rfl,rfl,SE.refl _,rfl,.inl ⟨h1,h0⟩⟩
 obtain rfl:=Et (Ai7 hls h1) ha;rw[lt,if_pos (show ((0:Int)==0)=true from rfl)];obtain⟨b,b1,hb⟩:=CK (N:=N) (by omega) (Ai5 hse hw);obtain rfl:=Ge (Ai4 hse h2) hb;rw[b1,AS1];dsimp only;by_cases h0:e=0
 case neg=>
  have hne:(e != 0)=true:=by simpa using h0
  rw[if_pos hne,if_pos hne,AS1];dsimp only;rw[if_pos hne];exact⟨_,_,rfl,rfl,SE.refl _,rfl,.inr (.inl ⟨h1,h2,h0⟩)⟩
 have hnz:¬(e != 0)=true:=by simp[h0]
 rw[if_neg hnz,if_neg hnz];have hok:=lawsE_zero.1 h1;have hwk:wOk w:=(R6 h2).1 h0;have h32:=hwk.1;have hnn:=hse.1;have h64:=hok.1;have hn':=hls.1;obtain⟨y4,c1,c2⟩:=Au0 (N:=N) (w:=w') (by omega) (by omega);have hclone:A3 N w=some w:=by unfold A3;rw[if_pos (by omega)]
 have hout:∀c,B9 N c laws w=(U5 (0,w) (P6 N (S2 N c laws) w 0)).bind fun L1=>K0 L1 (fun (self1:Sl Sound->Option (Sl Sound)) (x1:Int×(Sl Sound)) (z1:Sl Sound)=>self1 x1.2) (fun (z1:Sl Sound)=>some z1) (Sl.nil:Sl Sound):=by intro c;unfold B9 Au S9;rw[AS1,hclone,AS1];rfl
 have hdoc:∀(x2:Sl (Sl Sound)),(P6 N (fun self1 (x2:Sl (Sl Sound)) (x3:Int)=>Gg N laws' self1 x2 x3) x2 0)=P6 N (Gg N laws') x2 ((0:Nat):Int):=fun _=>rfl;rw[c1,AS1];rcases Ai8 hN hl hls hok laws.n 0 w y4 (hse.trans c2) hwk (by omega) (by omega)with⟨L,v',g1,g2,g3,g4⟩ | ⟨⟨L,g1⟩,g2⟩
 ·obtain⟨y,d1,d2,d3⟩:=g4 N (Sl.of [y4]:Sl (Sl Sound)) (by omega) rfl rfl
  have:F2 N laws w=some (IH w L,true):=by
   have e0:B9 N 0 laws w=some (IH w L):=by rw[hout];have g3:P6 N (S2 N 0 laws) w 0=some L:=g3 N (by omega);rw[g3];exact II _ _
   unfold F2;rw[e0]
  rw[this,AS1,if_neg (by simp)];refine⟨_,(v',0),rfl,?_,g1,rfl,.inr (.inr ⟨hok,hwk,.inr ⟨rfl,g2⟩⟩)⟩;show Option.bind (P6 N (Gg N laws') (Sl.of [y4]:Sl (Sl Sound)) ((0:Nat):Int)) _=_;rw[d1,AS1,if_neg (by simp)];have ew:wrap .i64 ((y.n:Int)-1)=((laws.n:Nat):Int):=by rw[d2,F0 (by omega) (by omega)];omega
  simp only[ew,AR8];rw[if_pos (by omega),d3]
 ·have:F2 N laws w=some ((Sl.nil:Sl Sound),false):=by
   obtain⟨g3,g4⟩:=g1 N (by omega);have g3:P6 N (S2 N 0 laws) w 0=none:=g3;have g4:P6 N (S2 N 11 laws) w 0=some L:=g4;have e0:B9 N 0 laws w=none:=by rw[hout,g3];rfl
   have e11:B9 N 11 laws w=some (IH w L):=by rw[hout,g4];exact II _ _
   unfold F2;rw[e0,e11];rfl
  rw[this,AS1,if_pos (by simp)];refine⟨_,((Sl.nil:Sl Sound),11),rfl,?_,SE.refl _,rfl,.inr (.inr ⟨hok,hwk,.inl rfl⟩)⟩;show Option.bind (P6 N (Gg N laws') (Sl.of [y4]:Sl (Sl Sound)) ((0:Nat):Int)) _=_;rw[g2 N (Sl.of [y4]:Sl (Sl Sound)) (by omega) rfl rfl,AS1,if_pos (by decide)]
end Go.AM
set_option linter.unusedVariables false
namespace Go.AM
open IntKind (wrap)
open Go.Proofs
theorem QJ {α : Type}(s:Sl α)(a : α):(s.push a).toList=s.toList++[a]:=by
 show (List.range (s.n+1)).map (fun i=>if i<s.n then s.g i else a)=_;rw[Bb3,Ba2];congr 1
 ·exact AU6 fun i hi=>if_pos (AW2.1 hi)
 ·simp
theorem tl_eq {α : Type}{s t:Sl α}:s.toList=t.toList↔SE s t:=by
 constructor
 ·intro h;have hn:s.n=t.n:=by rw[<- U0 s,h,U0]
  refine⟨hn,fun i hi=>?_⟩
  have:=congrArg (fun l=>l[i]?) h
  simpa[Sl.toList,hi,hn ▸ hi]using this
 ·rintro⟨h1,h2⟩;unfold Sl.toList;rw[<- h1];exact AU6 fun i hi=>h2 i (AW2.1 hi)
theorem sEq (x y:Sound):((x.Plus==y.Plus)&&(x.Minus==y.Minus))=decide (x=y):=by cases x;cases y;rw[AU7];simp
theorem Ai9 {N:Nat}{x y:Sl Sound}(hN:x.n<N)(hs:x.n<10000000) :∃b,(if ((x.n:Int) != (y.n:Int))=true then
 some false
 else
  U3 N (fun (self1:Int->Option Bool) (x1:Int)=>
   if (decide (x1<(x.n:Int)))=true then
    if (((0:Int)<=x1/\x1<(x.n:Int))/\((0:Int)<=x1/\x1<(y.n:Int)))then
     if ((((x.g x1.toNat).Plus==(y.g x1.toNat).Plus)&&((x.g x1.toNat).Minus==(y.g x1.toNat).Minus)) != true)=true then
      some false
     else
      self1 (wrap .i64 (x1+1))
    else none
   else
    some true
   ) 0)=some b/\(b=true↔SE x y):=by
 by_cases hn:x.n=y.n
 case neg=>exact ifT (by simp;omega) ⟨false,rfl,by simp,fun h=>absurd h.1 hn⟩
 refine ifF (by simp[hn]) ?_;refine Cg (fun i x1=>x1=(i:Int)/\∀j,j<i->x.g j=y.g j) x.n _ hN ⟨rfl,fun j hj=>absurd hj (by omega)⟩ ?_;rintro self i x1 hi ⟨rfl,h⟩ hs2;by_cases hl:i<x.n
 ·refine ifT (by simp;omega) (ifT (by omega) ?_);rw[AR8,sEq];by_cases e:x.g i=y.g i
  ·refine ifF (by simp[e]) (hs2 hl _ ⟨C0 (by omega),fun j hj=>?_⟩);by_cases e2:j=i
   ·subst e2;exact e
   ·exact h j (by omega)
  ·exact ifT (by simp[e]) ⟨false,rfl,by simp,fun h=>absurd (h.2 i hl) e⟩
 ·exact ifF (by simp;omega) ⟨true,rfl,fun _=>⟨hn,fun j hj=>h j (by omega)⟩,fun _=>rfl⟩
theorem AI0 {N:Nat}{x y:Sl Sound}(hN:x.n<N)(hs:x.n<10000000):∃b,BV N x y=some b/\(b=true↔SE x y):=by obtain⟨b,h,hb⟩:=Ai9 (N:=N) (x:=x) (y:=y) hN hs;exact⟨b,by unfold BV;rw[show E6 N x y=some b from h];rfl,hb⟩
theorem AI1 {N:Nat}{x y:Sl Sound}(hN:x.n<N)(hs:x.n<10000000):∃b,EO N x y=some b/\(b=true↔SE x y):=Ai9 hN hs
abbrev okA (w:Sl Sound):Prop:=∀i,i<w.n->okS (w.g i)
theorem Aj0 {N:Nat}(hN:3000000<=N){laws laws' : Sl Law}(hl:T2 laws)(hls:LS laws laws'){v v' w w' : Sl Sound}(hv:SE v v')(hvo:okA v)(hw:SE w w') :∃b,H9 N laws v w=some b/\AF N laws' v' w' = some b/\(b=true ↔ ∃r,F3 N laws v=some r/\r.2=0/\SE r.1 w):=by
 obtain⟨r,r',h1,h2,h3,h4,h5⟩:=Pr hN hl hls hv hvo;unfold H9 AF;rw[h1,h2,AS1,AS1,lt,lt,<- h4];by_cases h0:r.2=0
 ·rw[if_pos (by simp[h0]),if_pos (by simp[h0])];have hk:wOk r.1:=by
   rcases h5 with⟨_,h⟩ | ⟨_,_,h⟩ | ⟨_,_,h|⟨_,h⟩⟩
   ·exact absurd h0 h
   ·exact absurd h0 h
   ·rw[h]at h0;cases h0
   ·exact h
  have h32:=hk.1;have hn:=h3.1;obtain⟨b,e1,hb⟩:=AI0 (N:=N) (x:=r.1) (y:=w) (by omega) (by omega);obtain⟨b',e2,hb'⟩:=AI1 (N:=N) (x:=r'.1) (y:=w') (by omega) (by omega)
  have:b=b':=by rw[AU7,hb,hb'];exact⟨fun h=>h3.symm.trans (h.trans hw),fun h=>h3.trans (h.trans hw.symm)⟩
  subst this;rw[e1,e2];refine⟨b,rfl,rfl,hb.trans ⟨fun h=>⟨r,rfl,h0,h⟩,?_⟩⟩;rintro⟨q,hq,_,hq2⟩;obtain rfl:=AU4 hq;exact hq2
 ·rw[if_neg (by simp[h0]),if_neg (by simp[h0])];refine⟨false,rfl,rfl,by simp,?_⟩;rintro⟨q,hq,hq1,_⟩;obtain rfl:=AU4 hq;exact absurd hq1 h0
def gv (N:Nat)(laws:Sl Law)(v w:Sl Sound):Bool:=(H9 N laws v w).getD false
theorem Xg {N:Nat}(hN:3000000<=N){laws laws' : Sl Law}(hl:T2 laws)(hls:LS laws laws'){v v' w w' : Sl Sound}(hv:SE v v')(hvo:okA v)(hw:SE w w') :H9 N laws v w=some (gv N laws v w)/\AF N laws' v' w' = some (gv N laws v w)/\(gv N laws v w=true ↔ ∃r,F3 N laws v=some r/\r.2=0/\SE r.1 w):=by
 obtain⟨b,h1,h2,h3⟩:=Aj0 hN hl hls hv hvo hw;have e:gv N laws v w=b:=by unfold gv;rw[h1];rfl
 rw[e];exact⟨h1,h2,h3⟩
theorem gv_S {N:Nat}(hN:3000000<=N){laws laws' : Sl Law}(hl:T2 laws)(hls:LS laws laws'){v v' w w' : Sl Sound}(hv:SE v v')(hvo:okA v)(hw:SE w w'):gv N laws v w=gv N laws' v' w':=by have h1:=(Xg hN hl hls hv hvo hw).2.1;have h2:=(Xg hN (KK hls hl) (LS.refl laws') (SE.refl v') (Ai5 hv hvo) (SE.refl w')).2.1;exact AU4 (h1.symm.trans h2)
def QW (P:Nat->Bool)(n i:Nat):List Int:=((List.range' i (n-i)).filter P).map fun (j:Nat)=>(j:Int)
theorem KL {P:Nat->Bool}{n i:Nat}(h:n<=i):QW P n i=[]:=by unfold QW;rw[show n-i=0 by omega];rfl
theorem Xh {P:Nat->Bool}{n i:Nat}(h:i<n)(hp:P i=true):QW P n i=(i:Int)::QW P n (i+1):=by unfold QW;rw[show n-i=n-(i+1)+1 by omega,Ba6,Bd8 hp];rfl
theorem Aj1 {P:Nat->Bool}{n i:Nat}(h:i<n)(hp:P i=false):QW P n i=QW P n (i+1):=by unfold QW;rw[show n-i=n-(i+1)+1 by omega,Ba6,Bd9 (by simp[hp])]
theorem Ps {P Q:Nat->Bool}{n i:Nat}(h:∀j,i<=j->j<n->P j=Q j):QW P n i=QW Q n i:=by unfold QW;congr 1;exact List.filter_congr fun j hj=>h j (Bc5.1 hj).1 (by have:=Bc5.1 hj;omega)
theorem Au1 (P:Nat->Bool)(n i:Nat):(QW P n i).length<=n-i:=by
 unfold QW;rw[AW8]
 have:=Bi2 P (List.range' i (n-i))
 rw[List.length_range']at this;exact this
theorem filI {P:Nat->Bool}{n:Nat}{body:(Int->Option (List Int))->Int->Option (List Int)}
 (hend:∀self i,n<=i->body self ((i:Nat):Int)=some []) (hyes:∀self i,i<n->P i=true->body self ((i:Nat):Int)=U5 (i:Int) (self ((i+1:Nat):Int))) (hno:∀self i,i<n->P i=false->body self ((i:Nat):Int)=self ((i+1:Nat):Int)) :
 ∀(m i N:Nat),n<=i+m->m<N->U3 N body (i:Int)=some (QW P n i)
 |0,i,N,h,hN=>by obtain⟨M,rfl⟩:∃K,N=K+1:=⟨N-1,by omega⟩;rw[P0,hend _ i (by omega),KL (by omega)]
 |m+1,i,N,h,hN=>by
  obtain⟨M,rfl⟩:∃K,N=K+1:=⟨N-1,by omega⟩;rw[P0];by_cases hi:i<n
  ·have ih:=filI hend hyes hno m (i+1) M (by omega) (by omega);cases hp:P i
   ·rw[hno _ i hi hp,ih,Aj1 hi hp]
   ·rw[hyes _ i hi hp,ih,Xh hi hp];rfl
  ·rw[hend _ i (by omega),KL (by omega)]
theorem filD {R:Type}{P:Nat->Bool}{n:Nat}{body:(Sl Int->Int->Option R)->Sl Int->Int->Option R}{k:Sl Int->Option R}
 (hend:∀self x i,n<=i->x.n<=3000000->body self x ((i:Nat):Int)=k x) (hyes:∀self x i,i<n->x.n<=3000000->P i=true->body self x ((i:Nat):Int)=self (x.push (i:Int)) ((i+1:Nat):Int)) (hno:∀self x i,i<n->x.n<=3000000->P i=false->body self x ((i:Nat):Int)=self x ((i+1:Nat):Int)) :
 ∀(m i:Nat) (x:Sl Int) (N:Nat),n<=i+m->m<N->x.n+m<=3000000->∃y,P6 N body x (i:Int)=k y/\y.toList=x.toList++QW P n i
 |0,i,x,N,h,hN,hx=>by obtain⟨M,rfl⟩:∃K,N=K+1:=⟨N-1,by omega⟩;exact⟨x,by rw[D3,hend _ x i (by omega) (by omega)],by rw[KL (by omega),AY9]⟩
 |m+1,i,x,N,h,hN,hx=>by
  obtain⟨M,rfl⟩:∃K,N=K+1:=⟨N-1,by omega⟩;rw[D3];by_cases hi:i<n
  ·cases hp:P i
   ·obtain⟨y,h1,h2⟩:=filD hend hyes hno m (i+1) x M (by omega) (by omega) (by omega);exact⟨y,by rw[hno _ x i hi (by omega) hp,h1],by rw[h2,Aj1 hi hp]⟩
   ·obtain⟨y,h1,h2⟩:=filD hend hyes hno m (i+1) (x.push (i:Int)) M (by omega) (by omega) (by show x.n+1+m<=_;omega);exact⟨y,by rw[hyes _ x i hi (by omega) hp,h1],by rw[h2,QJ,Xh hi hp];simp⟩
  ·exact⟨x,by rw[hend _ x i (by omega) (by omega)],by rw[KL (by omega),AY9]⟩
def Gh:List Int->Int×Int×Bool
 |[]=>(0,0,false)
 |a::l=>(a,(a::l).getLast (by simp),true)
theorem Aj2 {N:Nat}(L:List Int):Z0 N L=some ((⟨(Gh L).1,(Gh L).2.1⟩:Q8),(Gh L).2.2):=by
 have h:∀(L:List Int) (a b:Int),K0 L (fun (self1:Int×Int×Bool->Option (Q8×Bool)) (x1:Int) (z1:Int×Int×Bool)=>
  if (!z1.2.2)=true then
   self1 (x1,x1,true)
  else
   self1 (z1.1,x1,z1.2.2)
  ) (fun (z1:Int×Int×Bool)=>
   some ((⟨z1.1,z1.2.1⟩:Q8),z1.2.2)
  ) (a,b,true)=some ((⟨a,(b::L).getLast (by simp)⟩:Q8),true):=by
  intro L
  induction L with
  |nil=>exact fun a b=>rfl
  |cons c L ih=>intro a b;rw[K0,if_neg (by simp),ih a c];simp
 unfold Z0;cases L with
 |nil=>rfl
 |cons a L=>rw[K0,if_pos (by simp),h L a a];rfl
theorem Aj3 {N:Nat}(s:Sl Int)(hs:s.n<1000000):Em N s=some ((⟨(Gh s.toList).1,(Gh s.toList).2.1⟩:Gm),(Gh s.toList).2.2):=by
 unfold Em;by_cases h0:s.n=0
 ·rw[if_pos (by simp[h0]),show s.toList=[] by unfold Sl.toList;rw[h0];rfl];rfl
 ·rw[if_neg (by simp[h0]),show wrap .i64 ((s.n:Int)-1)=((s.n-1:Nat):Int) from AP6 (by omega) (by omega),if_pos (by omega),AR8];have h2:=U0 s;have hg:∀i (h:i<s.toList.length),s.toList[i]=s.g i:=fun i h=>by simp[Sl.toList]
  rcases e:s.toList with _|⟨a,l⟩
  ·rw[e]at h2;exact absurd h2.symm h0
  ·have e0:s.g 0=a:=by rw[<- hg 0 (by omega)];simp[e]
   have e1:s.g (s.n-1)=(a::l).getLast (by simp):=by rw[<- hg (s.n-1) (by omega),List.getLast_eq_getElem];simp only[e]at h2⊢;congr 1;omega
   rw[e0,e1];rfl
end Go.AM
set_option linter.unusedVariables false
namespace Go.AM
open IntKind (wrap)
open Go.Proofs
def dep:Nat->Pat->Prop
 |0,_=>False
 |d+1,p=>p.L.n<=40/\∀i,i<p.L.n->dep d (p.L.g i)
theorem Ay8:∀(d:Nat) (p:Pat),dep d p->∀e,d<=e->dep e p
 |0,_,h,_,_=>h.elim
 |d+1,p,h,0,he=>by omega
 |d+1,p,h,e+1,he=>⟨h.1,fun i hi=>Ay8 d _ (h.2 i hi) e (by omega)⟩
theorem TD {N:Nat}(hN:1000<=N):∀(d:Nat),d<=40->∀(p:Pat) (M:Nat),N+d+2<=M->∃r:Nat,AC M p ((40-d:Nat):Int)=some (r:Int)/\40-d<r/\r<=41/\(r<=40->dep (d+1) p)
 |d,hd,p,0,hM=>by omega
 |d,hd,p,M+1,hM=>by
  have:∃x,AC (M+1) p ((40-d:Nat):Int)=some x/\∃r:Nat,x=(r:Int)/\40-d<r/\r<=41/\(r<=40->dep (d+1) p):=by
   show ∃x,Bg (AC M) M p _=some x/\_;unfold Bg;rw[C0 (by omega)];refine T1 (fun i x1 x2=>x2=(i:Int)/\∃k:Nat,x1=(k:Int)/\40-d+1+i<=k/\k<=41/\i<=p.L.n/\(k<=40->∀j,j<i->dep d (p.L.g j))) 41 _ (by omega) ⟨rfl,40-d+1,rfl,by omega,by omega,by omega,fun _ j hj=>absurd hj (by omega)⟩ ?_;rintro self i x1 x2 hi ⟨rfl,k,rfl,h1,h2,h3,h4⟩ hs;by_cases hc:i<p.L.n/\k<=40
   ·refine ifT (by simp only[AS3,decide_eq_true_eq];omega) (ifT (by omega) ?_);obtain⟨r,hr,r1,r2,r3⟩:=TD hN (40-k) (by omega) (p.L.g i) M (by omega);rw[show ((40-(40-k):Nat):Int)=(k:Int) by omega]at hr;refine B4 (by rw[AR8];exact hr) (hs (by omega) _ _ ⟨C0 (by omega),r,rfl,by omega,r2,by omega,fun hr40 j hj=>?_⟩);by_cases e:j=i
    ·subst e;exact Ay8 _ _ (r3 hr40) d (by omega)
    ·exact h4 hc.2 j (by omega)
   ·refine ifF (by simp only[AS3,decide_eq_true_eq];omega) ⟨_,rfl,k,rfl,by omega,h2,fun hk=>⟨by omega,fun j hj=>h4 hk j (by omega)⟩⟩
  obtain⟨x,h1,r,rfl,h2⟩:=this;exact⟨r,h1,h2⟩
theorem MO:∀(d:Nat) (p:Pat),dep d p->∀M,100+d<=M->∃r,Y4 M p=some r
 |0,p,h,M,_=>h.elim
 |d+1,p,h,0,hM=>by omega
 |d+1,p,h,M+1,hM=>by
  suffices ∃r,Y4 (M+1) p=some r/\True by obtain⟨r,h,_⟩:=this;exact⟨r,h⟩
  show ∃x,W0 (Y4 M) M p=some x/\_;unfold W0;have hn:=h.1;refine T1 (fun i x1 x2=>x2=(i:Int)) p.L.n _ (by omega) rfl ?_;rintro self i x1 x2 hi rfl hs;by_cases hl:i<p.L.n
  ·obtain⟨r,hr⟩:=MO d (p.L.g i) (h.2 i hl) M (by omega);exact ifT (by simp;omega) (ifT (by omega) (B4 (by rw[AR8];exact hr) (hs hl _ _ (C0 (by omega)))))
  ·exact ifF (by simp;omega) ⟨_,rfl,trivial⟩
theorem Au2 {N:Nat}(hN:2000<=N)(p:Pat):∃r:Nat,Ei N p=some (r:Int)/\(r<=40->dep 41 p):=by obtain⟨r,h1,_,_,h2⟩:=TD (N:=1000) (by omega) 40 (by omega) p N (by omega);exact⟨r,by unfold Ei;rw[show AC N p 0=some (r:Int) from h1];rfl,h2⟩
theorem Au3 {N:Nat}(hN:2000<=N)(laws:Sl Law):∃r,CC N laws=some r:=by
 suffices ∃r,CC N laws=some r/\True by obtain⟨r,h,_⟩:=this;exact⟨r,h⟩
 unfold CC;refine T1 (fun i x1 x2=>x2=(i:Int)) 301 _ (by omega) rfl ?_;rintro self i x1 x2 hi rfl hs;by_cases hc:i<laws.n/\i<=300
 ·refine ifT (by simp only[AS3,decide_eq_true_eq];omega) (ifT (by omega) ?_);refine T1 (fun j x7 x8=>x8=(j:Int)) 2 _ (by omega) rfl ?_;rintro self2 j x7 x8 hj rfl hs2;by_cases hl:j<2
  ·refine ifT (by show decide ((j:Int)<((2:Nat):Int))=true;simp;omega) (ifT (by show (0:Int)<=(j:Int)/\(j:Int)<((2:Nat):Int);omega) ?_);obtain⟨r,hr,hd⟩:=Au2 hN ((Sl.of [(laws.g (i:Int).toNat).Left,(laws.g (i:Int).toNat).Right]:Sl Pat).g (j:Int).toNat);refine B4 hr ?_;by_cases h40:r<=40
   ·obtain⟨q,hq⟩:=MO 41 _ (hd h40) N (by omega);exact ifT (by simp;omega) (B4 hq (hs2 hl _ _ (C0 (by omega))))
   ·exact ifF (by simp;omega) (hs2 hl _ _ (C0 (by omega)))
  ·exact ifF (by show ¬decide ((j:Int)<((2:Nat):Int))=true;simp;omega) (hs (by omega) _ _ (C0 (by omega)))
 ·exact ifF (by simp only[AS3,decide_eq_true_eq];omega) ⟨_,rfl,trivial⟩
theorem Zo {N:Nat}(hN:3000000<=N){laws:Sl Law}(hl:T2 laws){v w:Sl Sound}(hv:okA v)(hw:okA w) :∃e,J1 N laws (Sl.of [v,w]:Sl (Sl Sound))=some e/\Dh N laws v w=some e/\(e=0↔DB N laws/\wOk v/\wOk w):=by
 obtain⟨e,e1,e2,he⟩:=Jq hN hl;unfold J1 Dh;rw[e1,e2,AS1,AS1];by_cases h0:e=0
 case neg=>rw[if_pos (by simpa using h0),if_pos (by simpa using h0)];exact⟨e,rfl,rfl,fun h=>absurd h h0,fun h=>absurd (Et he (lawsE_zero.2 h.1)) h0⟩
 rw[if_neg (by simp[h0]),if_neg (by simp[h0])];subst h0;have hok:=lawsE_zero.1 he;obtain⟨a,a1,ha⟩:=Pq (N:=N) hN (l:=(Sl.of [v,w]:Sl (Sl Sound))) (by show 2<_;omega) fun i hi=>by
  match i,hi with
  |0,_=>exact hv
  |1,_=>exact hw
 obtain⟨b,b1,hb⟩:=CK (N:=N) (by omega) hv;obtain⟨c,c1,hc⟩:=CK (N:=N) (by omega) hw;rw[b1,c1,AS1];refine⟨a,a1,?_,?_⟩
 ·rcases ha with⟨rfl,h⟩ | ⟨i,hi,h1,h2,h3⟩
  ·rw[if_neg (by rw[(R6 hb).2 (h 0 (by show 0<2;omega))];decide),AS1,(R6 hc).2 (h 1 (by show 1<2;omega))]
  ·match i,hi with
   |0,_=>obtain rfl:a=b:=Ge h2 hb;rw[if_pos (by simpa using h3)]
   |1,_=>obtain rfl:a=c:=Ge h2 hc;rw[if_neg (by rw[(R6 hb).2 (h1 0 (by omega))];decide),AS1]
 ·rcases ha with⟨rfl,h⟩ | ⟨i,hi,h1,h2,h3⟩
  ·exact⟨fun _=>⟨hok,h 0 (by show 0<2;omega),h 1 (by show 1<2;omega)⟩,fun _=>rfl⟩
  ·refine⟨fun h=>absurd h h3,fun⟨_,h4,h5⟩=>?_⟩
   match i,hi with
   |0,_=>exact (R6 h2).2 h4
   |1,_=>exact (R6 h2).2 h5
theorem HB {laws:Sl Law}(hl:T2 laws)(k:Nat):T2 (laws.drop k):=fun i hi=>hl _ (by have hi:i<laws.n-k:=hi;omega)
abbrev okPs (l:Sl Bq):Prop:=∀j,j<l.n->okA (l.g j).From/\okA (l.g j).To
def Ay9 (N:Nat)(laws:Sl Law)(l:Sl Bq)(i:Nat):Bool:=decide (∀j,j<l.n->gv N (laws.drop i) (l.g j).From (l.g j).To=true)
theorem Zp {N:Nat}(hN:3000000<=N){laws:Sl Law}(hl:T2 laws)(hn:laws.n<=1000){l:Sl Bq}(ho:okPs l)(hln:l.n<=1000) :I1 N laws l=some (QW (Ay9 N laws l) (laws.n+1) 0):=by
 have inner:∀(self3:Int->Option (List Int)) (i:Nat),i<=laws.n->∀(m j M:Nat),l.n<=j+m->m<M->(∀q,q<j->gv N (laws.drop i) (l.g q).From (l.g q).To=true) ->
  U3 M (fun (self4:Int->Option (List Int)) (x4:Int)=>
   if (decide (x4<(l.n:Int)))=true then
    if ((0:Int)<=x4/\x4<(l.n:Int))then
     if ((0:Int)<=(i:Int)/\(i:Int)<=(laws.n:Int))then
      (H9 N (laws.drop (i:Int).toNat) (l.g x4.toNat).From (l.g x4.toNat).To).bind fun y9=>
      if (!y9)=true then
       self3 (wrap .i64 ((i:Int)+1))
      else
       self4 (wrap .i64 (x4+1))
     else none
    else none
   else
    U5 (i:Int) (
     self3 (wrap .i64 ((i:Int)+1))
     )
   ) (j:Int)=if Ay9 N laws l i=true then U5 (i:Int) (self3 ((i+1:Nat):Int))else self3 ((i+1:Nat):Int):=by
  intro self3 i hi m
  induction m with
  |zero=>intro j M h hM hq;obtain⟨M,rfl⟩:∃K,M=K+1:=⟨M-1,by omega⟩;rw[P0,if_neg (by simp;omega),if_pos (by unfold Ay9;exact decide_eq_true fun q hq2=>hq q (by omega)),C0 (by omega)]
  |succ m ih=>
   intro j M h hM hq;obtain⟨M,rfl⟩:∃K,M=K+1:=⟨M-1,by omega⟩;by_cases hj:j<l.n
   case neg=>rw[P0,if_neg (by simp;omega),if_pos (by unfold Ay9;exact decide_eq_true fun q hq2=>hq q (by omega)),C0 (by omega)]
   have hg:=(Xg (N:=N) hN (HB hl i) (LS.refl _) (SE.refl (l.g j).From) (ho j hj).1 (SE.refl (l.g j).To)).1;rw[P0,if_pos (by simp;omega),if_pos (by omega),if_pos (by omega),AR8,AR8,hg,AS1];cases hb:gv N (laws.drop i) (l.g j).From (l.g j).To
   ·rw[if_pos nf,if_neg,C0 (by omega)];unfold Ay9;intro h
    have:=of_decide_eq_true h j hj
    rw[hb]at this;cases this
   ·rw[if_neg (by simp),C0 (i:=j) (by omega)];exact ih (j+1) M (by omega) (by omega) fun q hq2=>by
     by_cases e:q=j
     ·subst e;exact hb
     ·exact hq q (by omega)
 unfold I1;rw[C0 (by omega)];refine filI (P:=Ay9 N laws l) (n:=laws.n+1) ?_ ?_ ?_ (laws.n+1) 0 N (by omega) (by omega)
 ·intro self i hi;rw[if_neg (by simp;omega)]
 ·intro self i hi hp;have e:=inner self i (by omega) l.n 0 N (by omega) (by omega) fun q hq=>absurd hq (by omega);rw[if_pos hp]at e;rw[if_pos (by simp;omega)];exact e
 ·intro self i hi hp;have e:=inner self i (by omega) l.n 0 N (by omega) (by omega) fun q hq=>absurd hq (by omega);rw[if_neg (by simp[hp])]at e;rw[if_pos (by simp;omega)];exact e
def plL (N:Nat)(laws:Sl Law)(v w:Sl Sound):List Int:=QW (fun i=>gv N (laws.drop i) v w) (laws.n+1) 0
theorem AI2 (N:Nat)(laws:Sl Law)(l:Sl Bq)(h:l.n=1):QW (Ay9 N laws l) (laws.n+1) 0=plL N laws (l.g 0).From (l.g 0).To:=by
 refine Ps fun i _ _=>?_;unfold Ay9;rw[AU7,decide_eq_true_eq];constructor
 ·exact fun g=>g 0 (by omega)
 ·intro g j hj;obtain rfl:j=0:=by omega
  exact g
theorem VT {N:Nat}(hN:3000000<=N){laws:Sl Law}(hl:T2 laws)(hn:laws.n<=1000){v w:Sl Sound}(hv:okA v) :∃s,Cc N laws v w=some s/\s.toList=plL N laws v w:=by
 have hg:=fun i=>(Xg (N:=N) hN (HB hl i) (LS.refl _) (SE.refl v) hv (SE.refl w)).2.1;unfold Cc;obtain⟨y,h1,h2⟩:=filD (P:=fun i=>gv N (laws.drop i) v w) (n:=laws.n+1) (k:=fun x=>some x) (body:=fun self1 (x1:Sl Int) (x2:Int)=>
  if (decide (x2<=(laws.n:Int)))=true then
   if ((0:Int)<=x2/\x2<=(laws.n:Int))then
    (AF N (laws.drop x2.toNat) v w).bind fun y3=>
    if y3=true then
     if ((x1.n+(Sl.of [x2]:Sl Int).n)*8<=140737488355328/\x1.n+(Sl.of [x2]:Sl Int).n<=140737488355328)then
      self1 (x1.push x2) (wrap .i64 (x2+1))
     else none
    else
     self1 x1 (wrap .i64 (x2+1))
   else none
  else
   some x1) (fun self x i hi _=>by rw[if_neg (by simp;omega)])
  (fun self x i hi hx hp=>by rw[if_pos (by simp;omega),if_pos (by omega),AR8,hg i,AS1,if_pos hp,if_pos (by show (x.n+1)*8<=_/\x.n+1<=_;omega),C0 (by omega)])
  (fun self x i hi hx hp=>by have hp:gv N (laws.drop i) v w=false:=hp;rw[if_pos (by simp;omega),if_pos (by omega),AR8,hg i,AS1,if_neg (by simp[hp]),C0 (by omega)])
  (laws.n+1) 0 (Sl.nil:Sl Int) N (by omega) (by omega) (by show 0+_<=_;omega)
 exact⟨y,h1,h2⟩
theorem AI3 (N:Nat)(laws:Sl Law)(v w:Sl Sound):(plL N laws v w).length<=laws.n+1:=Au1 _ _ 0
theorem tl_n {s:Sl Int}{L:List Int}(h:s.toList=L):s.n=L.length:=by rw[<- h,U0]
abbrev oneP (v w:Sl Sound):Sl Bq:=Sl.of [(⟨v,w⟩:Bq)]
theorem Au4 {v w:Sl Sound}(hv:okA v)(hw:okA w):okPs (oneP v w):=fun j hj=>by
 match j,hj with
 |0,_=>exact⟨hv,hw⟩
end Go.AM
set_option linter.unusedVariables false
namespace Go.AM
open Go.Proofs
theorem Zq:T2 (Sl.nil:Sl Law):=fun i hi=>absurd hi (AX9 i)
end Go.AM
set_option linter.unusedVariables false
namespace Go.AM
open Go.Proofs
abbrev isT (o:Option Bool):Prop:=∃r,o=some r/\r=true
theorem isT.eq {o:Option Bool}(h:isT o):o=some true:=by obtain⟨r,h,rfl⟩:=h;exact h
end Go.AM
set_option linter.unusedVariables false
namespace Go.AM
open IntKind (wrap)
open Go.Proofs
def NN (s:Str):Bool:=(decide (1<=s.length)&&decide (s.length<=24))&&s.all fun c=>QH ((c.toNat:Nat):Int)
theorem TE {N:Nat}{s:Str}(hN:s.length<N)(hs:s.length<1000000000){let_:Int->Option Bool}(hl:∀y,let_ y=some (QH y)){fin:Bool}(hf:fin=(decide (1<=s.length)&&decide (s.length<=24))) :U3 N (fun (self1:Int->Option Bool) (x1:Int)=>
  if (decide (x1<(s.length:Int)))=true then
   if ((0:Int)<=x1/\x1<(s.length:Int))then
    (let_ (Z4 s x1)).bind fun y3=>
    if (!y3)=true then
     some false
    else
     self1 (wrap .i64 (x1+1))
   else none
  else
   some fin
 ) 0=some (NN s):=by
 suffices h:∃b,U3 N (fun (self1:Int->Option Bool) (x1:Int)=>
  if (decide (x1<(s.length:Int)))=true then
   if ((0:Int)<=x1/\x1<(s.length:Int))then
    (let_ (Z4 s x1)).bind fun y3=>
    if (!y3)=true then
     some false
    else
     self1 (wrap .i64 (x1+1))
   else none
  else
   some fin
  ) 0=some b/\b=NN s by obtain⟨b,h,rfl⟩:=h;exact h
 refine Cg (fun i x1=>x1=(i:Int)/\∀j (h:j<s.length),j<i->QH ((s[j].toNat:Nat):Int)=true) s.length _ hN ⟨rfl,fun j _ hj=>absurd hj (by omega)⟩ ?_;rintro self i x1 hi ⟨rfl,h⟩ hs2;by_cases hlt:i<s.length
 ·have eb:Z4 s (i:Int)=((s[i].toNat:Nat):Int):=by simp[Z4,hlt]
  refine ifT (by simp;omega) (ifT (by omega) (B4 (hl _) ?_));rw[eb];cases hb:QH ((s[i].toNat:Nat):Int)
  ·refine ifT rfl ⟨false,rfl,?_⟩;symm;unfold NN;rw[Bh9]
   right
   rw[List.all_eq_false];exact⟨s[i],Bg8 hlt,by rw[hb];simp⟩
  ·refine ifF (by simp) (hs2 hlt _ ⟨C0 (by omega),fun j hj hj2=>?_⟩);by_cases e:j=i
   ·subst e;exact hb
   ·exact h j hj (by omega)
 ·refine ifF (by simp;omega) ⟨_,rfl,?_⟩;unfold NN;rw[hf]
  have:(s.all fun c=>QH ((c.toNat:Nat):Int))=true:=AT4.2 fun c hc=>by obtain⟨j,hj,rfl⟩:=Bf3 hc;exact h j hj (by omega)
  rw[this,Bf2]
theorem Aj4 {N:Nat}{s:Str}(hN:s.length<N)(hs:s.length<1000000000):Ce N s=some (NN s):=by unfold Ce;exact TE hN hs (fun y=>rfl) (by rw[AU7];simp;omega)
theorem Au5 {N:Nat}{s:Str}(hN:s.length<N)(hs:s.length<1000000000):CG N s=some (NN s):=by unfold CG;exact TE hN hs (fun y=>rfl) (by rw[AU7];simp;omega)
def AI4 (t:Sl DF)(v:Nat):Prop:=(v=0->(t.g 0).Parent = -1)/\(0<v->0<=(t.g v).Parent/\(t.g v).Parent<v)/\NN (t.g v).Name=true/\∀u,u<v->(t.g u).Name≠(t.g v).Name
def Ci (t:Sl DF):Prop:=1<=t.n/\t.n<=63/\∀v,v<t.n->AI4 t v
def Zr (t:Sl DF)(e:Int):Prop:=(e=0/\Ci t) \/ (e=16/\¬Ci t)
theorem Zs {t:Sl DF}{e e' : Int}(h:Zr t e)(h' : Zr t e'):e=e':=by
 rcases h with⟨rfl,h⟩ | ⟨rfl,h⟩<;>rcases h' with⟨rfl,h'⟩ | ⟨rfl,h'⟩
 ·rfl
 ·exact absurd h h'
 ·exact absurd h' h
 ·rfl
def MP (t:Sl DF):Prop:=∀v,v<t.n->(t.g v).Name.length<1100000
theorem Aj5 {N:Nat}(hN:3000000<=N){t:Sl DF}(ht:MP t):∃e,AG N t=some e/\Zr t e:=by
 unfold AG;by_cases h0:t.n<1
 ·exact ifT (fun h=>absurd h (by simp;omega)) (ifT (by simp;omega) ⟨16,rfl,.inr ⟨rfl,fun h=>by have:=h.1;omega⟩⟩)
 refine ifT (fun _ _=>by omega) ?_;by_cases h1:63<t.n
 ·exact ifT (by simp;omega) ⟨16,rfl,.inr ⟨rfl,fun h=>by have:=h.2.1;omega⟩⟩
 by_cases h2:(t.g 0).Parent = -1
 case neg=>exact ifT (by simp[h2]) ⟨16,rfl,.inr ⟨rfl,fun h=>h2 ((h.2.2 0 (by omega)).1 rfl)⟩⟩
 refine ifF (by simp[h2];omega) ?_;refine Cg (fun i x1=>x1=(i:Int)/\∀j,j<i->AI4 t j) t.n _ (by omega) ⟨rfl,fun j hj=>absurd hj (by omega)⟩ ?_;rintro self i x1 hi ⟨rfl,h⟩ hs;by_cases hlt:i<t.n
 case neg=>exact ifF (by simp;omega) ⟨0,rfl,.inl ⟨rfl,by omega,by omega,fun v hv=>h v (by omega)⟩⟩
 refine ifT (by simp;omega) (ltX ?_);have hname:=Au5 (N:=N) (s:=(t.g i).Name) (by have:=ht i hlt;omega) (by have:=ht i hlt;omega);have rest:(0<i->0<=(t.g i).Parent/\(t.g i).Parent<i)->∃r,(if (!NN (t.g i).Name)=true then some 16 else
  U3 N (fun (self4:Int->Option Int) (x7:Int)=>
   if (decide (x7<(i:Int)))=true then
    if (((0:Int)<=x7/\x7<(t.n:Int))/\((0:Int)<=(i:Int)/\(i:Int)<(t.n:Int)))then
     if (((t.g x7.toNat).Name==(t.g (i:Int).toNat).Name) != false)=true then
      some 16
     else
      self4 (wrap .i64 (x7+1))
    else none
   else
    self (wrap .i64 ((i:Int)+1))
   ) 0)=some r/\Zr t r:=by
  intro hp;cases hb:NN (t.g i).Name
  ·exact ifT rfl ⟨16,rfl,.inr ⟨rfl,fun h=>by have:=(h.2.2 i hlt).2.2.1;rw[hb]at this;cases this⟩⟩
  refine ifF (by simp) ?_;refine Cg (fun k x7=>x7=(k:Int)/\∀u,u<k->(t.g u).Name≠(t.g i).Name) i _ (by omega) ⟨rfl,fun u hu=>absurd hu (by omega)⟩ ?_;rintro self2 k x7 hk ⟨rfl,h'⟩ hs2;by_cases hki:k<i
  ·refine ifT (by simp;omega) (ifT (by omega) ?_);rw[AR8,AR8];by_cases e:(t.g k).Name=(t.g i).Name
   ·exact ifT (by simp[e]) ⟨16,rfl,.inr ⟨rfl,fun h=>(h.2.2 i hlt).2.2.2 k hki e⟩⟩
   ·refine ifF (by simp[e]) (hs2 hki _ ⟨C0 (by omega),fun u hu=>?_⟩);by_cases e2:u=k
    ·subst e2;exact e
    ·exact h' u (by omega)
  ·refine ifF (by simp;omega) (hs hlt _ ⟨C0 (by omega),fun j hj=>?_⟩);by_cases e:j=i
   ·subst e;exact⟨fun e=>by subst e;exact h2,hp,hb,fun u hu=>h' u (by omega)⟩
   ·exact h j (by omega)
 by_cases hpos:0<i
 ·refine ifT (by simp;omega) (ifT (by omega) ?_);rw[AR8];by_cases g1:(t.g i).Parent<0
  ·exact ifT (by simpa using g1) (ifT rfl ⟨16,rfl,.inr ⟨rfl,fun h=>by have:=((h.2.2 i hlt).2.1 hpos).1;omega⟩⟩)
  refine ifF (by simpa using g1) (ifT (by omega) ?_);by_cases g2:(i:Int)<=(t.g i).Parent
  ·exact ifT (by simpa using g2) (ifT rfl ⟨16,rfl,.inr ⟨rfl,fun h=>by have:=((h.2.2 i hlt).2.1 hpos).2;omega⟩⟩)
  exact ifF (by simpa using g2) (ifT (by omega) (B4 hname (rest fun _=>⟨by omega,by omega⟩)))
 ·exact ifF (by simp;omega) (ifT (by omega) (B4 (by rw[AR8];exact hname) (rest fun h=>absurd h hpos)))
theorem Jr {ν : Type}{k s:Str}{v : ν}:∀es:List (Str × ν),CR eqS s (PT eqS k v es)=if s=k then some v else CR eqS s es
 |[]=>by simp only[PT,CR];by_cases h:s=k<;>simp[eqS,h]
 |(a,x)::es=>by
  simp only[PT];by_cases h:k=a
  ·subst h;rw[if_pos (by simp[eqS])];simp only[CR];by_cases h2:s=k<;>simp[eqS,h2]
  ·rw[if_neg (by simp[eqS,h])];simp only[CR];rw[Jr es];by_cases h2:s=k
   ·subst h2;simp[eqS,h]
   ·simp[h2]
theorem Xi {ν : Type}{k:Str}{v : ν}:∀{es:List (Str × ν)},CR eqS k es=none->(PT eqS k v es).length=es.length+1
 |[],_=>rfl
 |(a,x)::es,h=>by
  simp only[CR]at h;simp only[PT];by_cases e:eqS k a=true
  ·rw[if_pos e]at h;cases h
  ·rw[if_neg e]at h;rw[if_neg e,AV1,Xi h];rfl
theorem Xj {ν : Type}{k:Str}{v x : ν}:∀{es:List (Str × ν)},CR eqS k es=some x->(PT eqS k v es).length=es.length
 |[],h=>by cases h
 |(a,y)::es,h=>by
  simp only[CR]at h;simp only[PT];by_cases e:eqS k a=true
  ·rw[if_pos e];rfl
  ·rw[if_neg e]at h;rw[if_neg e,AV1,Xj h];rfl
theorem Aj6 {N:Nat}(hN:3000000<=N){t:Sl DF}(ht:MP t):∃e,AP N t=some e/\Zr t e:=by
 unfold AP;by_cases h0:t.n=0 \/ 63<t.n
 ·exact ifT (by simp;omega) ⟨16,rfl,.inr ⟨rfl,fun h=>by have g1:=h.1;have g2:=h.2.1;omega⟩⟩
 refine ifF (by simp;omega) ?_;refine T1 (fun i (x2:List (Str×Bool)) x3=>x3=(i:Int)/\(∀j,j<i->AI4 t j)/\∀s,(CR eqS s x2=some true/\∃u,u<i/\(t.g u).Name=s) \/ (CR eqS s x2=none/\∀u,u<i->(t.g u).Name≠s)) t.n _ (by omega) ⟨rfl,fun j hj=>absurd hj (by omega),fun s=>.inr ⟨rfl,fun u hu=>absurd hu (by omega)⟩⟩ ?_;rintro self i x2 x3 hi ⟨rfl,h,hm⟩ hs;by_cases hlt:i<t.n
 case neg=>exact ifF (by simp;omega) ⟨0,rfl,.inl ⟨rfl,by omega,by omega,fun v hv=>h v (by omega)⟩⟩
 refine ifT (by simp;omega) (ifT (by omega) (ltX ?_));rw[AR8];have hname:=Aj4 (N:=N) (s:=(t.g i).Name) (by have:=ht i hlt;omega) (by have:=ht i hlt;omega);have e1:(if 0<wrap .i64 ((i:Int)-1)then (0:Int)else wrap .i64 ((i:Int)-1))=if i=0 then -1 else 0:=by rw[F0 (by omega) (by omega)];split<;>split<;>omega
 rw[e1];by_cases g1:(i:Int)<=(t.g i).Parent
 ·refine ifT (by simpa using g1) (ifT rfl ⟨16,rfl,.inr ⟨rfl,fun h=>?_⟩⟩);have hk:=h.2.2 i hlt;by_cases hz:i=0
  ·subst hz;have:=hk.1 rfl;omega
  ·have:=(hk.2.1 (by omega)).2;omega
 refine ifF (by simpa using g1) ?_;by_cases g2:(t.g i).Parent<if i=0 then -1 else 0
 ·refine ifT (by simpa using g2) (ifT rfl ⟨16,rfl,.inr ⟨rfl,fun h=>?_⟩⟩);have hk:=h.2.2 i hlt;by_cases hz:i=0
  ·subst hz;have:=hk.1 rfl;simp at g2;omega
  ·have:=(hk.2.1 (by omega)).1;simp[hz]at g2;omega
 refine ifF (by simpa using g2) (B4 hname ?_);cases hb:NN (t.g i).Name
 ·exact ifT rfl (ifT rfl ⟨16,rfl,.inr ⟨rfl,fun h=>by have:=(h.2.2 i hlt).2.2.1;rw[hb]at this;cases this⟩⟩)
 refine ifF (by simp) ?_;rcases hm (t.g i).Name with⟨e,u,hu,hn⟩ | ⟨e,hn⟩
 ·rw[e];exact⟨16,rfl,.inr ⟨rfl,fun h=>(h.2.2 i hlt).2.2.2 u hu hn⟩⟩
 rw[e,RK];refine ifF (show ¬false=true by simp) (hs hlt _ _ ⟨C0 (by omega),fun j hj=>?_,fun s=>?_⟩)
 ·by_cases e:j=i
  ·subst e;refine⟨fun e=>?_,fun hp=>?_,hb,hn⟩
   ·subst e;simp at g2;omega
   ·have:¬j=0:=by omega
    simp[this]at g2;omega
  ·exact h j (by omega)
 ·rw[Jr];by_cases e:s=(t.g i).Name
  ·exact .inl ⟨by rw[if_pos e],i,by omega,e.symm⟩
  ·rw[if_neg e];rcases hm s with⟨g,u,hu,hn⟩ | ⟨g,hn⟩
   ·exact .inl ⟨g,u,by omega,hn⟩
   ·refine .inr ⟨g,fun u hu=>?_⟩;by_cases e2:u=i
    ·subst e2;exact fun h=>e h.symm
    ·exact hn u (by omega)
theorem QK {N:Nat}(hN:3000000<=N){t:Sl DF}(ht:MP t):∃e,AP N t=some e/\AG N t=some e/\Zr t e:=by obtain⟨e,h1,h2⟩:=Aj6 hN ht;obtain⟨e',h3,h4⟩:=Aj5 hN ht;obtain rfl:=Zs h2 h4;exact⟨_,h1,h3,h2⟩
end Go.AM
set_option linter.unusedVariables false
namespace Go.AM
open IntKind (wrap)
open Go.Proofs
structure Cq (h:B1):Prop where
 laws:T2 h.Laws
 tree:MP h.Tree
 on:h.On.n<1100000
 len:∀v,v<h.On.n->(h.On.g v).n<1100000
def R8 (h:B1)(v:Nat):Sl Int:=
 if hp:0<=(h.Tree.g v).Parent/\(h.Tree.g v).Parent<v then (R8 h (h.Tree.g v).Parent.toNat).app (h.On.g v)else (Sl.nil:Sl Int).app (h.On.g v)
termination_by v
decreasing_by omega
theorem BI {h:B1}{v:Nat}(hv:(h.Tree.g v).Parent<0):R8 h v=(Sl.nil:Sl Int).app (h.On.g v):=by rw[R8,dif_neg (by omega)]
theorem EW {h:B1}{v p:Nat}(hv:(h.Tree.g v).Parent=(p:Int))(hp:p<v):R8 h v=(R8 h p).app (h.On.g v):=by rw[R8,dif_pos (by omega),hv,AR8]
theorem T3 {t:Sl DF}(ht:Ci t){v:Nat}(hv:v<t.n):(v=0/\(t.g v).Parent = -1) \/ ∃p:Nat,p<v/\(t.g v).Parent=(p:Int):=by
 have hk:=ht.2.2 v hv;by_cases h0:v=0
 ·subst h0;exact .inl ⟨rfl,hk.1 rfl⟩
 ·obtain⟨g1,g2⟩:=hk.2.1 (by omega);exact .inr ⟨(t.g v).Parent.toNat,by omega,by omega⟩
theorem VU {h:B1}(hi:Cq h)(ht:Ci h.Tree)(hn:h.On.n=h.Tree.n):∀(m v:Nat),v<=m->v<h.Tree.n->(R8 h v).n<=(v+1)*1100000
 |m,v,hm,hv=>by
  have hl:=hi.len v (by omega);rcases T3 ht hv with⟨_,e⟩ | ⟨p,hp,e⟩
  ·rw[BI (by omega)];show 0+(h.On.g v).n<=_;omega
  ·rw[EW e hp]
   match m with
   |0=>omega
   |m+1=>
    have:=VU hi ht hn m p (by omega) (by omega)
    show (R8 h p).n+(h.On.g v).n<=_;have h2:(p+1)*1100000+1100000<=(v+1)*1100000:=by omega
    omega
theorem MQ {h:B1}(hi:Cq h)(ht:Ci h.Tree)(hn:h.On.n=h.Tree.n):∀(M v:Nat),v+2<=M->v<h.Tree.n->AO M h (v:Int)=some (R8 h v)
 |0,v,hM,_=>by omega
 |M+1,v,hM,hv=>by
  have h63:=ht.2.1;show X0 (AO M) M h (v:Int)=_;unfold X0;rw[if_neg (by simp),if_pos (by omega),AR8];have hl:=hi.len v (by omega);rcases T3 ht hv with⟨h0,e⟩ | ⟨p,hp,e⟩
  ·rw[e,BI (by omega)]
   have:AO M h (-1)=some (Sl.nil:Sl Int):=by obtain⟨K,rfl⟩:∃K,M=K+1:=⟨M-1,by omega⟩;show X0 (AO K) K h (-1)=_;unfold X0;rw[if_pos (by decide)]
   rw[this,AS1,if_pos ⟨by omega,by show (0+(h.On.g v).n)*8<=_/\0+(h.On.g v).n<=_;omega⟩]
  ·have hb:=VU hi ht hn p p (AS4 _) (by omega);rw[e,MQ hi ht hn M p (by omega) (by omega),AS1,EW e hp,if_pos ⟨by omega,by omega⟩]
def VV (h:B1):Prop:=∃v,v<h.On.n/\64<(R8 h v).n
def AI5 (h:B1)(v:Nat):Prop:=∃k,k<(h.On.g v).n/\((h.On.g v).g k<0 \/ (h.Laws.n:Int)<=(h.On.g v).g k)
def Aj7 (h:B1)(e:Int):Prop:=(VV h/\e=2) \/ (¬VV h/\(∃v,v<h.On.n/\AI5 h v)/\e=3) \/ (¬VV h/\(∀v,v<h.On.n->¬AI5 h v)/\e=0)
theorem Aj8 {N:Nat}(hN:3000000<=N){h:B1}(hi:Cq h)(ht:Ci h.Tree)(hn:h.On.n=h.Tree.n):∃e,X2 N h=some e/\Aj7 h e:=by
 have h63:=ht.2.1;unfold X2;refine ifT (by omega) ?_;refine Af6 (fun i (x4:Sl Int) (x5:Bool) x6=>x6=(i:Int)/\x4.n=h.On.n/\(∀v,v<i->x4.g v=((R8 h v).n:Int)/\(R8 h v).n<=64)/\(x5=true ↔ ∃v,v<i/\AI5 h v)) h.On.n _ (by omega) ⟨rfl,by show ((h.On.n:Nat):Int).toNat=_;omega,fun v hv=>absurd hv (by omega),⟨fun g=>(by cases g),fun⟨v,hv,_⟩=>absurd hv (by omega)⟩⟩ ?_;rintro self i x4 x5 x6 hle ⟨rfl,hx,hp,hb⟩ hs;by_cases hlt:i<h.On.n
 case neg=>
  refine ifF (by simp;omega) ?_;have hl:¬VV h:=fun⟨v,hv,hl⟩=>by have:=(hp v (by omega)).2;omega
  cases x5
  ·exact ifF (by simp) ⟨0,rfl,.inr (.inr ⟨hl,fun v hv g=>(by have:=hb.2 ⟨v,by omega,g⟩;cases this),rfl⟩)⟩
  ·obtain⟨v,hv,g⟩:=hb.1 rfl;exact ifT rfl ⟨3,rfl,.inr (.inl ⟨hl,⟨v,by omega,g⟩,rfl⟩)⟩
 refine ifT (by simp;omega) (ifT (by rw[AR8];omega) (ifT (by omega) (ltX ?_)));rw[AR8];have hl:=hi.len i (by omega);have hlb:=VU hi ht hn i i (AS4 _) (by omega);have rest:∀z:Sl Int,z.n=h.On.n->(∀v,v<i->z.g v=x4.g v)->z.g i=((R8 h i).n:Int)->∃r,(if (((0:Int)<=(i:Int)/\(i:Int)<(z.n:Int))/\i<z.n)then
  if (decide (64<(z.g i)))=true then
   some 2
  else
   P6 N (fun (self4:Bool->Int->Option Int) (x11:Bool) (x12:Int)=>
    if (decide (x12<((h.On.g i).n:Int)))=true then
     if ((0:Int)<=x12/\x12<((h.On.g i).n:Int))then
      self4 ((x11||(decide (((h.On.g i).g x12.toNat)<0)))||(decide ((h.Laws.n:Int)<=((h.On.g i).g x12.toNat)))) (wrap .i64 (x12+1))
     else none
    else
     self z x11 (wrap .i64 ((i:Int)+1))
    ) x5 0
  else none)=some r/\Aj7 h r:=by
  intro z hz hz1 hz2;refine ifT (by omega) ?_;rw[hz2];by_cases h64:64<(R8 h i).n
  ·exact ifT (by simp;omega) ⟨2,rfl,.inl ⟨⟨i,hlt,h64⟩,rfl⟩⟩
  refine ifF (by simp;omega) ?_;refine T1 (fun k (x11:Bool) x12=>x12=(k:Int)/\(x11=true↔(∃v,v<i/\AI5 h v) \/ ∃j,j<k/\j<(h.On.g i).n/\((h.On.g i).g j<0 \/ (h.Laws.n:Int)<=(h.On.g i).g j))) (h.On.g i).n _ (by omega) ⟨rfl,hb.trans ⟨fun g=>.inl g,fun g=>g.resolve_right fun⟨j,hj,_⟩=>absurd hj (by omega)⟩⟩ ?_;rintro self2 k x11 x12 hk ⟨rfl,hb2⟩ hs2;by_cases hkl:k<(h.On.g i).n
  ·refine ifT (by simp;omega) (ifT (by omega) (hs2 hkl _ _ ⟨C0 (by omega),?_⟩));rw[AR8,AT6,AT6,hb2,decide_eq_true_eq,decide_eq_true_eq];constructor
   ·rintro (((g|⟨j,hj,g⟩)|g)|g)
    ·exact .inl g
    ·exact .inr ⟨j,by omega,g⟩
    ·exact .inr ⟨k,by omega,hkl,.inl g⟩
    ·exact .inr ⟨k,by omega,hkl,.inr g⟩
   ·rintro (g|⟨j,hj,hj2,g⟩)
    ·exact .inl (.inl (.inl g))
    ·by_cases e:j=k
     ·subst e;rcases g with g|g
      ·exact .inl (.inr g)
      ·exact .inr g
     ·exact .inl (.inl (.inr ⟨j,by omega,hj2,g⟩))
  ·refine ifF (by simp;omega) (hs hlt _ _ _ ⟨C0 (by omega),hz,fun v hv=>?_,hb2.trans ?_⟩)
   ·by_cases e:v=i
    ·subst e;exact⟨hz2,by omega⟩
    ·rw[hz1 v (by omega)];exact hp v (by omega)
   ·constructor
    ·rintro (⟨v,hv,g⟩ | ⟨j,_,hj,g⟩)
     ·exact⟨v,by omega,g⟩
     ·exact⟨i,by omega,j,hj,g⟩
    ·rintro⟨v,hv,g⟩;by_cases e:v=i
     ·subst e;obtain⟨j,hj,g⟩:=g;exact .inr ⟨j,by omega,hj,g⟩
     ·exact .inl ⟨v,by omega,g⟩
 rcases T3 ht (v:=i) (by omega)with⟨_,e⟩ | ⟨p,hpi,e⟩
 ·rw[e];refine ifF (by decide) (rest _ hx (fun v hv=>?_) ?_)
  ·show (if v=i then _ else x4.g v)=_;rw[if_neg (by omega)]
  ·show (if i=i then ((h.On.g i).n:Int)else _)=_;rw[if_pos rfl,BI (by omega)];show _=((0+(h.On.g i).n:Nat):Int);omega
 ·have hpp:=hp p hpi;rw[e];refine ifT (by simp) (ifT ?_ ?_)
  ·show ((((((0:Int)<=(i:Int)/\(i:Int)<(x4.n:Int))/\i<x4.n)/\(0:Int)<=(p:Int)/\(p:Int)<(x4.n:Int))/\(p:Int).toNat<x4.n)/\(0:Int)<=(i:Int)/\(i:Int)<(x4.n:Int))/\i<x4.n;omega
  ·rw[AR8];refine rest _ hx (fun v hv=>?_) ?_
   ·show (if v=i then _ else if v=i then _ else x4.g v)=_;rw[if_neg (by omega),if_neg (by omega)]
   ·show (if i=i then wrap .i64 ((if i=i then ((h.On.g i).n:Int)else _)+(if p=i then _ else x4.g p))else _)=_;rw[if_pos rfl,if_pos rfl,if_neg (by omega),hpp.1,EW e hpi,F0 (by omega) (by omega)];show _=(((R8 h p).n+(h.On.g i).n:Nat):Int);omega
end Go.AM
set_option linter.unusedVariables false
namespace Go.AM
open Go.Proofs
def AK3 (h:B1)(i:Nat):Prop:=∃u v,u<v/\v<i/\(h.Laws.g u).Name=(h.Laws.g v).Name
open Classical in
noncomputable def hres (N:Nat) (h:B1):Int:=
 if ¬Ci h.Tree then 16 else if 64<h.Laws.n then 12 else if ∃i,i<h.Laws.n/\¬chkAll N (h.Laws.g i)then 17 else if AK3 h h.Laws.n then 6 else if h.On.n≠h.Tree.n then 2
 else if VV h then 2 else if ∃v,v<h.On.n/\AI5 h v then 3 else 0
structure IJ (N:Nat) (h:B1):Prop where
 tree:Ci h.Tree
 laws:DB N h.Laws
 dup:¬AK3 h h.Laws.n
 on:h.On.n=h.Tree.n
 long:¬VV h
 bad:∀v,v<h.On.n->¬AI5 h v
theorem hres_zero {N:Nat}{h:B1}:hres N h=0↔IJ N h:=by
 unfold hres;constructor
 ·intro g;split at g
  ·cases g
  split at g
  ·cases g
  split at g
  ·cases g
  split at g
  ·cases g
  split at g
  ·cases g
  split at g
  ·cases g
  split at g
  ·cases g
  rename_i h1 h2 h3 h4 h5 h6 h7;exact⟨Classical.not_not.1 h1,⟨by omega,fun i hi=>AV5 fun hn=>h3 ⟨i,hi,hn⟩⟩,h4,Classical.not_not.1 h5,h6,fun v hv hb=>h7 ⟨v,hv,hb⟩⟩
 ·intro g;have h64:=g.laws.1;rw[if_neg (fun k=>k g.tree),if_neg (by omega),if_neg (fun⟨i,hi,hn⟩=>hn (g.laws.2 i hi)),if_neg g.dup,if_neg (fun k=>k g.on),if_neg g.long,if_neg (fun⟨v,hv,hb⟩=>g.bad v hv hb)]
theorem Eu {N:Nat}{h:B1}(h1:Ci h.Tree)(h2:DB N h.Laws)(h3:¬AK3 h h.Laws.n)(h4:h.On.n=h.Tree.n){e:Int}(he:Aj7 h e):e=hres N h:=by
 have h64:=h2.1;unfold hres;rw[if_neg (fun k=>k h1),if_neg (by omega),if_neg (fun⟨i,hi,hn⟩=>hn (h2.2 i hi)),if_neg h3,if_neg (fun k=>k h4)];rcases he with⟨g,rfl⟩ | ⟨g,g2,rfl⟩ | ⟨g,g2,rfl⟩
 ·rw[if_pos g]
 ·rw[if_neg g,if_pos g2]
 ·rw[if_neg g,if_neg (fun⟨v,hv,hb⟩=>g2 v hv hb)]
theorem BJ {N:Nat}(hN:3000000<=N){h:B1}(hi:Cq h):J9 N h=some (hres N h):=by
 suffices g:∃r,J9 N h=some r/\r=hres N h by obtain⟨r,g,rfl⟩:=g;exact g
 obtain⟨e,e1,_,he⟩:=QK hN hi.tree;unfold J9;refine B4 e1 ?_;rcases he with⟨rfl,ht⟩ | ⟨rfl,ht⟩
 case inr=>exact ifT (by decide) ⟨16,rfl,by unfold hres;rw[if_pos ht]⟩
 refine ifF (by decide) ?_;by_cases h64:64<h.Laws.n
 ·exact ifT (by simp;omega) ⟨12,rfl,by unfold hres;rw[if_neg (fun k=>k ht),if_pos h64]⟩
 refine ifF (by simp;omega) ?_;refine T1 (fun i (x1:List (Str×Int)) x2=>x2=(i:Int)/\(∀j,j<i->chkAll N (h.Laws.g j))/\(∀s,(CR eqS s x1=none/\∀u,u<i->(h.Laws.g u).Name≠s) \/ (∃v,CR eqS s x1=some v)/\∃u,u<i/\(h.Laws.g u).Name=s)/\((AK3 h i/\x1.length<i) \/ (¬AK3 h i/\x1.length=i))) h.Laws.n _ (by omega)
  ⟨rfl,fun j hj=>absurd hj (by omega),fun s=>.inl ⟨rfl,fun u hu=>absurd hu (by omega)⟩,.inr ⟨fun⟨u,v,_,hv,_⟩=>absurd hv (by omega),rfl⟩⟩ ?_
 rintro self i x1 x2 hle ⟨rfl,hc,hm,hl⟩ hs;by_cases hlt:i<h.Laws.n
 ·obtain⟨y,y1,_,hy⟩:=Er hN (hi.laws i hlt);refine ifT (by simp;omega) (ifT (by omega) (B4 (by rw[AR8];exact y1) ?_));rcases hy with⟨rfl,hy⟩ | ⟨rfl,hy⟩
  case inr=>exact ifT (by decide) ⟨17,rfl,by unfold hres;rw[if_neg (fun k=>k ht),if_neg h64,if_pos ⟨i,hlt,hy⟩]⟩
  refine ifF (by decide) ?_;rw[AR8];have hc' : ∀j,j<i+1->chkAll N (h.Laws.g j):=fun j hj=>by
   by_cases e:j=i
   ·subst e;exact hy
   ·exact hc j (by omega)
  have look:∀(v:Int) (s:Str),(CR eqS s (PT eqS (h.Laws.g i).Name v x1)=none/\∀u,u<i+1->(h.Laws.g u).Name≠s) \/ (∃w,CR eqS s (PT eqS (h.Laws.g i).Name v x1)=some w)/\∃u,u<i+1/\(h.Laws.g u).Name=s:=by
   intro v s;rw[Jr];by_cases e:s=(h.Laws.g i).Name
   ·exact .inr ⟨⟨v,by rw[if_pos e]⟩,i,by omega,e.symm⟩
   ·rw[if_neg e];rcases hm s with⟨g,g2⟩ | ⟨g,u,hu,g2⟩
    ·refine .inl ⟨g,fun u hu=>?_⟩;by_cases e2:u=i
     ·subst e2;exact fun k=>e k.symm
     ·exact g2 u (by omega)
    ·exact .inr ⟨g,u,by omega,g2⟩
  rcases hm (h.Laws.g i).Name with⟨g,g2⟩ | ⟨⟨v,g⟩,u,hu,g2⟩
  ·rw[g,RK];refine hs hlt _ _ ⟨C0 (by omega),hc',look _,?_⟩;rw[Xi g];rcases hl with⟨⟨a,b,hab,hb,hn⟩,hl⟩ | ⟨hd,hl⟩
   ·exact .inl ⟨⟨a,b,hab,by omega,hn⟩,by omega⟩
   ·refine .inr ⟨fun⟨a,b,hab,hb,hn⟩=>?_,by omega⟩;by_cases e:b=i
    ·subst e;exact g2 a hab hn
    ·exact hd ⟨a,b,hab,by omega,hn⟩
  ·rw[g,Ac2];refine hs hlt _ _ ⟨C0 (by omega),hc',look _,?_⟩;rw[Xj g];refine .inl ⟨⟨u,i,hu,by omega,g2⟩,?_⟩;rcases hl with⟨_,hl⟩ | ⟨_,hl⟩<;>omega
 ·obtain rfl:i=h.Laws.n:=by omega
  have hok:DB N h.Laws:=⟨by omega,hc⟩;have hnb:¬ ∃i,i<h.Laws.n/\¬chkAll N (h.Laws.g i):=fun⟨i,hi,hn⟩=>hn (hc i hi);refine ifF (by simp) ?_;rw[Us];rcases hl with⟨hd,hl⟩ | ⟨hd,hl⟩
  ·exact ifT (by simp;omega) ⟨6,rfl,by unfold hres;rw[if_neg (fun k=>k ht),if_neg h64,if_neg hnb,if_pos hd]⟩
  refine ifF (by simp;omega) ?_;by_cases hon:h.On.n=h.Tree.n
  case neg=>exact ifT (by simp;omega) ⟨2,rfl,by unfold hres;rw[if_neg (fun k=>k ht),if_neg h64,if_neg hnb,if_neg hd,if_pos hon]⟩
  refine ifF (by simp[hon]) ?_;obtain⟨e,e1,he⟩:=Aj8 hN hi ht hon;exact B4 e1 ⟨e,rfl,Eu ht hok hd hon he⟩
theorem Ev {N:Nat}(hN:3000000<=N){h:B1}(hi:Cq h):X1 N h=some (hres N h):=by
 suffices g:∃r,X1 N h=some r/\r=hres N h by obtain⟨r,g,rfl⟩:=g;exact g
 obtain⟨e,_,e1,he⟩:=QK hN hi.tree;unfold X1;refine B4 e1 ?_;rcases he with⟨rfl,ht⟩ | ⟨rfl,ht⟩
 case inr=>exact ifT (by decide) ⟨16,rfl,by unfold hres;rw[if_pos ht]⟩
 refine ifF (by decide) ?_;by_cases h64:64<h.Laws.n
 ·exact ifT (by simp;omega) ⟨12,rfl,by unfold hres;rw[if_neg (fun k=>k ht),if_pos h64]⟩
 refine ifF (by simp;omega) ?_;refine Cg (fun i x1=>x1=(i:Int)/\∀j,j<i->chkAll N (h.Laws.g j)) h.Laws.n _ (by omega) ⟨rfl,fun j hj=>absurd hj (by omega)⟩ ?_;rintro self i x1 hle ⟨rfl,hc⟩ hs;by_cases hlt:i<h.Laws.n
 ·obtain⟨y,_,y1,hy⟩:=Er hN (hi.laws i hlt);refine ifT (by simp;omega) (ifT (by omega) (B4 (by rw[AR8];exact y1) ?_));rcases hy with⟨rfl,hy⟩ | ⟨rfl,hy⟩
  case inr=>exact ifT (by decide) ⟨17,rfl,by unfold hres;rw[if_neg (fun k=>k ht),if_neg h64,if_pos ⟨i,hlt,hy⟩]⟩
  refine ifF (by decide) (hs hlt _ ⟨C0 (by omega),fun j hj=>?_⟩);by_cases e:j=i
  ·subst e;exact hy
  ·exact hc j (by omega)
 obtain rfl:i=h.Laws.n:=by omega
 have hok:DB N h.Laws:=⟨by omega,hc⟩;have hnb:¬ ∃i,i<h.Laws.n/\¬chkAll N (h.Laws.g i):=fun⟨i,hi,hn⟩=>hn (hc i hi);refine ifF (by simp) ?_;refine Cg (fun i x1=>x1=(i:Int)/\¬AK3 h i) h.Laws.n _ (by omega) ⟨rfl,fun⟨u,v,_,hv,_⟩=>absurd hv (by omega)⟩ ?_;rintro self2 i x1 hle2 ⟨rfl,hd⟩ hs2;by_cases hlt:i<h.Laws.n
 ·refine ifT (by simp;omega) ?_;refine Cg (fun k x5=>x5=(k:Int)/\∀u,u<k->(h.Laws.g u).Name≠(h.Laws.g i).Name) i _ (by omega) ⟨rfl,fun u hu=>absurd hu (by omega)⟩ ?_;rintro self3 k x5 hk ⟨rfl,hne⟩ hs3;by_cases hki:k<i
  ·refine ifT (by simp;omega) (ifT (by omega) ?_);rw[AR8,AR8];by_cases e:(h.Laws.g k).Name=(h.Laws.g i).Name
   ·exact ifT (by simp[e]) ⟨6,rfl,by unfold hres;rw[if_neg (fun k=>k ht),if_neg h64,if_neg hnb,if_pos ⟨k,i,hki,hlt,e⟩]⟩
   ·refine ifF (by simp;exact fun g=>e g.symm) (hs3 hki _ ⟨C0 (by omega),fun u hu=>?_⟩);by_cases e2:u=k
    ·subst e2;exact e
    ·exact hne u (by omega)
  ·refine ifF (by simp;omega) (hs2 hlt _ ⟨C0 (by omega),fun⟨u,v,huv,hv,hn⟩=>?_⟩);by_cases e:v=i
   ·subst e;exact hne u (by omega) hn
   ·exact hd ⟨u,v,huv,by omega,hn⟩
 obtain rfl:i=h.Laws.n:=by omega
 refine ifF (by simp) ?_;by_cases hon:h.On.n=h.Tree.n
 case neg=>exact ifT (by simp;omega) ⟨2,rfl,by unfold hres;rw[if_neg (fun k=>k ht),if_neg h64,if_neg hnb,if_neg hd,if_pos hon]⟩
 refine ifF (by simp[hon]) ?_;have h63:=ht.2.1;refine Cg (fun i x1=>x1=(i:Int)/\∀v,v<i->¬ 64<(R8 h v).n) h.On.n _ (by omega) ⟨rfl,fun v hv=>absurd hv (by omega)⟩ ?_;rintro self4 i x1 hle3 ⟨rfl,hlo⟩ hs4;by_cases hlt:i<h.On.n
 ·refine ifT (by simp;omega) (B4 (MQ hi ht hon N i (by omega) (by omega)) ?_);by_cases hg:64<(R8 h i).n
  ·exact ifT (by simp;omega) ⟨2,rfl,Eu ht hok hd hon (.inl ⟨⟨i,hlt,hg⟩,rfl⟩)⟩
  ·refine ifF (by simp;omega) (hs4 hlt _ ⟨C0 (by omega),fun v hv=>?_⟩);by_cases e:v=i
   ·subst e;exact hg
   ·exact hlo v (by omega)
 refine ifF (by simp;omega) ?_;have hnl:¬VV h:=fun⟨v,hv,g⟩=>hlo v (by omega) g;refine Cg (fun i x1=>x1=(i:Int)/\∀v,v<i->¬AI5 h v) h.On.n _ (by omega) ⟨rfl,fun v hv=>absurd hv (by omega)⟩ ?_;rintro self5 i x1 hle4 ⟨rfl,hbd⟩ hs5;by_cases hlt2:i<h.On.n
 ·have hl:=hi.len i hlt2;refine ifT (by simp;omega) ?_;refine Cg (fun k x1=>x1=(k:Int)/\∀j,j<k->¬((h.On.g i).g j<0 \/ (h.Laws.n:Int)<=(h.On.g i).g j)) (h.On.g i).n _ (by omega) ⟨rfl,fun j hj=>absurd hj (by omega)⟩ ?_;rintro self6 k x1 hk ⟨rfl,hk2⟩ hs6;refine ifT (by omega) ?_;rw[AR8,AR8];by_cases hkl:k<(h.On.g i).n
  ·refine ifT (by simp;omega) (ifT (by omega) ?_);by_cases g1:(h.On.g i).g k<0
   ·exact ifT (by simpa using g1) ⟨3,rfl,Eu ht hok hd hon (.inr (.inl ⟨hnl,⟨i,hlt2,k,hkl,.inl g1⟩,rfl⟩))⟩
   refine ifF (by simpa using g1) (ifT (by omega) ?_);by_cases g2:(h.Laws.n:Int)<=(h.On.g i).g k
   ·exact ifT (by simpa using g2) ⟨3,rfl,Eu ht hok hd hon (.inr (.inl ⟨hnl,⟨i,hlt2,k,hkl,.inr g2⟩,rfl⟩))⟩
   refine ifF (by simpa using g2) (hs6 hkl _ ⟨C0 (by omega),fun j hj=>?_⟩);by_cases e:j=k
   ·subst e;exact fun g=>g.elim g1 g2
   ·exact hk2 j (by omega)
  ·refine ifF (by simp;omega) (hs5 hlt2 _ ⟨C0 (by omega),fun v hv=>?_⟩);by_cases e:v=i
   ·subst e;exact fun⟨j,hj,g⟩=>hk2 j (by omega) g
   ·exact hbd v (by omega)
 ·exact ifF (by simp;omega) ⟨0,rfl,Eu ht hok hd hon (.inr (.inr ⟨hnl,fun v hv=>hbd v (by omega),rfl⟩))⟩
end Go.AM
set_option linter.unusedVariables false
namespace Go.AM
open IntKind (wrap)
open Go.Proofs
def Kx (t:Sl DF)(v:Nat):List Nat:=
 if hp:0<=(t.g v).Parent/\(t.g v).Parent<v then Kx t (t.g v).Parent.toNat++[v]else [v]
termination_by v
decreasing_by omega
theorem Dk {t:Sl DF}{v:Nat}(hv:(t.g v).Parent<0):Kx t v=[v]:=by rw[Kx,dif_neg (by omega)]
theorem HC {t:Sl DF}{v p:Nat}(hv:(t.g v).Parent=(p:Int))(hp:p<v):Kx t v=Kx t p++[v]:=by rw[Kx,dif_pos (by omega),hv,AR8]
theorem QL {t:Sl DF}(ht:Ci t):∀(m v:Nat),v<=m->v<t.n->∀x∈Kx t v,x<=v
 |m,v,hm,hv,x,hx=>by
  rcases T3 ht hv with⟨_,e⟩ | ⟨p,hp,e⟩
  ·rw[Dk (by omega)]at hx;simp at hx;omega
  ·rw[HC e hp]at hx;rcases Bi1.1 hx with hx|hx
   ·match m with
    |0=>omega
    |m+1=>have:=QL ht m p (by omega) (by omega) x hx;omega
   ·simp at hx;omega
theorem Au6 {α : Type}{x:Sl α}{m:Nat}(h:x.n=m+1):x.toList.reverse=x.g m::(x.take m).toList.reverse:=by unfold Sl.toList;rw[h,Bb3,Ba2,Ba3];rfl
theorem Xk {x2:Sl Int}(hx:x2.n<100000):∀(k M:Nat),k<=x2.n->k<M->U3 M (fun (self2:Int->Option (List Int)) (x3:Int)=>
 if (decide (0<=x3))=true then
  if (((0:Int)<=x3/\x3<(x2.n:Int))/\x3.toNat<x2.n)then
   U5 (x2.g x3.toNat) (
    self2 (wrap .i64 (x3-1))
    )
  else none
 else
  some []
 ) ((k:Int)-1)=some (x2.take k).toList.reverse
 |0,M,hk,hM=>by obtain⟨M,rfl⟩:∃K,M=K+1:=⟨M-1,by omega⟩;rw[P0,if_neg (by simp)];rfl
 |k+1,M,hk,hM=>by obtain⟨M,rfl⟩:∃K,M=K+1:=⟨M-1,by omega⟩;rw[show ((k+1:Nat):Int)-1=(k:Int) by omega,P0,if_pos (by simp),if_pos ⟨by omega,by omega⟩,F0 (by omega) (by omega),Xk hx k M (by omega) (by omega),AR8,Au6 (x:=x2.take (k+1)) (m:=k) rfl];rfl
theorem VW {N:Nat}(hN:3000000<=N){t:Sl DF}(ht:Ci t){v:Nat}(hv:v<t.n):I0 N (v:Int) t=some ((Kx t v).map fun (x:Nat)=>(x:Int)):=by
 have h63:=ht.2.1;have key:∀(m c:Nat) (x2:Sl Int) (M:Nat),c<m->c<t.n->m+1<M->x2.n+c<=1000->∃y:Sl Int,y.n<=1001/\y.toList.reverse=((Kx t c).map fun (x:Nat)=>(x:Int))++x2.toList.reverse /\
  P6 M (fun (self1:Int->Sl Int->Option (List Int)) (x1:Int) (x2:Sl Int)=>
  if (decide (0<=x1))=true then
   if (((x2.n+(Sl.of [x1]:Sl Int).n)*8<=140737488355328/\x2.n+(Sl.of [x1]:Sl Int).n<=140737488355328)/\((0:Int)<=x1/\x1<(t.n:Int)))then
    self1 (t.g x1.toNat).Parent (x2.push x1)
   else none
  else
   U3 N (fun self2 (x3:Int)=>
    if (decide (0<=x3))=true then
     if (((0:Int)<=x3/\x3<(x2.n:Int))/\x3.toNat<x2.n)then
      U5 (x2.g x3.toNat) (
       self2 (wrap .i64 (x3-1))
       )
     else none
    else
     some []
    ) (wrap .i64 ((x2.n:Int)-1))
  ) (c:Int) x2=some y.toList.reverse:=by
  intro m
  induction m with
  |zero=>exact fun c _ _ h=>absurd h (by omega)
  |succ m ih=>
   intro c x2 M hc hct hM hx;obtain⟨M,rfl⟩:∃K,M=K+1:=⟨M-1,by omega⟩;rw[D3,if_pos (by simp),if_pos ⟨by show (x2.n+1)*8<=_/\x2.n+1<=_;omega,by omega⟩,AR8];rcases T3 ht hct with⟨_,e⟩ | ⟨p,hp,e⟩
   ·obtain⟨M,rfl⟩:∃K,M=K+1:=⟨M-1,by omega⟩;refine⟨x2.push (c:Int),by show x2.n+1<=_;omega,by rw[QJ,Ba3,Dk (by omega)];rfl,?_⟩;rw[e,D3,if_neg (by decide)];have hb:=Xk (x2:=x2.push (c:Int)) (by show x2.n+1<_;omega) (x2.n+1) N (AS4 _) (by omega);rw[F0 (by show _<=((x2.n+1:Nat):Int)-1;omega) (by show ((x2.n+1:Nat):Int)-1<=_;omega)];exact hb
   ·obtain⟨y,y1,y2,y3⟩:=ih p (x2.push (c:Int)) M (by omega) (by omega) (by omega) (by show x2.n+1+p<=_;omega);refine⟨y,y1,?_,by rw[e];exact y3⟩;rw[y2,QJ,Ba3,HC e hp,Ba2,Be1];rfl
 obtain⟨y,_,y2,y3⟩:=key (v+1) v (Sl.nil:Sl Int) N (by omega) hv (by omega) (by show 0+v<=_;omega);unfold I0;rw[y3,y2];show some (_++[])=_;rw[AY9]
def AI6 (h:B1)(L:List Nat)(z:Sl Int):Sl Int:=L.foldl (fun z x=>z.app (h.On.g x)) z
theorem TF {h:B1}(ht:Ci h.Tree):∀(m v:Nat),v<=m->v<h.Tree.n->AI6 h (Kx h.Tree v) (Sl.nil:Sl Int)=R8 h v
 |m,v,hm,hv=>by
  rcases T3 ht hv with⟨_,e⟩ | ⟨p,hp,e⟩
  ·rw[Dk (by omega),BI (by omega)];rfl
  ·rw[HC e hp,EW e hp]
   match m with
   |0=>omega
   |m+1=>
    have:=TF ht m p (by omega) (by omega)
    unfold AI6 at this⊢;rw[List.foldl_append,this];rfl
theorem MR {h:B1}(hi:Cq h):∀(L:List Nat) (z:Sl Int),(∀x∈L,x<h.On.n)->z.n+L.length*1100000<=10000000000 ->
 K0 (L.map fun (x:Nat)=>(x:Int)) (fun (self1:Sl Int->Option ((Sl Int)×Int)) (x1:Int) (z1:Sl Int)=>
  if (((0:Int)<=x1/\x1<(h.On.n:Int))/\((z1.n+(h.On.g x1.toNat).n)*8<=140737488355328/\z1.n+(h.On.g x1.toNat).n<=140737488355328))then
   self1 (z1.app (h.On.g x1.toNat))
  else none
  ) (fun (z1:Sl Int)=>
   some (z1,0)
  ) z=some (AI6 h L z,0)
 |[],z,_,_=>rfl
 |x::L,z,hx,hz=>by have hx0:=hx x (by simp);have hl:=hi.len x hx0;simp only[AV1,Bd1]at hz;rw[AU8,K0,AR8,if_pos ⟨by omega,by omega⟩];exact MR hi L _ (fun y hy=>hx y (by simp[hy])) (by show z.n+(h.On.g x).n+_<=_;omega)
theorem QM {t:Sl DF}(ht:Ci t):∀(m v:Nat),v<=m->v<t.n->(Kx t v).length<=v+1
 |m,v,hm,hv=>by
  rcases T3 ht hv with⟨_,e⟩ | ⟨p,hp,e⟩
  ·rw[Dk (by omega)];simp
  ·rw[HC e hp]
   match m with
   |0=>omega
   |m+1=>have:=QM ht m p (by omega) (by omega);simp;omega
theorem Xl {N:Nat}(hN:3000000<=N){h:B1}(hi:Cq h)(v:Int) :∃s e,T8 N h v=some (s,e)/\Ep N h v=some (s,e)/\((e=0/\IJ N h/\0<=v/\v<h.Tree.n/\s=R8 h v.toNat) \/ (e≠0/\s=(Sl.nil:Sl Int))):=by
 unfold T8 Ep;rw[BJ hN hi,Ev hN hi,AS1,AS1];by_cases h0:hres N h=0
 case neg=>
  have hne:(hres N h != 0)=true:=by simpa using h0
  rw[if_pos hne,if_pos hne];exact⟨_,_,rfl,rfl,.inr ⟨h0,rfl⟩⟩
 have hok:=hres_zero.1 h0;have hnz:¬(hres N h != 0)=true:=by simp[h0]
 rw[if_neg hnz,if_neg hnz,P9,CH,AS1,AS1];by_cases hv:0<=v/\v<(h.Tree.n:Int)
 case neg=>
  have hb:(!((decide (0<=v))&&(decide (v<(h.Tree.n:Int)))))=true:=by simp;omega
  rw[if_pos hb,if_pos hb];exact⟨_,_,rfl,rfl,.inr ⟨by decide,rfl⟩⟩
 have hb:¬(!((decide (0<=v))&&(decide (v<(h.Tree.n:Int)))))=true:=by simp;omega
 rw[if_neg hb,if_neg hb,S5,AS1];obtain⟨u,rfl⟩:∃u:Nat,v=(u:Int):=⟨v.toNat,by omega⟩;have h63:=hok.tree.2.1;have hw:=VW hN hok.tree (v:=u) (by omega);have hlen:=QM hok.tree u u (AS4 _) (by omega);have hit:=MR hi (Kx h.Tree u) (Sl.nil:Sl Int) (fun x hx=>by have:=QL hok.tree u u (AS4 _) (by omega) x hx;have:=hok.on;omega) (by show 0+_<=_;omega);rw[MQ hi hok.tree hok.on N u (by omega) (by omega),AS1];refine⟨R8 h u,0,?_,rfl,.inl ⟨rfl,hok,by omega,by omega,by rw[AR8]⟩⟩;show (I0 N (u:Int) h.Tree).bind _=_;rw[hw,AS1,hit,TF hok.tree u u (AS4 _) (by omega)]
theorem QN {N:Nat}{h:B1}(hok:IJ N h):∀(m v:Nat),v<=m->v<h.Tree.n->∀i,i<(R8 h v).n->0<=(R8 h v).g i/\(R8 h v).g i<h.Laws.n
 |m,v,hm,hv,i,hi=>by
  have AJ3:∀j,j<(h.On.g v).n->0<=(h.On.g v).g j/\(h.On.g v).g j<h.Laws.n:=fun j hj=>by
   have:=hok.bad v (by have:=hok.on;omega)
   constructor
   ·exact Int.not_lt.1 fun g=>this ⟨j,hj,.inl g⟩
   ·exact Int.not_le.1 fun g=>this ⟨j,hj,.inr g⟩
  rcases T3 hok.tree hv with⟨_,e⟩ | ⟨p,hp,e⟩
  ·rw[BI (by omega)]at hi⊢;have hi:i<0+(h.On.g v).n:=hi
   have:((Sl.nil:Sl Int).app (h.On.g v)).g i=(h.On.g v).g i:=by show (if i<0 then (default:Int)else (h.On.g v).g (i-0))=_;rw[if_neg (by omega)];rfl
   rw[this];exact AJ3 i (by omega)
  ·rw[EW e hp]at hi⊢;have hi:i<(R8 h p).n+(h.On.g v).n:=hi;show 0<=(if i<(R8 h p).n then (R8 h p).g i else (h.On.g v).g (i-(R8 h p).n))/\(if i<(R8 h p).n then (R8 h p).g i else (h.On.g v).g (i-(R8 h p).n))<_;split
   ·match m with
    |0=>omega
    |m+1=>exact QN hok m p (by omega) (by omega) i (by assumption)
   ·exact AJ3 _ (by omega)
theorem HD:∀(d:Nat) (p:Pat),okP d p->∀M,100+d<=M->∃q,N8 M p=some q/\PE p q
 |0,p,h,M,_=>h.elim
 |d+1,p,h,0,hM=>by omega
 |d+1,p,h,M+1,hM=>by
  show ∃q,O5 (N8 M) M p=some q/\_;unfold O5;have hn:=h.1;refine T1 (fun i (x1:Sl Pat) x2=>x2=(i:Int)/\x1.n=i/\∀j,j<i->PE (p.L.g j) (x1.g j)) p.L.n _ (by omega) ⟨rfl,rfl,fun j hj=>absurd hj (by omega)⟩ ?_;rintro self i x1 x2 hi ⟨rfl,hx,hj⟩ hs;by_cases hl:i<p.L.n
  ·obtain⟨q,q1,q2⟩:=HD d (p.L.g i) (h.2.2 i hl) M (by omega);refine ifT (by simp;omega) (ifT (by omega) (B4 (by rw[AR8];exact q1) (ifT (by show (x1.n+1)*64<=_/\x1.n+1<=_;omega) (hs hl _ _ ⟨C0 (by omega),by show x1.n+1=_;omega,fun j hjl=>?_⟩))));show PE _ (if j<x1.n then x1.g j else q);by_cases e:j=i
   ·subst e;rw[if_neg (by omega)];exact q2
   ·rw[if_pos (by omega)];exact hj j (by omega)
  ·exact ifF (by simp;omega) ⟨_,rfl,PE_of.2 ⟨rfl,rfl,rfl,rfl,rfl,by show x1.n=_;omega,fun j hjl=>hj j (by omega)⟩⟩
theorem Zt {N:Nat}(hN:3000000<=N){l:Law}(hl:Ku l)(hc:chkAll N l):∃l',T0 N l=some l' /\ LE l l':=by have hf:=hc.f hl;obtain⟨_,h1,h2,h3,h4,_⟩:=hf;have h6:=h4.1;obtain⟨q1,e1,g1⟩:=HD 40 l.Left (MH 40 _ (by omega) h1 _ (by simp)) N (by omega);obtain⟨q2,e2,g2⟩:=HD 40 l.Right (MH 40 _ (by omega) h2 _ (by simp)) N (by omega);unfold T0 A3 F4;rw[e1,e2,AS1,AS1,if_pos (by omega),AS1,if_pos (by omega)];exact⟨_,rfl,rfl,g1,g2,SE.refl _,SE.refl _,rfl⟩
theorem Xm {N:Nat}(hN:3000000<=N){h:B1}(hi:Cq h)(hok:IJ N h){l:Sl Int}(hn:l.n<1000000)(hl:∀i,i<l.n->0<=l.g i/\l.g i<h.Laws.n) :∃s,J2 N h l=some s/\s.n=l.n/\∀i,i<l.n->LE (h.Laws.g (l.g i).toNat) (s.g i):=by
 unfold J2;refine T1 (fun i (x1:Sl Law) x2=>x2=(i:Int)/\x1.n=i/\∀j,j<i->LE (h.Laws.g (l.g j).toNat) (x1.g j)) l.n _ (by omega) ⟨rfl,rfl,fun j hj=>absurd hj (by omega)⟩ ?_;rintro self i x1 x2 hle ⟨rfl,hx,hj⟩ hs;by_cases hlt:i<l.n
 ·have hr:=hl i hlt;obtain⟨q,q1,q2⟩:=Zt hN (hi.laws (l.g i).toNat (by omega)) (hok.laws.2 (l.g i).toNat (by omega));refine ifT (by simp;omega) ?_;rw[AR8];refine ifT ⟨by omega,hr⟩ (B4 q1 (ifT (by show (x1.n+1)*200<=_/\x1.n+1<=_;omega) (hs hlt _ _ ⟨C0 (by omega),by show x1.n+1=_;omega,fun j hjl=>?_⟩)));show LE _ (if j<x1.n then x1.g j else q);by_cases e:j=i
  ·subst e;rw[if_neg (by omega)];exact q2
  ·rw[if_pos (by omega)];exact hj j (by omega)
 ·exact ifF (by simp;omega) ⟨_,rfl,by omega,fun j hjl=>hj j (by omega)⟩
def MS (h:B1)(l:Sl Int):Sl Law:=⟨l.n,fun i=>h.Laws.g (l.g i).toNat⟩
theorem Xn {N:Nat}(hN:3000000<=N){h:B1}(hi:Cq h)(v:Int) :∃s s' e,T9 N h v=some (s,e)/\CJ N h v=some (s',e)/\LS s' s/\((e=0/\IJ N h/\0<=v/\v<h.Tree.n/\SE s' (MS h (R8 h v.toNat))) \/ (e≠0/\s.n=0)):=by
 obtain⟨l,e,h1,h2,h3⟩:=Xl hN hi v;unfold T9 CJ;rw[h1,h2,AS1,AS1];have hl:l.n<1000000/\(∀i,i<l.n->0<=l.g i/\l.g i<h.Laws.n)/\∃s,J2 N h l=some s/\s.n=l.n/\∀i,i<l.n->LE (h.Laws.g (l.g i).toNat) (s.g i):=by
  rcases h3 with⟨_,hok,g1,g2,rfl⟩ | ⟨_,rfl⟩
  ·have hln:(R8 h v.toNat).n<=64:=Bb7 fun g=>hok.long ⟨v.toNat,by have:=hok.on;omega,g⟩;have hlo:=QN hok v.toNat v.toNat (AS4 _) (by omega);exact⟨by omega,hlo,Xm hN hi hok (by omega) hlo⟩
  ·refine⟨by show 0<_;omega,fun i hi=>absurd hi (AX9 i),(Sl.nil:Sl Law),?_,rfl,fun i hi=>absurd hi (AX9 i)⟩;unfold J2;obtain⟨M,rfl⟩:∃K,N=K+1:=⟨N-1,by omega⟩;rw[D3,if_neg (by show ¬decide ((0:Int)<((0:Nat):Int))=true;decide)]
 obtain⟨hn,hr,s,s1,s2,s3⟩:=hl;have hd:∃r,(P6 N (fun (self1:Sl Law->Int->Option ((Sl Law)×Int)) (x1:Sl Law) (x2:Int)=>
  if (decide (x2<(l.n:Int)))=true then
   if ((((0:Int)<=x2/\x2<(l.n:Int))/\x2.toNat<l.n)/\((0:Int)<=(l.g x2.toNat)/\(l.g x2.toNat)<(h.Laws.n:Int)))then
    if ((x1.n+(Sl.of [h.Laws.g (l.g x2.toNat).toNat]:Sl Law).n)*200<=140737488355328/\x1.n+(Sl.of [h.Laws.g (l.g x2.toNat).toNat]:Sl Law).n<=140737488355328)then
     self1 (x1.push (h.Laws.g (l.g x2.toNat).toNat)) (wrap .i64 (x2+1))
    else none
   else none
  else
   some (x1,e)
  ) (Sl.nil:Sl Law) 0)=some r/\r.2=e/\r.1.n=l.n/\∀i,i<l.n->r.1.g i=h.Laws.g (l.g i).toNat:=by
  refine T1 (fun i (x1:Sl Law) x2=>x2=(i:Int)/\x1.n=i/\∀j,j<i->x1.g j=h.Laws.g (l.g j).toNat) l.n _ (by omega) ⟨rfl,rfl,fun j hj=>absurd hj (by omega)⟩ ?_;rintro self i x1 x2 hle ⟨rfl,hx,hj⟩ hs;by_cases hlt:i<l.n
  ·refine ifT (by simp;omega) ?_;rw[AR8];refine ifT ⟨⟨by omega,hlt⟩,hr i hlt⟩ (ifT (by show (x1.n+1)*200<=_/\x1.n+1<=_;omega) (hs hlt _ _ ⟨C0 (by omega),by show x1.n+1=_;omega,fun j hjl=>?_⟩));show (if j<x1.n then x1.g j else _)=_;by_cases e:j=i
   ·subst e;rw[if_neg (by omega)]
   ·rw[if_pos (by omega)];exact hj j (by omega)
  ·exact ifF (by simp;omega) ⟨_,rfl,rfl,by show x1.n=_;omega,fun j hjl=>hj j (by omega)⟩
 obtain⟨⟨s',e'⟩,d1,d2,d3,d4⟩:=hd;dsimp only at d2 d3 d4;subst d2;rw[s1,AS1];refine⟨s,s',_,rfl,d1,⟨by omega,fun i hi=>by rw[d4 i (by omega)];exact s3 i (by omega)⟩,?_⟩;rcases h3 with⟨g0,hok,g1,g2,rfl⟩ | ⟨g0,rfl⟩
 ·exact .inl ⟨g0,hok,g1,g2,d3,fun i hi=>d4 i (by omega)⟩
 ·exact .inr ⟨g0,s2⟩
end Go.AM
set_option linter.unusedVariables false
namespace Go.AM
open Go.Proofs
def NO (N:Nat)(l:Law)(w:Sl Sound):Option (Sl Sound):=(P8 N l w).bind fun y=>if y.2=0 then some y.1 else none
def Dl (N:Nat):List Law->Sl Sound->Option (Sl Sound)
 |[],w=>some w
 |l::L,w=>(NO N l w).bind (Dl N L)
theorem TG {N:Nat}:∀(A B:List Law) (w:Sl Sound),Dl N (A++B) w=(Dl N A w).bind (Dl N B)
 |[],B,w=>rfl
 |l::A,B,w=>by
  show (NO N l w).bind (Dl N (A++B))=((NO N l w).bind (Dl N A)).bind (Dl N B);cases NO N l w with
  |none=>rfl
  |some v=>exact TG A B v
def Zu (N:Nat)(l:Law):Prop:=Ku l/\chkAll N l
theorem Au7 {N:Nat}{l l' : Law}(h:LE l l')(g:Zu N l):Zu N l':=⟨KJ h g.1,(Es h).1 g.2⟩
def OR (o o' : Option (Sl Sound)):Prop:=(o=none/\o' = none) \/ ∃v v',o=some v/\o' = some v' /\ SE v v' /\ wOk v
theorem VX {N:Nat}(hN:3000000<=N){l:Law}(hl:Zu N l){w:Sl Sound}(hw:wOk w):(∃v,P8 N l w=some (v,0)/\NO N l w=some v/\wOk v) \/ (∃v,P8 N l w=some (v,11)/\NO N l w=none):=by
 obtain⟨⟨v,e⟩,_,h1,_,_,_,h5⟩:=IG hN hl.1 (LE.refl l) (SE.refl w) fun i hi=>(hw.2 i hi).ok;rcases h5 with⟨_,h⟩ | ⟨_,h,h'⟩ | ⟨_,_,h|⟨h,h'⟩⟩
 ·exact absurd hl.2 h
 ·exact absurd ((R6 h).2 hw) h'
 ·dsimp only at h;subst h;exact .inr ⟨v,h1,by unfold NO;rw[h1];rfl⟩
 ·dsimp only at h h';subst h;exact .inl ⟨v,h1,by unfold NO;rw[h1];rfl,h'⟩
theorem AQ4 {N:Nat}(hN:3000000<=N){l l' : Law}(hl:Zu N l)(hle:LE l l'){w w' : Sl Sound}(hw:wOk w)(hse:SE w w'):OR (NO N l w) (NO N l' w'):=by
 have hw':=hse.wOk hw;obtain⟨r,r',h1,h2,h3,h4,_⟩:=IG hN hl.1 hle hse fun i hi=>(hw.2 i hi).ok;obtain⟨q,q',k1,k2,k3,k4,_⟩:=IG hN (KJ hle hl.1) (LE.refl l') (SE.refl w') fun i hi=>(hw'.2 i hi).ok;obtain rfl:=AU4 (h2.symm.trans k2);rcases VX hN hl hw with⟨v,g1,g2,g3⟩ | ⟨v,g1,g2⟩<;>rcases VX hN (Au7 hle hl) hw' with⟨u,p1,p2,p3⟩ | ⟨u,p1,p2⟩
 ·obtain rfl:=AU4 (g1.symm.trans h1);obtain rfl:=AU4 (p1.symm.trans k1);exact .inr ⟨v,u,g2,p2,h3.trans k3.symm,g3⟩
 ·obtain rfl:=AU4 (g1.symm.trans h1);obtain rfl:=AU4 (p1.symm.trans k1);exact absurd (h4.trans k4.symm) (by show ¬((0:Int)=11);decide)
 ·obtain rfl:=AU4 (g1.symm.trans h1);obtain rfl:=AU4 (p1.symm.trans k1);exact absurd (h4.trans k4.symm) (by show ¬((11:Int)=0);decide)
 ·exact .inl ⟨g2,p2⟩
def LEs:List Law->List Law->Prop
 |[],[]=>True
 |p::l,q::m=>LE p q/\LEs l m
 |_,_=>False
theorem Az0 {N:Nat}(hN:3000000<=N):∀(L L' : List Law) (w w' : Sl Sound),(∀l∈L,Zu N l)->LEs L L' -> wOk w->SE w w' -> OR (Dl N L w) (Dl N L' w')
 |[],[],w,w',_,_,hw,hse=>.inr ⟨w,w',rfl,rfl,hse,hw⟩
 |l::L,l' :: L',w,w',hg,⟨h1,h2⟩,hw,hse=>by
  unfold Dl;rcases AQ4 hN (hg l (by simp)) h1 hw hse with⟨e1,e2⟩ | ⟨v,v',e1,e2,e3,e4⟩
  ·rw[e1,e2];exact .inl ⟨rfl,rfl⟩
  ·rw[e1,e2];exact Az0 hN L L' v v' (fun x hx=>hg x (by simp[hx])) h2 e4 e3
 |[],_::_,_,_,_,h,_,_=>h.elim
 |_::_,[],_,_,_,h,_,_=>h.elim
theorem TH {f g:Nat->Law}:∀(l:List Nat),(∀i∈l,LE (f i) (g i))->LEs (l.map f) (l.map g)
 |[],_=>trivial
 |i::l,h=>⟨h i (by simp),TH l fun j hj=>h j (by simp[hj])⟩
theorem LS.s {s t:Sl Law}(h:LS s t):LEs s.toList t.toList:=by unfold Sl.toList;rw[<- h.1];exact TH _ fun i hi=>h.2 i (AW2.1 hi)
theorem AI7 {N:Nat}{laws:Sl Law}(hl:T2 laws)(hok:DB N laws):∀l∈laws.toList,Zu N l:=by intro l h;obtain⟨i,hi,rfl⟩:=AY4.1 h;have hi:=AW2.1 hi;exact⟨hl i hi,hok.2 i hi⟩
theorem VY {N:Nat}(hN:3000000<=N){laws:Sl Law}(hl:T2 laws)(hok:DB N laws):∀(m i:Nat) (w:Sl Sound),wOk w->i<=laws.n->laws.n<=i+m ->
 (∃L,(∀M,m<M->P6 M (S2 N 0 laws) w i=some L)/\Dl N (laws.toList.drop i) w=some (IH w L)/\wOk (IH w L)) \/
 ((∃L,∀M,m<M->P6 M (S2 N 0 laws) w i=none/\P6 M (S2 N 11 laws) w i=some L)/\Dl N (laws.toList.drop i) w=none):=by
 have h64:=hok.1;have fin:∀(m i:Nat) (w:Sl Sound),wOk w->i=laws.n->∃L,(∀M,m<M->P6 M (S2 N 0 laws) w i=some L)/\Dl N (laws.toList.drop i) w=some (IH w L)/\wOk (IH w L):=by rintro m i w hw rfl;refine⟨[],fun M hM=>?_,by rw[Dj];rfl,hw⟩;obtain⟨M,rfl⟩:∃K,M=K+1:=⟨M-1,by omega⟩;rw[D3,S2,if_neg (by simp),if_pos rfl]
 intro m
 induction m with
 |zero=>exact fun i w hw hi hm=>.inl (fin 0 i w hw (by omega))
 |succ m ih=>
  intro i w hw hi hm;by_cases hlt:i<laws.n
  case neg=>exact .inl (fin _ i w hw (by omega))
  rw[ET _ hlt];rcases VX hN ⟨hl i hlt,hok.2 i hlt⟩ hw with⟨v,g1,g2,g3⟩ | ⟨v,g1,g2⟩
  ·rcases ih (i+1) v g3 (by omega) (by omega)with⟨L,a1,a2,a3⟩ | ⟨⟨L,a1⟩,a2⟩
   ·refine .inl ⟨((i+1:Nat),v)::L,fun M hM=>?_,by unfold Dl;rw[g2];exact a2,a3⟩;obtain⟨M,rfl⟩:∃K,M=K+1:=⟨M-1,by omega⟩;rw[D3,Q0 hlt h64 g1,if_neg (by simp)];show U5 _ (P6 M (S2 N 0 laws) v _)=_;rw[a1 M (by omega)];rfl
   ·refine .inr ⟨⟨((i+1:Nat),v)::L,fun M hM=>?_⟩,by unfold Dl;rw[g2];exact a2⟩;obtain⟨M,rfl⟩:∃K,M=K+1:=⟨M-1,by omega⟩;obtain⟨b1,b2⟩:=a1 M (by omega);rw[D3,D3,Q0 hlt h64 g1,Q0 hlt h64 g1,if_neg (by simp),if_neg (by simp)];refine⟨?_,?_⟩
    ·show U5 _ (P6 M (S2 N 0 laws) v _)=_;rw[b1];rfl
    ·show U5 _ (P6 M (S2 N 11 laws) v _)=_;rw[b2];rfl
  ·refine .inr ⟨⟨[],fun M hM=>?_⟩,by unfold Dl;rw[g2];rfl⟩;obtain⟨M,rfl⟩:∃K,M=K+1:=⟨M-1,by omega⟩;rw[D3,D3,Q0 hlt h64 g1,Q0 hlt h64 g1];exact⟨rfl,rfl⟩
theorem MT {N:Nat}(hN:3000000<=N){laws:Sl Law}(hl:T2 laws)(hok:DB N laws){w:Sl Sound}(hw:wOk w) :(∃v,Dl N laws.toList w=some v/\F3 N laws w=some (v,0)/\wOk v) \/ (Dl N laws.toList w=none/\F3 N laws w=some ((Sl.nil:Sl Sound),11)):=by
 have h64:=hok.1;have h32:=hw.1;obtain⟨e,e1,he⟩:=MN hN hl (w:=w) fun i hi=>(hw.2 i hi).ok
 have:e=0:=by
  rcases he with⟨h,h'⟩ | ⟨_,h⟩
  ·exact Et h (lawsE_zero.2 hok)
  ·exact (R6 h).2 hw
 subst this;have hclone:A3 N w=some w:=by unfold A3;rw[if_pos (by omega)]
 have hout:∀c,B9 N c laws w=(U5 (0,w) (P6 N (S2 N c laws) w 0)).bind fun L1=>K0 L1 (fun (self1:Sl Sound->Option (Sl Sound)) (x1:Int×(Sl Sound)) (z1:Sl Sound)=>self1 x1.2) (fun (z1:Sl Sound)=>some z1) (Sl.nil:Sl Sound):=by intro c;unfold B9 Au S9;rw[AS1,hclone,AS1];rfl
 unfold F3;rw[e1,AS1,if_neg (by decide)];rcases VY hN hl hok laws.n 0 w hw (by omega) (by omega)with⟨L,g1,g2,g3⟩ | ⟨⟨L,g1⟩,g2⟩
 ·have g1:P6 N (S2 N 0 laws) w 0=some L:=g1 N (by omega)
  have:F2 N laws w=some (IH w L,true):=by
   have e0:B9 N 0 laws w=some (IH w L):=by rw[hout,g1];exact II _ _
   unfold F2;rw[e0]
  rw[this];exact .inl ⟨_,g2,rfl,g3⟩
 ·obtain⟨g3,g4⟩:=g1 N (by omega);have g3:P6 N (S2 N 0 laws) w 0=none:=g3;have g4:P6 N (S2 N 11 laws) w 0=some L:=g4
  have:F2 N laws w=some ((Sl.nil:Sl Sound),false):=by
   have e0:B9 N 0 laws w=none:=by rw[hout,g3];rfl
   have e11:B9 N 11 laws w=some (IH w L):=by rw[hout,g4];exact II _ _
   unfold F2;rw[e0,e11];rfl
  rw[this];exact .inr ⟨g2,rfl⟩
theorem AQ5 {α : Type}(s t:Sl α):(s.app t).toList=s.toList++t.toList:=by
 show (List.range (s.n+t.n)).map (fun i=>if i<s.n then s.g i else t.g (i-s.n))=_;rw[List.range_add,Ba2,AZ2];congr 1
 ·exact AU6 fun i hi=>if_pos (AW2.1 hi)
 ·refine AU6 fun i hi=>?_;show (if s.n+i<s.n then _ else t.g (s.n+i-s.n))=_;rw[if_neg (by omega)];congr 1;omega
theorem QO (h:B1)(l:Sl Int):(MS h l).toList=l.toList.map fun (i:Int)=>h.Laws.g i.toNat:=by unfold MS Sl.toList;rw[AZ2];rfl
def VZ (h:B1)(L:List Nat):List Law:=L.flatMap fun x=>(MS h (h.On.g x)).toList
theorem TI {h:B1}(ht:Ci h.Tree):∀(m v:Nat),v<=m->v<h.Tree.n->VZ h (Kx h.Tree v)=(MS h (R8 h v)).toList
 |m,v,hm,hv=>by
  rcases T3 ht hv with⟨_,e⟩ | ⟨p,hp,e⟩
  ·rw[Dk (by omega),BI (by omega),AH2 rfl];simp[VZ]
  ·rw[HC e hp,EW e hp,QO,AQ5,Ba2,<- QO,<- QO]
   match m with
   |0=>omega
   |m+1=>rw[<- TI ht m p (by omega) (by omega)];simp[VZ]
theorem QP {h:B1}(hi:Cq h){l:Sl Int}(hl:∀i,i<l.n->0<=l.g i/\l.g i<h.Laws.n):T2 (MS h l):=fun i hii=>hi.laws _ (by have:=hl i hii;omega)
theorem Xo {N:Nat}{h:B1}(hok:IJ N h){l:Sl Int}(hn:l.n<=64)(hl:∀i,i<l.n->0<=l.g i/\l.g i<h.Laws.n):DB N (MS h l):=⟨hn,fun i hii=>hok.laws.2 _ (by have:=hl i hii;omega)⟩
theorem on_ok {N:Nat}{h:B1}(hok:IJ N h){x:Nat}(hx:x<h.Tree.n):(h.On.g x).n<=64/\∀i,i<(h.On.g x).n->0<=(h.On.g x).g i/\(h.On.g x).g i<h.Laws.n:=by
 have hon:=hok.on;refine⟨?_,fun j hj=>?_⟩
 ·have hl:(R8 h x).n<=64:=Bb7 fun g=>hok.long ⟨x,by omega,g⟩;rcases T3 hok.tree hx with⟨_,e⟩ | ⟨p,hp,e⟩
  ·rw[BI (by omega)]at hl;have hl:0+(h.On.g x).n<=64:=hl;omega
  ·rw[EW e hp]at hl;have hl:(R8 h p).n+(h.On.g x).n<=64:=hl;omega
 ·have:=hok.bad x (by omega)
  constructor
  ·exact Int.not_lt.1 fun g=>this ⟨j,hj,.inl g⟩
  ·exact Int.not_le.1 fun g=>this ⟨j,hj,.inr g⟩
theorem Aj9 {N:Nat}(hN:3000000<=N){h:B1}(hi:Cq h)(hok:IJ N h):∀(L:List Nat) (z z' : Sl Sound),(∀x∈L,x<h.Tree.n)->wOk z->SE z z' ->
 ∃r,K0 (L.map fun (x:Nat)=>(x:Int)) (fun (self1:Sl Sound->Option ((Sl Sound)×Int)) (x1:Int) (z1:Sl Sound)=>
  if ((0:Int)<=x1/\x1<(h.On.n:Int))then
   (J2 N h (h.On.g x1.toNat)).bind fun y8=>
   (F3 N y8 z1).bind fun y9=>
   if (y9.2 != 0)=true then
    some ((Sl.nil:Sl Sound),y9.2)
   else
    self1 y9.1
  else none
  ) (fun (z1:Sl Sound)=>
   some (z1,0)
  ) z=some r/\((∃v,Dl N (VZ h L) z' = some v/\r.2=0/\SE r.1 v/\wOk r.1) \/ (Dl N (VZ h L) z' = none/\r=((Sl.nil:Sl Sound),11)))
 |[],z,z',_,hz,hse=>⟨(z,0),rfl,.inl ⟨z',rfl,rfl,hse,hz⟩⟩
 |x::L,z,z',hx,hz,hse=>by
  have hx0:=hx x (by simp);have hon:=hok.on;obtain⟨o1,o2⟩:=on_ok hok hx0;obtain⟨s,s1,s2,s3⟩:=Xm hN hi hok (l:=h.On.g x) (by omega) o2;have hls:LS (MS h (h.On.g x)) s:=⟨s2.symm,fun i hi=>s3 i hi⟩;have hin:=QP hi o2;have hlo:=Xo hok o1 o2;have hin':=KK hls hin;have hlo' : DB N s:=⟨by omega,fun i hi=>(Es (hls.2 i (by rw[hls.1];exact hi))).1 (hlo.2 i (by rw[hls.1];exact hi))⟩;have hf:=Az0 hN _ _ z' z (AI7 hin hlo) hls.s (hse.wOk hz) hse.symm;have hcons:Dl N (VZ h (x::L)) z' = (Dl N (MS h (h.On.g x)).toList z').bind (Dl N (VZ h L)):=by rw[<- TG];rfl
  rw[hcons,AU8,K0,if_pos (by omega),AR8,s1,AS1];rcases MT hN hin' hlo' hz with⟨v,d1,d2,d3⟩ | ⟨d1,d2⟩
  ·rw[d2,AS1,if_neg (by simp)];rcases hf with⟨_,f2⟩ | ⟨u,u',f1,f2,f3,f4⟩
   ·rw[d1]at f2;cases f2
   ·rw[d1]at f2;obtain rfl:=AU4 f2;rw[f1,AS1];exact Aj9 hN hi hok L v u (fun y hy=>hx y (by simp[hy])) d3 f3.symm
  ·rw[d2,AS1,if_pos (by simp)];rcases hf with⟨f1,_⟩ | ⟨u,u',_,f2,_⟩
   ·rw[f1];exact⟨_,rfl,.inr ⟨rfl,rfl⟩⟩
   ·rw[d1]at f2;cases f2
theorem AQ6 {N:Nat}(hN:3000000<=N){h:B1}(hi:Cq h){w w' : Sl Sound}(hse:SE w w')(hw:okA w)(v:Int) :∃r r',AQ N h w v=some r/\IA N h w' v=some r' /\ SE r.1 r'.1/\r.2=r'.2/\(r.2=0->wOk r.1)/\(r.2=0->IJ N h):=by
 unfold AQ IA Bo Gv;rw[BJ hN hi,Ev hN hi,AS1,AS1];by_cases h0:hres N h=0
 case neg=>
  have hne:(hres N h != 0)=true:=by simpa using h0
  rw[if_pos hne,if_pos hne,AS1,AS1,if_pos hne,if_pos hne];exact⟨_,_,rfl,rfl,SE.refl _,rfl,fun e=>absurd e h0,fun e=>absurd e h0⟩
 have hok:=hres_zero.1 h0;have hnz:¬(hres N h != 0)=true:=by simp[h0]
 rw[if_neg hnz,if_neg hnz];obtain⟨e',e3,he'⟩:=MK (N:=N) (by omega) hw;obtain⟨e'',e4,he''⟩:=CK (N:=N) (by omega) (Ai5 hse hw);obtain rfl:=Ge (Ai4 hse he') he'';rw[e3,e4];simp only[AS1];by_cases hz:e' = 0
 case neg=>
  have hne:(e' != 0)=true:=by simpa using hz
  rw[if_pos hne,if_pos hne];exact⟨_,_,rfl,rfl,SE.refl _,rfl,fun e=>absurd e hz,fun e=>absurd e hz⟩
 have hnz:¬(e' != 0)=true:=by simp[hz]
 have hwk:wOk w:=(R6 he').1 hz;rw[if_neg hnz,if_neg hnz,P9,CH,AS1,AS1];by_cases hv:0<=v/\v<(h.Tree.n:Int)
 case neg=>
  have hb:(!((decide (0<=v))&&(decide (v<(h.Tree.n:Int)))))=true:=by simp;omega
  rw[if_pos hb,if_pos hb];exact⟨_,_,rfl,rfl,SE.refl _,rfl,fun e=>absurd e (by decide),fun _=>hok⟩
 have hb:¬(!((decide (0<=v))&&(decide (v<(h.Tree.n:Int)))))=true:=by simp;omega
 rw[if_neg hb,if_neg hb,S5,AS1];obtain⟨u,rfl⟩:∃u:Nat,v=(u:Int):=⟨v.toNat,by omega⟩;have hu:u<h.Tree.n:=by omega
 obtain⟨s,s',e,l1,l2,l3,l4⟩:=Xn hN hi (u:Int);rcases l4 with⟨rfl,_,_,_,l5⟩ | ⟨l5,_⟩
 case inr=>
  exfalso;obtain⟨s0,e0,k1,k2,k3⟩:=Xl hN hi (u:Int);unfold T9 at l1;rw[k1,AS1]at l1;rcases k3 with⟨rfl,_⟩ | ⟨k3,_⟩
  ·obtain⟨y,_,hy⟩:=AZ8.1 l1;exact l5 (congrArg Prod.snd (AU4 hy)).symm
  ·unfold T8 at k1;rw[BJ hN hi,AS1,if_neg (show ¬(hres N h != 0)=true by simp[h0]),P9,AS1,if_neg hb,S5,AS1]at k1;have hw2:=VW hN hok.tree hu;have h63:=hok.tree.2.1;have hlen:=QM hok.tree u u (AS4 _) hu;have hit:=MR hi (Kx h.Tree u) (Sl.nil:Sl Int) (fun x hx=>by have:=QL hok.tree u u (AS4 _) hu x hx;have:=hok.on;omega) (by show 0+_<=_;omega);have k1:(I0 N (u:Int) h.Tree).bind _=_:=k1;rw[hw2,AS1,hit]at k1;exact k3 (congrArg Prod.snd (AU4 k1)).symm
 rw[AR8]at l5;have hln:(R8 h u).n<=64:=Bb7 fun g=>hok.long ⟨u,by have:=hok.on;omega,g⟩;have hlo:=QN hok u u (AS4 _) hu;have hin:=QP hi hlo;have hlk:=Xo hok hln hlo;have hls:LS s' (MS h (R8 h u)):=l5.ls;have hin' : T2 s':=fun i hi=>by rw[l5.2 i hi];exact hin i (by rw[<- l5.1];exact hi)
 have hlk' : DB N s':=⟨by rw[l5.1];exact hln,fun i hi=>by rw[l5.2 i hi];exact hlk.2 i (by rw[<- l5.1];exact hi)⟩;obtain⟨r,r',d1,d2,d3,d4,_⟩:=Pr hN hin' (LS.refl s') hse hw;have hdoc:Iz N h w' (u:Int)=some (r'.1,r'.2):=by unfold Iz;rw[l2,AS1,d2];rfl
 rw[hdoc,AS1];obtain⟨q,q1,q2⟩:=Aj9 hN hi hok (Kx h.Tree u) w w (fun x hx=>by have:=QL hok.tree u u (AS4 _) hu x hx;omega) hwk (SE.refl w);have hway:=VW hN hok.tree hu;refine⟨q,_,?_,rfl,?_⟩
 ·show (I0 N (u:Int) h.Tree).bind _=_;rw[hway];exact q1
 ·rw[TI hok.tree u u (AS4 _) hu,<- tl_eq.2 l5]at q2;rcases MT hN hin' hlk' hwk with⟨x,x1,x2,x3⟩ | ⟨x1,x2⟩
  ·obtain rfl:=AU4 (d1.symm.trans x2);rcases q2 with⟨y,y1,y2,y3,y4⟩ | ⟨y1,_⟩
   ·obtain rfl:=AU4 (x1.symm.trans y1);exact⟨y3.trans d3,y2.trans d4,fun _=>y4,fun _=>hok⟩
   ·rw[x1]at y1;cases y1
  ·obtain rfl:=AU4 (d1.symm.trans x2);rcases q2 with⟨y,y1,_⟩ | ⟨y1,rfl⟩
   ·rw[x1]at y1;cases y1
   ·exact⟨d3,d4,fun e=>absurd e (by show ¬((11:Int)=0);decide),fun _=>hok⟩
end Go.AM
set_option linter.unusedVariables false
namespace Go.AM
open IntKind (wrap)
open Go.Proofs
theorem TJ {t:Sl DF}(ht:Ci t):∀(M v:Nat),v+1<=M->v<t.n->∃s,En M t (v:Int)=some s/\s.toList=(Kx t v).map (fun (x:Nat)=>(x:Int))/\s.n<=v+1
 |0,v,hM,_=>by omega
 |M+1,v,hM,hv=>by
  have h63:=ht.2.1;show ∃s,Cd (En M) M t (v:Int)=some s/\_;unfold Cd;by_cases h0:v=0
  ·subst h0;refine ifT rfl ⟨_,rfl,?_,AS4 1⟩;rw[Dk (by have:=(ht.2.2 0 hv).1 rfl;omega)];rfl
  ·refine ifF (by simp;omega) (ifT (by omega) ?_);rw[AR8];rcases T3 ht hv with⟨h1,_⟩ | ⟨p,hp,e⟩
   ·exact absurd h1 h0
   ·obtain⟨s,g1,g2,g3⟩:=TJ ht M p (by omega) (by omega);rw[e];refine B4 g1 (ifT ⟨by show (s.n+1)*8<=_;omega,by show s.n+1<=_;omega⟩ ⟨_,rfl,?_,by show s.n+1<=_;omega⟩);rw[HC e hp,Ba2,<- g2,QJ];rfl
theorem Ak0 {N:Nat}(hN:3000000<=N){t:Sl DF}(hi:MP t)(ht:Ci t){v:Nat}(hv:v<t.n):∃s,Eo N t (v:Int)=some (s,0)/\s.toList=(Kx t v).map (fun (x:Nat)=>(x:Int))/\s.n<=64:=by
 have h63:=ht.2.1;obtain⟨e,_,e1,he⟩:=QK hN hi
 have:e=0:=by
  rcases he with⟨h,_⟩ | ⟨_,h⟩
  ·exact h
  ·exact absurd ht h
 subst this;obtain⟨s,g1,g2,g3⟩:=TJ ht N v (by omega) hv;refine⟨s,?_,g2,by omega⟩;unfold Eo Gu;rw[e1,AS1,if_neg (by simp;omega),AS1,if_neg (by simp),g1];rfl
theorem AI8 {s:Sl Int}{x:Int}:x∈s.toList ↔ ∃j,j<s.n/\s.g j=x:=by
 unfold Sl.toList;rw[AY4];constructor
 ·rintro⟨j,hj,g⟩;exact⟨j,AW2.1 hj,g⟩
 ·rintro⟨j,hj,g⟩;exact⟨j,AW2.2 hj,g⟩
theorem Au8 {R:Type}{Q:R->Prop}{N:Nat}{s:Sl Int}(hN:s.n<N)(hs:s.n<100000){x:Int}{K:Bool->Option R}(hK:∀b,(b=true↔x∈s.toList)->∃r,K b=some r/\Q r) :∃r,P6 N (fun (self4:Bool->Int->Option R) (x7:Bool) (x8:Int)=>
  if (decide (x8<(s.n:Int)))=true then
   if (x7=false->(((0:Int)<=x8/\x8<(s.n:Int))/\x8.toNat<s.n))then
    self4 (x7||((s.g x8.toNat)==x)) (wrap .i64 (x8+1))
   else none
  else K x7) false 0=some r/\Q r:=by
 refine T1 (fun i x7 x8=>x8=(i:Int)/\(x7=true ↔ ∃j,j<i/\s.g j=x)) s.n _ hN ⟨rfl,fun g=>(by cases g),fun⟨j,hj,_⟩=>absurd hj (by omega)⟩ ?_;rintro self i x7 x8 hi ⟨rfl,h⟩ hs2;by_cases hl:i<s.n
 ·refine ifT (by simp;omega) (ifT (fun _=>by omega) ?_);rw[C0 (by omega),AR8];refine hs2 hl _ _ ⟨rfl,?_⟩;rw[AT6,h,beq_iff_eq];constructor
  ·rintro (⟨j,hj,g⟩ | g)
   ·exact⟨j,by omega,g⟩
   ·exact⟨i,by omega,g⟩
  ·rintro⟨j,hj,g⟩;by_cases hji:j=i
   ·subst hji;exact .inr g
   ·exact .inl ⟨j,by omega,g⟩
 ·refine ifF (by simp;omega) (hK _ ?_);rw[h,AI8];constructor
  ·rintro⟨j,hj,g⟩;exact⟨j,by omega,g⟩
  ·rintro⟨j,hj,g⟩;exact⟨j,by omega,g⟩
theorem AI9 {R:Type}{Q:R->Prop}{N:Nat}{t:Sl DF}(hN:1000<=N)(ht:Ci t){v:Nat}(hv:v<t.n){K:(Nat->Bool)->Option R}
 (hK:∀f:Nat->Bool,(∀j,j<t.n->(f j=true↔j∈Kx t v))->∃r,K f=some r/\Q r) :
 ∃r,P6 N (fun (self1:(Nat->Bool)->Int->Option R) (x1:Nat->Bool) (x2:Int)=>
  if (decide (0<=x2))=true then
   if ((((0:Int)<=x2/\x2<63)/\(0+x2.toNat*1)<63)/\((0:Int)<=x2/\x2<(t.n:Int)))then
    self1 (IM x1 (0+x2.toNat*1) true) (t.g x2.toNat).Parent
   else none
  else K x1) (fun _=>false) (v:Int)=some r/\Q r:=by
 have h63:=ht.2.1;refine T1 (fun i (x1:Nat->Bool) x2=>(x2 = -1/\∀j,j<t.n->(x1 j=true↔j∈Kx t v)) \/ ∃c:Nat,x2=(c:Int)/\c<t.n/\c+i<=v/\∀j,j<t.n->((x1 j=true \/ j∈Kx t c)↔j∈Kx t v)) (v+1) _ (by omega)
  (.inr ⟨v,rfl,hv,by omega,fun j hj=>by simp⟩) ?_
 rintro self i x1 x2 hi (⟨rfl,h⟩ | ⟨c,rfl,hc,hci,h⟩) hs2
 ·exact ifF (by decide) (hK _ h)
 ·refine ifT (by simp) (ifT (by omega) ?_);rw[AR8];have hu:∀j,IM x1 (0+c*1) true j=true↔j=c \/ x1 j=true:=fun j=>by show (if j=0+c*1 then true else x1 j)=true↔_;rw[show 0+c*1=c by omega];by_cases hj:j=c<;>simp[hj]
  rcases T3 ht hc with⟨_,e⟩ | ⟨p,hp,e⟩
  ·rw[e];refine hs2 (by omega) _ _ (.inl ⟨rfl,fun j hj=>?_⟩);rw[hu,<- h j hj,Dk (by omega)];simp;exact Or.comm
  ·rw[e];refine hs2 (by omega) _ _ (.inr ⟨p,rfl,by omega,by omega,fun j hj=>?_⟩);rw[hu,<- h j hj,HC e hp];simp only[Bi1,AZ5];constructor
   ·rintro ((g|g)|g)
    ·exact .inr (.inr g)
    ·exact .inl g
    ·exact .inr (.inl g)
   ·rintro (g|g|g)
    ·exact .inl (.inr g)
    ·exact .inr g
    ·exact .inl (.inl g)
theorem eqR {R:Type}{x:Option R}{y:R}(h:∃r,x=some r/\r=y):x=some y:=by obtain⟨r,h,rfl⟩:=h;exact h
def QR (D:Nat->Option E3):Nat->Sl E3
 |0=>(Sl.nil:Sl E3)
 |i+1=>match D i with
  |none=>QR D i
  |some d=>(QR D i).push d
theorem Xp (D:Nat->Option E3):∀i,(QR D i).n<=i
 |0=>AS4 0
 |i+1=>by
  have:=Xp D i
  show (match D i with|none=>QR D i|some d=>(QR D i).push d).n<=i+1;split
  ·omega
  ·show (QR D i).n+1<=i+1;omega
theorem Ew {D:Nat->Option E3}{i:Nat}(h:D i=none):QR D (i+1)=QR D i:=by show (match D i with|none=>QR D i|some d=>(QR D i).push d)=_;rw[h]
theorem TL {D:Nat->Option E3}{i:Nat}{d:E3}(h:D i=some d):QR D (i+1)=(QR D i).push d:=by show (match D i with|none=>QR D i|some d=>(QR D i).push d)=_;rw[h]
open Classical in
noncomputable def GC (N:Nat) (h:B1) (w att:Sl Sound) (s:Sl Law) (v i:Nat):Option E3:=
 if i∈Kx h.Tree v then none else match AQ N h w (i:Int)with
  |none=>none
  |some r=>if r.2≠0 then none else if (Gh (plL N s r.1 att)).2.2=true then some ⟨(i:Int),(Gh (plL N s r.1 att)).1,(Gh (plL N s r.1 att)).2.1⟩else none
theorem AJ0 {laws laws' : Sl Law}(h:LS laws laws')(k:Nat):LS (laws.drop k) (laws'.drop k):=⟨by show laws.n-k=laws'.n-k;rw[h.1],fun i hi=>h.2 _ (by have hi:i<laws.n-k:=hi;omega)⟩
theorem plL_S {N:Nat}(hN:3000000<=N){laws laws' : Sl Law}(hl:T2 laws)(hls:LS laws laws'){v v' w w' : Sl Sound}(hv:SE v v')(hvo:okA v)(hw:SE w w'):plL N laws v w=plL N laws' v' w':=by unfold plL;rw[<- hls.1];exact Ps fun i _ _=>gv_S hN (HB hl i) (AJ0 hls i) hv hvo hw
theorem Zv {N:Nat}(hN:3000000<=N){h:B1}(hi:Cq h){w att:Sl Sound}(hw:okA w)(ha:okA att)(v:Int) :∃e s,Av N h w att v=some (s,e)/\Cf N h w att v=some (s,e)/\s.n<=100:=by
 unfold Av Cf;by_cases h0:hres N h=0
 case neg=>exact⟨hres N h,_,eqR (B4 (BJ hN hi) (ifT (by simpa using h0) ⟨_,rfl,rfl⟩)),eqR (B4 (Ev hN hi) (ifT (by simpa using h0) ⟨_,rfl,rfl⟩)),Ba0 _⟩
 obtain⟨e,e1,e2,he⟩:=Zo hN Zq hw ha;by_cases h1:e=0
 case neg=>exact⟨e,_,eqR (B4 (BJ hN hi) (ifF (by simp[h0]) (B4 e1 (ifT (by simpa using h1) ⟨_,rfl,rfl⟩)))),eqR (B4 (Ev hN hi) (ifF (by simp[h0]) (B4 e2 (ifT (by simpa using h1) ⟨_,rfl,rfl⟩)))),Ba0 _⟩
 by_cases h2:v<0 \/ (h.Tree.n:Int)<=v
 ·exact⟨3,_,eqR (B4 (BJ hN hi) (ifF (by simp[h0]) (B4 e1 (ifF (by simp[h1]) (ifT (by simpa using h2) ⟨_,rfl,rfl⟩))))),eqR (B4 (Ev hN hi) (ifF (by simp[h0]) (B4 e2 (ifF (by simp[h1]) (ifT (by simpa using h2) ⟨_,rfl,rfl⟩))))),Ba0 _⟩
 obtain⟨k,rfl⟩:∃k:Nat,v=(k:Int):=⟨v.toNat,by omega⟩;have hk:k<h.Tree.n:=by omega
 have hok:=hres_zero.1 h0;have ht:=hok.tree;have h63:=ht.2.1;obtain⟨s,s',el,l1,l2,hls,hl3⟩:=Xn hN hi (k:Int);have hs:T2 s' /\ s.n<=64:=by
  rcases hl3 with⟨_,_,_,_,hse⟩ | ⟨_,hz⟩
  ·rw[AR8]at hse;have hb:=QN hok k k (AS4 _) hk;refine⟨fun i hii=>?_,?_⟩
   ·rw[hse.2 i hii];exact QP hi hb i (by have:=hse.1;omega)
   ·have g1:=hls.1;have g2:=hse.1;have g3:(R8 h k).n<=64:=Bb7 fun g=>hok.long ⟨k,by have:=hok.on;omega,g⟩;have g4:(MS h (R8 h k)).n=(R8 h k).n:=rfl;omega
  ·exact⟨fun i hii=>by have:=hls.1;omega,by omega⟩
 have hs2:T2 s:=KK hls hs.1;obtain⟨p,p1,p2,p3⟩:=Ak0 hN hi.tree ht hk;have hA:=fun (i:Nat)=>AQ6 hN hi (SE.refl w) hw (i:Int);refine⟨0,QR (GC N h w att s k) h.Tree.n,?_,?_,by have:=Xp (GC N h w att s k) h.Tree.n;omega⟩
 ·
  refine eqR (B4 (BJ hN hi) (ifF (by simp[h0]) (B4 e1 (ifF (by simp[h1]) (ifF (by simpa using h2) ?_)))));refine AI9 (by omega) ht hk fun f hf=>B4 l1 (T1 (fun i (x3:Sl E3) x4=>x4=(i:Int)/\x3=QR (GC N h w att s k) i) h.Tree.n (fun r=>r=(QR (GC N h w att s k) h.Tree.n,0)) (by omega) ⟨rfl,rfl⟩ ?_);rintro self i x3 x4 hle ⟨rfl,rfl⟩ hs3;by_cases hlt:i<h.Tree.n
  case neg=>
   obtain rfl:i=h.Tree.n:=by omega
   exact ifF (by simp) ⟨_,rfl,rfl⟩
  refine ifT (by simpa using hlt) (ifT (by omega) ?_);rw[AR8,show 0+i*1=i by omega,C0 (by omega)];have hrn:=Xp (GC N h w att s k) i;by_cases hm:i∈Kx h.Tree k
  ·exact ifT ((hf i hlt).2 hm) (hs3 hlt _ _ ⟨rfl,(Ew (by unfold GC;rw[if_pos hm])).symm⟩)
  refine ifF (fun g=>hm ((hf i hlt).1 g)) ?_;obtain⟨r,r',a1,a2,a3,a4,a5,a6⟩:=hA i;refine B4 a1 ?_;by_cases hr:r.2=0
  case neg=>exact ifT (by simpa using hr) (hs3 hlt _ _ ⟨rfl,(Ew (by unfold GC;rw[if_neg hm,a1];exact if_pos hr)).symm⟩)
  refine ifF (by simp[hr]) ?_;have ho:okA r.1:=fun i hii=>((a5 hr).2 i hii).ok;refine B4 (x:=(s,oneP r.1 att)) rfl (B4 (Zp hN hs2 (by omega) (Au4 ho ha) (by show 1<=1000;omega)) (B4 (Aj2 _) ?_));rw[AI2 N s _ rfl];have hd:GC N h w att s k i=if (Gh (plL N s r.1 att)).2.2=true then some ⟨(i:Int),(Gh (plL N s r.1 att)).1,(Gh (plL N s r.1 att)).2.1⟩else none:=by unfold GC;rw[if_neg hm,a1];exact if_neg (by simp[hr])
  by_cases hb:(Gh (plL N s r.1 att)).2.2=true
  ·refine ifT hb (ifT ⟨by show (_+1)*24<=_;omega,by show _+1<=_;omega⟩ (hs3 hlt _ _ ⟨rfl,(TL (by rw[hd];exact if_pos hb)).symm⟩))
  ·exact ifF hb (hs3 hlt _ _ ⟨rfl,(Ew (by rw[hd];exact if_neg hb)).symm⟩)
 ·
  refine eqR (B4 (Ev hN hi) (ifF (by simp[h0]) (B4 e2 (ifF (by simp[h1]) (ifF (by simpa using h2) (B4 l2 (B4 p1 ?_)))))));refine (T1 (fun i (x3:Sl E3) x4=>x4=(i:Int)/\x3=QR (GC N h w att s k) i) h.Tree.n (fun r=>r=(QR (GC N h w att s k) h.Tree.n,0)) (by omega) ⟨rfl,rfl⟩ ?_);rintro self i x3 x4 hle ⟨rfl,rfl⟩ hs3;by_cases hlt:i<h.Tree.n
  case neg=>
   obtain rfl:i=h.Tree.n:=by omega
   exact ifF (by simp) ⟨_,rfl,rfl⟩
  refine ifT (by simpa using hlt) (Au8 (by show p.n<N;omega) (by show p.n<100000;omega) fun b hb=>?_);rw[C0 (by omega)];have hm:b=true↔i∈Kx h.Tree k:=by
   rw[hb,p2,AY4];constructor
   ·rintro⟨j,hj,g⟩;rwa [<- show j=i by omega]
   ·exact fun g=>⟨i,g,rfl⟩
  have hrn:=Xp (GC N h w att s k) i;obtain⟨r,r',a1,a2,a3,a4,a5,a6⟩:=hA i;refine B4 a2 ?_;by_cases hmm:i∈Kx h.Tree k
  ·exact ifT (by rw[hm.2 hmm];rfl) (hs3 hlt _ _ ⟨rfl,(Ew (by unfold GC;rw[if_pos hmm])).symm⟩)
  have hbf:b=false:=by
   cases b
   ·rfl
   ·exact absurd (hm.1 rfl) hmm
  subst hbf;by_cases hr:r.2=0
  case neg=>exact ifT (by rw[<- a4];simpa using hr) (hs3 hlt _ _ ⟨rfl,(Ew (by unfold GC;rw[if_neg hmm,a1];exact if_pos hr)).symm⟩)
  refine ifF (by rw[<- a4];simp[hr]) ?_;have ho:okA r.1:=fun i hii=>((a5 hr).2 i hii).ok;have ho' : okA r'.1:=Ai5 a3 ho;obtain⟨q,q1,q2⟩:=VT (w:=att) hN hs.1 (by have:=hls.1;omega) ho';have hq:q.toList=plL N s r.1 att:=q2.trans (plL_S hN hs.1 hls a3.symm ho' (SE.refl att));have hqn:q.n<=1000:=by rw[tl_n q2];have:=AI3 N s' r'.1 att;have:=hls.1;omega
  refine B4 q1 (B4 (Aj3 q (by omega)) ?_);rw[hq];have hd:GC N h w att s k i=if (Gh (plL N s r.1 att)).2.2=true then some ⟨(i:Int),(Gh (plL N s r.1 att)).1,(Gh (plL N s r.1 att)).2.1⟩else none:=by unfold GC;rw[if_neg hmm,a1];exact if_neg (by simp[hr])
  by_cases hb2:(Gh (plL N s r.1 att)).2.2=true
  ·refine ifT hb2 (ifT ⟨by show (_+1)*24<=_;omega,by show _+1<=_;omega⟩ (hs3 hlt _ _ ⟨rfl,(TL (by rw[hd];exact if_pos hb2)).symm⟩))
  ·exact ifF hb2 (hs3 hlt _ _ ⟨rfl,(Ew (by rw[hd];exact if_neg hb2)).symm⟩)
theorem AJ1 {N:Nat}(hN:3000000<=N){h:B1}(hi:Cq h):∃b,Gb N h=some b/\True:=by
 unfold Gb;have last:∀z1:Bool,∃b,(if z1=true then some false else
  U3 N (fun (self1:Int->Option Bool) (x2:Int)=>
   if (decide (x2<(h.On.n:Int)))=true then
    if ((0:Int)<=x2/\x2<(h.On.n:Int))then
     if (decide (5<((h.On.g x2.toNat).n:Int)))=true then
      some false
     else
      self1 (wrap .i64 (x2+1))
    else none
   else
    some true
   ) 0)=some b/\True:=fun z1=>by
  cases z1
  ·refine ifF (by simp) (Cg (fun i x2=>x2=(i:Int)) h.On.n _ (by have:=hi.on;omega) rfl ?_);rintro self i x2 hle rfl hs;by_cases hlt:i<h.On.n
   ·refine ifT (by simpa using hlt) (ifT (by omega) ?_);rw[AR8,C0 (by have:=hi.on;omega)];by_cases h5:5<(h.On.g i).n
    ·exact ifT (by simp;omega) ⟨_,rfl,trivial⟩
    ·exact ifF (by simp;omega) (hs hlt _ rfl)
   ·exact ifF (by simpa using hlt) ⟨_,rfl,trivial⟩
  ·exact ifT rfl ⟨_,rfl,trivial⟩
 refine ltX ?_;by_cases g1:(decide (8<(h.Tree.n:Int)))=true
 ·exact ifT g1 (last _)
 refine ifF g1 ?_;by_cases g2:(decide (6<(h.Laws.n:Int)))=true
 ·exact ifT g2 (last _)
 refine ifF g2 ?_;by_cases g3:(decide (8<(h.On.n:Int)))=true
 ·exact ifT g3 (last _)
 refine ifF g3 ?_;obtain⟨r,hr⟩:=Au3 (N:=N) (by omega) h.Laws;exact B4 hr (last _)
theorem KM {N:Nat}(hN:3000000<=N)(hW:BH N=some true){h:B1}(hi:Cq h){w:Q9}(hw:okA w.a0)(ha:okA w.a1)(v:Int):Z1 N h w v=some true:=by
 refine isT.eq ?_;unfold Z1;obtain⟨b,hb,_⟩:=AJ1 hN hi;refine B4 hb ?_;cases b
 ·exact ifT rfl (B4 hW ⟨true,rfl,rfl⟩)
 refine ifF (by simp) ?_;obtain⟨e,s,d1,d2,hn⟩:=Zv hN hi hw ha v;refine B4 d1 (B4 d2 (ifF (by simp) ?_));refine Cg (fun i x1=>x1=(i:Int)) s.n _ (by omega) rfl ?_;rintro self i x1 hle rfl hs;by_cases hlt:i<s.n
 ·refine ifT (by simpa using hlt) (ifT (by show ((((0:Int)<=(i:Int)/\(i:Int)<(s.n:Int))/\(i:Int).toNat<s.n)/\((0:Int)<=(i:Int)/\(i:Int)<(s.n:Int)))/\(i:Int).toNat<s.n;omega) (ifF (by simp) ?_));rw[C0 (by omega)];exact hs hlt _ rfl
 ·exact ifF (by simpa using hlt) (B4 hW ⟨true,rfl,rfl⟩)
end Go.AM
set_option linter.unusedVariables false
namespace Go.AM
set_option maxRecDepth 1000000
theorem Xv:BH 4194304=some true:=by decide +kernel
end Go.AM
