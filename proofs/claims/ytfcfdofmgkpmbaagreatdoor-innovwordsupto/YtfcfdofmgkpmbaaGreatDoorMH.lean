/- What a law's walk and its plain proof need, part 8: no condition of its own. -/
import Derived.Test.YtfcfdofmgkpmbaaGreatDoorMG
import Derived.Test.YtfcfdofmgkpmbaaGreatDoorMF
set_option linter.defProp false
set_option linter.unusedSimpArgs false
set_option linter.unusedVariables false
set_option linter.unusedSectionVars false
namespace Go.AM
def Be7:=@Nat.not_lt_zero
def Bm2:=@List.mem_reverse
def Bn6:=@UInt8.toNat_ofNat'
def Bp9:=@List.length_filter_le
def Br8:=@Nat.lt_or_ge
open Go.Proofs
theorem Aa8 {N:Nat}(o:3000<=N){p:Pat}(hp:okPS p){w:Sl Sound}(hs:w.n<1000000/\w.n+1000<N)(hw:∀i,i<w.n->okS (w.g i))(at_:Int) :∃r,BM N p w at_=some r/\(0<r.1.n↔chk 40 [p]/\wOk w/\0<=at_/\at_<=w.n/\∃a,a<=w.n/\PR w p a at_.toNat):=by
 unfold BM;obtain⟨y,e,h1,q⟩:=Qp o hp hs hw;refine B7 e (ltX ?_);by_cases c:y.2=0
 case neg=>refine ifF (by simp[c]) (ifT (by simp[c]) ⟨_,rfl,fun h=>absurd h (by show ¬ 0<0;omega),fun h=>absurd (h1.2 ⟨h.1,h.2.1⟩) c⟩)
 refine ifT (by simp[c]) ?_;obtain⟨hc,d⟩:=h1.1 c;have s:=q c;have hn:=d.1;unfold Ae;by_cases f:at_<0 \/ (w.n:Int)<at_
 ·rw[if_pos (by simpa using f)];refine B7 rfl (ifT (by decide) ⟨_,rfl,fun h=>absurd h (by show ¬ 0<0;omega),fun h=>by omega⟩)
 rw[if_neg (by simpa using f)];refine B7 rfl (ifF (by simp) ?_);obtain⟨k,rfl⟩:∃k:Nat,at_=(k:Int):=⟨at_.toNat,by omega⟩;rw[C4 (by omega),AZ1];refine P9 (fun i x2 x3=>x3=(i:Int)/\x2.n<=i/\(0<x2.n ↔ ∃a,a<i/\PR w p a k)) (w.n+1) _ (by omega) ⟨rfl,AZ7 _,fun h=>absurd h (by show ¬ 0<0;omega),fun⟨a,h,_⟩=>absurd h (by omega)⟩ ?_;rintro m i x2 x3 t ⟨rfl,g1,g2⟩ j;by_cases hl:i<=w.n
 ·refine ifT (by simp;omega) (ifT (by omega) ?_);rw[AZ1,Bc7,Bf0];have hb:=s.1.bit hl (b:=k) (by omega);by_cases l:PR w p i k
  ·refine ifT (hb.2 ⟨by omega,l⟩) (ifT (by show (x2.n+1)*8<=_/\x2.n+1<=_;omega) (j (by omega) _ _ ⟨C4 (by omega),by show x2.n+1<=_;omega,fun _=>⟨i,by omega,l⟩,fun _=>by show 0<x2.n+1;omega⟩))
  ·refine ifF (fun h=>l (hb.1 h).2) (j (by omega) _ _ ⟨C4 (by omega),by omega,fun h=>?_,fun⟨a,ha,h⟩=>?_⟩)
   ·obtain⟨a,ha,h'⟩:=g2.1 h;exact⟨a,by omega,h'⟩
   ·by_cases e2:a=i
    ·subst e2;exact absurd h l
    ·exact g2.2 ⟨a,by omega,h⟩
 ·refine ifF (by simp;omega) ⟨_,rfl,fun h=>?_,fun h=>?_⟩
  ·obtain⟨a,ha,h'⟩:=g2.1 h;exact⟨hc,d,by omega,by omega,a,by omega,h'⟩
  ·obtain⟨a,ha,h'⟩:=h.2.2.2.2;exact g2.2 ⟨a,by omega,h'⟩
theorem WS {N:Nat}(L:List Int)(hL:L.length<1000):∃s,K0 N L=some s/\s.n=L.length:=by
 unfold K0 H4
 have:∃s:Sl Int,P7 L (fun (a:Sl Int->Option (Sl Int)) (x1:Int) (z1:Sl Int)=>
  if ((z1.n+(Sl.of [x1]:Sl Int).n)*8<=140737488355328/\z1.n+(Sl.of [x1]:Sl Int).n<=140737488355328)then
   a (z1.push x1)
  else none
  ) (fun (z1:Sl Int)=>some z1) (Sl.nil:Sl Int)=some s/\s.n=L.length:=by
  refine Ay7 (fun l z=>z.n+l.length=L.length) (fun z h=>⟨z,rfl,by simpa using h⟩) (fun t l z b h hs=>?_) L _ (by simp);simp only[Bc6]at h;exact ifT (by show (z.n+1)*8<=_/\z.n+1<=_;omega) (hs _ (by show z.n+1+l.length=_;omega))
 obtain⟨s,e,hn⟩:=this;exact B7 e ⟨s,rfl,hn⟩
theorem Az0 {N:Nat}(l:3000<=N){p:Pat}(hp:okPS p){w:Sl Sound}(hs:w.n<1000000/\w.n+1000<N)(hw:∀i,i<w.n->okS (w.g i))(at_:Int) :∃r,DP N p w at_=some r/\(0<r.1.n↔chk 40 [p]/\wOk w/\0<=at_/\at_<=w.n/\∃b,b<=w.n/\PR w p at_.toNat b):=by
 unfold DP;obtain⟨y,e,h1,m⟩:=Qp l hp hs hw;refine B7 e (ltX ?_);by_cases c:y.2=0
 case neg=>refine ifF (by simp[c]) (ifT (by simp[c]) ⟨_,rfl,fun h=>absurd h (by show ¬ 0<0;omega),fun h=>absurd (h1.2 ⟨h.1,h.2.1⟩) c⟩)
 refine ifT (by simp[c]) ?_;obtain⟨hc,d⟩:=h1.1 c;have o:=m c;have hn:=d.1;unfold Ae;by_cases f:at_<0 \/ (w.n:Int)<at_
 ·rw[if_pos (by simpa using f)];refine B7 rfl (ifT (by decide) ⟨_,rfl,fun h=>absurd h (by show ¬ 0<0;omega),fun h=>by omega⟩)
 rw[if_neg (by simpa using f)];refine B7 rfl (ifF (by simp) ?_);obtain⟨k,rfl⟩:∃k:Nat,at_=(k:Int):=⟨at_.toNat,by omega⟩;refine ifT (by omega) ?_;rw[AZ1,Bc7,Bf0];obtain⟨u,e1,g1⟩:=o.1 k (by omega);refine B7 (x:=y.1 k) rfl (B7 (x:=FO u 0) (by rw[e1];exact Iw u (by omega)) ?_);obtain⟨s,es,j⟩:=WS (N:=N) (FO u 0) (by unfold FO;rw[Bd8];exact Br4 (Bp9 _ _) (by simp))
 refine B7 es ⟨_,rfl,?_⟩;show 0<s.n↔_;rw[j,List.length_pos_iff_exists_mem];constructor
 ·rintro⟨t,ht⟩;obtain⟨b,rfl,_,hb,a⟩:=mem_bitsF.1 ht;exact⟨hc,d,by omega,by omega,b,((g1 b hb).1 a).1,((g1 b hb).1 a).2⟩
 ·rintro⟨_,_,_,_,b,hb,h⟩;exact⟨(b:Int),mem_bitsF.2 ⟨b,rfl,by omega,by omega,(g1 b (by omega)).2 ⟨hb,h⟩⟩⟩
end Go.AM
namespace Go.AM
open IntKind (wrap)
open Go.Proofs
def Ym (w:Sl Sound)(e:Int):Prop:=(32<w.n/\e=11) \/ (w.n<=32/\(∃i,i<w.n/\¬vS (w.g i))/\e=14) \/ (wOk w/\e=0)
theorem NM {w:Sl Sound}{e e' : Int}(h:Ym w e)(h' : Ym w e'):e=e':=by
 rcases h with⟨h1,a⟩ | ⟨h1,⟨i,b,c⟩,a⟩ | ⟨h1,a⟩<;>rcases h' with⟨g1,g2⟩ | ⟨g1,⟨j,d,gv⟩,g2⟩ | ⟨g1,g2⟩
 ·omega
 ·omega
 ·have:=g1.1;omega
 ·omega
 ·omega
 ·exact absurd (g1.2 i b) c
 ·have:=h1.1;omega
 ·exact absurd (h1.2 j d) gv
 ·omega
theorem U9 {w:Sl Sound}{e:Int}(h:Ym w e):e=0↔wOk w:=by
 rcases h with⟨h1,a⟩ | ⟨h1,⟨i,b,c⟩,a⟩ | ⟨h1,a⟩
 ·exact⟨fun h=>by omega,fun h=>by have:=h.1;omega⟩
 ·exact⟨fun h=>by omega,fun h=>absurd (h.2 i b) c⟩
 ·exact⟨fun _=>h1,fun _=>a⟩
theorem Us {N:Nat}(o:1000<=N){w:Sl Sound}(hw:∀i,i<w.n->okS (w.g i))(V:Sound->Option Bool)(f:∀p m:BitVec 32,V (sOf p m)=some (vB p m)) :∃e,(if (decide (32<(w.n:Int))) then
 some (11:Int)
 else
  W6 N (fun a (x1:Int)=>
   if (decide (x1<(w.n:Int))) then
    if ((0:Int)<=x1/\x1<(w.n:Int))then
     (V (w.g x1.toNat)).bind fun y3=>
     if (!y3) then
      some 14
     else
      a (wrap .i64 (x1+1))
    else none
   else
    some 0
   ) 0)=some e/\Ym w e:=by
 by_cases hn:32<w.n
 ·exact ifT (by simp;omega) ⟨11,rfl,.inl ⟨hn,rfl⟩⟩
 refine ifF (by simp;omega) ?_;refine Bk (fun i x1=>x1=(i:Int)/\∀j,j<i->vS (w.g j)) w.n _ (by omega) ⟨rfl,fun j b=>absurd b (by omega)⟩ ?_;rintro d i x1 q ⟨rfl,h⟩ hs;by_cases hl:i<w.n
 ·obtain⟨p,m,c⟩:=hw i hl;refine ifT (by simp;omega) (ifT (by omega) (B7 (by rw[AZ1,c];exact f p m) ?_));cases hb:vB p m
  ·refine ifT rfl ⟨14,rfl,.inr (.inl ⟨by omega,⟨i,hl,fun l=>?_⟩,rfl⟩)⟩
   have:=(WO c).1 l;rw[hb]at this;cases this
  ·refine ifF (by simp) (hs hl _ ⟨C4 (by omega),fun j b=>?_⟩);by_cases e:j=i
   ·subst e;exact (WO c).2 hb
   ·exact h j (by omega)
 ·exact ifF (by simp;omega) ⟨0,rfl,.inr (.inr ⟨⟨by omega,fun j b=>h j (by omega)⟩,rfl⟩)⟩
theorem Hb {N:Nat}(a:1000<=N){w:Sl Sound}(hw:∀i,i<w.n->okS (w.g i)):∃e,X8 N w=some e/\Ym w e:=
 Us a hw (Bp N) fun p m=>Uo p m
theorem Fb {N:Nat}(a:1000<=N){w:Sl Sound}(hw:∀i,i<w.n->okS (w.g i)):∃e,X7 N w=some e/\Ym w e:=
 Us a hw (R4 N) fun p m=>Qm p m
theorem Yn {N:Nat}(d:2000<=N){p:Pat}(hp:okPS p){w:Sl Sound}(hw:∀i,i<w.n->okS (w.g i)):∃e,Dk N p w=some e/\(e=0↔chk 40 [p]/\wOk w):=by
 unfold Dk;obtain⟨e,f,hc⟩:=NK d hp;refine B7 f ?_;by_cases a:e=0
 ·obtain⟨e2,b,c⟩:=Fb (N:=N) (by omega) hw;exact ifT (by simp[a]) (B7 b ⟨e2,rfl,(U9 c).trans ⟨fun h=>⟨hc.1 a,h⟩,fun h=>h.2⟩⟩)
 ·exact ifF (by simp[a]) ⟨e,rfl,fun h=>absurd h a,fun h=>absurd (hc.2 h.1) a⟩
theorem WT {N:Nat}(s:3000<=N){p:Pat}(hp:okPS p){w:Sl Sound}(hw:∀i,i<w.n->okS (w.g i))(at_:Int) :∃r,CA N p w at_=some r/\(0<r.1.n↔chk 40 [p]/\wOk w/\0<=at_/\at_<=w.n/\∃a,a<=w.n/\PR w p a at_.toNat):=by
 unfold CA;obtain⟨e,o,h1⟩:=Yn (N:=N) (by omega) hp hw;refine B7 o ?_;by_cases j:e=0
 case neg=>exact ifT (by simp[j]) ⟨_,rfl,fun h=>absurd h (by show ¬ 0<0;omega),fun h=>absurd (h1.2 ⟨h.1,h.2.1⟩) j⟩
 refine ifF (by simp[j]) ?_;obtain⟨hc,c⟩:=h1.1 j;have hn:=c.1;by_cases d:at_<0 \/ (w.n:Int)<at_
 ·exact ifT (by simpa using d) ⟨_,rfl,fun h=>absurd h (by show ¬ 0<0;omega),fun h=>by omega⟩
 refine ifF (by simpa using d) ?_;obtain⟨k,rfl⟩:∃k:Nat,at_=(k:Int):=⟨at_.toNat,by omega⟩;obtain⟨t,et,tn,q⟩:=NH (N:=1000) (by omega) hn 40 p (NJ 40 [p] (AZ7 _) hc p (by simp)) N (by omega);refine B7 et ?_;rw[AZ1];refine P9 (fun i x2 x3=>x3=(i:Int)/\x2.n<=i/\(0<x2.n ↔ ∃a,a<i/\PR w p a k)) (w.n+1) _ (by omega) ⟨rfl,AZ7 _,fun h=>absurd h (by show ¬ 0<0;omega),fun⟨a,h,_⟩=>absurd h (by omega)⟩ ?_;rintro m i x2 x3 u ⟨rfl,g1,g2⟩ f;by_cases hl:i<=w.n
 ·refine ifT (by simp;omega) (ifT (by omega) ?_);rw[AZ1];have hb:=q.bit hl (b:=k) (by omega);by_cases l:PR w p i k
  ·refine ifT (hb.2 ⟨by omega,l⟩) (ifT (by show (x2.n+1)*8<=_/\x2.n+1<=_;omega) (f (by omega) _ _ ⟨C4 (by omega),by show x2.n+1<=_;omega,fun _=>⟨i,by omega,l⟩,fun _=>by show 0<x2.n+1;omega⟩))
  ·refine ifF (fun h=>l (hb.1 h).2) (f (by omega) _ _ ⟨C4 (by omega),by omega,fun h=>?_,fun⟨a,ha,h⟩=>?_⟩)
   ·obtain⟨a,ha,h'⟩:=g2.1 h;exact⟨a,by omega,h'⟩
   ·by_cases e2:a=i
    ·subst e2;exact absurd h l
    ·exact g2.2 ⟨a,by omega,h⟩
 ·refine ifF (by simp;omega) ⟨_,rfl,fun h=>?_,fun h=>?_⟩
  ·obtain⟨a,ha,h'⟩:=g2.1 h;exact⟨hc,c,by omega,by omega,a,by omega,h'⟩
  ·obtain⟨a,ha,h'⟩:=h.2.2.2.2;exact g2.2 ⟨a,by omega,h'⟩
theorem Am5 {N:Nat}(s:3000<=N){p:Pat}(hp:okPS p){w:Sl Sound}(hw:∀i,i<w.n->okS (w.g i))(at_:Int) :∃r,EX N p w at_=some r/\(0<r.1.n↔chk 40 [p]/\wOk w/\0<=at_/\at_<=w.n/\∃b,b<=w.n/\PR w p at_.toNat b):=by
 unfold EX;obtain⟨e,o,h1⟩:=Yn (N:=N) (by omega) hp hw;refine B7 o ?_;by_cases j:e=0
 case neg=>exact ifT (by simp[j]) ⟨_,rfl,fun h=>absurd h (by show ¬ 0<0;omega),fun h=>absurd (h1.2 ⟨h.1,h.2.1⟩) j⟩
 refine ifF (by simp[j]) ?_;obtain⟨hc,c⟩:=h1.1 j;have hn:=c.1;by_cases d:at_<0 \/ (w.n:Int)<at_
 ·exact ifT (by simpa using d) ⟨_,rfl,fun h=>absurd h (by show ¬ 0<0;omega),fun h=>by omega⟩
 refine ifF (by simpa using d) ?_;obtain⟨k,rfl⟩:∃k:Nat,at_=(k:Int):=⟨at_.toNat,by omega⟩;obtain⟨t,et,tn,q⟩:=NH (N:=1000) (by omega) hn 40 p (NJ 40 [p] (AZ7 _) hc p (by simp)) N (by omega);refine B7 et ?_;rw[AZ1];refine P9 (fun i x2 x3=>x3=(i:Int)/\x2.n<=i/\(0<x2.n ↔ ∃b,b<i/\PR w p k b)) (w.n+1) _ (by omega) ⟨rfl,AZ7 _,fun h=>absurd h (by show ¬ 0<0;omega),fun⟨a,h,_⟩=>absurd h (by omega)⟩ ?_;rintro m i x2 x3 u ⟨rfl,g1,g2⟩ f;by_cases hl:i<=w.n
 ·refine ifT (by simp;omega) (ifT (by omega) ?_);have hb:=q.bit (a:=k) (by omega) (b:=i) (by omega);by_cases l:PR w p k i
  ·refine ifT (hb.2 ⟨by omega,l⟩) (ifT (by show (x2.n+1)*8<=_/\x2.n+1<=_;omega) (f (by omega) _ _ ⟨C4 (by omega),by show x2.n+1<=_;omega,fun _=>⟨i,by omega,l⟩,fun _=>by show 0<x2.n+1;omega⟩))
  ·refine ifF (fun h=>l (hb.1 h).2) (f (by omega) _ _ ⟨C4 (by omega),by omega,fun h=>?_,fun⟨a,ha,h⟩=>?_⟩)
   ·obtain⟨a,ha,h'⟩:=g2.1 h;exact⟨a,by omega,h'⟩
   ·by_cases e2:a=i
    ·subst e2;exact absurd h l
    ·exact g2.2 ⟨a,by omega,h⟩
 ·refine ifF (by simp;omega) ⟨_,rfl,fun h=>?_,fun h=>?_⟩
  ·obtain⟨a,ha,h'⟩:=g2.1 h;exact⟨hc,c,by omega,by omega,a,by omega,h'⟩
  ·obtain⟨a,ha,h'⟩:=h.2.2.2.2;exact g2.2 ⟨a,by omega,h'⟩
end Go.AM
namespace Go.AM
open Go.Proofs
def AQ2 (s c:Sound):Prop:=∃p m a b:BitVec 32,s=sOf p m/\c=sOf a b/\Ad7 p m a b=true
theorem Am6 {p m a b:BitVec 32}(h:sOf p m=sOf a b):p=a/\m=b:=by have e1:(p.toNat:Int)=a.toNat:=congrArg Sound.Plus h;have e2:(m.toNat:Int)=b.toNat:=congrArg Sound.Minus h;exact⟨Bb9 (by omega),Bb9 (by omega)⟩
theorem satS_of {p m a b:BitVec 32}:AQ2 (sOf p m) (sOf a b)↔Ad7 p m a b=true:=by
 constructor
 ·rintro⟨p',m',a',b',h1,c,d⟩;obtain⟨rfl,rfl⟩:=Am6 h1;obtain⟨rfl,rfl⟩:=Am6 c;exact d
 ·exact fun h=>⟨_,_,_,_,rfl,rfl,h⟩
theorem Az1 {N:Nat}{s c:Sound}(hs:okS s)(hc:okS c):∃b,J4 N s c=some b/\(b=true↔AQ2 s c):=by obtain⟨p,m,rfl⟩:=hs;obtain⟨a,b,rfl⟩:=hc;exact⟨_,AM7 p m a b,satS_of.symm⟩
theorem Az2 {N:Nat}(d:1000<=N){s c:Sound}(hs:okS s)(hc:okS c):∃b,P1 N s c=some b/\(b=true↔AQ2 s c):=by obtain⟨p,m,rfl⟩:=hs;obtain⟨a,b,rfl⟩:=hc;exact⟨_,AM8 p m a b d,satS_of.symm⟩
def okL (l:Law):Prop:=okPS l.Left/\okPS l.Right/\∀i,i<l.If.n->okS (l.If.g i)
def arP (l:Law)(w:Sl Sound)(i:Nat):Prop:=chk 40 [l.Left]/\chk 40 [l.Right]/\wOk w/\i+l.If.n<=w.n/\(∃a,a<=w.n/\PR w l.Left a i)/\∃b,b<=w.n/\PR w l.Right (i+l.If.n) b
def Qq (l:Law)(w:Sl Sound)(i:Nat):Prop:=i+l.If.n<=w.n/\(∀j,j<l.If.n->AQ2 (w.g (i+j)) (l.If.g j))/\arP l w i
def okW (w:Sl Sound):Prop:=w.n<1000/\∀i,i<w.n->okS (w.g i)
theorem Aa9 {N:Nat}(c:3000<=N){l:Law}(hl:okL l)(hk:l.If.n<=4){w:Sl Sound}(hw:okW w)(i:Nat)(f:i<2000) :∃b,V6 N (i:Int) l w=some b/\(b=true↔arP l w i):=by
 unfold V6;obtain⟨y1,e1,h1⟩:=Aa8 (N:=N) c hl.1 (w:=w) ⟨by have:=hw.1;omega,by have:=hw.1;omega⟩ hw.2 (i:Int);refine B7 e1 ?_;rw[AZ1]at h1;by_cases d:y1.1.n=0
 ·refine ifT (by simp[d]) ⟨false,rfl,by simp,fun h=>?_⟩
  have:=h1.2 ⟨h.1,h.2.2.1,by omega,by have:=h.2.2.2.1;omega,h.2.2.2.2.1⟩
  omega
 ·refine ifF (by simp;omega) ?_;rw[DZ (by omega)];obtain⟨y2,e2,a⟩:=Az0 (N:=N) c hl.2.1 (w:=w) ⟨by have:=hw.1;omega,by have:=hw.1;omega⟩ hw.2 ((i+l.If.n:Nat):Int);rw[AZ1]at a;refine B7 e2 ⟨_,rfl,?_⟩;have h1:=h1.1 (by omega);rw[decide_eq_true_eq];constructor
  ·intro h;have a:=a.1 (by omega);exact⟨h1.1,a.1,h1.2.1,by omega,h1.2.2.2.2,a.2.2.2.2⟩
  ·intro h
   have:=a.2 ⟨h.2.1,h.2.2.1,by omega,by have:=h.2.2.2.1;omega,h.2.2.2.2.2⟩
   omega
theorem RW {N:Nat}(f:3000<=N){l:Law}(hl:okL l)(hk:l.If.n<=4){w:Sl Sound}(hw:okW w)(i:Nat)(o:i<2000) :∃b,AI N l w (i:Int)=some b/\(b=true↔Qq l w i):=by
 unfold AI;rw[DZ (by omega)];by_cases hn:w.n<i+l.If.n
 ·exact ifT (by simp;omega) ⟨false,rfl,by simp,fun h=>by have:=h.1;omega⟩
 refine ifF (by simp;omega) ?_;refine Bk (fun j x1=>x1=(j:Int)/\∀k,k<j->AQ2 (w.g (i+k)) (l.If.g k)) l.If.n _ (by omega) ⟨rfl,fun k hk=>absurd hk (by omega)⟩ ?_;rintro m j x1 q ⟨rfl,h⟩ hs;by_cases c:j<l.If.n
 ·rw[DZ (by omega)];refine ifT (by simp;omega) (ifT (by omega) ?_);obtain⟨b,eb,hb⟩:=Az2 (N:=N) (by omega) (hw.2 (i+j) (by omega)) (hl.2.2 j c);refine B7 (by rw[AZ1,AZ1];exact eb) ?_;cases b
  ·refine ifT rfl ⟨false,rfl,by simp,fun a=>?_⟩
   have:=hb.2 (a.2.1 j c);cases this
  ·refine ifF (by simp) (hs c _ ⟨C4 (by omega),fun k d=>?_⟩);by_cases e:k=j
   ·subst e;exact hb.1 rfl
   ·exact h k (by omega)
 ·refine ifF (by simp;omega) ?_;obtain⟨y1,e1,h1⟩:=WT (N:=N) f hl.1 (w:=w) hw.2 (i:Int);obtain⟨y2,e2,a⟩:=Am5 (N:=N) f hl.2.1 (w:=w) hw.2 ((i+l.If.n:Nat):Int);rw[AZ1]at h1 a;refine B7 e1 (B7 e2 ⟨_,rfl,?_⟩);simp only[AZ6,decide_eq_true_eq];constructor
  ·rintro⟨g1,g2⟩;have h1:=h1.1 (by omega);have a:=a.1 (by omega);exact⟨by omega,fun k d=>h k (by omega),h1.1,a.1,h1.2.1,by omega,h1.2.2.2.2,a.2.2.2.2⟩
  ·intro g;have a1:=h1.2 ⟨g.2.2.1,g.2.2.2.2.1,by omega,by omega,g.2.2.2.2.2.2.1⟩;have a2:=a.2 ⟨g.2.2.2.1,g.2.2.2.2.1,by omega,by omega,g.2.2.2.2.2.2.2⟩;exact⟨by omega,by omega⟩
end Go.AM
namespace Go.AM
open IntKind (wrap)
open Go.Proofs
open Classical in
noncomputable def hitB (l:Law) (w:Sl Sound) (i:Nat):Bool:=decide (Qq l w i)
theorem hitB_iff {l:Law}{w:Sl Sound}{i:Nat}:hitB l w i=true↔Qq l w i:=by simp[hitB]
noncomputable def EA (l:Law) (w:Sl Sound) (i:Nat):List Int:=((List.range' i (w.n+1-i)).filter (hitB l w)).map fun (j:Nat)=>(j:Int)
theorem Kl {l:Law}{w:Sl Sound}{i:Nat}(h:w.n<i+l.If.n):EA l w i=[]:=by
 unfold EA;rw[Bp1.2 fun j a hb=>by
  have:=Bo1.1 a
  have:=(hitB_iff.1 hb).1
  omega]
 rfl
theorem JC {l:Law}{w:Sl Sound}{i:Nat}(a:i<=w.n)(h:Qq l w i):EA l w i=(i:Int)::EA l w (i+1):=by unfold EA;rw[show w.n+1-i=(w.n+1-(i+1))+1 by omega,Bk3,Bo4 (hitB_iff.2 h)];rfl
theorem JD {l:Law}{w:Sl Sound}{i:Nat}(h:¬Qq l w i):EA l w i=EA l w (i+1):=by
 unfold EA;by_cases a:i<=w.n
 ·rw[show w.n+1-i=(w.n+1-(i+1))+1 by omega,Bk3,Bo5 fun hb=>h (hitB_iff.1 hb)]
 ·rw[show w.n+1-i=0 by omega,show w.n+1-(i+1)=0 by omega];rfl
theorem Az3 {l:Law}{w:Sl Sound}{i:Nat}{y:Int}(h:y∈EA l w i):(i:Int)<=y:=by
 obtain⟨j,a,rfl⟩:=Bh8.1 h
 have:=Bo1.1 (Bl1.1 a).1
 omega
theorem Yo {N:Nat}(z:3000<=N){l:Law}(hl:okL l)(hk:l.If.n<=4){w:Sl Sound}(hw:okW w)(i:Nat)(v:i<1500):Y7 N l w (i:Int)=some (EA l w i):=by
 unfold Y7;show (some (l,w)).bind _=_;rw[AZ4];simp only[]
 suffices h:∀(k i:Nat),i<1501->w.n+1-i<=k->∀F,k<F->∃r,W6 F (fun (a:Int->Option (List Int)) (x2:Int)=>
  if (decide ((wrap .i64 (x2+(l.If.n:Int)))<=(w.n:Int))) then
   W6 N (fun (d:Int->Option (List Int)) (x4:Int)=>
    if (decide (x4<(l.If.n:Int))) then
     if ((0:Int)<=x4/\x4<(l.If.n:Int))then
      if ((0:Int)<=(wrap .i64 (x2+x4))/\(wrap .i64 (x2+x4))<(w.n:Int))then
       (J4 N (w.g (wrap .i64 (x2+x4)).toNat) (l.If.g x4.toNat)).bind fun s=>
       if (!s) then
        a (wrap .i64 (x2+1))
       else
        d (wrap .i64 (x4+1))
      else none
     else none
    else
     (V6 N x2 l w).bind fun t=>
     if t then
      Ap x2 (
       a (wrap .i64 (x2+1))
       )
     else
      a (wrap .i64 (x2+1))
    ) 0
  else
   some []
  ) (i:Int)=some r/\r=EA l w i by
  obtain⟨r,h1,rfl⟩:=h (w.n+1-i) i (by omega) (AZ7 _) N (by have:=hw.1;omega);exact h1
 intro k
 induction k with
 |zero=>
  intro i v f F q
  match F,q with
  |F+1,_=>rw[BB,DZ (by omega)];exact ifF (by simp;omega) ⟨_,rfl,(Kl (by omega)).symm⟩
 |succ k ih=>
  intro i v f F q
  match F,q with
  |F+1,q=>
   rw[BB,DZ (by omega)];by_cases hn:i+l.If.n<=w.n
   case neg=>exact ifF (by simp;omega) ⟨_,rfl,(Kl (by omega)).symm⟩
   refine ifT (by simp;omega) ?_;have a0:=hw.1;obtain⟨r,x,o⟩:=ih (i+1) (by omega) (by omega) F (by omega);have c:∀(Q:List Int->Prop),Q (EA l w (i+1))->∃r,W6 F _ (IntKind.i64.wrap ((i:Int)+1))=some r/\Q r:=fun Q hQ=>⟨r,by rw[C4 (by omega)];exact x,by rw[o];exact hQ⟩;refine Bk (fun j x1=>x1=(j:Int)/\∀k,k<j->AQ2 (w.g (i+k)) (l.If.g k)) l.If.n _ (by omega) ⟨rfl,fun k hk=>absurd hk (by omega)⟩ ?_;rintro y j x1 hj ⟨rfl,h⟩ hs;by_cases m:j<l.If.n
   ·rw[DZ (by omega)];refine ifT (by simp;omega) (ifT (by omega) (ifT (by omega) ?_));obtain⟨b,eb,hb⟩:=Az1 (N:=N) (hw.2 (i+j) (by omega)) (hl.2.2 j m);refine B7 (by rw[AZ1,AZ1];exact eb) ?_;cases b
    ·refine ifT rfl (c _ ?_);exact (JD fun u=>by have:=hb.2 (u.2.1 j m);cases this).symm
    ·refine ifF (by simp) (hs m _ ⟨C4 (by omega),fun k f=>?_⟩);by_cases e:k=j
     ·subst e;exact hb.1 rfl
     ·exact h k (by omega)
   ·refine ifF (by simp;omega) ?_;obtain⟨b,eb,hb⟩:=Aa9 z hl hk hw i (by omega);refine B7 eb ?_;cases b
    ·refine ifF (by simp) (c _ ?_);exact (JD fun u=>by have:=hb.2 u.2.2;cases this).symm
    ·refine ifT rfl ?_;have hh:Qq l w i:=⟨hn,fun k f=>h k (by omega),hb.1 rfl⟩;refine⟨(i:Int)::EA l w (i+1),?_,(JC (by omega) hh).symm⟩;rw[C4 (by omega),x,o];rfl
theorem Am7 {N:Nat}(a:3000<=N){l:Law}(hl:okL l)(hk:l.If.n<=4){w:Sl Sound}(hw:okW w)(i:Nat)(c:i<1500) :∃b,CE N l w (i:Int)=some b/\(b=true↔Qq l w i):=by
 unfold CE;refine B7 (x:=(l,w,(i:Int))) rfl (B7 (Yo a hl hk hw i c) ?_);by_cases h:Qq l w i
 ·rw[JC (by have:=h.1;omega) h];exact⟨true,by simp[P7],by simp[h]⟩
 ·rw[JD h];rcases hL:EA l w (i+1)with _|⟨t,L⟩
  ·exact⟨false,rfl,by simp[h]⟩
  ·have:((i+1:Nat):Int)<=t:=Az3 (l:=l) (w:=w) (by rw[hL];simp)
   exact⟨false,by show some (t==(i:Int))=some false;congr 1;simp;omega,by simp[h]⟩
end Go.AM
namespace Go.AM
open IntKind (wrap)
open Go.Proofs
def okO (x:Bt):Prop:=okS x.Set/\(∃c:BitVec 32,x.Clear=(c.toNat:Int))/\∃t:BitVec 32,x.Take=(t.toNat:Int)
theorem AF0 {p m a b s:BitVec 32}(h1:vB p m=true)(d:vB a b=true):vB (Sk p a s) (Sk m b s)=true:=by rw[Gd]at *;intro i c;have g1:=h1 i c;have g2:=d i c;simp only[Sk,Ba6,Ba4,Be0];revert g1 g2;cases s.getLsbD i<;>cases p.getLsbD i<;>cases m.getLsbD i<;>cases a.getLsbD i<;>cases b.getLsbD i<;>simp[c]
theorem vS0:vS (⟨0,0⟩:Sound):=⟨0#32,0#32,rfl,by decide +kernel⟩
theorem WU {N:Nat}(f:1000<=N){s t:Sound}{c:Int}(hs:okS s)(hc:∃b:BitVec 32,c=(b.toNat:Int))(ht:okS t):∃y,O2 N s c t=some y/\Q6 N s c t=some y/\vS y.1:=by
 obtain⟨p,m,rfl⟩:=hs;obtain⟨a,b,rfl⟩:=ht;obtain⟨d,rfl⟩:=hc;refine⟨_,Aa5 p m d a b,Aa6 p m d a b f,?_⟩;unfold Ay2;split
 ·rename_i h;split
  ·exact⟨_,_,rfl,AF0 h.1 h.2⟩
  ·exact vS0
 ·exact vS0
theorem Am8 {N:Nat}(f:1000<=N){s t:Sound}{c:Int}(hs:okS s)(hc:∃b:BitVec 32,c=(b.toNat:Int))(ht:okS t):∃y,T3 N s t c=some y/\Ad N s t c=some y/\vS y.1:=by
 obtain⟨p,m,rfl⟩:=hs;obtain⟨a,b,rfl⟩:=ht;obtain⟨d,rfl⟩:=hc;refine⟨_,Ay4 p m a b d,Ay5 p m a b d f,?_⟩;unfold Ay3;split
 ·rename_i h;split
  ·exact⟨_,_,rfl,AF0 h.1 h.2⟩
  ·exact vS0
 ·exact vS0
def AQ3 (l:Law):Prop:=l.Out.n<=6/\∀i,i<l.Out.n->okO (l.Out.g i)/\(l.Out.g i).From<l.If.n/\((l.Out.g i).Take≠0->0<=(l.Out.g i).Of/\(l.Out.g i).Of<l.If.n)
theorem eqX {R:Type}{Q:R->Prop}{o o' : Option R}(h:o=o')(a:∃r,o' = some r/\Q r):∃r,o=some r/\Q r:=by rw[h];exact a
def BW (f:Nat->Sound):Nat->Sl Sound
 |0=>Sl.nil
 |m+1=>(BW f m).push (f m)
theorem Ix (f:Nat->Sound):∀m,(BW f m).n=m
 |0=>rfl
 |m+1=>by show (BW f m).n+1=_;rw[Ix f m]
theorem WV (f:Nat->Sound):∀{m i:Nat},i<m->(BW f m).g i=f i
 |0,i,h=>by omega
 |m+1,i,h=>by
  show (if i<(BW f m).n then (BW f m).g i else f m)=f i;rw[Ix];by_cases e:i<m
  ·rw[if_pos e,WV f e]
  ·rw[if_neg e,show i=m by omega]
abbrev srcS (l:Law)(cut:Sl Sound)(i:Nat):Sound:=⟨(if (decide (0<=(l.Out.g i).From)) then (cut.g (l.Out.g i).From.toNat).Plus else 0),(if (decide (0<=(l.Out.g i).From)) then (cut.g (l.Out.g i).From.toNat).Minus else 0)⟩
theorem AN6 {N:Nat}(t:1000<=N){l:Law}(u:AQ3 l){cut:Sl Sound}(hn:cut.n=l.If.n)(hc:∀i,i<cut.n->okS (cut.g i)) :∃s,N9 N l cut=some s/\BI N l cut=some s/\s.n=l.Out.n/\∀i,i<s.n->vS (s.g i):=by
 have one:∀i,∃y:Sound,i<l.Out.n->vS y/\∀(R:Type) (k:Sound->Option R),
  (∀(Ch:Nat->Sound->Int->Sound->Option (Sound×Int)) (Ta:Nat->Sound->Sound->Int->Option (Sound×Int)),(Ch=O2/\Ta=T3) \/ (Ch=Q6/\Ta=Ad) ->
  (if ((decide (0<=(l.Out.g i).From))=true->((0:Int)<=(l.Out.g i).From/\(l.Out.g i).From<(cut.n:Int)))then
   (Ch N (⟨(if (decide (0<=(l.Out.g i).From)) then (cut.g (l.Out.g i).From.toNat).Plus else 0),(if (decide (0<=(l.Out.g i).From)) then (cut.g (l.Out.g i).From.toNat).Minus else 0)⟩:Sound) (l.Out.g i).Clear (l.Out.g i).Set).bind fun y5=>
   if ((l.Out.g i).Take != 0) then
    if ((0:Int)<=(l.Out.g i).Of/\(l.Out.g i).Of<(cut.n:Int))then
     (Ta N y5.1 (cut.g (l.Out.g i).Of.toNat) (l.Out.g i).Take).bind fun y6=>k y6.1
    else none
   else k y5.1
   else none)=k y):=by
  intro i;by_cases d:i<l.Out.n
  case neg=>exact⟨default,fun h=>absurd h d⟩
  obtain⟨⟨j,m,o⟩,w,q⟩:=u.2 i d;have hs:okS (⟨(if (decide (0<=(l.Out.g i).From)) then (cut.g (l.Out.g i).From.toNat).Plus else 0),(if (decide (0<=(l.Out.g i).From)) then (cut.g (l.Out.g i).From.toNat).Minus else 0)⟩:Sound):=by
   by_cases v:0<=(l.Out.g i).From
   ·simp only[v,decide_true,if_true];exact hc _ (by omega)
   ·simp only[v,decide_false,AZ9,if_false];exact⟨0#32,0#32,rfl⟩
  obtain⟨y,e1,e2,hy⟩:=WU t hs m j;by_cases ht:(l.Out.g i).Take=0
  ·refine⟨y.1,fun _=>⟨hy,fun R k Ch Ta h=>?_⟩⟩;rw[if_pos (fun h=>by have:=of_decide_eq_true h;omega)]
   have:Ch N (srcS l cut i) (l.Out.g i).Clear (l.Out.g i).Set=some y:=by
    rcases h with⟨rfl,rfl⟩ | ⟨rfl,rfl⟩
    ·exact e1
    ·exact e2
   rw[this,AZ4,if_neg (by simp[ht])]
  ·obtain⟨g1,g2⟩:=q ht;obtain⟨z,e3,e4,x⟩:=Am8 t hy.ok o (hc (l.Out.g i).Of.toNat (by omega));refine⟨z.1,fun _=>⟨x,fun R k Ch Ta h=>?_⟩⟩;rw[if_pos (fun h=>by have:=of_decide_eq_true h;omega)]
   have:Ch N (srcS l cut i) (l.Out.g i).Clear (l.Out.g i).Set=some y:=by
    rcases h with⟨rfl,rfl⟩ | ⟨rfl,rfl⟩
    ·exact e1
    ·exact e2
   rw[this,AZ4,if_pos (by simp[ht]),if_pos (by omega)]
   have:Ta N y.1 (cut.g (l.Out.g i).Of.toNat) (l.Out.g i).Take=some z:=by
    rcases h with⟨rfl,rfl⟩ | ⟨rfl,rfl⟩
    ·exact e3
    ·exact e4
   rw[this,AZ4]
 obtain⟨out,f⟩:=Bh3 one;have a0:=u.1;have b:∀(Ch:Nat->Sound->Int->Sound->Option (Sound×Int)) (Ta:Nat->Sound->Sound->Int->Option (Sound×Int)),(Ch=O2/\Ta=T3) \/ (Ch=Q6/\Ta=Ad) ->
  ∀(a:Sl Sound->Int->Option (Sl Sound)) (i:Nat),i<l.Out.n->(∃r,a ((BW out i).push (out i)) (wrap .i64 ((i:Int)+1))=some r/\r=BW out l.Out.n) ->
  ∃r,(if ((decide (0<=(l.Out.g i).From))=true->((0:Int)<=(l.Out.g i).From/\(l.Out.g i).From<(cut.n:Int)))then
   (Ch N (srcS l cut i) (l.Out.g i).Clear (l.Out.g i).Set).bind fun y5=>
   if ((l.Out.g i).Take != 0) then
    if ((0:Int)<=(l.Out.g i).Of/\(l.Out.g i).Of<(cut.n:Int))then
     (Ta N y5.1 (cut.g (l.Out.g i).Of.toNat) (l.Out.g i).Take).bind fun y6=>
     if (((BW out i).n+(Sl.of [y6.1]:Sl Sound).n)*8<=140737488355328/\(BW out i).n+(Sl.of [y6.1]:Sl Sound).n<=140737488355328)then
      a ((BW out i).push y6.1) (wrap .i64 ((i:Int)+1))
     else none
    else none
   else
    if (((BW out i).n+(Sl.of [y5.1]:Sl Sound).n)*8<=140737488355328/\(BW out i).n+(Sl.of [y5.1]:Sl Sound).n<=140737488355328)then
     a ((BW out i).push y5.1) (wrap .i64 ((i:Int)+1))
    else none
   else none)=some r/\r=BW out l.Out.n:=by
  intro Ch Ta h a i d hr;have e:=(f i d).2 (Sl Sound) (fun y=>if (((BW out i).n+(Sl.of [y]:Sl Sound).n)*8<=140737488355328/\(BW out i).n+(Sl.of [y]:Sl Sound).n<=140737488355328)then a ((BW out i).push y) (wrap .i64 ((i:Int)+1))else none) Ch Ta h;refine eqX e (ifT ?_ hr)
  have:=Ix out i
  show ((BW out i).n+1)*8<=_/\(BW out i).n+1<=_;omega
 have h1:∃r,N9 N l cut=some r/\r=BW out l.Out.n:=by
  unfold N9;refine P9 (fun i x1 x2=>x2=(i:Int)/\x1=BW out i) l.Out.n _ (by omega) ⟨rfl,rfl⟩ ?_;rintro a i x1 x2 d ⟨rfl,rfl⟩ hs;by_cases c:i<l.Out.n
  ·refine ifT (by simp;omega) (ifT (by omega) ?_);rw[AZ1];exact b _ _ (.inl ⟨rfl,rfl⟩) a i c (hs c _ _ ⟨C4 (by omega),rfl⟩)
  ·exact ifF (by simp;omega) ⟨_,rfl,by congr 1;omega⟩
 have h2:∃r,BI N l cut=some r/\r=BW out l.Out.n:=by
  unfold BI;refine P9 (fun i x1 x2=>x2=(i:Int)/\x1=BW out i) l.Out.n _ (by omega) ⟨rfl,rfl⟩ ?_;rintro a i x1 x2 d ⟨rfl,rfl⟩ hs;by_cases c:i<l.Out.n
  ·refine ifT (by simp;omega) (ifT (by omega) ?_);rw[AZ1];exact b _ _ (.inr ⟨rfl,rfl⟩) a i c (hs c _ _ ⟨C4 (by omega),rfl⟩)
  ·exact ifF (by simp;omega) ⟨_,rfl,by congr 1;omega⟩
 obtain⟨r,e1,rfl⟩:=h1;obtain⟨r,e2,rfl⟩:=h2;exact⟨_,e1,e2,Ix out _,fun i d=>by rw[Ix]at d;rw[WV out d];exact (f i d).1⟩
end Go.AM
namespace Go.AM
open Go.Proofs
theorem ne0 (x:BitVec 32):((x.toNat:Int) != 0)=decide (x≠0#32):=by rw[bne,eq0];simp
theorem or0 (x y:BitVec 32):x ||| y=0#32↔x=0#32/\y=0#32:=by
 constructor
 ·intro h;have h:=(z32 _).1 h;exact⟨(z32 _).2 fun i a=>by have:=h i a;rw[Ba6,Bi4]at this;exact this.1,(z32 _).2 fun i a=>by have:=h i a;rw[Ba6,Bi4]at this;exact this.2⟩
 ·rintro⟨rfl,rfl⟩;rfl
theorem AX4 (x y z:BitVec 32):x &&& (y ||| z)=(x &&& y) ||| (x &&& z):=by apply Be5;intro i a;simp only[Ba4,Ba6];cases x.getLsbD i<;>simp
theorem AX5 (x y z:BitVec 32):(x ||| y) &&& z=(x &&& z) ||| (y &&& z):=by apply Be5;intro i a;simp only[Ba4,Ba6];cases z.getLsbD i<;>simp
theorem Yp {N:Nat}(j:1000<=N){x:Bt}(hx:okO x)(k:Int):∃b,V5 N x k=some b/\EW N x k=some b:=by
 obtain⟨⟨a,b,d⟩,⟨c,hc⟩,t,ht⟩:=hx;have f:(16777215:Int)=((16777215#32).toNat:Int):=rfl;unfold V5 EW;simp only[lt,d,hc,ht,BQ,An a b j,AZ4];rw[f];simp only[Fq,KE,EM,ne0];by_cases h1:x.From < -1
 ·simp[h1]
 by_cases g:k<=x.From
 ·simp[h1,g]
 by_cases i:vB a b=true
 case neg=>simp[h1,g,i]
 simp only[h1,g,i,decide_false,AZ9,if_false,Bk8];rw[AX5,AX4 t];generalize ~~~16777215#32=M;by_cases g1:c &&& M=0#32
 case neg=>simp[g1,or0]
 by_cases g2:t &&& M=0#32
 case neg=>simp[g1,g2,or0]
 by_cases g3:c &&& (a ||| b)=0#32
 case neg=>simp[g1,g2,g3,or0]
 by_cases g4:t &&& (a ||| b)=0#32
 case neg=>simp[g1,g2,g3,g4,or0]
 by_cases g5:t &&& c=0#32
 case neg=>simp[g1,g2,g3,g4,g5,or0]
 simp[g1,g2,g3,g4,g5,or0];by_cases g6:t.toNat=0
 ·simp only[g6,if_true];cases x.Of==0<;>simp
 ·simp only[g6,if_false];cases (decide (0<=x.Of)&&decide (x.Of<k))<;>simp
end Go.AM
namespace Go.AM
open Go.Proofs
abbrev nameC:Str:=[97,98,99,100,101,102,103,104,105,106,107,108,109,110,111,112,113,114,115,116,117,118,119,120,121,122,65,66,67,68,69,70,71,72,73,74,75,76,77,78,79,80,81,82,83,84,85,86,87,88,89,90,48,49,50,51,52,53,54,55,56,57,45]
theorem Am9 {p:UInt8->Bool}:∀{l:Str},l.dropWhile p=[] ↔ ∀x∈l,p x=true
 |[]=>by simp
 |a::l=>by
  rw[List.dropWhile_cons];by_cases h:p a=true
  ·rw[if_pos h,Am9];simp[h]
  ·rw[if_neg h];simp[h]
theorem Az4 (l cs:Str):Lib.trimS l cs=[] ↔ ∀b∈l,cs.contains b=true:=by
 unfold Lib.trimS Lib.trimLeftS Lib.trimRightS;rw[Am9];constructor
 ·intro h;have h:∀x∈l.reverse.dropWhile (cs.contains ·),cs.contains x=true:=fun x hx=>h x (Bm2.2 hx);have a:l.reverse.dropWhile (cs.contains ·)=[]:=by
   rcases e:l.reverse.dropWhile (cs.contains ·)with _|⟨y,r⟩
   ·rfl
   ·have c:=h y (by rw[e];simp);have d:¬cs.contains y=true:=by
     have:=List.head_dropWhile_not (cs.contains ·) (l:=l.reverse) (by rw[e];simp)
     simp only[e,List.head_cons]at this;rw[this];exact Bool.false_ne_true
    exact absurd c d
  rw[Am9]at a;exact fun b hb=>a b (Bm2.2 hb)
 ·intro h x hx;have hx:=Bm2.1 hx;exact h x (Bm2.1 ((List.dropWhile_sublist _).mem hx))
abbrev RX (y:Int):Bool:=((((decide (97<=y))&&(decide (y<=122)))||((decide (65<=y))&&(decide (y<=90))))||((decide (48<=y))&&(decide (y<=57))))||(y==45)
theorem An0:∀k:Fin 256,nameC.contains (UInt8.ofNat k.val)=RX ((k.val:Nat):Int):=by decide +kernel
theorem An1 (b:UInt8):nameC.contains b=RX ((b.toNat:Nat):Int):=by
 have:=An0 ⟨b.toNat,b.toNat_lt⟩
 rw[show UInt8.ofNat b.toNat=b by simp]at this;exact this
theorem Ut {N:Nat}{s:Str}(n:s.length<N)(hs:s.length<1000000000):∃b,Cg N s=some b/\Cc N s=some b:=by
 have o:∃b,Cc N s=some b/\(b=true↔(∀c∈s,nameC.contains c=true)/\1<=s.length/\s.length<=24):=by
  unfold Cc;refine Bk (fun i x1=>x1=(i:Int)/\∀j (h:j<s.length),j<i->nameC.contains s[j]=true) s.length _ n ⟨rfl,fun j _ a=>absurd a (by omega)⟩ ?_;rintro l i x1 v ⟨rfl,h⟩ f;by_cases hl:i<s.length
  ·refine ifT (by simp;omega) (ifT (by omega) ?_);have eb:Ao s (i:Int)=((s[i].toNat:Nat):Int):=by simp[Ao,hl]
   by_cases hb:nameC.contains s[i]=true
   ·refine ifF (by rw[eb];show ¬(!(RX ((s[i].toNat:Nat):Int)))=true;rw[<- An1,hb];simp) (f hl _ ⟨C4 (by omega),fun j a q=>?_⟩);by_cases e:j=i
    ·subst e;exact hb
    ·exact h j a (by omega)
   ·refine ifT ?_ ⟨false,rfl,by simp,fun t=>absurd (t.1 s[i] (Bo6 hl)) hb⟩;rw[eb];show (!(RX ((s[i].toNat:Nat):Int)))=true;rw[<- An1];simpa using hb
  ·refine ifF (by simp;omega) ⟨_,rfl,?_⟩;simp only[AZ6,decide_eq_true_eq];constructor
   ·rintro⟨g1,g2⟩;refine⟨fun c hc=>?_,by omega,by omega⟩;obtain⟨j,a,rfl⟩:=Bm6 hc;exact h j a (by omega)
   ·rintro⟨_,g1,g2⟩;exact⟨by omega,by omega⟩
 obtain⟨b,e,hb⟩:=o;refine⟨b,?_,e⟩
 suffices h:∃r,Cg N s=some r/\(r=true↔(∀c∈s,nameC.contains c=true)/\1<=s.length/\s.length<=24) by obtain⟨r,u,g⟩:=h;rw[u,show r=b by rw[Bc4,g,hb]]
 unfold Cg;refine ltX ?_;by_cases d:s=[]
 ·exact ifF (by simp[d]) ⟨false,rfl,by simp[d]⟩
 refine ifT (by simp[d]) ?_;have m:0<s.length:=List.length_pos_iff.2 d;by_cases h1:s.length<=24
 ·refine ifT (by simp;omega) (B7 (x:=Lib.trimS s nameC) ?_ ⟨_,rfl,?_⟩)
  ·unfold Ev;rw[if_pos ⟨by omega,by decide,by decide⟩]
  ·rw[<- Az4];constructor
   ·intro h;exact⟨by simpa using h,by omega,h1⟩
   ·rintro⟨h,_⟩;simp[h]
 ·exact ifF (by simp;omega) ⟨false,rfl,by simp;intro _ _;omega⟩
end Go.AM
namespace Go.AM
open IntKind (wrap)
open Go.Proofs
theorem Uu {N:Nat}{s:Sl Bt}(m:s.n<N)(hs:s.n<1000000){f:Bt->Option Bool}{b:Nat->Bool}(o:∀i,i<s.n->f (s.g i)=some (b i)) :∃r,D0 N s f=some r/\(r=true ↔ ∃i,i<s.n/\b i=true):=by
 unfold D0 E9
 have:∃y,W6 N (fun (a:Int->Option Int) (x1:Int)=>
  if (decide (x1<(s.n:Int))) then
   if ((0:Int)<=x1/\x1<(s.n:Int))then
    (f (s.g x1.toNat)).bind fun y3=>
    if y3 then
     some x1
    else
     a (wrap .i64 (x1+1))
   else none
  else
   some (-1)) 0=some y/\(0<=y ↔ ∃i,i<s.n/\b i=true):=by
  refine Bk (fun i x1=>x1=(i:Int)/\∀j,j<i->b j=false) s.n _ m ⟨rfl,fun j c=>absurd c (by omega)⟩ ?_;rintro l i x1 q ⟨rfl,h⟩ d;by_cases hl:i<s.n
  ·refine ifT (by simp;omega) (ifT (by omega) (B7 (by rw[AZ1];exact o i hl) ?_));cases hb:b i
   ·refine ifF (by simp) (d hl _ ⟨C4 (by omega),fun j c=>?_⟩);by_cases e:j=i
    ·subst e;exact hb
    ·exact h j (by omega)
   ·exact ifT rfl ⟨i,rfl,fun _=>⟨i,hl,hb⟩,fun _=>by omega⟩
  ·refine ifF (by simp;omega) ⟨-1,rfl,fun h=>absurd h (by decide),?_⟩;rintro⟨j,c,hb⟩;rw[h j (by omega)]at hb;cases hb
 obtain⟨y,e,hy⟩:=this;exact B7 e ⟨_,rfl,by rw[decide_eq_true_eq];exact hy⟩
def Lw (l:Law):Prop:=okL l/\l.Name.length<1100000/\l.If.n<1100000/\l.Out.n<1100000/\∀i,i<l.Out.n->okO (l.Out.g i)
theorem Ab0 {N:Nat}{s:Sound}(hs:okS s):∃b,G7 N s=some b/\(b=true↔vS s):=by obtain⟨p,m,e⟩:=hs;exact⟨vB p m,by rw[e];exact BQ p m,(WO e).symm⟩
theorem Ab1 {N:Nat}(a:1000<=N){s:Sound}(hs:okS s):∃b,I1 N s=some b/\(b=true↔vS s):=by obtain⟨p,m,e⟩:=hs;exact⟨vB p m,by rw[e];exact An p m a,(WO e).symm⟩
theorem Az5 {N:Nat}{x:Bt}(hx:okO x){k:Int}(h:V5 N x k=some true):x.From<k/\(x.Take≠0->0<=x.Of/\x.Of<k):=by
 obtain⟨⟨a,b,c⟩,_,_⟩:=hx;unfold V5 at h;simp only[lt,c,BQ,AZ4]at h;by_cases h1:x.From < -1
 ·simp[h1]at h
 by_cases d:k<=x.From
 ·simp[h1,d]at h
 refine⟨by omega,fun ht=>?_⟩;simp only[h1,d,decide_false,AZ9,if_false]at h;by_cases f:(!vB a b)=true
 ·rw[if_pos f]at h;cases h
 rw[if_neg f]at h;split at h
 ·cases h
 ·rw[if_neg (by simp[ht])]at h;simpa using h
def chkAll (N:Nat)(l:Law):Prop:=Cc N l.Name=some true/\chk 40 [l.Left]/\chk 40 [l.Right]/\l.If.n<=4/\l.Out.n<=6/\l.If.n+l.Out.n≠0/\1<=l.Mode/\l.Mode<=3/\(∀i,i<l.If.n->vS (l.If.g i))/\∀i,i<l.Out.n->V5 N (l.Out.g i) l.If.n=some true
def AN7 (N:Nat)(l:Law)(e:Int):Prop:=(e=0/\chkAll N l) \/ (e=17/\¬chkAll N l)
def AQ4 (l:Law):Prop:=okL l/\chk 40 [l.Left]/\chk 40 [l.Right]/\l.If.n<=4/\AQ3 l/\l.If.n+l.Out.n≠0/\1<=l.Mode/\l.Mode<=3
theorem chkAll.f {N:Nat}{l:Law}(hl:Lw l)(h:chkAll N l):AQ4 l:=by obtain⟨_,h1,b,c,d,g,j,m,o,n⟩:=h;exact⟨hl.1,h1,b,c,⟨d,fun i a=>⟨hl.2.2.2.2 i a,Az5 (hl.2.2.2.2 i a) (n i a)⟩⟩,g,j,m⟩
theorem Ab2 {N:Nat}(hN:3000000<=N){l:Law}(hl:Lw l):∃e,Y6 N l=some e/\AN7 N l e:=by
 have u:=hl.2.1;have v:=hl.2.2.1;have x:=hl.2.2.2.1;unfold Y6;obtain⟨b0,e0,e0'⟩:=Ut (N:=N) (s:=l.Name) (by omega) (by omega);refine B7 e0 ?_;cases b0
 ·exact ifT rfl ⟨17,rfl,.inr ⟨rfl,fun h=>by have:=h.1;rw[e0']at this;cases this⟩⟩
 refine ifF (by simp) ?_;obtain⟨y2,e2,o⟩:=RV (N:=N) (by omega) hl.1.1;refine B7 e2 ?_;by_cases c2:y2=0
 case neg=>exact ifT (by simpa using c2) ⟨17,rfl,.inr ⟨rfl,fun h=>c2 (o.2 h.2.1)⟩⟩
 refine ifF (by simp[c2]) ?_;obtain⟨y3,e3,q⟩:=RV (N:=N) (by omega) hl.1.2.1;refine B7 e3 ?_;by_cases c3:y3=0
 case neg=>exact ifT (by simpa using c3) ⟨17,rfl,.inr ⟨rfl,fun h=>c3 (q.2 h.2.2.1)⟩⟩
 refine ifF (by simp[c3]) ?_;by_cases c4:4<l.If.n
 ·exact ifT (by simp;omega) ⟨17,rfl,.inr ⟨rfl,fun h=>by have:=h.2.2.2.1;omega⟩⟩
 refine ifF (by simp;omega) ?_;by_cases c5:6<l.Out.n
 ·exact ifT (by simp;omega) ⟨17,rfl,.inr ⟨rfl,fun h=>by have:=h.2.2.2.2.1;omega⟩⟩
 refine ifF (by simp;omega) ?_;rw[DZ (by omega)];by_cases c6:l.If.n+l.Out.n=0
 ·exact ifT (by rw[c6];rfl) ⟨17,rfl,.inr ⟨rfl,fun h=>h.2.2.2.2.2.1 c6⟩⟩
 refine ifF (by simp;omega) ?_;by_cases c7:l.Mode<1 \/ 3<l.Mode
 ·exact ifT (by simp;omega) ⟨17,rfl,.inr ⟨rfl,fun h=>by have g1:=h.2.2.2.2.2.2.1;have g2:=h.2.2.2.2.2.2.2.1;omega⟩⟩
 refine ifF (by simp;omega) ?_;have y:∀i,∃b,i<l.If.n->Ak N (l.If.g i)=some b/\(b=true ↔ ¬vS (l.If.g i)):=by
  intro i;by_cases a:i<l.If.n
  ·obtain⟨b,eb,hb⟩:=Ab0 (N:=N) (hl.1.2.2 i a);refine⟨!b,fun _=>⟨by unfold Ak;rw[eb];rfl,?_⟩⟩;rw[<- hb];simp
  ·exact⟨false,fun h=>absurd h a⟩
 obtain⟨f,j⟩:=Bh3 y;obtain⟨y4,e4,r⟩:=Lb (N:=N) (w:=l.If) (by omega) (by omega) (f:=fun u1=>Ak N u1) (fun i a=>(j i a).1);refine B7 e4 ?_;cases c:y4
 case true=>obtain⟨i,a,hb⟩:=r.1 c;exact ifT rfl ⟨17,rfl,.inr ⟨rfl,fun h=>(j i a).2.1 hb (h.2.2.2.2.2.2.2.2.1 i a)⟩⟩
 refine ifF (by simp) ?_;have z:∀i,∃b,i<l.Out.n->Aj N (l.Out.g i) (l.If.n:Int)=some b/\(b=true ↔ ¬V5 N (l.Out.g i) l.If.n=some true):=by
  intro i;by_cases a:i<l.Out.n
  ·obtain⟨b,eb,_⟩:=Yp (N:=N) (by omega) (hl.2.2.2.2 i a) (l.If.n:Int);refine⟨!b,fun _=>⟨by unfold Aj;rw[eb];rfl,?_⟩⟩;rw[eb];simp
  ·exact⟨false,fun h=>absurd h a⟩
 obtain⟨g,m⟩:=Bh3 z;obtain⟨y5,e5,t⟩:=Uu (N:=N) (s:=l.Out) (by omega) (by omega) (f:=fun u2=>Aj N u2 (l.If.n:Int)) (fun i a=>(m i a).1);refine B7 e5 ?_;cases d:y5
 case true=>obtain⟨i,a,hb⟩:=t.1 d;exact ifT rfl ⟨17,rfl,.inr ⟨rfl,fun h=>(m i a).2.1 hb (h.2.2.2.2.2.2.2.2.2 i a)⟩⟩
 refine ifF (by simp) ⟨0,rfl,.inl ⟨rfl,e0',o.1 c2,q.1 c3,by omega,by omega,c6,by omega,by omega,fun i a=>?_,fun i a=>?_⟩⟩
 ·refine Bc3 fun hn=>?_
  have:=r.2 ⟨i,a,(j i a).2.2 hn⟩
  rw[c]at this;cases this
 ·refine Bc3 fun hn=>?_
  have:=t.2 ⟨i,a,(m i a).2.2 hn⟩
  rw[d]at this;cases this
theorem Ab3 {N:Nat}(y:3000000<=N){l:Law}(hl:Lw l):∃e,Y2 N l=some e/\AN7 N l e:=by
 have u:=hl.2.1;have v:=hl.2.2.1;have w:=hl.2.2.2.1;unfold Y2;obtain⟨b0,e0,e0'⟩:=Ut (N:=N) (s:=l.Name) (by omega) (by omega);refine B7 e0' (ltX ?_);cases b0
 ·exact ifT rfl (ifT rfl ⟨17,rfl,.inr ⟨rfl,fun h=>by have:=h.1;rw[e0']at this;cases this⟩⟩)
 refine ifF (by simp) ?_;obtain⟨y2,e2,q⟩:=NK (N:=N) (by omega) hl.1.1;refine B7 e2 ?_;by_cases c2:y2=0
 case neg=>exact ifT (by simpa using c2) (ifT rfl ⟨17,rfl,.inr ⟨rfl,fun h=>c2 (q.2 h.2.1)⟩⟩)
 refine ifF (by simp[c2]) ?_;obtain⟨y3,e3,r⟩:=NK (N:=N) (by omega) hl.1.2.1;refine B7 e3 ?_;by_cases c3:y3=0
 case neg=>exact ifT (by simpa using c3) ⟨17,rfl,.inr ⟨rfl,fun h=>c3 (r.2 h.2.2.1)⟩⟩
 refine ifF (by simp[c3]) ?_;rw[DZ (by omega)];by_cases a:l.If.n<=4/\l.Out.n<=6/\l.If.n+l.Out.n≠0/\1<=l.Mode/\l.Mode<=3
 case neg=>refine ifT ?_ ⟨17,rfl,.inr ⟨rfl,fun h=>a ⟨h.2.2.2.1,h.2.2.2.2.1,h.2.2.2.2.2.1,h.2.2.2.2.2.2.1,h.2.2.2.2.2.2.2.1⟩⟩⟩;simp only[Bb4,decide_eq_true_eq,beq_iff_eq];omega
 refine ifF (by simp only[Bb4,decide_eq_true_eq,beq_iff_eq];omega) ?_;obtain⟨c4,c5,c6,c7,c8⟩:=a;refine Bk (fun i x1=>x1=(i:Int)/\∀j,j<i->vS (l.If.g j)) l.If.n _ (by omega) ⟨rfl,fun j c=>absurd c (by omega)⟩ ?_;rintro t i x1 z ⟨rfl,h⟩ hs;by_cases d:i<l.If.n
 ·obtain⟨b,eb,hb⟩:=Ab1 (N:=N) (by omega) (hl.1.2.2 i d);refine ifT (by simp;omega) (ifT (by omega) (B7 (by rw[AZ1];exact eb) ?_));cases b
  ·exact ifT rfl ⟨17,rfl,.inr ⟨rfl,fun h=>by have:=hb.2 (h.2.2.2.2.2.2.2.2.1 i d);cases this⟩⟩
  ·refine ifF (by simp) (hs d _ ⟨C4 (by omega),fun j c=>?_⟩);by_cases e:j=i
   ·subst e;exact hb.1 rfl
   ·exact h j (by omega)
 refine ifF (by simp;omega) ?_;have x:∀j,j<l.If.n->vS (l.If.g j):=fun j c=>h j (by omega);refine Bk (fun i x1=>x1=(i:Int)/\∀j,j<i->V5 N (l.Out.g j) l.If.n=some true) l.Out.n _ (by omega) ⟨rfl,fun j c=>absurd c (by omega)⟩ ?_;rintro m k x2 hk ⟨rfl,h'⟩ o;by_cases f:k<l.Out.n
 ·obtain⟨b,eb,eb'⟩:=Yp (N:=N) (by omega) (hl.2.2.2.2 k f) (l.If.n:Int);refine ifT (by simp;omega) (ifT (by omega) (B7 (by rw[AZ1];exact eb') ?_));cases b
  ·exact ifT rfl ⟨17,rfl,.inr ⟨rfl,fun h=>by have:=h.2.2.2.2.2.2.2.2.2 k f;rw[eb]at this;cases this⟩⟩
  ·refine ifF (by simp) (o f _ ⟨C4 (by omega),fun j c=>?_⟩);by_cases e:j=k
   ·subst e;exact eb
   ·exact h' j (by omega)
 ·exact ifF (by simp;omega) ⟨0,rfl,.inl ⟨rfl,e0',q.1 c2,r.1 c3,c4,c5,c6,c7,c8,x,fun j c=>h' j (by omega)⟩⟩
theorem Uv {N:Nat}{l:Law}{e e' : Int}(h:AN7 N l e)(h' : AN7 N l e'):e=e':=by
 rcases h with⟨rfl,h⟩ | ⟨rfl,h⟩<;>rcases h' with⟨rfl,h'⟩ | ⟨rfl,h'⟩
 ·rfl
 ·exact absurd h h'
 ·exact absurd h' h
 ·rfl
theorem Fc {N:Nat}(a:3000000<=N){l:Law}(hl:Lw l):∃e,Y6 N l=some e/\Y2 N l=some e/\AN7 N l e:=by obtain⟨e,h,c⟩:=Ab2 a hl;obtain⟨e',h',c'⟩:=Ab3 a hl;obtain rfl:=Uv c c';exact⟨_,h,h',c⟩
end Go.AM
namespace Go.AM
open Go.Proofs
def PE:Pat->Pat->Prop
 |.nil,q=>q.Kind=0/\q.Is=default/\q.Not=false/\q.Min=0/\q.Max=0/\q.L.n=0
 |.mk k is no mn mx n g,q=>q.Kind=k/\q.Is=is/\q.Not=no/\q.Min=mn/\q.Max=mx/\q.L.n=n/\∀i,i<n->PE (g i) (q.L.g i)
theorem PE_of {p q:Pat}:PE p q↔q.Kind=p.Kind/\q.Is=p.Is/\q.Not=p.Not/\q.Min=p.Min/\q.Max=p.Max/\q.L.n=p.L.n/\∀i,i<p.L.n->PE (p.L.g i) (q.L.g i):=by
 cases p with
 |nil=>exact⟨fun h=>⟨h.1,h.2.1,h.2.2.1,h.2.2.2.1,h.2.2.2.2.1,h.2.2.2.2.2,fun i a=>absurd a (Be7 i)⟩,fun h=>⟨h.1,h.2.1,h.2.2.1,h.2.2.2.1,h.2.2.2.2.1,h.2.2.2.2.2.1⟩⟩
 |mk k is no mn mx n g=>exact Bi6
theorem WW:∀p:Pat,PE p p
 |.nil=>⟨rfl,rfl,rfl,rfl,rfl,rfl⟩
 |.mk k is no mn mx n g=>⟨rfl,rfl,rfl,rfl,rfl,rfl,fun i _=>WW (g i)⟩
theorem WX:∀{p q:Pat},PE p q->PE q p
 |.nil,q,h=>PE_of.2 ⟨h.1.symm,h.2.1.symm,h.2.2.1.symm,h.2.2.2.1.symm,h.2.2.2.2.1.symm,h.2.2.2.2.2.symm,fun i a=>absurd a (by rw[h.2.2.2.2.2];exact Be7 i)⟩
 |.mk k is no mn mx n g,q,h=>PE_of.2 ⟨h.1.symm,h.2.1.symm,h.2.2.1.symm,h.2.2.2.1.symm,h.2.2.2.2.1.symm,h.2.2.2.2.2.1.symm,fun i a=>WX (h.2.2.2.2.2.2 i (by rw[<- h.2.2.2.2.2.1];exact a))⟩
theorem Qr {n:Nat}{Q Q' : Nat->Nat->Nat->Prop}:∀{m:Nat},(∀i,i<m->Q i=Q' i)->ZN n Q m=ZN n Q' m
 |0,_=>rfl
 |m+1,h=>by funext a b;simp only[ZN];rw[Qr fun i c=>h i (by omega),h m (by omega)]
theorem AN8 {w:Sl Sound}:∀(d:Nat) {p q:Pat},okP d p->PE p q->PR w p=PR w q
 |0,p,q,h,_=>h.elim
 |d+1,p,q,h,e=>by
  obtain⟨e1,e2,e3,e4,e5,e6,e7⟩:=PE_of.1 e;have ih:∀i,i<p.L.n->PR w (p.L.g i)=PR w (q.L.g i):=fun i c=>AN8 d (h.2.2 i c) (e7 i c);funext a b;apply propext;rw[Lu,Lu,e1,e2,e3,e4,e5,e6];have j:ZN w.n (fun i=>PR w (p.L.g i)) p.L.n=ZN w.n (fun i=>PR w (q.L.g i)) p.L.n:=Qr ih;have l:(∃i,i<p.L.n/\PR w (p.L.g i) a b) ↔ ∃i,i<p.L.n/\PR w (q.L.g i) a b:=⟨fun⟨i,c,g⟩=>⟨i,c,by rw[<- ih i c];exact g⟩,fun⟨i,c,g⟩=>⟨i,c,by rw[ih i c];exact g⟩⟩;rw[j,l];by_cases f:p.Kind=5
  ·have:=(h.2.1 f).1
   rw[ih 0 (by omega)]
  ·simp[f]
theorem Az6 {p q:Pat}(e:PE p q):Hx p↔Hx q:=by obtain⟨e1,e2,e3,e4,e5,e6,_⟩:=PE_of.1 e;unfold Hx;rw[e1,e2,e3,e4,e5,e6]
def PEs:List Pat->List Pat->Prop
 |[],[]=>True
 |p::l,q::m=>PE p q/\PEs l m
 |_,_=>False
theorem An2:∀{a b c d:List Pat},PEs a b->PEs c d->PEs (a++c) (b++d)
 |[],[],_,_,_,h=>h
 |_::_,_::_,_,_,⟨h1,h2⟩,h=>⟨h1,An2 h2 h⟩
 |[],_::_,_,_,h,_=>h.elim
 |_::_,[],_,_,h,_=>h.elim
theorem Uw {f g:Nat->Pat}:∀(l:List Nat),(∀i∈l,PE (f i) (g i))->PEs (l.map f) (l.map g)
 |[],_=>trivial
 |i::l,h=>⟨h i (by simp),Uw l fun j a=>h j (by simp[a])⟩
theorem AF1:∀(k:Nat) (l m:List Pat),PEs l m->(chk k l↔chk k m)
 |0,[],[],_=>Bi6
 |0,p::l,q::m,_=>⟨fun h=>(by cases h),fun h=>by cases h⟩
 |k+1,[],[],_=>Bi6
 |k+1,p::l,q::m,⟨h1,h2⟩=>by
  obtain⟨_,_,_,_,_,e6,e7⟩:=PE_of.1 h1;show Hx p/\chk k (p.L.toList++l)↔Hx q/\chk k (q.L.toList++m);rw[Az6 h1,AF1 k _ _ (An2 (c:=l) (d:=m) (show PEs p.L.toList q.L.toList by unfold Sl.toList;rw[e6];exact Uw _ fun i a=>e7 i (Bf4.1 a)) h2)]
 |_,[],_::_,h=>h.elim
 |_,_::_,[],h=>h.elim
theorem Km {p q:Pat}(h:PE p q):chk 40 [p]↔chk 40 [q]:=AF1 40 [p] [q] ⟨h,trivial⟩
theorem okPS_of {p:Pat}:okPS p↔okS p.Is/\∀i,i<p.L.n->okPS (p.L.g i):=by
 cases p with
 |nil=>exact⟨fun _=>⟨⟨0#32,0#32,rfl⟩,fun i a=>absurd a (Be7 i)⟩,fun _=>trivial⟩
 |mk k is no mn mx n g=>exact Bi6
theorem NN:∀{p q:Pat},PE p q->okPS p->okPS q
 |.nil,q,h,_=>okPS_of.2 ⟨by rw[h.2.1];exact⟨0#32,0#32,rfl⟩,fun i a=>absurd a (by rw[h.2.2.2.2.2];exact Be7 i)⟩
 |.mk k is no mn mx n g,q,h,hp=>okPS_of.2 ⟨by rw[h.2.1];exact hp.1,fun i a=>by
  have a:i<n:=by rw[<- h.2.2.2.2.2.1];exact a
  exact NN (h.2.2.2.2.2.2 i a) (hp.2 i a)⟩
end Go.AM
namespace Go.AM
open IntKind (wrap)
open Go.Proofs
theorem nf:(!false)=true:=rfl
theorem AQ5 {α : Type}{s t:Sl α}(h:s.n=0):s.app t=t:=by cases t;simp[Sl.app,h]
def AF2 {α : Type}[Inhabited α](s:Sl (Sl α)):Nat->Sl α
 |0=>Sl.nil
 |k+1=>(AF2 s k).app (s.g k)
theorem AF3 {α : Type}[Inhabited α](s:Sl (Sl α)){B:Nat}:∀k,(∀i,i<k->(s.g i).n<=B)->(AF2 s k).n<=k*B
 |0,_=>by simp[AF2]
 |k+1,h=>by
  have:=AF3 s k fun i a=>h i (by omega)
  have:=h k (by omega)
  show (AF2 s k).n+(s.g k).n<=_;rw[Bl6];omega
theorem WY {N:Nat}{s:Sl (Sl Sound)}(hn:s.n<1000)(d:1000<=N)(hs:∀i,i<s.n->(s.g i).n<=3000000) :B1 N s=some (AF2 s s.n):=by
 suffices h:∃r,B1 N s=some r/\r=AF2 s s.n by obtain⟨r,h,rfl⟩:=h;exact h
 unfold B1;refine P9 (fun (i:Nat) (x1 x2:Int)=>x2=(i:Int)/\0<=x1/\x1<=(i:Int)*3000000) s.n _ (by omega) ⟨rfl,Int.le_refl 0,by simp⟩ ?_;rintro b i x1 x2 c ⟨rfl,f,h1⟩ a;by_cases hl:i<s.n
 ·have:=hs i hl
  refine ifT (by simp;omega) (ifT (by omega) ?_);rw[AZ1,F3 (by omega) (by omega)];exact ifF (by simp;omega) (a hl _ _ ⟨C4 (by omega),by omega,by omega⟩)
 refine ifF (by simp;omega) (B7 (x:=Sl.nil) ?_ ?_)
 ·unfold H7;rw[if_pos (by omega)]
 refine P9 (fun i x1 x2=>x2=(i:Int)/\x1=AF2 s i) s.n _ (by omega) ⟨rfl,rfl⟩ ?_;rintro b i x1 x2 c ⟨rfl,rfl⟩ a;by_cases hl:i<s.n
 ·have g1:=hs i hl;have g2:=AF3 s i (B:=3000000) fun j l=>hs j (by omega);refine ifT (by simp;omega) (ifT ⟨by omega,?_⟩ (a hl _ _ ⟨C4 (by omega),?_⟩))
  ·rw[AZ1];omega
  ·rw[AZ1];rfl
 ·exact ifF (by simp;omega) ⟨_,rfl,by congr 1;omega⟩
def AQ6 (w:Sl Sound)(i k:Nat)(y:Sl Sound):Sl Sound:=((w.take i).app y).app (w.drop (i+k))
theorem An3 {w y:Sl Sound}{i k:Nat}(b:i+k<=w.n)(hw:∀j,j<w.n->vS (w.g j))(hy:∀j,j<y.n->vS (y.g j)):(AQ6 w i k y).n=w.n-k+y.n/\∀j,j<(AQ6 w i k y).n->vS ((AQ6 w i k y).g j):=by
 have hn:(AQ6 w i k y).n=w.n-k+y.n:=by show i+y.n+(w.n-(i+k))=_;omega
 refine⟨hn,fun j a=>?_⟩;rw[hn]at a;show vS (if j<i+y.n then (if j<i then w.g j else y.g (j-i))else w.g (i+k+(j-(i+y.n))));split
 ·split
  ·exact hw _ (by omega)
  ·exact hy _ (by omega)
 ·exact hw _ (by omega)
def Hy (N:Nat)(l:Law)(w:Sl Sound)(i:Nat):Sl Sound:=(N9 N l (w.sub i (i+l.If.n))).getD Sl.nil
def Z4 (N:Nat)(l:Law)(w:Sl Sound)(i:Nat):Sl Sound:=AQ6 w i l.If.n (Hy N l w i)
theorem vOk {w:Sl Sound}(h:wOk w):okW w:=⟨by have:=h.1;omega,fun i a=>(h.2 i a).ok⟩
theorem Hc {N:Nat}(a:1000<=N){l:Law}(b:AQ3 l){w:Sl Sound}(hw:∀j,j<w.n->vS (w.g j)){i:Nat}(o:i+l.If.n<=w.n) :N9 N l (w.sub i (i+l.If.n))=some (Hy N l w i)/\BI N l (w.sub i (i+l.If.n))=some (Hy N l w i)/\(Hy N l w i).n=l.Out.n/\∀j,j<(Hy N l w i).n->vS ((Hy N l w i).g j):=by
 obtain⟨s,h1,c,d,f⟩:=AN6 a b (cut:=w.sub i (i+l.If.n)) (by show i+l.If.n-i=_;omega) fun j m=>(hw (i+j) (by have:j<i+l.If.n-i:=m;omega)).ok;have e:Hy N l w i=s:=by unfold Hy;rw[h1];rfl
 rw[e];exact⟨h1,c,d,f⟩
theorem cat3 (a b c:Sl Sound):AF2 (Sl.of [a,b,c]:Sl (Sl Sound)) 3=(a.app b).app c:=by show (((Sl.nil:Sl Sound).app a).app b).app c=_;rw[AQ5 (s:=(Sl.nil:Sl Sound)) rfl]
theorem An4 {N:Nat}(d:1000<=N){a b c:Sl Sound}(ha:a.n<=3000000)(hb:b.n<=3000000)(hc:c.n<=3000000):B1 N (Sl.of [a,b,c]:Sl (Sl Sound))=some ((a.app b).app c):=by
 have h:=WY (N:=N) (s:=(Sl.of [a,b,c]:Sl (Sl Sound))) (by show 3<1000;omega) d fun i f=>by
  match i,f with
  |0,_=>exact ha
  |1,_=>exact hb
  |2,_=>exact hc
 rw[h];exact congrArg some (cat3 a b c)
theorem FP {N:Nat}(a:1000<=N){l:Law}(b:AQ3 l){w:Sl Sound}(c:w.n<1000)(hw:∀j,j<w.n->vS (w.g j)){i:Nat}(d:i+l.If.n<=w.n) :Q8 N l w i=some (Z4 N l w i)/\Q7 N l w i=some (Z4 N l w i):=by
 obtain⟨h1,f,m,o⟩:=Hc a b hw d;have q:=b.1;constructor
 ·unfold Q8;rw[DZ (by omega),if_pos (by omega),AZ1,AZ1,h1,AZ4,if_pos (by omega),
   An4 a (by show i<=_;omega) (by omega) (by show w.n-(i+l.If.n)<=_;omega)]
  rfl
 ·unfold Q7;rw[DZ (by omega),AZ1,AZ1,AQ5 (s:=(Sl.of []:Sl Sound)) rfl,if_pos ⟨by omega,by show (0+i)*8<=_/\0+i<=_;omega⟩,if_pos (by omega),f,AZ4,
   if_pos (by show (i+(Hy N l w i).n)*8<=_/\i+(Hy N l w i).n<=_;omega),if_pos ⟨by omega,by show (i+(Hy N l w i).n+(w.n-(i+l.If.n)))*8<=_/\i+(Hy N l w i).n+(w.n-(i+l.If.n))<=_;omega⟩]
  rfl
def SE {α : Type}(s t:Sl α):Prop:=s.n=t.n/\∀i,i<s.n->s.g i=t.g i
theorem SE.refl {α : Type}(s:Sl α):SE s s:=⟨rfl,fun _ _=>rfl⟩
theorem SE.symm {α : Type}{s t:Sl α}(h:SE s t):SE t s:=⟨h.1.symm,fun i a=>(h.2 i (by rw[h.1];exact a)).symm⟩
theorem SE.trans {α : Type}{s t u:Sl α}(h:SE s t)(h' : SE t u):SE s u:=⟨h.1.trans h'.1,fun i a=>(h.2 i a).trans (h'.2 i (by rw[<- h.1];exact a))⟩
theorem SE.app {α : Type}{s t u v:Sl α}(h:SE s t)(h' : SE u v):SE (s.app u) (t.app v):=⟨by show s.n+u.n=t.n+v.n;rw[h.1,h'.1],fun i a=>by
 show (if i<s.n then s.g i else u.g (i-s.n))=if i<t.n then t.g i else v.g (i-t.n)
 have a:i<s.n+u.n:=a;rw[<- h.1];split
 ·exact h.2 i (by assumption)
 ·exact h'.2 _ (by omega)⟩
theorem SE.drop {α : Type}{s t:Sl α}(h:SE s t)(k:Nat):SE (s.drop k) (t.drop k):=⟨by show s.n-k=t.n-k;rw[h.1],fun i a=>by have a:i<s.n-k:=a;exact h.2 _ (by omega)⟩
theorem SE.take {α : Type}{s t:Sl α}(h:SE s t){k:Nat}(hk:k<=s.n):SE (s.take k) (t.take k):=⟨rfl,fun i a=>h.2 i (by have a:i<k:=a;omega)⟩
theorem SE.sub {α : Type}{s t:Sl α}(h:SE s t){a b:Nat}(hk:b<=s.n):SE (s.sub a b) (t.sub a b):=⟨rfl,fun i c=>h.2 _ (by have c:i<b-a:=c;omega)⟩
theorem SE.v {s t:Sl Sound}(h:SE s t)(b:∀j,j<s.n->vS (s.g j)):∀j,j<t.n->vS (t.g j):=fun j a=>by rw[<- h.2 j (by rw[h.1];exact a)];exact b j (by rw[h.1];exact a)
theorem SE.wOk {s t:Sl Sound}(h:SE s t)(a:wOk s):wOk t:=⟨by rw[<- h.1];exact a.1,h.v a.2⟩
theorem RY {w w' : Sl Sound}(h:SE w w'):∀p:Pat,PR w p=PR w' p
 |.nil=>rfl
 |.mk kind is no mn mx m g=>by
  have ih:(fun i=>PR w (g i))=fun i=>PR w' (g i):=funext fun i=>RY h (g i);have ih1:∀i,PR w (g i)=PR w' (g i):=fun i=>congrFun ih i;have e1:∀a,(a<w.n↔a<w'.n):=fun a=>by rw[h.1]
  funext a b;unfold PR;rw[ih];simp only[ih1,<- h.1];by_cases ha:a<w.n
  ·rw[h.2 a ha]
  ·simp[ha]
theorem Ab4 {l:Law}{w w' : Sl Sound}(h:SE w w'){i:Nat}:Qq l w i↔Qq l w' i:=by
 suffices H:∀{w w' : Sl Sound},SE w w' -> Qq l w i->Qq l w' i by exact⟨H h,H h.symm⟩
 intro w w' h;rintro⟨h1,f,g,m,n,q,⟨a,ha,c⟩,b,hb,d⟩;have hn:=h.1;refine⟨by omega,fun j o=>?_,g,m,h.wOk n,by omega,⟨a,by omega,?_⟩,b,by omega,?_⟩
 ·rw[<- h.2 (i+j) (by omega)];exact f j o
 ·rw[<- RY h];exact c
 ·rw[<- RY h];exact d
structure LE (l l' : Law):Prop where
 name:l'.Name=l.Name
 left:PE l.Left l'.Left
 right:PE l.Right l'.Right
 cond:SE l.If l'.If
 out:SE l.Out l'.Out
 mode:l'.Mode=l.Mode
theorem LE.refl (l:Law):LE l l:=⟨rfl,WW _,WW _,SE.refl _,SE.refl _,rfl⟩
theorem LE.symm {l l' : Law}(h:LE l l'):LE l' l:=⟨h.name.symm,WX h.left,WX h.right,h.cond.symm,h.out.symm,h.mode.symm⟩
theorem AN9 {l l' : Law}(h:LE l l'){w:Sl Sound}{i:Nat}:Qq l w i↔Qq l' w i:=by
 suffices H:∀{l l' : Law},LE l l' -> Qq l w i->Qq l' w i by exact⟨H h,H h.symm⟩
 intro l l' h;rintro⟨h1,m,f,g,n,o,⟨a,ha,c⟩,b,hb,d⟩;have hn:=h.cond.1;refine⟨by omega,fun j q=>?_,(Km h.left).1 f,(Km h.right).1 g,n,by omega,⟨a,ha,?_⟩,b,hb,?_⟩
 ·rw[<- h.cond.2 j (by omega)];exact m j (by omega)
 ·rw[<- AN8 40 (NJ 40 _ (by omega) f _ (by simp)) h.left];exact c
 ·rw[<- hn,<- AN8 40 (NJ 40 _ (by omega) g _ (by simp)) h.right];exact d
theorem Iy {l l' : Law}(e:LE l l'){w w' : Sl Sound}(h:SE w w'){i:Nat}:Qq l w i↔Qq l' w' i:=(AN9 e).trans (Ab4 h)
theorem Yq {l l' : Law}(h:LE l l')(hl:Lw l):Lw l':=by obtain⟨⟨h1,a,b⟩,c,g,j,d⟩:=hl;have m:=h.cond.1;have n:=h.out.1;exact⟨⟨NN h.left h1,NN h.right a,fun i f=>by rw[<- h.cond.2 i (by omega)];exact b i (by omega)⟩,by rw[h.name];exact c,by omega,by omega,fun i f=>by rw[<- h.out.2 i (by omega)];exact d i (by omega)⟩
theorem AO0 {l l' : Law}(h:LE l l')(hl:AQ3 l):AQ3 l':=by have a:=h.cond.1;have b:=h.out.1;exact⟨by rw[<- b];exact hl.1,fun i c=>by rw[<- h.out.2 i (by omega),<- a];exact hl.2 i (by omega)⟩
theorem WZ {l l' : Law}(h:LE l l')(hl:AQ4 l):AQ4 l':=by obtain⟨⟨h1,a,b⟩,c,d,j,f,m,n,g⟩:=hl;have o:=h.cond.1;have q:=h.out.1;have hm:=h.mode;exact⟨⟨NN h.left h1,NN h.right a,fun i r=>by rw[<- h.cond.2 i (by omega)];exact b i (by omega)⟩,(Km h.left).1 c,(Km h.right).1 d,by omega,AO0 h f,by omega,by omega,by omega⟩
theorem JE {N:Nat}{l l' : Law}(h:LE l l'):chkAll N l↔chkAll N l':=by
 suffices H:∀{l l' : Law},LE l l' -> chkAll N l->chkAll N l' by exact⟨H h,H h.symm⟩
 rintro l l' h ⟨h1,b,c,j,m,n,o,q,d,a⟩;have f:=h.cond.1;have r:=h.out.1;have hm:=h.mode;exact⟨by rw[h.name];exact h1,(Km h.left).1 b,(Km h.right).1 c,by omega,by omega,by omega,by omega,by omega,
  fun i g=>by rw[<- h.cond.2 i (by omega)];exact d i (by omega),fun i g=>by rw[<- h.out.2 i (by omega),<- f];exact a i (by omega)⟩
theorem AO1 {N:Nat}{l l' : Law}(h:LE l l'){e:Int}(b:AN7 N l e):AN7 N l' e:=by
 rcases b with⟨h1,a⟩ | ⟨h1,a⟩
 ·exact .inl ⟨h1,(JE h).1 a⟩
 ·exact .inr ⟨h1,fun g=>a ((JE h).2 g)⟩
theorem An5 {N:Nat}{l:Law}{c c' : Sl Sound}(h:SE c c'):N9 N l c=N9 N l c':=by
 unfold N9;congr 1;funext self x1 x2;by_cases h1:(decide (x2<(l.Out.n:Int)))=true
 case neg=>rw[if_neg h1,if_neg h1]
 rw[if_pos h1,if_pos h1,<- h.1];have e1:∀y:Int,(0:Int)<=y->y<(c.n:Int)->c.g y.toNat=c'.g y.toNat:=fun y i h1=>h.2 _ (by omega);by_cases b:(0:Int)<=x2/\x2<(l.Out.n:Int)
 case neg=>rw[if_neg b,if_neg b]
 rw[if_pos b,if_pos b];split
 ·rename_i f;have e2:(⟨(if (decide (0<=(l.Out.g x2.toNat).From)) then (c.g (l.Out.g x2.toNat).From.toNat).Plus else 0),(if (decide (0<=(l.Out.g x2.toNat).From)) then (c.g (l.Out.g x2.toNat).From.toNat).Minus else 0)⟩:Sound) =
   ⟨(if (decide (0<=(l.Out.g x2.toNat).From)) then (c'.g (l.Out.g x2.toNat).From.toNat).Plus else 0),(if (decide (0<=(l.Out.g x2.toNat).From)) then (c'.g (l.Out.g x2.toNat).From.toNat).Minus else 0)⟩:=by
   by_cases a:decide (0<=(l.Out.g x2.toNat).From)=true
   ·have:=f a
    rw[if_pos a,if_pos a,if_pos a,if_pos a,e1 _ this.1 this.2]
   ·rw[if_neg a,if_neg a,if_neg a,if_neg a]
  rw[e2];congr 1;funext y5;split
  ·split
   ·rename_i d;rw[e1 _ d.1 d.2]
   ·rfl
  ·rfl
 ·rfl
theorem Ab5 {N:Nat}{l l' : Law}(h:SE l.Out l'.Out)(c:Sl Sound):N9 N l c=N9 N l' c:=by
 unfold N9;congr 1;funext self x1 x2;rw[<- h.1];by_cases h1:(0:Int)<=x2/\x2<(l.Out.n:Int)
 ·rw[h.2 x2.toNat (by omega)]
 ·by_cases a:(decide (x2<(l.Out.n:Int)))=true
  ·rw[if_pos a,if_pos a,if_neg h1,if_neg h1]
  ·rw[if_neg a,if_neg a]
theorem NO {N:Nat}{l l' : Law}(e:LE l l'){w w' : Sl Sound}(h:SE w w'){i:Nat}(a:i+l.If.n<=w.n):Hy N l w i=Hy N l' w' i:=by unfold Hy;rw[An5 (h.sub a),Ab5 e.out,<- e.cond.1]
theorem Lc {N:Nat}{l l' : Law}(e:LE l l'){w w' : Sl Sound}(h:SE w w'){i:Nat}(a:i+l.If.n<=w.n):SE (Z4 N l w i) (Z4 N l' w' i):=by unfold Z4 AQ6;rw[NO e h a,<- e.cond.1];exact ((h.take (by omega)).app (SE.refl _)).app (h.drop _)
def RL:List (Int×Sl Sound)->List (Int×Sl Sound)->Prop
 |[],[]=>True
 |(p,v)::L,(q,u)::M=>p=q/\SE v u/\RL L M
 |_,_=>False
def Kn:Sl Int->Sl (Sl Sound)->List (Int×Sl Sound)->Sl Int×Sl (Sl Sound)×Int
 |x,y,[]=>(x,y,0)
 |x,y,(p,v)::L=>if 32<v.n then (Sl.nil,Sl.nil,11)else Kn (x.push p) (y.push v) L
abbrev Ux:=List (Int×Sl Sound)
def vL (L:Ux):Prop:=∀x∈L,∀j,j<x.2.n->vS (x.2.g j)
theorem Uy:vL []:=fun x hx=>absurd hx (by simp)
theorem Xa {x:Int×Sl Sound}{L:Ux}(h:∀j,j<x.2.n->vS (x.2.g j))(hL:vL L):vL (x::L):=fun y hy=>by
 rcases Bc8.1 hy with rfl|hy
 ·exact h
 ·exact hL y hy
def Uz (N:Nat)(l:Law)(a:Sl Sound->Int->Option Ux)(x5:Sl Sound)(x6:Int):Option Ux:=
 if (decide ((wrap .i64 (x6+(l.If.n:Int)))<=(x5.n:Int))) then
  (CE N l x5 x6).bind fun c=>
  if (!c) then
   a x5 (wrap .i64 (x6+1))
  else
   (Q8 N l x5 x6).bind fun b=>
   Ap (x6,b) (
    if ((l.If.n:Int)==0) then
     a b (wrap .i64 ((wrap .i64 (x6+(l.Out.n:Int)))+1))
    else
     a b (wrap .i64 (x6+(l.Out.n:Int)))
    )
 else
  some []
abbrev Az7:=(Sl Int)×(Sl (Sl Sound))×Int
def UA (N:Nat)(l:Law)(a:Sl Sound->Sl Int->Sl (Sl Sound)->Int->Option Az7)(x1:Sl Sound)(x2:Sl Int)(x3:Sl (Sl Sound))(x4:Int):Option Az7:=
 if (decide ((wrap .i64 (x4+(l.If.n:Int)))<=(x1.n:Int))) then
  (AI N l x1 x4).bind fun y5=>
  if (!y5) then
   a x1 x2 x3 (wrap .i64 (x4+1))
  else
   (Q7 N l x1 x4).bind fun y6=>
   if (decide (32<(y6.n:Int))) then
    some ((Sl.nil:Sl Int),(Sl.nil:Sl (Sl Sound)),11)
   else
    if (((x2.n+(Sl.of [x4]:Sl Int).n)*8<=140737488355328/\x2.n+(Sl.of [x4]:Sl Int).n<=140737488355328)/\((x3.n+(Sl.of [y6]:Sl (Sl Sound)).n)*24<=140737488355328/\x3.n+(Sl.of [y6]:Sl (Sl Sound)).n<=140737488355328))then
     if ((l.If.n:Int)==0) then
      a y6 (x2.push x4) (x3.push y6) (wrap .i64 ((wrap .i64 (x4+(l.Out.n:Int)))+1))
     else
      a y6 (x2.push x4) (x3.push y6) (wrap .i64 (x4+(l.Out.n:Int)))
    else none
 else
  some (x2,x3,0)
theorem An6 {N:Nat}(hN:3000<=N){l l' : Law}(hf:AQ4 l)(s:LE l l'):∀(m:Nat) (w w' : Sl Sound) (i:Nat),SE w w' -> w.n<=100->(∀j,j<w.n->vS (w.g j))->i<=200->w.n+1<=i+m ->
 ∃L L',(∀M,m<M->P6 M (Uz N l) w i=some L)/\vL L/\L.length<=m/\RL L L' /\ ∀M x2 x3,m<M->x2.n+m<=1000->x3.n+m<=1000->Aq8 M (UA N l') w' x2 x3 i=some (Kn x2 x3 L'):=by
 obtain⟨hl,_,_,hk,x,y,_,_⟩:=hf;have h6:=x.1;obtain⟨z,_,_,a0,a1,_,_,_⟩:=WZ s ⟨hl,‹_›, ‹_›,hk,x,y,‹_›, ‹_›⟩;have c:l'.If.n=l.If.n:=s.cond.1.symm;have d:l'.Out.n=l.Out.n:=s.out.1.symm;intro m
 induction m with
 |zero=>
  intro w w' i a hn o hi hm;have a2:=a.1;refine⟨[],[],fun M q=>?_,Uy,AZ7 _,trivial,fun M x2 x3 q _ _=>?_⟩
  ·obtain⟨M,rfl⟩:∃K,M=K+1:=⟨M-1,by omega⟩;rw[E7,Uz,DZ (by omega),if_neg (by simp;omega)]
  ·obtain⟨M,rfl⟩:∃K,M=K+1:=⟨M-1,by omega⟩;rw[U1,UA,c,d,DZ (by omega),if_neg (by simp;omega),Kn]
 |succ m ih=>
  intro w w' i a hn o hi hm;have a2:=a.1;by_cases hle:i+l.If.n<=w.n
  case neg=>
   refine⟨[],[],fun M q=>?_,Uy,by simp,trivial,fun M x2 x3 q _ _=>?_⟩
   ·obtain⟨M,rfl⟩:∃K,M=K+1:=⟨M-1,by omega⟩;rw[E7,Uz,DZ (by omega),if_neg (by simp;omega)]
   ·obtain⟨M,rfl⟩:∃K,M=K+1:=⟨M-1,by omega⟩;rw[U1,UA,c,d,DZ (by omega),if_neg (by simp;omega),Kn]
  have hw:okW w:=⟨by omega,fun j hj=>(o j hj).ok⟩;have t:=a.v o;have hw' : okW w':=⟨by omega,fun j hj=>(t j hj).ok⟩;obtain⟨b,e1,h1⟩:=Am7 hN hl hk hw i (by omega);obtain⟨b',e2,h2⟩:=RW hN z a0 hw' i (by omega);obtain rfl:b' = b:=by rw[Bc4,h1,h2,Iy s a]
  cases b'
  ·obtain⟨L,L',g1,g2,g3,g5,g4⟩:=ih w w' (i+1) a hn o (by omega) (by omega);refine⟨L,L',fun M q=>?_,g2,by omega,g5,fun M x2 x3 q hx hy=>?_⟩
   ·obtain⟨M,rfl⟩:∃K,M=K+1:=⟨M-1,by omega⟩;rw[E7,Uz,DZ (by omega),if_pos (by simp;omega),e1,AZ4,if_pos nf,C4 (by omega)];exact g1 M (by omega)
   ·obtain⟨M,rfl⟩:∃K,M=K+1:=⟨M-1,by omega⟩;rw[U1,UA,c,d,DZ (by omega),if_pos (by simp;omega),e2,AZ4,if_pos nf,C4 (by omega)];exact g4 M x2 x3 (by omega) (by omega) (by omega)
  ·have hit:=h1.1 rfl;have hw32:=hit.2.2.2.2.1.1;have r1:=(FP (N:=N) (by omega) x (by omega) o hle).1;have r2:=(FP (N:=N) (l:=l') (w:=w') (i:=i) (by omega) a1 (by omega) t (by omega)).2;have r:=Lc (N:=N) s a hle;have hrn:=r.1;obtain⟨_,_,p3,p4⟩:=Hc (N:=N) (by omega) x o hle;obtain⟨q1,q2⟩:=An3 hle o p4;have q1:(Z4 N l w i).n=w.n-l.If.n+l.Out.n:=by rw[<- p3];exact q1
   have q2:∀j,j<(Z4 N l w i).n->vS ((Z4 N l w i).g j):=q2;obtain⟨L,L',g1,g2,g3,g5,g4⟩:=ih (Z4 N l w i) (Z4 N l' w' i) (if l.If.n=0 then i+l.Out.n+1 else i+l.Out.n) r (by omega) q2 (by split<;>omega) (by split<;>omega);refine⟨((i:Int),Z4 N l w i)::L,((i:Int),Z4 N l' w' i)::L',fun M q=>?_,Xa q2 g2,by simp;omega,⟨rfl,r,g5⟩,fun M x2 x3 q hx hy=>?_⟩
   ·obtain⟨M,rfl⟩:∃K,M=K+1:=⟨M-1,by omega⟩;rw[E7,Uz,DZ (by omega),if_pos (by simp;omega),e1,AZ4,if_neg (by simp),r1,AZ4,DZ (by omega),C4 (by omega)];have g1:=g1 M (by omega);by_cases f:l.If.n=0
    ·rw[if_pos f]at g1;rw[if_pos (by simp[f]),g1];rfl
    ·rw[if_neg f]at g1;rw[if_neg (by simp[f]),g1];rfl
   ·obtain⟨M,rfl⟩:∃K,M=K+1:=⟨M-1,by omega⟩;rw[U1,UA,c,d,DZ (by omega),if_pos (by simp;omega),e2,AZ4,if_neg (by simp),r2,AZ4,DZ (by omega),C4 (by omega),Kn];by_cases u:32<(Z4 N l' w' i).n
    ·rw[if_pos (by simp;omega),if_pos u]
    rw[if_neg (by simp;omega),if_neg u,if_pos (by show ((x2.n+1)*8<=_/\x2.n+1<=_)/\(x3.n+1)*24<=_/\x3.n+1<=_;omega)];have g4:=g4 M (x2.push (i:Int)) (x3.push (Z4 N l' w' i)) (by omega) (by show x2.n+1+m<=_;omega) (by show x3.n+1+m<=_;omega);by_cases f:l.If.n=0
    ·rw[if_pos f]at g4;rw[if_pos (by simp[f]),g4]
    ·rw[if_neg f]at g4;rw[if_neg (by simp[f]),g4]
def An7 (N:Nat)(l:Law)(a:Sl Sound->Int->Option Ux)(x7:Sl Sound)(x8:Int):Option Ux:=
 if (decide (0<=x8)) then
  (CE N l x7 x8).bind fun c=>
  if (!c) then
   a x7 (wrap .i64 (x8-1))
  else
   (Q8 N l x7 x8).bind fun b=>
   Ap (x8,b) (
    a b (wrap .i64 (x8-(if (l.If.n:Int)<1 then 1 else (l.If.n:Int))))
    )
 else
  some []
def An8 (N:Nat)(l:Law)(a:Sl Sound->Sl Int->Sl (Sl Sound)->Int->Option Az7)(x1:Sl Sound)(x2:Sl Int)(x3:Sl (Sl Sound))(x4:Int):Option Az7:=
 if (decide (0<=x4)) then
  (AI N l x1 x4).bind fun y5=>
  if (!y5) then
   a x1 x2 x3 (wrap .i64 (x4-1))
  else
   (Q7 N l x1 x4).bind fun y6=>
   if (decide (32<(y6.n:Int))) then
    some ((Sl.nil:Sl Int),(Sl.nil:Sl (Sl Sound)),11)
   else
    if (((x2.n+(Sl.of [x4]:Sl Int).n)*8<=140737488355328/\x2.n+(Sl.of [x4]:Sl Int).n<=140737488355328)/\((x3.n+(Sl.of [y6]:Sl (Sl Sound)).n)*24<=140737488355328/\x3.n+(Sl.of [y6]:Sl (Sl Sound)).n<=140737488355328))then
     if ((l.If.n:Int)==0) then
      a y6 (x2.push x4) (x3.push y6) (wrap .i64 ((wrap .i64 (x4-(l.If.n:Int)))-1))
     else
      a y6 (x2.push x4) (x3.push y6) (wrap .i64 (x4-(l.If.n:Int)))
    else none
 else
  some (x2,x3,0)
theorem Az8 {N:Nat}(hN:3000<=N){l l' : Law}(hf:AQ4 l)(r:LE l l'):∀(m:Nat) (w w' : Sl Sound) (i:Int),SE w w' -> w.n<=100->(∀j,j<w.n->vS (w.g j)) -> -100<=i->i+1<=m->m<=200 ->
 ∃L L',(∀M,m<M->P6 M (An7 N l) w i=some L)/\vL L/\L.length<=m/\RL L L' /\ ∀M x2 x3,m<M->x2.n+m<=1000->x3.n+m<=1000->Aq8 M (An8 N l') w' x2 x3 i=some (Kn x2 x3 L'):=by
 obtain⟨hl,_,_,hk,x,y,_,_⟩:=hf;have h6:=x.1;obtain⟨z,_,_,a0,a1,_,_,_⟩:=WZ r ⟨hl,‹_›, ‹_›,hk,x,y,‹_›, ‹_›⟩;have c:l'.If.n=l.If.n:=r.cond.1.symm;have hof:l'.Out.n=l.Out.n:=r.out.1.symm;intro m
 induction m with
 |zero=>
  intro w w' i a hn d hi hm a2;have a3:=a.1;refine⟨[],[],fun M f=>?_,Uy,AZ7 _,trivial,fun M x2 x3 f _ _=>?_⟩
  ·obtain⟨M,rfl⟩:∃K,M=K+1:=⟨M-1,by omega⟩;rw[E7,An7,if_neg (by simp;omega)]
  ·obtain⟨M,rfl⟩:∃K,M=K+1:=⟨M-1,by omega⟩;rw[U1,An8,c,if_neg (by simp;omega),Kn]
 |succ m ih=>
  intro w w' i a hn d hi hm a2;have a3:=a.1;by_cases hle:0<=i
  case neg=>
   refine⟨[],[],fun M f=>?_,Uy,by simp,trivial,fun M x2 x3 f _ _=>?_⟩
   ·obtain⟨M,rfl⟩:∃K,M=K+1:=⟨M-1,by omega⟩;rw[E7,An7,if_neg (by simp;omega)]
   ·obtain⟨M,rfl⟩:∃K,M=K+1:=⟨M-1,by omega⟩;rw[U1,An8,c,if_neg (by simp;omega),Kn]
  obtain⟨k,rfl⟩:∃k:Nat,i=(k:Int):=⟨i.toNat,by omega⟩;have hw:okW w:=⟨by omega,fun j hj=>(d j hj).ok⟩;have s:=a.v d;have hw' : okW w':=⟨by omega,fun j hj=>(s j hj).ok⟩;obtain⟨b,e1,h1⟩:=Am7 hN hl hk hw k (by omega);obtain⟨b',e2,h2⟩:=RW hN z a0 hw' k (by omega);obtain rfl:b' = b:=by rw[Bc4,h1,h2,Iy r a]
  cases b'
  ·obtain⟨L,L',g1,g2,g3,g5,g4⟩:=ih w w' ((k:Int)-1) a hn d (by omega) (by omega) (by omega);refine⟨L,L',fun M f=>?_,g2,by omega,g5,fun M x2 x3 f hx hy=>?_⟩
   ·obtain⟨M,rfl⟩:∃K,M=K+1:=⟨M-1,by omega⟩;rw[E7,An7,if_pos (by simp),e1,AZ4,if_pos nf,F3 (by omega) (by omega)];exact g1 M (by omega)
   ·obtain⟨M,rfl⟩:∃K,M=K+1:=⟨M-1,by omega⟩;rw[U1,An8,c,if_pos (by simp),e2,AZ4,if_pos nf,F3 (by omega) (by omega)];exact g4 M x2 x3 (by omega) (by omega) (by omega)
  ·have t:=h1.1 rfl;have hle:=t.1;have hw32:=t.2.2.2.2.1.1;have r1:=(FP (N:=N) (by omega) x (by omega) d hle).1;have r2:=(FP (N:=N) (l:=l') (w:=w') (i:=k) (by omega) a1 (by omega) s (by omega)).2;have o:=Lc (N:=N) r a hle;have hrn:=o.1;obtain⟨_,_,p3,p4⟩:=Hc (N:=N) (by omega) x d hle;obtain⟨q1,q2⟩:=An3 hle d p4;have q1:(Z4 N l w k).n=w.n-l.If.n+l.Out.n:=by rw[<- p3];exact q1
   have q2:∀j,j<(Z4 N l w k).n->vS ((Z4 N l w k).g j):=q2;obtain⟨L,L',g1,g2,g3,g5,g4⟩:=ih (Z4 N l w k) (Z4 N l' w' k) (if l.If.n=0 then (k:Int)-1 else (k:Int)-l.If.n) o (by omega) q2 (by split<;>omega) (by split<;>omega) (by omega);refine⟨((k:Int),Z4 N l w k)::L,((k:Int),Z4 N l' w' k)::L',fun M f=>?_,Xa q2 g2,by simp;omega,⟨rfl,o,g5⟩,fun M x2 x3 f hx hy=>?_⟩
   ·obtain⟨M,rfl⟩:∃K,M=K+1:=⟨M-1,by omega⟩;rw[E7,An7,if_pos (by simp),e1,AZ4,if_neg (by simp),r1,AZ4];have g1:=g1 M (by omega);by_cases q:l.If.n=0
    ·rw[if_pos q]at g1;rw[if_pos (by omega),F3 (by omega) (by omega),g1];rfl
    ·rw[if_neg q]at g1;rw[if_neg (by omega),F3 (by omega) (by omega),g1];rfl
   ·obtain⟨M,rfl⟩:∃K,M=K+1:=⟨M-1,by omega⟩;rw[U1,An8,c,if_pos (by simp),e2,AZ4,if_neg (by simp),r2,AZ4,Kn];by_cases u:32<(Z4 N l' w' k).n
    ·rw[if_pos (by simp;omega),if_pos u]
    rw[if_neg (by simp;omega),if_neg u,if_pos (by show ((x2.n+1)*8<=_/\x2.n+1<=_)/\(x3.n+1)*24<=_/\x3.n+1<=_;omega)];have g4:=g4 M (x2.push (k:Int)) (x3.push (Z4 N l' w' k)) (by omega) (by show x2.n+1+m<=_;omega) (by show x3.n+1+m<=_;omega);rw[F3 (n:=(k:Int)-(l.If.n:Int)) (by omega) (by omega)];by_cases q:l.If.n=0
    ·rw[if_pos q]at g4;rw[if_pos (by simp[q]),F3 (by omega) (by omega),show (k:Int)-(l.If.n:Int)-1=(k:Int)-1 by omega,g4]
    ·rw[if_neg q]at g4;rw[if_neg (by simp[q]),g4]
end Go.AM
namespace Go.AM
open IntKind (wrap)
open Go.Proofs
abbrev AllS:=Sl Sound×Int×Int
def Lx (N:Nat)(l:Law)(q0:Sl Sound)(a:AllS->Option Ux)(x1:Int)(z1:AllS):Option Ux:=
 if (decide (x1<z1.2.1)) then
  a (z1.1,z1.2.1,z1.2.2)
 else
  if (((0:Int)<=(wrap .i64 (x1+z1.2.2))/\(wrap .i64 (x1+z1.2.2))<=(z1.1.n:Int))/\((0:Int)<=x1/\x1<=(wrap .i64 (x1+(l.If.n:Int)))/\(wrap .i64 (x1+(l.If.n:Int)))<=(q0.n:Int)))then
   (N9 N l (q0.sub x1.toNat (wrap .i64 (x1+(l.If.n:Int))).toNat)).bind fun y6=>
   if ((0:Int)<=(wrap .i64 (x1+(l.If.n:Int)))/\(wrap .i64 (x1+(l.If.n:Int)))<=(q0.n:Int))then
    (B1 N (Sl.of [z1.1.take (wrap .i64 (x1+z1.2.2)).toNat,y6,q0.drop (wrap .i64 (x1+(l.If.n:Int))).toNat]:Sl (Sl Sound))).bind fun y7=>
    Ap (x1,y7) (
     a (y7,wrap .i64 (x1+(if (l.If.n:Int)<1 then 1 else (l.If.n:Int))),wrap .i64 ((wrap .i64 (z1.2.2+(l.Out.n:Int)))-(l.If.n:Int)))
     )
   else none
  else none
def AQ7 (N:Nat)(a:Law)(b:Sl Sound)(c:Sl Int->Sl (Sl Sound)->Sl Sound->Int->Option Az7)(x2:Sl Int)(x3:Sl (Sl Sound))(x4:Sl Sound)(x5:Int):Option Az7:=
 if (decide (x5<=(b.n:Int))) then
  (AI N a b x5).bind fun y5=>
  if (!y5) then
   lt (fun (z3:Sl Sound)=>
    c x2 x3 z3 (wrap .i64 (x5+1))
    ) fun k3=>
    if (decide (x5<(b.n:Int))) then
     if (((0:Int)<=x5/\x5<(b.n:Int))/\((x4.n+(Sl.of [b.g x5.toNat]:Sl Sound).n)*8<=140737488355328/\x4.n+(Sl.of [b.g x5.toNat]:Sl Sound).n<=140737488355328))then
      k3 (x4.push (b.g x5.toNat))
     else none
    else
     k3 x4
  else
   if ((0:Int)<=x5/\x5<=(wrap .i64 (x5+(a.If.n:Int)))/\(wrap .i64 (x5+(a.If.n:Int)))<=(b.n:Int))then
    (BI N a (b.sub x5.toNat (wrap .i64 (x5+(a.If.n:Int))).toNat)).bind fun y6=>
    if ((x4.n+y6.n)*8<=140737488355328/\x4.n+y6.n<=140737488355328)then
     if ((x2.n+(Sl.of [x5]:Sl Int).n)*8<=140737488355328/\x2.n+(Sl.of [x5]:Sl Int).n<=140737488355328)then
      if (((((Sl.of []:Sl Sound).n+(x4.app y6).n)*8<=140737488355328/\(Sl.of []:Sl Sound).n+(x4.app y6).n<=140737488355328)/\((0:Int)<=(wrap .i64 (x5+(a.If.n:Int)))/\(wrap .i64 (x5+(a.If.n:Int)))<=(b.n:Int)))/\((((Sl.of []:Sl Sound).app (x4.app y6)).n+(b.drop (wrap .i64 (x5+(a.If.n:Int))).toNat).n)*8<=140737488355328/\((Sl.of []:Sl Sound).app (x4.app y6)).n+(b.drop (wrap .i64 (x5+(a.If.n:Int))).toNat).n<=140737488355328))then
       if (decide (32<((((Sl.of []:Sl Sound).app (x4.app y6)).app (b.drop (wrap .i64 (x5+(a.If.n:Int))).toNat)).n:Int))) then
        some ((Sl.nil:Sl Int),(Sl.nil:Sl (Sl Sound)),11)
       else
        if ((x3.n+(Sl.of [((Sl.of []:Sl Sound).app (x4.app y6)).app (b.drop (wrap .i64 (x5+(a.If.n:Int))).toNat)]:Sl (Sl Sound)).n)*24<=140737488355328/\x3.n+(Sl.of [((Sl.of []:Sl Sound).app (x4.app y6)).app (b.drop (wrap .i64 (x5+(a.If.n:Int))).toNat)]:Sl (Sl Sound)).n<=140737488355328)then
         if ((a.If.n:Int)==0) then
          if (decide ((wrap .i64 (x5+(a.If.n:Int)))<(b.n:Int))) then
           if (((0:Int)<=(wrap .i64 (x5+(a.If.n:Int)))/\(wrap .i64 (x5+(a.If.n:Int)))<(b.n:Int))/\(((x4.app y6).n+(Sl.of [b.g (wrap .i64 (x5+(a.If.n:Int))).toNat]:Sl Sound).n)*8<=140737488355328/\(x4.app y6).n+(Sl.of [b.g (wrap .i64 (x5+(a.If.n:Int))).toNat]:Sl Sound).n<=140737488355328))then
            c (x2.push x5) (x3.push (((Sl.of []:Sl Sound).app (x4.app y6)).app (b.drop (wrap .i64 (x5+(a.If.n:Int))).toNat))) ((x4.app y6).push (b.g (wrap .i64 (x5+(a.If.n:Int))).toNat)) (wrap .i64 ((wrap .i64 (x5+(a.If.n:Int)))+1))
           else none
          else
           c (x2.push x5) (x3.push (((Sl.of []:Sl Sound).app (x4.app y6)).app (b.drop (wrap .i64 (x5+(a.If.n:Int))).toNat))) (x4.app y6) (wrap .i64 ((wrap .i64 (x5+(a.If.n:Int)))+1))
         else
          c (x2.push x5) (x3.push (((Sl.of []:Sl Sound).app (x4.app y6)).app (b.drop (wrap .i64 (x5+(a.If.n:Int))).toNat))) (x4.app y6) (wrap .i64 (x5+(a.If.n:Int)))
        else none
      else none
     else none
    else none
   else none
 else
  some (x2,x3,0)
abbrev vW (s:Sl Sound):Prop:=∀j,j<s.n->vS (s.g j)
theorem AF4 {s t:Sl Sound}(h:vW s)(h' : vW t):vW (s.app t):=fun j a=>by
 have a:j<s.n+t.n:=a;show vS (if j<s.n then s.g j else t.g (j-s.n));split
 ·exact h j (by assumption)
 ·exact h' _ (by omega)
theorem AO2 {s:Sl Sound}(h:vW s)(k:Nat):vW (s.drop k):=fun j a=>h _ (by have a:j<s.n-k:=a;omega)
theorem AO3 {s:Sl Sound}(h:vW s){k:Nat}(hk:k<=s.n):vW (s.take k):=fun j a=>h _ (by have a:j<k:=a;omega)
theorem UB {x s:Sl Sound}{i:Nat}(b:i<s.n):SE (x.app (s.drop i)) ((x.push (s.g i)).app (s.drop (i+1))):=⟨by show x.n+(s.n-i)=x.n+1+(s.n-(i+1));omega,fun j _=>by
 show (if j<x.n then x.g j else s.g (i+(j-x.n)))=if j<x.n+1 then (if j<x.n then x.g j else s.g i)else s.g (i+1+(j-(x.n+1)))
 by_cases h1:j<x.n
 ·rw[if_pos h1,if_pos (by omega),if_pos h1]
 ·rw[if_neg h1];by_cases a:j=x.n
  ·rw[if_pos (by omega),if_neg h1,a];simp
  ·rw[if_neg (by omega)];congr 1;omega⟩
theorem Az9 {a x t:Sl Sound}(h:SE a (x.app t)):SE (a.take x.n) x:=⟨rfl,fun j b=>by
 have b:j<x.n:=b;have hn:a.n=x.n+t.n:=h.1;have e:a.g j=if j<x.n then x.g j else t.g (j-x.n):=h.2 j (by omega)
 rw[if_pos b]at e;exact e⟩
theorem Yr {N:Nat}{l:Law}{w:Sl Sound}{K:AllS->Option Ux}{acc:Sl Sound}{next sh:Int}:∀(d i:Nat),((i+d:Nat):Int)<=next->P7 (EA l w i) (Lx N l w) K (acc,next,sh)=P7 (EA l w (i+d)) (Lx N l w) K (acc,next,sh)
 |0,i,_=>rfl
 |d+1,i,h=>by
  have ih:=Yr (N:=N) (l:=l) (w:=w) (K:=K) (acc:=acc) (next:=next) (sh:=sh) d (i+1) (by omega);rw[show i+(d+1)=i+1+d by omega,<- ih];by_cases a:Qq l w i
  ·rw[JC (by have:=a.1;omega) a];show Lx N l w (P7 (EA l w (i+1)) (Lx N l w) K) (i:Int) (acc,next,sh)=_;unfold Lx;rw[if_pos (by simp;omega)]
  ·rw[JD a]
theorem AO4 {N:Nat}(hN:3000<=N){l l' : Law}(hf:AQ4 l)(he:LE l l'){w w' : Sl Sound}(b:SE w w')(hn:w.n<=32)(hv:vW w):∀(m i:Nat) (x4 acc:Sl Sound) (sh next:Int),i<=w.n+1->w.n+1<=i+m ->
 (i<=w.n->SE acc (x4.app (w'.drop i))/\(x4.n:Int)=i+sh)->next<=i->x4.n<=7*i->vW acc -> -1000<=sh->sh<=1000 ->
 ∃L L',P7 (EA l w i) (Lx N l w) (fun _=>some []) (acc,next,sh)=some L/\vL L/\L.length<=m/\RL L L' /\ ∀M x2 x3,m<M->x2.n+m<=1000->x3.n+m<=1000->Aq8 M (AQ7 N l' w') x2 x3 x4 i=some (Kn x2 x3 L'):=by
 obtain⟨hl,_,_,hk,ho,hko,_,_⟩:=hf;have h6:=ho.1;obtain⟨hl',_,_,hk',ho',_,_,_⟩:=WZ he ⟨hl,‹_›, ‹_›,hk,ho,hko,‹_›, ‹_›⟩;have d:l'.If.n=l.If.n:=he.cond.1.symm;have hn':=b.1;have hw:okW w:=⟨by omega,fun j hj=>(hv j hj).ok⟩;have r : vW w':=b.v hv;have hw' : okW w':=⟨by omega,fun j hj=>(r j hj).ok⟩;have fin:∀(m i:Nat) (x4 acc:Sl Sound) (sh next:Int),w.n<i->∃L L',P7 (EA l w i) (Lx N l w) (fun _=>some []) (acc,next,sh)=some L/\vL L/\L.length<=m/\RL L L' /\ ∀M x2 x3,m<M->x2.n+m<=1000->x3.n+m<=1000->Aq8 M (AQ7 N l' w') x2 x3 x4 i=some (Kn x2 x3 L'):=by
  intro m i x4 acc sh next hi
  refine⟨[],[],by rw[Kl (by omega)];rfl,Uy,by simp,trivial,fun M x2 x3 hM _ _=>?_⟩;obtain⟨M,rfl⟩:∃K,M=K+1:=⟨M-1,by omega⟩;rw[U1,AQ7,if_neg (by simp;omega),Kn]
 intro m
 induction m with
 |zero=>exact fun i x4 acc sh next h1 t _ _ _ _ _ _=>fin 0 i x4 acc sh next (by omega)
 |succ m ih=>
  intro i x4 acc sh next hi hm hx hnx h7 f u x
  by_cases hle:i<=w.n
  case neg=>exact fin _ i x4 acc sh next (by omega)
  obtain⟨o,hnn⟩:=hx hle;have han:acc.n=x4.n+(w.n-i):=by rw[o.1];show x4.n+(w'.n-i)=_;omega
  obtain⟨b',e2,t⟩:=RW hN hl' hk' hw' i (by omega);have t:=t.trans (Iy he b).symm;cases b'
  ·have hno:¬Qq l w i:=fun h=>by have:=t.2 h;cases this
   rw[JD hno];by_cases y:i<w.n
   ·obtain⟨L,L',g1,g2,g3,g5,g4⟩:=ih (i+1) (x4.push (w'.g i)) acc sh next (by omega) (by omega) (fun _=>⟨o.trans (UB (by omega)),by show ((x4.n+1:Nat):Int)=_;omega⟩) (by omega) (by show x4.n+1<=_;omega) f u x
    refine⟨L,L',g1,g2,by omega,g5,fun M x2 x3 hM hx hy=>?_⟩;obtain⟨M,rfl⟩:∃K,M=K+1:=⟨M-1,by omega⟩;rw[U1,AQ7,d,if_pos (by simp;omega),e2,AZ4,if_pos nf,lt,if_pos (by simp;omega),if_pos ⟨by omega,by show (x4.n+1)*8<=_/\x4.n+1<=_;omega⟩,C4 (by omega),AZ1];exact g4 M x2 x3 (by omega) (by omega) (by omega)
   ·obtain⟨L,L',g1,g2,g3,g5,g4⟩:=ih (i+1) x4 acc sh next (by omega) (by omega) (fun h=>by omega) (by omega) (by omega) f u x
    refine⟨L,L',g1,g2,by omega,g5,fun M x2 x3 hM hx hy=>?_⟩;obtain⟨M,rfl⟩:∃K,M=K+1:=⟨M-1,by omega⟩;rw[U1,AQ7,d,if_pos (by simp;omega),e2,AZ4,if_pos nf,lt,if_neg (by simp;omega),C4 (by omega)];exact g4 M x2 x3 (by omega) (by omega) (by omega)
  ·have z:=t.1 rfl;have a0:=z.1;rw[JC hle z];obtain⟨p1,_,p3,p4⟩:=Hc (N:=N) (by omega) ho hv a0;obtain⟨_,p2,_,_⟩:=Hc (N:=N) (l:=l') (i:=i) (by omega) ho' r (by omega);rw[<- NO he b a0,d]at p2;generalize hY:Hy N l w i=Y at p1 p2 p3 p4;have c:SE (((acc.take x4.n).app Y).app (w.drop (i+l.If.n))) ((x4.app Y).app (w'.drop (i+l.If.n))):=((Az9 o).app (SE.refl _)).app (b.drop _);have q:vW (((acc.take x4.n).app Y).app (w.drop (i+l.If.n))):=AF4 (AF4 (AO3 f (by omega)) p4) (AO2 hv _);generalize hZ:(((acc.take x4.n).app Y).app (w.drop (i+l.If.n)))=Z at c q;have hZn:Z.n=x4.n+Y.n+(w.n-(i+l.If.n)):=by rw[<- hZ]
   obtain⟨L,L',g1,g2,g3,g5,g4⟩:=ih (if l.If.n=0 then i+1 else i+l.If.n) (if l.If.n=0/\i<w.n then (x4.app Y).push (w'.g i)else x4.app Y) Z (sh+l.Out.n-l.If.n) (if l.If.n=0 then i+1 else i+l.If.n:Nat)
    (by split<;>omega) (by split<;>omega)
    (fun h=>by
     by_cases a:l.If.n=0
     ·rw[if_pos a]at h;rw[if_pos a,if_pos ⟨a,by omega⟩];rw[a]at c;exact⟨c.trans (UB (by omega)),by show ((x4.n+Y.n+1:Nat):Int)=_;omega⟩
     ·rw[if_neg a,if_neg (by omega)];exact⟨c,by show ((x4.n+Y.n:Nat):Int)=_;omega⟩)
    (by omega)
    (by
     by_cases a:l.If.n=0
     ·rw[if_pos a];split
      ·show x4.n+Y.n+1<=_;omega
      ·show x4.n+Y.n<=_;omega
     ·rw[if_neg a,if_neg (by omega)];show x4.n+Y.n<=_;omega)
    q (by omega) (by omega)
   refine⟨((i:Int),Z)::L,((i:Int),(x4.app Y).app (w'.drop (i+l.If.n)))::L', ?_,Xa q g2,by simp;omega,⟨rfl,c,g5⟩,fun M x2 x3 hM hx hy=>?_⟩
   ·show Lx N l w (P7 (EA l w (i+1)) (Lx N l w) fun _=>some []) (i:Int) (acc,next,sh)=_;unfold Lx;have es:wrap .i64 ((i:Int)+sh)=((x4.n:Nat):Int):=by rw[F3 (by omega) (by omega),hnn]
    simp only[es];rw[DZ (by omega),if_neg (by simp;omega),if_pos (by omega)];simp only[AZ1];rw[p1,AZ4,if_pos (by omega),An4 (by omega) (by show x4.n<=_;omega) (by omega) (by show w.n-(i+l.If.n)<=_;omega),AZ4,hZ];have en:wrap .i64 ((i:Int)+(if (l.If.n:Int)<1 then 1 else (l.If.n:Int)))=((if l.If.n=0 then i+1 else i+l.If.n:Nat):Int):=by
     by_cases a:l.If.n=0
     ·rw[if_pos (by omega),if_pos a,F3 (by omega) (by omega)];omega
     ·rw[if_neg (by omega),if_neg a,F3 (by omega) (by omega)];omega
    have eh:wrap .i64 ((wrap .i64 (sh+(l.Out.n:Int)))-(l.If.n:Int))=sh+l.Out.n-l.If.n:=by rw[F3 (n:=sh+(l.Out.n:Int)) (by omega) (by omega),F3 (by omega) (by omega)]
    rw[en,eh];have sk:=Yr (N:=N) (l:=l) (w:=w) (K:=fun _=>some []) (acc:=Z) (next:=((if l.If.n=0 then i+1 else i+l.If.n:Nat):Int)) (sh:=sh+l.Out.n-l.If.n) (if l.If.n=0 then 0 else l.If.n-1) (i+1) (by split<;>omega);rw[show i+1+(if l.If.n=0 then 0 else l.If.n-1)=(if l.If.n=0 then i+1 else i+l.If.n) by split<;>omega]at sk;show Ap _ (P7 (EA l w (i+1)) (Lx N l w) (fun _=>some []) (Z,_,_))=_;rw[sk,g1];rfl
   ·obtain⟨M,rfl⟩:∃K,M=K+1:=⟨M-1,by omega⟩;have hdn:((x4.app Y).app (w'.drop (i+l.If.n))).n=x4.n+Y.n+(w'.n-(i+l.If.n)):=rfl;rw[U1,AQ7,d,if_pos (by simp;omega),e2,AZ4,if_neg (by simp),DZ (by omega),if_pos (by omega)];simp only[AZ1];rw[p2,AZ4,if_pos (by omega),if_pos (by show (x2.n+1)*8<=_/\x2.n+1<=_;omega)];rw[if_pos ⟨⟨by show (0+(x4.n+Y.n))*8<=_/\0+(x4.n+Y.n)<=_;omega,by omega⟩,by simp only[Bj5];omega⟩,Kn];by_cases a1:32<((x4.app Y).app (w'.drop (i+l.If.n))).n
    ·rw[if_pos (by simp only[decide_eq_true_eq,Bj5];omega),if_pos a1]
    rw[if_neg (by simp only[decide_eq_true_eq,Bj5];omega),if_neg a1,AQ5 (s:=(Sl.of []:Sl Sound)) rfl,if_pos (by show (x3.n+1)*24<=_/\x3.n+1<=_;omega)];have g4:=g4 M (x2.push (i:Int)) (x3.push ((x4.app Y).app (w'.drop (i+l.If.n)))) (by omega) (by show x2.n+1+m<=_;omega) (by show x3.n+1+m<=_;omega);by_cases a:l.If.n=0
    ·rw[if_pos (by simp[a])];rw[if_pos a]at g4;by_cases y:i<w.n
     ·rw[if_pos ⟨a,y⟩]at g4;rw[if_pos (by simp only[decide_eq_true_eq];omega),if_pos ⟨by omega,by show (x4.n+Y.n+1)*8<=_/\x4.n+Y.n+1<=_;omega⟩,C4 (by omega),show w'.g (i+l.If.n)=w'.g i by rw[a];rfl,show i+l.If.n+1=i+1 by omega];exact g4
     ·rw[if_neg (by omega)]at g4;rw[if_neg (by simp only[decide_eq_true_eq];omega),C4 (by omega),show i+l.If.n+1=i+1 by omega];exact g4
    ·rw[if_neg (by simp[a])];rw[if_neg a,if_neg (by omega)]at g4;exact g4
def trS (r r' : Az7):Prop:=r.1=r'.1/\r.2.1.n=r'.2.1.n/\(∀i,i<r.2.1.n->SE (r.2.1.g i) (r'.2.1.g i))/\r.2.2=r'.2.2
theorem AF5:∀(L L' : Ux) (x:Sl Int) (y y' : Sl (Sl Sound)),RL L L' -> y.n=y'.n->(∀i,i<y.n->SE (y.g i) (y'.g i))->trS (Kn x y L) (Kn x y' L')
 |[],[],x,y,y',_,h1,h2=>⟨rfl,h1,h2,rfl⟩
 |(p,v)::L,(q,u)::M,x,y,y',⟨h3,h4,h5⟩,h1,h2=>by
  subst h3;unfold Kn;rw[<- h4.1];split
  ·exact⟨rfl,rfl,fun i a=>absurd a (Be7 i),rfl⟩
  ·refine AF5 L M _ _ _ h5 (by show y.n+1=y'.n+1;omega) fun i a=>?_;have a:i<y.n+1:=a;show SE (if i<y.n then y.g i else v) (if i<y'.n then y'.g i else u);rw[<- h1];split
   ·exact h2 i (by assumption)
   ·exact h4
 |[],_::_,_,_,_,h,_,_=>h.elim
 |_::_,[],_,_,_,h,_,_=>h.elim
theorem An9:∀(L:Ux) (x:Sl Int) (y:Sl (Sl Sound)),vL L->(∀i,i<y.n->wOk (y.g i))->(Kn x y L).2.2=11 \/ ((Kn x y L).2.2=0/\(Kn x y L).2.1.n<=y.n+L.length/\∀i,i<(Kn x y L).2.1.n->wOk ((Kn x y L).2.1.g i))
 |[],x,y,_,h=>.inr ⟨rfl,AZ7 _,h⟩
 |(p,v)::L,x,y,hv,h=>by
  unfold Kn;split
  ·exact .inl rfl
  ·have:=An9 L (x.push p) (y.push v) (fun z b=>hv z (Bb6 _ b)) fun i d=>by
    show wOk (if i<y.n then y.g i else v);split
    ·exact h i (by assumption)
    ·exact⟨by omega,hv (p,v) (by simp)⟩
   rcases this with h|⟨h1,a,c⟩
   ·exact .inl h
   ·refine .inr ⟨h1,?_,c⟩;have a:_<=y.n+1+L.length:=a;simp only[Bc6];omega
theorem UC:∀(L:Ux) (x:Sl Int) (y:Sl (Sl Sound)),x.n+L.length<=100000->y.n+L.length<=100000 ->
 P7 L (fun (a:Sl Int×Sl (Sl Sound)->Option Az7) (x1:Int×(Sl Sound)) (z1:(Sl Int)×(Sl (Sl Sound)))=>
  if (decide (32<(x1.2.n:Int))) then
   some ((Sl.nil:Sl Int),(Sl.nil:Sl (Sl Sound)),11)
  else
   if ((z1.1.n+(Sl.of [x1.1]:Sl Int).n)*8<=140737488355328/\z1.1.n+(Sl.of [x1.1]:Sl Int).n<=140737488355328)then
    if ((z1.2.n+(Sl.of [x1.2]:Sl (Sl Sound)).n)*24<=140737488355328/\z1.2.n+(Sl.of [x1.2]:Sl (Sl Sound)).n<=140737488355328)then
     a (z1.1.push x1.1,z1.2.push x1.2)
    else none
   else none
  ) (fun (z1:(Sl Int)×(Sl (Sl Sound)))=>
   some (z1.1,z1.2,0)
  ) (x,y)=some (Kn x y L)
 |[],x,y,_,_=>rfl
 |(p,v)::L,x,y,hx,hy=>by
  simp only[Bc6]at hx hy;have ih:=UC L (x.push p) (y.push v) (by show x.n+1+_<=_;omega) (by show y.n+1+_<=_;omega);rw[P7,Kn];by_cases h:32<v.n
  ·rw[if_pos (by simp;omega),if_pos h]
  ·rw[if_neg (by simp;omega),if_neg h,if_pos (by show (x.n+1)*8<=_/\x.n+1<=_;omega),if_pos (by show (y.n+1)*24<=_/\y.n+1<=_;omega)];exact ih
def trE (N:Nat)(l:Law)(w:Sl Sound)(r:Az7):Prop:=(r.2.2=17/\¬chkAll N l) \/ (chkAll N l/\Ym w r.2.2/\r.2.2≠0) \/ (chkAll N l/\wOk w/\(r.2.2=11 \/ (r.2.2=0/\r.2.1.n<=1000/\∀i,i<r.2.1.n->wOk (r.2.1.g i))))
theorem Ao0 (e:Int):trS ((Sl.nil:Sl Int),(Sl.nil:Sl (Sl Sound)),e) ((Sl.nil:Sl Int),(Sl.nil:Sl (Sl Sound)),e):=⟨rfl,rfl,fun i a=>absurd a (Be7 i),rfl⟩
theorem AF6 {w w' : Sl Sound}(h:SE w w'){e:Int}(hw:Ym w e):Ym w' e:=by
 rcases hw with⟨h1,a⟩ | ⟨h1,⟨i,b,a⟩,c⟩ | ⟨h1,a⟩
 ·exact .inl ⟨by rw[<- h.1];exact h1,a⟩
 ·exact .inr (.inl ⟨by rw[<- h.1];exact h1,⟨i,by rw[<- h.1];exact b,by rw[<- h.2 i b];exact a⟩,c⟩)
 ·exact .inr (.inr ⟨h.wOk h1,a⟩)
theorem AX6 {w w' : Sl Sound}(h:SE w w')(hw:∀i,i<w.n->okS (w.g i)):∀i,i<w'.n->okS (w'.g i):=fun i a=>by rw[<- h.2 i (by rw[h.1];exact a)];exact hw i (by rw[h.1];exact a)
theorem Ao1 {N:Nat}(u:3000000<=N){l l' : Law}(hl:Lw l)(hle:LE l l'){w w' : Sl Sound}(a:SE w w')(hw:∀i,i<w.n->okS (w.g i)) :∃r r',DQ N l w=some r/\DO N l' w' = some r' /\ trS r r' /\ trE N l w r:=by
 obtain⟨e,e1,_,v⟩:=Fc u hl;obtain⟨e0,_,e2,q⟩:=Fc u (Yq hle hl);obtain rfl:=Uv (AO1 hle v) q;unfold DQ DO FI FG;rw[e1,e2,AZ4,AZ4];rcases v with⟨rfl,hc⟩ | ⟨rfl,hc⟩
 case inr=>rw[if_pos (by decide),if_pos (by decide)];exact⟨_,_,rfl,rfl,Ao0 17,.inl ⟨rfl,hc⟩⟩
 rw[if_neg (by decide),if_neg (by decide)];obtain⟨e',e3,c⟩:=Hb (N:=N) (by omega) hw;obtain⟨e'',e4,j⟩:=Fb (N:=N) (by omega) (AX6 a hw);obtain rfl:=NM (AF6 a c) j;rw[e3,e4];simp only[AZ4];by_cases d:e' = 0
 case neg=>rw[if_pos (by simpa using d),if_pos (by simpa using d)];exact⟨_,_,rfl,rfl,Ao0 e', .inr (.inl ⟨hc,c,d⟩)⟩
 rw[if_neg (by simp[d]),if_neg (by simp[d])];have b:wOk w:=(U9 c).1 d;have o:=hc.f hl;obtain⟨s,_,_,hk,ho,y,z,a0⟩:=id o;have hn:=b.1;have t:=a.1;have key:∃L L',Ci N w l (l.If.n:Int) (l.Out.n:Int)=some L/\vL L/\L.length<=100/\RL L L' /\
  (if (l'.Mode==1) then (GQ N l' w').bind fun y2=>some (y2.1,y2.2.1,y2.2.2)
   else if (l'.Mode==2) then (DN N l' w').bind fun y3=>some (y3.1,y3.2.1,y3.2.2)
   else (Dl N l' w').bind fun y4=>some (y4.1,y4.2.1,y4.2.2))=some (Kn (Sl.nil:Sl Int) (Sl.nil:Sl (Sl Sound)) L'):=by
  unfold Ci;rw[hle.mode];by_cases c1:l.Mode=1
  ·rw[if_pos (show (l.Mode==1)=true by simp[c1]),if_pos (show (l.Mode==1)=true by simp[c1])];obtain⟨L,L',g1,g2,g3,g5,g4⟩:=AO4 (N:=N) (by omega) o hle a hn b.2 (w.n+1) 0 (Sl.nil:Sl Sound) w 0 0 (by omega) (by omega) (fun _=>⟨by rw[AQ5 rfl];exact⟨a.1,fun i m=>by rw[a.2 i m];show _=w'.g (0+i);rw[Bc7]⟩,rfl⟩) (by omega) (by show 0<=_;omega) b.2 (by omega) (by omega);have hh:=Yo (N:=N) (by omega) s hk (w:=w) (vOk b) 0 (by omega);refine⟨L,L', ?_,g2,by omega,g5,?_⟩
   ·show ((Y7 N l w ((0:Nat):Int)).bind fun L1=>P7 L1 (Lx N l w) (fun _=>some []) (w,0,0))=_;rw[hh,AZ4];exact g1
   ·have:GQ N l' w' = some _:=g4 N (Sl.nil:Sl Int) (Sl.nil:Sl (Sl Sound)) (by omega) (by show 0+_<=_;omega) (by show 0+_<=_;omega)
    rw[this];rfl
  rw[if_neg (show ¬(l.Mode==1)=true by simp[c1]),if_neg (show ¬(l.Mode==1)=true by simp[c1])];by_cases c2:l.Mode=2
  ·rw[if_pos (show (l.Mode==2)=true by simp[c2]),if_pos (show (l.Mode==2)=true by simp[c2])];obtain⟨L,L',g1,g2,g3,g5,g4⟩:=An6 (N:=N) (by omega) o hle (w.n+1) w w' 0 a (by omega) b.2 (by omega) (by omega);refine⟨L,L',g1 N (by omega),g2,by omega,g5,?_⟩
   have:DN N l' w' = some _:=g4 N (Sl.nil:Sl Int) (Sl.nil:Sl (Sl Sound)) (by omega) (by show 0+_<=_;omega) (by show 0+_<=_;omega)
   rw[this];rfl
  ·have c3:l.Mode=3:=by omega
   rw[if_neg (show ¬(l.Mode==2)=true by simp[c2]),if_neg (show ¬(l.Mode==2)=true by simp[c2]),if_pos (show (l.Mode==3)=true by simp[c3])];obtain⟨L,L',g1,g2,g3,g5,g4⟩:=Az8 (N:=N) (by omega) o hle (w.n+1) w w' ((w.n:Int)-(l.If.n:Int)) a (by omega) b.2 (by omega) (by omega) (by omega);refine⟨L,L', ?_,g2,by omega,g5,?_⟩
   ·rw[F3 (by omega) (by omega)];exact g1 N (by omega)
   ·have g4:=g4 N (Sl.nil:Sl Int) (Sl.nil:Sl (Sl Sound)) (by omega) (by show 0+_<=_;omega) (by show 0+_<=_;omega)
    have:Dl N l' w' = some (Kn (Sl.nil:Sl Int) (Sl.nil:Sl (Sl Sound)) L'):=by unfold Dl;rw[show wrap .i64 ((w'.n:Int)-(l'.If.n:Int))=(w.n:Int)-(l.If.n:Int) by rw[<- t, <- hle.cond.1,F3 (by omega) (by omega)]];exact g4
    rw[this];rfl
 obtain⟨L,L',g1,g2,g3,g5,g4⟩:=key;refine⟨Kn (Sl.nil:Sl Int) (Sl.nil:Sl (Sl Sound)) L,_,?_,g4,AF5 L L' _ _ _ g5 rfl fun i m=>absurd m (Be7 i),.inr (.inr ⟨hc,b,?_⟩)⟩
 ·rw[Jw,AZ4];show ((Ci N w l (l.If.n:Int) (l.Out.n:Int)).bind _)=_;rw[g1,AZ4];exact UC L _ _ (by show 0+_<=_;omega) (by show 0+_<=_;omega)
 ·rcases An9 L (Sl.nil:Sl Int) (Sl.nil:Sl (Sl Sound)) g2 fun i m=>absurd m (Be7 i)with h|⟨h1,x,h3⟩
  ·exact .inl h
  ·exact .inr ⟨h1,by have x:_<=0+L.length:=x;omega,h3⟩
end Go.AM
namespace Go.AM
open IntKind (wrap)
open Go.Proofs
def apE (N:Nat)(l:Law)(w:Sl Sound)(r:Sl Sound×Int):Prop:=(r.2=17/\¬chkAll N l) \/ (chkAll N l/\Ym w r.2/\r.2≠0) \/ (chkAll N l/\wOk w/\(r.2=11 \/ (r.2=0/\wOk r.1)))
theorem UD {N:Nat}(o:3000000<=N){l l' : Law}(hl:Lw l)(hle:LE l l'){w w' : Sl Sound}(b:SE w w')(hw:∀i,i<w.n->okS (w.g i)) :∃r r',R5 N l w=some r/\Cf N l' w' = some r' /\ SE r.1 r'.1/\r.2=r'.2/\apE N l w r:=by
 obtain⟨⟨x,y,e⟩,⟨x',y',e'⟩,h1,q,⟨_,hn,hs,m⟩,ht⟩:=Ao1 o hl hle b hw;dsimp only at hn hs m;subst m;have t:=b.1;unfold trE at ht;dsimp only at ht;unfold R5 Cf;rw[h1,q,AZ4,AZ4];dsimp only;by_cases a:e=0
 case neg=>
  rw[if_pos (show (e != 0)=true by simpa using a),if_pos (show (e != 0)=true by simpa using a)];refine⟨_,_,rfl,rfl,SE.refl _,rfl,?_⟩;rcases ht with h|h|⟨j,c,d⟩
  ·exact .inl h
  ·exact .inr (.inl h)
  ·exact .inr (.inr ⟨j,c,.inl (d.resolve_right fun h=>a h.1)⟩)
 rw[if_neg (show ¬(e != 0)=true by simp[a]),if_neg (show ¬(e != 0)=true by simp[a])];rcases ht with h|h|⟨j,c,d⟩
 ·exact absurd (h.1.symm.trans a) (by decide)
 ·exact absurd a h.2.2
 rcases d with d|⟨_,h6,u⟩
 ·exact absurd (d.symm.trans a) (by decide)
 have v:=c.1;by_cases hy:y.n=0
 ·rw[if_neg (show ¬decide ((0:Int)<(y.n:Int))=true by simp[hy]),if_pos (show ((y'.n:Int)==0)=true by simp[<- hn,hy]),if_pos (by show (0+w'.n)*8<=_/\0+w'.n<=_;omega),AQ5 (s:=(Sl.of []:Sl Sound)) rfl];unfold A6;rw[if_pos (by omega)];exact⟨_,_,rfl,rfl,b,rfl,.inr (.inr ⟨j,c,.inr ⟨rfl,c⟩⟩)⟩
 ·have hk:=u (y.n-1) (by omega);have f:=hs (y.n-1) (by omega);have hb:=hk.1;have z:=f.1;have e1:wrap .i64 ((y.n:Int)-1)=((y.n-1:Nat):Int):=wrapP (by omega) (by omega);have e2:wrap .i64 ((y'.n:Int)-1)=((y.n-1:Nat):Int):=by rw[<- hn];exact e1
  rw[e1,e2,AZ1,if_pos (show decide ((0:Int)<(y.n:Int))=true by simp;omega),if_pos (by omega),if_neg (show ¬((y'.n:Int)==0)=true by simp;omega),if_pos ⟨by omega,by show (0+(y'.g (y.n-1)).n)*8<=_/\0+(y'.g (y.n-1)).n<=_;omega⟩,AQ5 (s:=(Sl.of []:Sl Sound)) rfl];exact⟨_,_,rfl,rfl,f,rfl,.inr (.inr ⟨j,c,.inr ⟨rfl,hk⟩⟩)⟩
theorem UE {N:Nat}{s:Sl Law}(m:s.n<N)(hs:s.n<1000000){f:Law->Option Bool}{b:Nat->Bool}(o:∀i,i<s.n->f (s.g i)=some (b i)) :∃r,D1 N s f=some r/\(r=true ↔ ∃i,i<s.n/\b i=true):=by
 unfold D1 F0
 have:∃y,W6 N (fun (a:Int->Option Int) (x1:Int)=>
  if (decide (x1<(s.n:Int))) then
   if ((0:Int)<=x1/\x1<(s.n:Int))then
    (f (s.g x1.toNat)).bind fun y3=>
    if y3 then
     some x1
    else
     a (wrap .i64 (x1+1))
   else none
  else
   some (-1)) 0=some y/\(0<=y ↔ ∃i,i<s.n/\b i=true):=by
  refine Bk (fun i x1=>x1=(i:Int)/\∀j,j<i->b j=false) s.n _ m ⟨rfl,fun j c=>absurd c (by omega)⟩ ?_;rintro l i x1 q ⟨rfl,h⟩ d;by_cases hl:i<s.n
  ·refine ifT (by simp;omega) (ifT (by omega) (B7 (by rw[AZ1];exact o i hl) ?_));cases hb:b i
   ·refine ifF (by simp) (d hl _ ⟨C4 (by omega),fun j c=>?_⟩);by_cases e:j=i
    ·subst e;exact hb
    ·exact h j (by omega)
   ·exact ifT rfl ⟨i,rfl,fun _=>⟨i,hl,hb⟩,fun _=>by omega⟩
  ·refine ifF (by simp;omega) ⟨-1,rfl,fun h=>absurd h (by decide),?_⟩;rintro⟨j,c,hb⟩;rw[h j (by omega)]at hb;cases hb
 obtain⟨y,e,hy⟩:=this;exact B7 e ⟨_,rfl,by rw[decide_eq_true_eq];exact hy⟩
def Ly (N:Nat)(laws:Sl Law)(e:Int):Prop:=(64<laws.n/\e=12) \/ (laws.n<=64/\(∃i,i<laws.n/\¬chkAll N (laws.g i))/\e=17) \/ ((laws.n<=64/\∀i,i<laws.n->chkAll N (laws.g i))/\e=0)
theorem Hr {N:Nat}{laws:Sl Law}{e e' : Int}(h:Ly N laws e)(h' : Ly N laws e'):e=e':=by rcases h with⟨h,rfl⟩ | ⟨h,⟨i,b,a⟩,rfl⟩ | ⟨⟨h,a⟩,rfl⟩<;>rcases h' with⟨g,rfl⟩ | ⟨g,⟨j,c,g2⟩,rfl⟩ | ⟨⟨g,g2⟩,rfl⟩<;>first|rfl|(exfalso;omega)|exact absurd (g2 i b) a|exact absurd (a j c) g2
def LS (s t:Sl Law):Prop:=s.n=t.n/\∀i,i<s.n->LE (s.g i) (t.g i)
theorem Xb {N:Nat}{laws laws' : Sl Law}(h:LS laws laws'){e:Int}(hw:Ly N laws e):Ly N laws' e:=by
 have hn:=h.1;rcases hw with⟨h1,a⟩ | ⟨h1,⟨i,c,a⟩,b⟩ | ⟨⟨h1,a⟩,b⟩
 ·exact .inl ⟨by omega,a⟩
 ·exact .inr (.inl ⟨by omega,⟨i,by omega,fun g=>a ((JE (h.2 i c)).2 g)⟩,b⟩)
 ·exact .inr (.inr ⟨⟨by omega,fun i c=>(JE (h.2 i (by omega))).1 (a i (by omega))⟩,b⟩)
def Ge (laws:Sl Law):Prop:=∀i,i<laws.n->Lw (laws.g i)
theorem Ys {laws laws' : Sl Law}(h:LS laws laws')(hl:Ge laws):Ge laws':=fun i a=>by exact Yq (h.2 i (by rw[h.1];exact a)) (hl i (by rw[h.1];exact a))
theorem Qs {N:Nat}(o:3000000<=N){laws:Sl Law}(hl:Ge laws):∃e,V7 N laws=some e/\Cd N laws=some e/\Ly N laws e:=by
 have h1:∃e,V7 N laws=some e/\Ly N laws e:=by
  unfold V7;by_cases hn:64<laws.n
  ·exact ifT (by simp;omega) ⟨12,rfl,.inl ⟨hn,rfl⟩⟩
  refine ifF (by simp;omega) ?_;have u:∀i,∃b,i<laws.n->Q2 N (laws.g i)=some b/\(b=true ↔ ¬chkAll N (laws.g i)):=by
   intro i;by_cases a:i<laws.n
   ·obtain⟨e,e1,_,d⟩:=Fc o (hl i a);refine⟨e != 0,fun _=>⟨by unfold Q2;rw[e1];rfl,?_⟩⟩;rcases d with⟨rfl,h⟩ | ⟨rfl,h⟩
    ·exact⟨fun h=>absurd h (by decide),fun g=>absurd h g⟩
    ·exact⟨fun _=>h,fun _=>by decide⟩
   ·exact⟨false,fun h=>absurd h a⟩
  obtain⟨f,l⟩:=Bh3 u;obtain⟨r,e1,h1⟩:=UE (N:=N) (s:=laws) (by omega) (by omega) (f:=fun u1=>Q2 N u1) (fun i a=>(l i a).1);refine B7 e1 ?_;cases q:r
  ·refine ifF (by simp) ⟨0,rfl,.inr (.inr ⟨⟨by omega,fun i a=>Bc3 fun hn=>?_⟩,rfl⟩)⟩
   have:=h1.2 ⟨i,a,(l i a).2.2 hn⟩
   rw[q]at this;cases this
  ·obtain⟨i,a,hb⟩:=h1.1 q;exact ifT rfl ⟨17,rfl,.inr (.inl ⟨by omega,⟨i,a,(l i a).2.1 hb⟩,rfl⟩)⟩
 have v:∃e,Cd N laws=some e/\Ly N laws e:=by
  unfold Cd;by_cases hn:64<laws.n
  ·exact ifT (by simp;omega) ⟨12,rfl,.inl ⟨hn,rfl⟩⟩
  refine ifF (by simp;omega) ?_;refine Bk (fun i x1=>x1=(i:Int)/\∀j,j<i->chkAll N (laws.g j)) laws.n _ (by omega) ⟨rfl,fun j m=>absurd m (by omega)⟩ ?_;rintro t i x1 a ⟨rfl,h⟩ hs;by_cases c:i<laws.n
  ·obtain⟨e,_,e1,d⟩:=Fc o (hl i c);refine ifT (by simp;omega) (ifT (by omega) (B7 (by rw[AZ1];exact e1) ?_));rcases d with⟨rfl,hc⟩ | ⟨rfl,hc⟩
   ·refine ifF (by decide) (hs c _ ⟨C4 (by omega),fun j m=>?_⟩);by_cases e:j=i
    ·subst e;exact hc
    ·exact h j (by omega)
   ·exact ifT (by decide) ⟨17,rfl,.inr (.inl ⟨by omega,⟨i,c,hc⟩,rfl⟩)⟩
  ·exact ifF (by simp;omega) ⟨0,rfl,.inr (.inr ⟨⟨by omega,fun j m=>h j (by omega)⟩,rfl⟩)⟩
 obtain⟨e,e1,g1⟩:=h1;obtain⟨e',e2,g2⟩:=v;obtain rfl:=Hr g1 g2;exact⟨_,e1,e2,g1⟩
def Ao2 (l:Sl (Sl Sound))(e:Int):Prop:=(e=0/\∀i,i<l.n->wOk (l.g i)) \/ (∃i,i<l.n/\(∀j,j<i->wOk (l.g j))/\Ym (l.g i) e/\e≠0)
theorem Ab6 {N:Nat}(o:3000000<=N){l:Sl (Sl Sound)}(hn:l.n<2000000)(hw:∀i,i<l.n->∀j,j<(l.g i).n->okS ((l.g i).g j)) :∃e,W6 N (fun (a:Int->Option Int) (x1:Int)=>
  if (decide (x1<(l.n:Int))) then
   if ((0:Int)<=x1/\x1<(l.n:Int))then
    (X8 N (l.g x1.toNat)).bind fun y4=>
    if (y4 != 0) then
     some y4
    else
     a (wrap .i64 (x1+1))
   else none
  else
   some 0
  ) 0=some e/\Ao2 l e:=by
 refine Bk (fun i x1=>x1=(i:Int)/\∀j,j<i->wOk (l.g j)) l.n _ (by omega) ⟨rfl,fun j d=>absurd d (by omega)⟩ ?_;rintro f i x1 q ⟨rfl,h⟩ hs;by_cases b:i<l.n
 ·obtain⟨e,e1,m⟩:=Hb (N:=N) (by omega) (hw i b);refine ifT (by simp;omega) (ifT (by omega) (B7 (by rw[AZ1];exact e1) ?_));by_cases c:e=0
  ·refine ifF (by simp[c]) (hs b _ ⟨C4 (by omega),fun j d=>?_⟩);by_cases e:j=i
   ·subst e;exact (U9 m).1 c
   ·exact h j (by omega)
  ·exact ifT (by simpa using c) ⟨e,rfl,.inr ⟨i,b,h,m,c⟩⟩
 ·exact ifF (by simp;omega) ⟨0,rfl,.inl ⟨rfl,fun j d=>h j (by omega)⟩⟩
theorem AO5 {w:Sl Sound}{e:Int}(h:Ao2 (Sl.of [w]:Sl (Sl Sound)) e):Ym w e:=by
 rcases h with⟨rfl,h⟩ | ⟨i,a,_,h,_⟩
 ·exact .inr (.inr ⟨h 0 (by show 0<1;omega),rfl⟩)
 ·match i,a with
  |0,_=>exact h
theorem NP {N:Nat}(b:3000000<=N){laws:Sl Law}(hl:Ge laws){w:Sl Sound}(hw:∀i,i<w.n->okS (w.g i)) :∃e,AP N laws (Sl.of [w]:Sl (Sl Sound))=some e/\((Ly N laws e/\e≠0) \/ (Ly N laws 0/\Ym w e)):=by
 unfold AP;obtain⟨e,e1,_,h1⟩:=Qs b hl;refine B7 e1 ?_;by_cases a:e=0
 case neg=>exact ifT (by simpa using a) ⟨e,rfl,.inl ⟨h1,a⟩⟩
 refine ifF (by simp[a]) (ifF (by show ¬decide ((256:Int)<((1:Nat):Int))=true;decide) ?_);obtain⟨e2,e3,c⟩:=Ab6 (N:=N) b (l:=(Sl.of [w]:Sl (Sl Sound))) (by show 1<_;omega) fun i d=>by
  match i,d with
  |0,_=>exact hw
 exact⟨e2,e3,.inr ⟨a ▸ h1,AO5 c⟩⟩
def T5 (N:Nat)(c:Int)(q1:Sl Law)(a:Sl Sound->Int->Option Ux)(x1:Sl Sound)(x2:Int):Option Ux:=
 if (decide (x2<(q1.n:Int))) then
  if ((0:Int)<=x2/\x2<(q1.n:Int))then
   (R5 N (q1.g x2.toNat) x1).bind fun y4=>
   if (y4.2 != 0) then
    if y4.2=c then some []else none
   else
    Ap (wrap .i64 (x2+1),y4.1) (
     a y4.1 (wrap .i64 (x2+1))
     )
  else none
 else
  if c=0 then some []else none
theorem R7 {N:Nat}{c:Int}{laws:Sl Law}{a:Sl Sound->Int->Option Ux}{w:Sl Sound}{i:Nat}(d:i<laws.n)(b:laws.n<=64){y:Sl Sound×Int}(h:R5 N (laws.g i) w=some y) :T5 N c laws a w (i:Int)=if (y.2 != 0) then (if y.2=c then some []else none)else Ap (((i+1:Nat):Int),y.1) (a y.1 ((i+1:Nat):Int)):=by unfold T5;rw[if_pos (show decide ((i:Int)<(laws.n:Int))=true by simp;omega),if_pos (by omega),AZ1,h,AZ4,C4 (by omega)]
abbrev AX7:=(Sl (Sl Sound))×Int
def Hd (N:Nat)(a:Sl Law)(b:Sl (Sl Sound)->Int->Option AX7)(x2:Sl (Sl Sound))(x3:Int):Option AX7:=
 if (decide (x3<(a.n:Int))) then
  if ((((0:Int)<=x3/\x3<(a.n:Int))/\((0:Int)<=x3/\x3<(x2.n:Int)))/\x3.toNat<x2.n)then
   (Cf N (a.g x3.toNat) (x2.g x3.toNat)).bind fun y7=>
   if (y7.2 != 0) then
    some ((Sl.nil:Sl (Sl Sound)),y7.2)
   else
    if ((x2.n+(Sl.of [y7.1]:Sl (Sl Sound)).n)*24<=140737488355328/\x2.n+(Sl.of [y7.1]:Sl (Sl Sound)).n<=140737488355328)then
     b (x2.push y7.1) (wrap .i64 (x3+1))
    else none
  else none
 else
  some (x2,0)
def JF:Sl Sound->Ux->Sl Sound
 |w,[]=>w
 |_,(_,v)::L=>JF v L
theorem JG:∀(L:Ux) (w:Sl Sound),P7 L (fun (a:Sl Sound->Option (Sl Sound)) (x1:Int×(Sl Sound)) (z1:Sl Sound)=>a x1.2) (fun (z1:Sl Sound)=>some z1) w=some (JF w L)
 |[],w=>rfl
 |(p,v)::L,w=>JG L v
def Fd (N:Nat)(laws:Sl Law):Prop:=laws.n<=64/\∀i,i<laws.n->chkAll N (laws.g i)
theorem Ao3 {N:Nat}(x:3000000<=N){laws laws' : Sl Law}(hl:Ge laws)(o:LS laws laws')(q:Fd N laws):∀(m i:Nat) (w w' : Sl Sound),SE w w' -> wOk w->i<=laws.n->laws.n<=i+m ->
 (∃L v',SE (JF w L) v' /\ wOk (JF w L)/\(∀M,m<M->P6 M (T5 N 0 laws) w i=some L)/\∀M x2,m<M->x2.n=i+1->x2.g i=w' -> ∃y,P6 M (Hd N laws') x2 i=some (y,0)/\y.n=laws.n+1/\y.g laws.n=v') \/
 ((∃L,∀M,m<M->P6 M (T5 N 0 laws) w i=none/\P6 M (T5 N 11 laws) w i=some L)/\∀M x2,m<M->x2.n=i+1->x2.g i=w' -> P6 M (Hd N laws') x2 i=some ((Sl.nil:Sl (Sl Sound)),11)):=by
 have z:=o.1;have b:=q.1;intro m
 induction m with
 |zero=>
  intro i w w' c hw hi hm;refine .inl ⟨[],w',c,hw,fun M d=>?_,fun M x2 d hx f=>⟨x2,?_,by omega,by rw[<- f];congr 1;omega⟩⟩
  ·obtain⟨M,rfl⟩:∃K,M=K+1:=⟨M-1,by omega⟩;rw[E7,T5,if_neg (by simp;omega),if_pos rfl]
  ·obtain⟨M,rfl⟩:∃K,M=K+1:=⟨M-1,by omega⟩;rw[E7,Hd,if_neg (by simp;omega)]
 |succ m ih=>
  intro i w w' c hw hi hm;by_cases a:i<laws.n
  case neg=>
   refine .inl ⟨[],w',c,hw,fun M d=>?_,fun M x2 d hx f=>⟨x2,?_,by omega,by rw[<- f];congr 1;omega⟩⟩
   ·obtain⟨M,rfl⟩:∃K,M=K+1:=⟨M-1,by omega⟩;rw[E7,T5,if_neg (by simp;omega),if_pos rfl]
   ·obtain⟨M,rfl⟩:∃K,M=K+1:=⟨M-1,by omega⟩;rw[E7,Hd,if_neg (by simp;omega)]
  obtain⟨⟨v,e⟩,⟨v',e'⟩,h1,r,s,t,l⟩:=UD x (hl i a) (o.2 i a) c fun j hj=>(hw.2 j hj).ok;simp only at s t;subst t;rcases l with⟨_,l⟩ | ⟨_,l,h6⟩ | ⟨_,_,l⟩
  ·exact absurd (q.2 i a) l
  ·exact absurd ((U9 l).2 hw) h6
  rcases l with rfl|⟨rfl,hv⟩
  ·refine .inr ⟨⟨[],fun M d=>?_⟩,fun M x2 d hx f=>?_⟩
   ·obtain⟨M,rfl⟩:∃K,M=K+1:=⟨M-1,by omega⟩;rw[E7,E7,R7 a b h1,R7 a b h1];exact⟨rfl,rfl⟩
   ·obtain⟨M,rfl⟩:∃K,M=K+1:=⟨M-1,by omega⟩;rw[E7,Hd,if_pos (by simp;omega),if_pos (by omega),AZ1,f,r,AZ4,if_pos (by simp)]
  ·rcases ih (i+1) v v' s hv (by omega) (by omega)with⟨L,u,g1,g2,g3,g4⟩ | ⟨⟨L,g1⟩,g2⟩
   ·refine .inl ⟨((i+1:Nat),v)::L,u,g1,g2,fun M d=>?_,fun M x2 d hx f=>?_⟩
    ·obtain⟨M,rfl⟩:∃K,M=K+1:=⟨M-1,by omega⟩;rw[E7,R7 a b h1,if_neg (by simp)];show Ap _ (P6 M (T5 N 0 laws) v _)=_;rw[g3 M (by omega)];rfl
    ·obtain⟨M,rfl⟩:∃K,M=K+1:=⟨M-1,by omega⟩;rw[E7,Hd,if_pos (by simp;omega),if_pos (by omega),AZ1,f,r,AZ4,if_neg (by simp),if_pos (by show (x2.n+1)*24<=_/\x2.n+1<=_;omega),C4 (by omega)];exact g4 M (x2.push v') (by omega) (by show x2.n+1=_;omega) (by show (if i+1<x2.n then x2.g (i+1)else v')=v';rw[if_neg (by omega)])
   ·refine .inr ⟨⟨((i+1:Nat),v)::L,fun M d=>?_⟩,fun M x2 d hx f=>?_⟩
    ·obtain⟨M,rfl⟩:∃K,M=K+1:=⟨M-1,by omega⟩;obtain⟨a1,a2⟩:=g1 M (by omega);rw[E7,E7,R7 a b h1,R7 a b h1,if_neg (by simp),if_neg (by simp)];refine⟨?_,?_⟩
     ·show Ap _ (P6 M (T5 N 0 laws) v _)=_;rw[a1];rfl
     ·show Ap _ (P6 M (T5 N 11 laws) v _)=_;rw[a2];rfl
    ·obtain⟨M,rfl⟩:∃K,M=K+1:=⟨M-1,by omega⟩;rw[E7,Hd,if_pos (by simp;omega),if_pos (by omega),AZ1,f,r,AZ4,if_neg (by simp),if_pos (by show (x2.n+1)*24<=_/\x2.n+1<=_;omega),C4 (by omega)];exact g2 M (x2.push v') (by omega) (by show x2.n+1=_;omega) (by show (if i+1<x2.n then x2.g (i+1)else v')=v';rw[if_neg (by omega)])
theorem AA0 {N:Nat}{w:Sl Sound}(d:w.n<N)(hs:w.n<10000000):∃y,Df N w=some y/\SE w y:=by
 suffices h:∃y,Df N w=some y/\y=BW w.g w.n by obtain⟨y,h,rfl⟩:=h;exact⟨_,h,(Ix _ _).symm,fun i b=>(WV w.g b).symm⟩
 unfold Df;refine P9 (fun i x1 x2=>x2=(i:Int)/\x1=BW w.g i) w.n _ d ⟨rfl,rfl⟩ ?_;rintro c i x1 x2 b ⟨rfl,rfl⟩ a;by_cases hl:i<w.n
 ·have:=Ix w.g i
  refine ifT (by simp;omega) (ifT ⟨by omega,by show ((BW w.g i).n+1)*8<=_/\(BW w.g i).n+1<=_;omega⟩ (a hl _ _ ⟨C4 (by omega),by rw[AZ1];rfl⟩))
 ·exact ifF (by simp;omega) ⟨_,rfl,by congr 1;omega⟩
def deE (N:Nat)(laws:Sl Law)(w:Sl Sound)(r:Sl Sound×Int):Prop:=(Ly N laws r.2/\r.2≠0) \/ (Ly N laws 0/\Ym w r.2/\r.2≠0) \/ (Fd N laws/\wOk w/\(r.2=11 \/ (r.2=0/\wOk r.1)))
theorem lawsE_zero {N:Nat}{laws:Sl Law}:Ly N laws 0↔Fd N laws:=by
 constructor
 ·rintro (⟨_,h⟩ | ⟨_,_,h⟩ | ⟨h,_⟩)
  ·cases h
  ·cases h
  ·exact h
 ·exact fun h=>.inr (.inr ⟨h,rfl⟩)
theorem Ab7 {N:Nat}(v:3000000<=N){laws laws' : Sl Law}(hl:Ge laws)(j:LS laws laws'){w w' : Sl Sound}(m:SE w w')(hw:∀i,i<w.n->okS (w.g i)) :∃r r',G3 N laws w=some r/\CB N laws' w' = some r' /\ SE r.1 r'.1/\r.2=r'.2/\deE N laws w r:=by
 obtain⟨e,e1,h1⟩:=NP v hl hw;obtain⟨a,_,a1,ha⟩:=Qs v (Ys j hl);unfold G3 CB FH;rw[e1,a1,AZ4,AZ4];rcases h1 with⟨h1,u⟩ | ⟨h1,x⟩
 ·obtain rfl:=Hr (Xb j h1) ha;have d:(e != 0)=true:=by simpa using u
  have o:¬(e==0)=true:=by simpa using u
  rw[if_pos d,lt,if_neg o];dsimp only;rw[if_pos d,AZ4];dsimp only;rw[if_pos d];exact⟨_,_,rfl,rfl,SE.refl _,rfl,.inl ⟨h1,u⟩⟩
 obtain rfl:=Hr (Xb j h1) ha;rw[lt,if_pos (show ((0:Int)==0)=true from rfl)];obtain⟨b,b1,hb⟩:=Fb (N:=N) (by omega) (AX6 m hw);obtain rfl:=NM (AF6 m x) hb;rw[b1,AZ4];dsimp only;by_cases u:e=0
 case neg=>
  have d:(e != 0)=true:=by simpa using u
  rw[if_pos d,if_pos d,AZ4];dsimp only;rw[if_pos d];exact⟨_,_,rfl,rfl,SE.refl _,rfl,.inr (.inl ⟨h1,x,u⟩)⟩
 have o:¬(e != 0)=true:=by simp[u]
 rw[if_neg o,if_neg o];have q:=lawsE_zero.1 h1;have s:wOk w:=(U9 x).1 u;have a0:=s.1;have a2:=m.1;have a3:=q.1;have a4:=j.1;obtain⟨y4,c1,c2⟩:=AA0 (N:=N) (w:=w') (by omega) (by omega);have t:A6 N w=some w:=by unfold A6;rw[if_pos (by omega)]
 have l:∀c,C7 N c laws w=(Ap (0,w) (P6 N (T5 N c laws) w 0)).bind fun L1=>P7 L1 (fun (f:Sl Sound->Option (Sl Sound)) (x1:Int×(Sl Sound)) (z1:Sl Sound)=>f x1.2) (fun (z1:Sl Sound)=>some z1) (Sl.nil:Sl Sound):=by intro c;unfold C7 AQ U7;rw[AZ4,t,AZ4];rfl
 have z:∀(x2:Sl (Sl Sound)),(P6 N (fun f (x2:Sl (Sl Sound)) (x3:Int)=>Hd N laws' f x2 x3) x2 0)=P6 N (Hd N laws') x2 ((0:Nat):Int):=fun _=>rfl;rw[c1,AZ4];rcases Ao3 v hl j q laws.n 0 w y4 (m.trans c2) s (by omega) (by omega)with⟨L,v',g1,g2,g3,g4⟩ | ⟨⟨L,g1⟩,g2⟩
 ·obtain⟨y,d1,d2,d3⟩:=g4 N (Sl.of [y4]:Sl (Sl Sound)) (by omega) rfl rfl
  have:F6 N laws w=some (JF w L,true):=by
   have e0:C7 N 0 laws w=some (JF w L):=by rw[l];have g3:P6 N (T5 N 0 laws) w 0=some L:=g3 N (by omega);rw[g3];exact JG _ _
   unfold F6;rw[e0]
  rw[this,AZ4,if_neg (by simp)];refine⟨_,(v',0),rfl,?_,g1,rfl,.inr (.inr ⟨q,s,.inr ⟨rfl,g2⟩⟩)⟩;show Option.bind (P6 N (Hd N laws') (Sl.of [y4]:Sl (Sl Sound)) ((0:Nat):Int)) _=_;rw[d1,AZ4,if_neg (by simp)];have ew:wrap .i64 ((y.n:Int)-1)=((laws.n:Nat):Int):=by rw[d2,F3 (by omega) (by omega)];omega
  simp only[ew,AZ1];rw[if_pos (by omega),d3]
 ·have:F6 N laws w=some ((Sl.nil:Sl Sound),false):=by
   obtain⟨g3,g4⟩:=g1 N (by omega);have g3:P6 N (T5 N 0 laws) w 0=none:=g3;have g4:P6 N (T5 N 11 laws) w 0=some L:=g4;have e0:C7 N 0 laws w=none:=by rw[l,g3];rfl
   have e11:C7 N 11 laws w=some (JF w L):=by rw[l,g4];exact JG _ _
   unfold F6;rw[e0,e11];rfl
  rw[this,AZ4,if_pos (by simp)];refine⟨_,((Sl.nil:Sl Sound),11),rfl,?_,SE.refl _,rfl,.inr (.inr ⟨q,s,.inl rfl⟩)⟩;show Option.bind (P6 N (Hd N laws') (Sl.of [y4]:Sl (Sl Sound)) ((0:Nat):Int)) _=_;rw[g2 N (Sl.of [y4]:Sl (Sl Sound)) (by omega) rfl rfl,AZ4,if_pos (by decide)]
end Go.AM
namespace Go.AM
open IntKind (wrap)
open Go.Proofs
theorem sEq (x y:Sound):((x.Plus==y.Plus)&&(x.Minus==y.Minus))=decide (x=y):=by cases x;cases y;rw[Bc4];simp
theorem AO6 {N:Nat}{x y:Sl Sound}(l:x.n<N)(hs:x.n<10000000) :∃b,(if ((x.n:Int) != (y.n:Int)) then
 some false
 else
  W6 N (fun (a:Int->Option Bool) (x1:Int)=>
   if (decide (x1<(x.n:Int))) then
    if (((0:Int)<=x1/\x1<(x.n:Int))/\((0:Int)<=x1/\x1<(y.n:Int)))then
     if ((((x.g x1.toNat).Plus==(y.g x1.toNat).Plus)&&((x.g x1.toNat).Minus==(y.g x1.toNat).Minus)) != true) then
      some false
     else
      a (wrap .i64 (x1+1))
    else none
   else
    some true
   ) 0)=some b/\(b=true↔SE x y):=by
 by_cases hn:x.n=y.n
 case neg=>exact ifT (by simp;omega) ⟨false,rfl,by simp,fun h=>absurd h.1 hn⟩
 refine ifF (by simp[hn]) ?_;refine Bk (fun i x1=>x1=(i:Int)/\∀j,j<i->x.g j=y.g j) x.n _ l ⟨rfl,fun j c=>absurd c (by omega)⟩ ?_;rintro f i x1 m ⟨rfl,h⟩ d;by_cases hl:i<x.n
 ·refine ifT (by simp;omega) (ifT (by omega) ?_);rw[AZ1,sEq];by_cases e:x.g i=y.g i
  ·refine ifF (by simp[e]) (d hl _ ⟨C4 (by omega),fun j c=>?_⟩);by_cases e2:j=i
   ·subst e2;exact e
   ·exact h j (by omega)
  ·exact ifT (by simp[e]) ⟨false,rfl,by simp,fun h=>absurd (h.2 i hl) e⟩
 ·exact ifF (by simp;omega) ⟨true,rfl,fun _=>⟨hn,fun j c=>h j (by omega)⟩,fun _=>rfl⟩
theorem AO7 {N:Nat}{x y:Sl Sound}(a:x.n<N)(hs:x.n<10000000):∃b,FF N x y=some b/\(b=true↔SE x y):=AO6 a hs
abbrev okA (w:Sl Sound):Prop:=∀i,i<w.n->okS (w.g i)
end Go.AM
namespace Go.AM
open Go.Proofs
def dep:Nat->Pat->Prop
 |0,_=>False
 |d+1,p=>p.L.n<=40/\∀i,i<p.L.n->dep d (p.L.g i)
theorem AF7:∀(d:Nat) (p:Pat),dep d p->∀e,d<=e->dep e p
 |0,_,h,_,_=>h.elim
 |d+1,p,h,0,he=>by omega
 |d+1,p,h,e+1,he=>⟨h.1,fun i a=>AF7 d _ (h.2 i a) e (by omega)⟩
theorem UF {N:Nat}(o:1000<=N):∀(d:Nat),d<=40->∀(p:Pat) (M:Nat),N+d+2<=M->∃r:Nat,Be M p ((40-d:Nat):Int)=some (r:Int)/\40-d<r/\r<=41/\(r<=40->dep (d+1) p)
 |d,hd,p,0,hM=>by omega
 |d,hd,p,M+1,hM=>by
  have:∃x,Be (M+1) p ((40-d:Nat):Int)=some x/\∃r:Nat,x=(r:Int)/\40-d<r/\r<=41/\(r<=40->dep (d+1) p):=by
   show ∃x,BG (Be M) M p _=some x/\_;unfold BG;rw[C4 (by omega)];refine P9 (fun i x1 x2=>x2=(i:Int)/\∃k:Nat,x1=(k:Int)/\40-d+1+i<=k/\k<=41/\i<=p.L.n/\(k<=40->∀j,j<i->dep d (p.L.g j))) 41 _ (by omega) ⟨rfl,40-d+1,rfl,by omega,by omega,by omega,fun _ j b=>absurd b (by omega)⟩ ?_;rintro f i x1 x2 q ⟨rfl,k,rfl,h1,c,s,l⟩ hs;by_cases hc:i<p.L.n/\k<=40
   ·refine ifT (by simp only[AZ6,decide_eq_true_eq];omega) (ifT (by omega) ?_);obtain⟨r,m,r1,r2,r3⟩:=UF o (40-k) (by omega) (p.L.g i) M (by omega);rw[show ((40-(40-k):Nat):Int)=(k:Int) by omega]at m;refine B7 (by rw[AZ1];exact m) (hs (by omega) _ _ ⟨C4 (by omega),r,rfl,by omega,r2,by omega,fun a j b=>?_⟩);by_cases e:j=i
    ·subst e;exact AF7 _ _ (r3 a) d (by omega)
    ·exact l hc.2 j (by omega)
   ·refine ifF (by simp only[AZ6,decide_eq_true_eq];omega) ⟨_,rfl,k,rfl,by omega,c,fun hk=>⟨by omega,fun j b=>l hk j (by omega)⟩⟩
  obtain⟨x,h1,r,rfl,c⟩:=this;exact⟨r,h1,c⟩
theorem NQ:∀(d:Nat) (p:Pat),dep d p->∀M,100+d<=M->∃r,Ag M p=some r
 |0,p,h,M,_=>h.elim
 |d+1,p,h,0,hM=>by omega
 |d+1,p,h,M+1,hM=>by
  suffices ∃r,Ag (M+1) p=some r/\True by obtain⟨r,h,_⟩:=this;exact⟨r,h⟩
  show ∃x,Y0 (Ag M) M p=some x/\_;unfold Y0;have hn:=h.1;refine P9 (fun i x1 x2=>x2=(i:Int)) p.L.n _ (by omega) rfl ?_;rintro a i x1 x2 c rfl hs;by_cases hl:i<p.L.n
  ·obtain⟨r,b⟩:=NQ d (p.L.g i) (h.2 i hl) M (by omega);exact ifT (by simp;omega) (ifT (by omega) (B7 (by rw[AZ1];exact b) (hs hl _ _ (C4 (by omega)))))
  ·exact ifF (by simp;omega) ⟨_,rfl,trivial⟩
theorem JH {N:Nat}(b:2000<=N)(p:Pat):∃r:Nat,Af N p=some (r:Int)/\(r<=40->dep 41 p):=by obtain⟨r,h1,_,_,a⟩:=UF (N:=1000) (by omega) 40 (by omega) p N (by omega);exact⟨r,by unfold Af;rw[show Be N p 0=some (r:Int) from h1];rfl,a⟩
theorem AA1 {N:Nat}(f:2000<=N)(laws:Sl Law):∃r,Di N laws=some r:=by
 suffices ∃r,Di N laws=some r/\True by obtain⟨r,h,_⟩:=this;exact⟨r,h⟩
 unfold Di;refine P9 (fun i x1 x2=>x2=(i:Int)) 301 _ (by omega) rfl ?_;rintro d i x1 x2 s rfl hs;by_cases hc:i<laws.n/\i<=300
 ·refine ifT (by simp only[AZ6,decide_eq_true_eq];omega) (ifT (by omega) ?_);refine P9 (fun j x7 x8=>x8=(j:Int)) 2 _ (by omega) rfl ?_;rintro b j x7 x8 t rfl a;by_cases hl:j<2
  ·refine ifT (by show decide ((j:Int)<((2:Nat):Int))=true;simp;omega) (ifT (by show (0:Int)<=(j:Int)/\(j:Int)<((2:Nat):Int);omega) ?_);obtain⟨r,l,m⟩:=JH f ((Sl.of [(laws.g (i:Int).toNat).Left,(laws.g (i:Int).toNat).Right]:Sl Pat).g (j:Int).toNat);refine B7 l ?_;by_cases c:r<=40
   ·obtain⟨q,o⟩:=NQ 41 _ (m c) N (by omega);exact ifT (by simp;omega) (B7 o (a hl _ _ (C4 (by omega))))
   ·exact ifF (by simp;omega) (a hl _ _ (C4 (by omega)))
  ·exact ifF (by show ¬decide ((j:Int)<((2:Nat):Int))=true;simp;omega) (hs (by omega) _ _ (C4 (by omega)))
 ·exact ifF (by simp only[AZ6,decide_eq_true_eq];omega) ⟨_,rfl,trivial⟩
end Go.AM
namespace Go.AM
open IntKind (wrap)
open Go.Proofs
def OY (s:Str):Bool:=(decide (1<=s.length)&&decide (s.length<=24))&&s.all fun c=>RX ((c.toNat:Nat):Int)
theorem UG {N:Nat}{s:Str}(m:s.length<N)(hs:s.length<1000000000){let_:Int->Option Bool}(hl:∀y,let_ y=some (RX y)){fin:Bool}(n:fin=(decide (1<=s.length)&&decide (s.length<=24))) :W6 N (fun (a:Int->Option Bool) (x1:Int)=>
  if (decide (x1<(s.length:Int))) then
   if ((0:Int)<=x1/\x1<(s.length:Int))then
    (let_ (Ao s x1)).bind fun y3=>
    if (!y3) then
     some false
    else
     a (wrap .i64 (x1+1))
   else none
  else
   some fin
 ) 0=some (OY s):=by
 suffices h:∃b,W6 N (fun (a:Int->Option Bool) (x1:Int)=>
  if (decide (x1<(s.length:Int))) then
   if ((0:Int)<=x1/\x1<(s.length:Int))then
    (let_ (Ao s x1)).bind fun y3=>
    if (!y3) then
     some false
    else
     a (wrap .i64 (x1+1))
   else none
  else
   some fin
  ) 0=some b/\b=OY s by obtain⟨b,h,rfl⟩:=h;exact h
 refine Bk (fun i x1=>x1=(i:Int)/\∀j (h:j<s.length),j<i->RX ((s[j].toNat:Nat):Int)=true) s.length _ m ⟨rfl,fun j _ f=>absurd f (by omega)⟩ ?_;rintro l i x1 q ⟨rfl,h⟩ g;by_cases d:i<s.length
 ·have eb:Ao s (i:Int)=((s[i].toNat:Nat):Int):=by simp[Ao,d]
  refine ifT (by simp;omega) (ifT (by omega) (B7 (hl _) ?_));rw[eb];cases hb:RX ((s[i].toNat:Nat):Int)
  ·refine ifT rfl ⟨false,rfl,?_⟩;symm;unfold OY;rw[Bp7]
   right
   rw[List.all_eq_false];exact⟨s[i],Bo6 d,by rw[hb];simp⟩
  ·refine ifF (by simp) (g d _ ⟨C4 (by omega),fun j f o=>?_⟩);by_cases e:j=i
   ·subst e;exact hb
   ·exact h j f (by omega)
 ·refine ifF (by simp;omega) ⟨_,rfl,?_⟩;unfold OY;rw[n]
  have:(s.all fun c=>RX ((c.toNat:Nat):Int))=true:=Ba9.2 fun c hc=>by obtain⟨j,f,rfl⟩:=Bm6 hc;exact h j f (by omega)
  rw[this,Bm5]
theorem Ao4 {N:Nat}{s:Str}(a:s.length<N)(hs:s.length<1000000000):CF N s=some (OY s):=by unfold CF;exact UG a hs (fun y=>rfl) (by rw[Bc4];simp;omega)
theorem AA2 {N:Nat}{s:Str}(a:s.length<N)(hs:s.length<1000000000):Dm N s=some (OY s):=by unfold Dm;exact UG a hs (fun y=>rfl) (by rw[Bc4];simp;omega)
def AO8 (t:Sl M9)(v:Nat):Prop:=(v=0->(t.g 0).Parent = -1)/\(0<v->0<=(t.g v).Parent/\(t.g v).Parent<v)/\OY (t.g v).Name=true/\∀u,u<v->(t.g u).Name≠(t.g v).Name
def BX (t:Sl M9):Prop:=1<=t.n/\t.n<=63/\∀v,v<t.n->AO8 t v
def Ab8 (t:Sl M9)(e:Int):Prop:=(e=0/\BX t) \/ (e=16/\¬BX t)
theorem Ab9 {t:Sl M9}{e e' : Int}(h:Ab8 t e)(h' : Ab8 t e'):e=e':=by
 rcases h with⟨rfl,h⟩ | ⟨rfl,h⟩<;>rcases h' with⟨rfl,h'⟩ | ⟨rfl,h'⟩
 ·rfl
 ·exact absurd h h'
 ·exact absurd h' h
 ·rfl
def NR (t:Sl M9):Prop:=∀v,v<t.n->(t.g v).Name.length<1100000
theorem Ao5 {N:Nat}(y:3000000<=N){t:Sl M9}(ht:NR t):∃e,Bg N t=some e/\Ab8 t e:=by
 unfold Bg;by_cases z:t.n<1
 ·exact ifT (fun h=>absurd h (by simp;omega)) (ifT (by simp;omega) ⟨16,rfl,.inr ⟨rfl,fun h=>by have:=h.1;omega⟩⟩)
 refine ifT (fun _ _=>by omega) ?_;by_cases h1:63<t.n
 ·exact ifT (by simp;omega) ⟨16,rfl,.inr ⟨rfl,fun h=>by have:=h.2.1;omega⟩⟩
 by_cases m:(t.g 0).Parent = -1
 case neg=>exact ifT (by simp[m]) ⟨16,rfl,.inr ⟨rfl,fun h=>m ((h.2.2 0 (by omega)).1 rfl)⟩⟩
 refine ifF (by simp[m];omega) ?_;refine Bk (fun i x1=>x1=(i:Int)/\∀j,j<i->AO8 t j) t.n _ (by omega) ⟨rfl,fun j x=>absurd x (by omega)⟩ ?_;rintro f i x1 hi ⟨rfl,h⟩ hs;by_cases a:i<t.n
 case neg=>exact ifF (by simp;omega) ⟨0,rfl,.inl ⟨rfl,by omega,by omega,fun v hv=>h v (by omega)⟩⟩
 refine ifT (by simp;omega) (ltX ?_);have b:=AA2 (N:=N) (s:=(t.g i).Name) (by have:=ht i a;omega) (by have:=ht i a;omega);have rest:(0<i->0<=(t.g i).Parent/\(t.g i).Parent<i)->∃r,(if (!OY (t.g i).Name) then some 16 else
  W6 N (fun (d:Int->Option Int) (x7:Int)=>
   if (decide (x7<(i:Int))) then
    if (((0:Int)<=x7/\x7<(t.n:Int))/\((0:Int)<=(i:Int)/\(i:Int)<(t.n:Int)))then
     if (((t.g x7.toNat).Name==(t.g (i:Int).toNat).Name) != false) then
      some 16
     else
      d (wrap .i64 (x7+1))
    else none
   else
    f (wrap .i64 ((i:Int)+1))
   ) 0)=some r/\Ab8 t r:=by
  intro hp;cases hb:OY (t.g i).Name
  ·exact ifT rfl ⟨16,rfl,.inr ⟨rfl,fun h=>by have:=(h.2.2 i a).2.2.1;rw[hb]at this;cases this⟩⟩
  refine ifF (by simp) ?_;refine Bk (fun k x7=>x7=(k:Int)/\∀u,u<k->(t.g u).Name≠(t.g i).Name) i _ (by omega) ⟨rfl,fun u o=>absurd o (by omega)⟩ ?_;rintro q k x7 hk ⟨rfl,h'⟩ w;by_cases l:k<i
  ·refine ifT (by simp;omega) (ifT (by omega) ?_);rw[AZ1,AZ1];by_cases e:(t.g k).Name=(t.g i).Name
   ·exact ifT (by simp[e]) ⟨16,rfl,.inr ⟨rfl,fun h=>(h.2.2 i a).2.2.2 k l e⟩⟩
   ·refine ifF (by simp[e]) (w l _ ⟨C4 (by omega),fun u o=>?_⟩);by_cases e2:u=k
    ·subst e2;exact e
    ·exact h' u (by omega)
  ·refine ifF (by simp;omega) (hs a _ ⟨C4 (by omega),fun j x=>?_⟩);by_cases e:j=i
   ·subst e;exact⟨fun e=>by subst e;exact m,hp,hb,fun u o=>h' u (by omega)⟩
   ·exact h j (by omega)
 by_cases c:0<i
 ·refine ifT (by simp;omega) (ifT (by omega) ?_);rw[AZ1];by_cases g1:(t.g i).Parent<0
  ·exact ifT (by simpa using g1) (ifT rfl ⟨16,rfl,.inr ⟨rfl,fun h=>by have:=((h.2.2 i a).2.1 c).1;omega⟩⟩)
  refine ifF (by simpa using g1) (ifT (by omega) ?_);by_cases g2:(i:Int)<=(t.g i).Parent
  ·exact ifT (by simpa using g2) (ifT rfl ⟨16,rfl,.inr ⟨rfl,fun h=>by have:=((h.2.2 i a).2.1 c).2;omega⟩⟩)
  exact ifF (by simpa using g2) (ifT (by omega) (B7 b (rest fun _=>⟨by omega,by omega⟩)))
 ·exact ifF (by simp;omega) (ifT (by omega) (B7 (by rw[AZ1];exact b) (rest fun h=>absurd h c)))
theorem Fe {ν : Type}{k s:Str}{v : ν}:∀es:List (Str × ν),BU eqS s (NZ eqS k v es)=if s=k then some v else BU eqS s es
 |[]=>by simp only[NZ,BU];by_cases h:s=k<;>simp[eqS,h]
 |(a,x)::es=>by
  simp only[NZ];by_cases h:k=a
  ·subst h;rw[if_pos (by simp[eqS])];simp only[BU];by_cases b:s=k<;>simp[eqS,b]
  ·rw[if_neg (by simp[eqS,h])];simp only[BU];rw[Fe es];by_cases b:s=k
   ·subst b;simp[eqS,h]
   ·simp[b]
theorem Yt {ν : Type}{k:Str}{v : ν}:∀{es:List (Str × ν)},BU eqS k es=none->(NZ eqS k v es).length=es.length+1
 |[],_=>rfl
 |(a,x)::es,h=>by
  simp only[BU]at h;simp only[NZ];by_cases e:eqS k a=true
  ·rw[if_pos e]at h;cases h
  ·rw[if_neg e]at h;rw[if_neg e,Bc6,Yt h];rfl
theorem Yu {ν : Type}{k:Str}{v x : ν}:∀{es:List (Str × ν)},BU eqS k es=some x->(NZ eqS k v es).length=es.length
 |[],h=>by cases h
 |(a,y)::es,h=>by
  simp only[BU]at h;simp only[NZ];by_cases e:eqS k a=true
  ·rw[if_pos e];rfl
  ·rw[if_neg e]at h;rw[if_neg e,Bc6,Yu h];rfl
theorem Ao6 {N:Nat}(m:3000000<=N){t:Sl M9}(ht:NR t):∃e,Y9 N t=some e/\Ab8 t e:=by
 unfold Y9;by_cases o:t.n=0 \/ 63<t.n
 ·exact ifT (by simp;omega) ⟨16,rfl,.inr ⟨rfl,fun h=>by have g1:=h.1;have g2:=h.2.1;omega⟩⟩
 refine ifF (by simp;omega) ?_;refine P9 (fun i (x2:List (Str×Bool)) x3=>x3=(i:Int)/\(∀j,j<i->AO8 t j)/\∀s,(BU eqS s x2=some true/\∃u,u<i/\(t.g u).Name=s) \/ (BU eqS s x2=none/\∀u,u<i->(t.g u).Name≠s)) t.n _ (by omega) ⟨rfl,fun j f=>absurd f (by omega),fun s=>.inr ⟨rfl,fun u c=>absurd c (by omega)⟩⟩ ?_;rintro l i x2 x3 q ⟨rfl,h,hm⟩ hs;by_cases a:i<t.n
 case neg=>exact ifF (by simp;omega) ⟨0,rfl,.inl ⟨rfl,by omega,by omega,fun v r=>h v (by omega)⟩⟩
 refine ifT (by simp;omega) (ifT (by omega) (ltX ?_));rw[AZ1];have b:=Ao4 (N:=N) (s:=(t.g i).Name) (by have:=ht i a;omega) (by have:=ht i a;omega);have e1:(if 0<wrap .i64 ((i:Int)-1)then (0:Int)else wrap .i64 ((i:Int)-1))=if i=0 then -1 else 0:=by rw[F3 (by omega) (by omega)];split<;>split<;>omega
 rw[e1];by_cases g1:(i:Int)<=(t.g i).Parent
 ·refine ifT (by simpa using g1) (ifT rfl ⟨16,rfl,.inr ⟨rfl,fun h=>?_⟩⟩);have hk:=h.2.2 i a;by_cases d:i=0
  ·subst d;have:=hk.1 rfl;omega
  ·have:=(hk.2.1 (by omega)).2;omega
 refine ifF (by simpa using g1) ?_;by_cases g2:(t.g i).Parent<if i=0 then -1 else 0
 ·refine ifT (by simpa using g2) (ifT rfl ⟨16,rfl,.inr ⟨rfl,fun h=>?_⟩⟩);have hk:=h.2.2 i a;by_cases d:i=0
  ·subst d;have:=hk.1 rfl;simp at g2;omega
  ·have:=(hk.2.1 (by omega)).1;simp[d]at g2;omega
 refine ifF (by simpa using g2) (B7 b ?_);cases hb:OY (t.g i).Name
 ·exact ifT rfl (ifT rfl ⟨16,rfl,.inr ⟨rfl,fun h=>by have:=(h.2.2 i a).2.2.1;rw[hb]at this;cases this⟩⟩)
 refine ifF (by simp) ?_;rcases hm (t.g i).Name with⟨e,u,c,hn⟩ | ⟨e,hn⟩
 ·rw[e];exact⟨16,rfl,.inr ⟨rfl,fun h=>(h.2.2 i a).2.2.2 u c hn⟩⟩
 rw[e,Te];refine ifF (show ¬false=true by simp) (hs a _ _ ⟨C4 (by omega),fun j f=>?_,fun s=>?_⟩)
 ·by_cases e:j=i
  ·subst e;refine⟨fun e=>?_,fun hp=>?_,hb,hn⟩
   ·subst e;simp at g2;omega
   ·have:¬j=0:=by omega
    simp[this]at g2;omega
  ·exact h j (by omega)
 ·rw[Fe];by_cases e:s=(t.g i).Name
  ·exact .inl ⟨by rw[if_pos e],i,by omega,e.symm⟩
  ·rw[if_neg e];rcases hm s with⟨g,u,c,hn⟩ | ⟨g,hn⟩
   ·exact .inl ⟨g,u,by omega,hn⟩
   ·refine .inr ⟨g,fun u c=>?_⟩;by_cases e2:u=i
    ·subst e2;exact fun h=>e h.symm
    ·exact hn u (by omega)
theorem RZ {N:Nat}(a:3000000<=N){t:Sl M9}(ht:NR t):∃e,Y9 N t=some e/\Bg N t=some e/\Ab8 t e:=by obtain⟨e,h1,b⟩:=Ao6 a ht;obtain⟨e',c,d⟩:=Ao5 a ht;obtain rfl:=Ab9 b d;exact⟨_,h1,c,b⟩
end Go.AM
namespace Go.AM
open IntKind (wrap)
open Go.Proofs
structure BR (h:B0):Prop where
 laws:Ge h.Laws
 tree:NR h.Tree
 on:h.On.n<1100000
 len:∀v,v<h.On.n->(h.On.g v).n<1100000
def R8 (h:B0)(v:Nat):Sl Int:=
 if hp:0<=(h.Tree.g v).Parent/\(h.Tree.g v).Parent<v then (R8 h (h.Tree.g v).Parent.toNat).app (h.On.g v)else (Sl.nil:Sl Int).app (h.On.g v)
termination_by v
decreasing_by omega
theorem Ff {h:B0}{v:Nat}(a:(h.Tree.g v).Parent<0):R8 h v=(Sl.nil:Sl Int).app (h.On.g v):=by rw[R8,dif_neg (by omega)]
theorem JI {h:B0}{v p:Nat}(a:(h.Tree.g v).Parent=(p:Int))(hp:p<v):R8 h v=(R8 h p).app (h.On.g v):=by rw[R8,dif_pos (by omega),a,AZ1]
theorem AU {t:Sl M9}(ht:BX t){v:Nat}(a:v<t.n):(v=0/\(t.g v).Parent = -1) \/ ∃p:Nat,p<v/\(t.g v).Parent=(p:Int):=by
 have hk:=ht.2.2 v a;by_cases b:v=0
 ·subst b;exact .inl ⟨rfl,hk.1 rfl⟩
 ·obtain⟨g1,g2⟩:=hk.2.1 (by omega);exact .inr ⟨(t.g v).Parent.toNat,by omega,by omega⟩
theorem Xc {h:B0}(a:BR h)(ht:BX h.Tree)(hn:h.On.n=h.Tree.n):∀(m v:Nat),v<=m->v<h.Tree.n->(R8 h v).n<=(v+1)*1100000
 |m,v,hm,hv=>by
  have hl:=a.len v (by omega);rcases AU ht hv with⟨_,e⟩ | ⟨p,hp,e⟩
  ·rw[Ff (by omega)];show 0+(h.On.g v).n<=_;omega
  ·rw[JI e hp]
   match m with
   |0=>omega
   |m+1=>
    have:=Xc a ht hn m p (by omega) (by omega)
    show (R8 h p).n+(h.On.g v).n<=_;have b:(p+1)*1100000+1100000<=(v+1)*1100000:=by omega
    omega
theorem NS {h:B0}(a:BR h)(ht:BX h.Tree)(hn:h.On.n=h.Tree.n):∀(M v:Nat),v+2<=M->v<h.Tree.n->Bq M h (v:Int)=some (R8 h v)
 |0,v,hM,_=>by omega
 |M+1,v,hM,hv=>by
  have b:=ht.2.1;show Y8 (Bq M) M h (v:Int)=_;unfold Y8;rw[if_neg (by simp),if_pos (by omega),AZ1];have hl:=a.len v (by omega);rcases AU ht hv with⟨c,e⟩ | ⟨p,hp,e⟩
  ·rw[e,Ff (by omega)]
   have:Bq M h (-1)=some (Sl.nil:Sl Int):=by obtain⟨K,rfl⟩:∃K,M=K+1:=⟨M-1,by omega⟩;show Y8 (Bq K) K h (-1)=_;unfold Y8;rw[if_pos (by decide)]
   rw[this,AZ4,if_pos ⟨by omega,by show (0+(h.On.g v).n)*8<=_/\0+(h.On.g v).n<=_;omega⟩]
  ·have hb:=Xc a ht hn p p (AZ7 _) (by omega);rw[e,NS a ht hn M p (by omega) (by omega),AZ4,JI e hp,if_pos ⟨by omega,by omega⟩]
def Xd (h:B0):Prop:=∃v,v<h.On.n/\64<(R8 h v).n
def AO9 (h:B0)(v:Nat):Prop:=∃k,k<(h.On.g v).n/\((h.On.g v).g k<0 \/ (h.Laws.n:Int)<=(h.On.g v).g k)
def Ao7 (h:B0)(e:Int):Prop:=(Xd h/\e=2) \/ (¬Xd h/\(∃v,v<h.On.n/\AO9 h v)/\e=3) \/ (¬Xd h/\(∀v,v<h.On.n->¬AO9 h v)/\e=0)
theorem Ao8 {N:Nat}(hN:3000000<=N){h:B0}(hi:BR h)(ht:BX h.Tree)(hn:h.On.n=h.Tree.n):∃e,Z0 N h=some e/\Ao7 h e:=by
 have h63:=ht.2.1;unfold Z0;refine ifT (by omega) ?_;refine Un (fun i (x4:Sl Int) (x5:Bool) x6=>x6=(i:Int)/\x4.n=h.On.n/\(∀v,v<i->x4.g v=((R8 h v).n:Int)/\(R8 h v).n<=64)/\(x5=true ↔ ∃v,v<i/\AO9 h v)) h.On.n _ (by omega) ⟨rfl,by show ((h.On.n:Nat):Int).toNat=_;omega,fun v b=>absurd b (by omega),⟨fun g=>(by cases g),fun⟨v,b,_⟩=>absurd b (by omega)⟩⟩ ?_;rintro m i x4 x5 x6 hle ⟨rfl,hx,hp,hb⟩ hs;by_cases o:i<h.On.n
 case neg=>
  refine ifF (by simp;omega) ?_;have hl:¬Xd h:=fun⟨v,b,hl⟩=>by have:=(hp v (by omega)).2;omega
  cases x5
  ·exact ifF (by simp) ⟨0,rfl,.inr (.inr ⟨hl,fun v b g=>(by have:=hb.2 ⟨v,by omega,g⟩;cases this),rfl⟩)⟩
  ·obtain⟨v,b,g⟩:=hb.1 rfl;exact ifT rfl ⟨3,rfl,.inr (.inl ⟨hl,⟨v,by omega,g⟩,rfl⟩)⟩
 refine ifT (by simp;omega) (ifT (by rw[AZ1];omega) (ifT (by omega) (ltX ?_)));rw[AZ1];have hl:=hi.len i (by omega);have hlb:=Xc hi ht hn i i (AZ7 _) (by omega);have rest:∀z:Sl Int,z.n=h.On.n->(∀v,v<i->z.g v=x4.g v)->z.g i=((R8 h i).n:Int)->∃r,(if (((0:Int)<=(i:Int)/\(i:Int)<(z.n:Int))/\i<z.n)then
  if (decide (64<(z.g i))) then
   some 2
  else
   P6 N (fun (d:Bool->Int->Option Int) (c:Bool) (a:Int)=>
    if (decide (a<((h.On.g i).n:Int))) then
     if ((0:Int)<=a/\a<((h.On.g i).n:Int))then
      d ((c||(decide (((h.On.g i).g a.toNat)<0)))||(decide ((h.Laws.n:Int)<=((h.On.g i).g a.toNat)))) (wrap .i64 (a+1))
     else none
    else
     m z c (wrap .i64 ((i:Int)+1))
    ) x5 0
  else none)=some r/\Ao7 h r:=by
  intro z hz u q;refine ifT (by omega) ?_;rw[q];by_cases w:64<(R8 h i).n
  ·exact ifT (by simp;omega) ⟨2,rfl,.inl ⟨⟨i,o,w⟩,rfl⟩⟩
  refine ifF (by simp;omega) ?_;refine P9 (fun k (c:Bool) a=>a=(k:Int)/\(c=true↔(∃v,v<i/\AO9 h v) \/ ∃j,j<k/\j<(h.On.g i).n/\((h.On.g i).g j<0 \/ (h.Laws.n:Int)<=(h.On.g i).g j))) (h.On.g i).n _ (by omega) ⟨rfl,hb.trans ⟨fun g=>.inl g,fun g=>g.resolve_right fun⟨j,f,_⟩=>absurd f (by omega)⟩⟩ ?_;rintro x k c a hk ⟨rfl,s⟩ y;by_cases l:k<(h.On.g i).n
  ·refine ifT (by simp;omega) (ifT (by omega) (y l _ _ ⟨C4 (by omega),?_⟩));rw[AZ1,Bb4,Bb4,s,decide_eq_true_eq,decide_eq_true_eq];constructor
   ·rintro (((g|⟨j,f,g⟩)|g)|g)
    ·exact .inl g
    ·exact .inr ⟨j,by omega,g⟩
    ·exact .inr ⟨k,by omega,l,.inl g⟩
    ·exact .inr ⟨k,by omega,l,.inr g⟩
   ·rintro (g|⟨j,f,a0,g⟩)
    ·exact .inl (.inl (.inl g))
    ·by_cases e:j=k
     ·subst e;rcases g with g|g
      ·exact .inl (.inr g)
      ·exact .inr g
     ·exact .inl (.inl (.inr ⟨j,by omega,a0,g⟩))
  ·refine ifF (by simp;omega) (hs o _ _ _ ⟨C4 (by omega),hz,fun v b=>?_,s.trans ?_⟩)
   ·by_cases e:v=i
    ·subst e;exact⟨q,by omega⟩
    ·rw[u v (by omega)];exact hp v (by omega)
   ·constructor
    ·rintro (⟨v,b,g⟩ | ⟨j,_,f,g⟩)
     ·exact⟨v,by omega,g⟩
     ·exact⟨i,by omega,j,f,g⟩
    ·rintro⟨v,b,g⟩;by_cases e:v=i
     ·subst e;obtain⟨j,f,g⟩:=g;exact .inr ⟨j,by omega,f,g⟩
     ·exact .inl ⟨v,by omega,g⟩
 rcases AU ht (v:=i) (by omega)with⟨_,e⟩ | ⟨p,t,e⟩
 ·rw[e];refine ifF (by decide) (rest _ hx (fun v b=>?_) ?_)
  ·show (if v=i then _ else x4.g v)=_;rw[if_neg (by omega)]
  ·show (if i=i then ((h.On.g i).n:Int)else _)=_;rw[if_pos rfl,Ff (by omega)];show _=((0+(h.On.g i).n:Nat):Int);omega
 ·have a1:=hp p t;rw[e];refine ifT (by simp) (ifT ?_ ?_)
  ·show ((((((0:Int)<=(i:Int)/\(i:Int)<(x4.n:Int))/\i<x4.n)/\(0:Int)<=(p:Int)/\(p:Int)<(x4.n:Int))/\(p:Int).toNat<x4.n)/\(0:Int)<=(i:Int)/\(i:Int)<(x4.n:Int))/\i<x4.n;omega
  ·rw[AZ1];refine rest _ hx (fun v b=>?_) ?_
   ·show (if v=i then _ else if v=i then _ else x4.g v)=_;rw[if_neg (by omega),if_neg (by omega)]
   ·show (if i=i then wrap .i64 ((if i=i then ((h.On.g i).n:Int)else _)+(if p=i then _ else x4.g p))else _)=_;rw[if_pos rfl,if_pos rfl,if_neg (by omega),a1.1,JI e t,F3 (by omega) (by omega)];show _=(((R8 h p).n+(h.On.g i).n:Nat):Int);omega
end Go.AM
namespace Go.AM
open Go.Proofs
def AQ8 (h:B0)(i:Nat):Prop:=∃u v,u<v/\v<i/\(h.Laws.g u).Name=(h.Laws.g v).Name
open Classical in
noncomputable def hres (N:Nat) (h:B0):Int:=
 if ¬BX h.Tree then 16 else if 64<h.Laws.n then 12 else if ∃i,i<h.Laws.n/\¬chkAll N (h.Laws.g i)then 17 else if AQ8 h h.Laws.n then 6 else if h.On.n≠h.Tree.n then 2
 else if Xd h then 2 else if ∃v,v<h.On.n/\AO9 h v then 3 else 0
structure Gf (N:Nat) (h:B0):Prop where
 tree:BX h.Tree
 laws:Fd N h.Laws
 dup:¬AQ8 h h.Laws.n
 on:h.On.n=h.Tree.n
 long:¬Xd h
 bad:∀v,v<h.On.n->¬AO9 h v
theorem hres_zero {N:Nat}{h:B0}:hres N h=0↔Gf N h:=by
 unfold hres;constructor
 ·intro g;split at g
  ·cases g
  split at g
  ·cases g
  split at g
  ·cases g
  split at g
  ·cases g
  split at g
  ·cases g
  split at g
  ·cases g
  split at g
  ·cases g
  rename_i h1 n c d f j l;exact⟨Classical.not_not.1 h1,⟨by omega,fun i a=>Bc3 fun hn=>c ⟨i,a,hn⟩⟩,d,Classical.not_not.1 f,j,fun v b hb=>l ⟨v,b,hb⟩⟩
 ·intro g;have m:=g.laws.1;rw[if_neg (fun k=>k g.tree),if_neg (by omega),if_neg (fun⟨i,a,hn⟩=>hn (g.laws.2 i a)),if_neg g.dup,if_neg (fun k=>k g.on),if_neg g.long,if_neg (fun⟨v,b,hb⟩=>g.bad v b hb)]
theorem Fg {N:Nat}{h:B0}(h1:BX h.Tree)(a:Fd N h.Laws)(b:¬AQ8 h h.Laws.n)(c:h.On.n=h.Tree.n){e:Int}(d:Ao7 h e):e=hres N h:=by
 have f:=a.1;unfold hres;rw[if_neg (fun k=>k h1),if_neg (by omega),if_neg (fun⟨i,j,hn⟩=>hn (a.2 i j)),if_neg b,if_neg (fun k=>k c)];rcases d with⟨g,rfl⟩ | ⟨g,g2,rfl⟩ | ⟨g,g2,rfl⟩
 ·rw[if_pos g]
 ·rw[if_neg g,if_pos g2]
 ·rw[if_neg g,if_neg (fun⟨v,l,hb⟩=>g2 v l hb)]
theorem Cn {N:Nat}(z:3000000<=N){h:B0}(o:BR h):K3 N h=some (hres N h):=by
 suffices g:∃r,K3 N h=some r/\r=hres N h by obtain⟨r,g,rfl⟩:=g;exact g
 obtain⟨e,e1,_,he⟩:=RZ z o.tree;unfold K3;refine B7 e1 ?_;rcases he with⟨rfl,ht⟩ | ⟨rfl,ht⟩
 case inr=>exact ifT (by decide) ⟨16,rfl,by unfold hres;rw[if_pos ht]⟩
 refine ifF (by decide) ?_;by_cases c:64<h.Laws.n
 ·exact ifT (by simp;omega) ⟨12,rfl,by unfold hres;rw[if_neg (fun k=>k ht),if_pos c]⟩
 refine ifF (by simp;omega) ?_;refine P9 (fun i (x1:List (Str×Int)) x2=>x2=(i:Int)/\(∀j,j<i->chkAll N (h.Laws.g j))/\(∀s,(BU eqS s x1=none/\∀u,u<i->(h.Laws.g u).Name≠s) \/ (∃v,BU eqS s x1=some v)/\∃u,u<i/\(h.Laws.g u).Name=s)/\((AQ8 h i/\x1.length<i) \/ (¬AQ8 h i/\x1.length=i))) h.Laws.n _ (by omega)
  ⟨rfl,fun j hj=>absurd hj (by omega),fun s=>.inl ⟨rfl,fun u q=>absurd q (by omega)⟩,.inr ⟨fun⟨u,v,_,hv,_⟩=>absurd hv (by omega),rfl⟩⟩ ?_
 rintro self i x1 x2 hle ⟨rfl,hc,hm,hl⟩ hs;by_cases d:i<h.Laws.n
 ·obtain⟨y,y1,_,hy⟩:=Fc z (o.laws i d);refine ifT (by simp;omega) (ifT (by omega) (B7 (by rw[AZ1];exact y1) ?_));rcases hy with⟨rfl,hy⟩ | ⟨rfl,hy⟩
  case inr=>exact ifT (by decide) ⟨17,rfl,by unfold hres;rw[if_neg (fun k=>k ht),if_neg c,if_pos ⟨i,d,hy⟩]⟩
  refine ifF (by decide) ?_;rw[AZ1];have t : ∀j,j<i+1->chkAll N (h.Laws.g j):=fun j hj=>by
   by_cases e:j=i
   ·subst e;exact hy
   ·exact hc j (by omega)
  have look:∀(v:Int) (s:Str),(BU eqS s (NZ eqS (h.Laws.g i).Name v x1)=none/\∀u,u<i+1->(h.Laws.g u).Name≠s) \/ (∃w,BU eqS s (NZ eqS (h.Laws.g i).Name v x1)=some w)/\∃u,u<i+1/\(h.Laws.g u).Name=s:=by
   intro v s;rw[Fe];by_cases e:s=(h.Laws.g i).Name
   ·exact .inr ⟨⟨v,by rw[if_pos e]⟩,i,by omega,e.symm⟩
   ·rw[if_neg e];rcases hm s with⟨g,g2⟩ | ⟨g,u,q,g2⟩
    ·refine .inl ⟨g,fun u q=>?_⟩;by_cases e2:u=i
     ·subst e2;exact fun k=>e k.symm
     ·exact g2 u (by omega)
    ·exact .inr ⟨g,u,by omega,g2⟩
  rcases hm (h.Laws.g i).Name with⟨g,g2⟩ | ⟨⟨v,g⟩,u,q,g2⟩
  ·rw[g,Te];refine hs d _ _ ⟨C4 (by omega),t,look _,?_⟩;rw[Yt g];rcases hl with⟨⟨a,b,f,hb,hn⟩,hl⟩ | ⟨m,hl⟩
   ·exact .inl ⟨⟨a,b,f,by omega,hn⟩,by omega⟩
   ·refine .inr ⟨fun⟨a,b,f,hb,hn⟩=>?_,by omega⟩;by_cases e:b=i
    ·subst e;exact g2 a f hn
    ·exact m ⟨a,b,f,by omega,hn⟩
  ·rw[g,Ai8];refine hs d _ _ ⟨C4 (by omega),t,look _,?_⟩;rw[Yu g];refine .inl ⟨⟨u,i,q,by omega,g2⟩,?_⟩;rcases hl with⟨_,hl⟩ | ⟨_,hl⟩<;>omega
 ·obtain rfl:i=h.Laws.n:=by omega
  have hok:Fd N h.Laws:=⟨by omega,hc⟩;have x:¬ ∃i,i<h.Laws.n/\¬chkAll N (h.Laws.g i):=fun⟨i,o,hn⟩=>hn (hc i o);refine ifF (by simp) ?_;rw[Vs];rcases hl with⟨m,hl⟩ | ⟨m,hl⟩
  ·exact ifT (by simp;omega) ⟨6,rfl,by unfold hres;rw[if_neg (fun k=>k ht),if_neg c,if_neg x,if_pos m]⟩
  refine ifF (by simp;omega) ?_;by_cases l:h.On.n=h.Tree.n
  case neg=>exact ifT (by simp;omega) ⟨2,rfl,by unfold hres;rw[if_neg (fun k=>k ht),if_neg c,if_neg x,if_neg m,if_pos l]⟩
  refine ifF (by simp[l]) ?_;obtain⟨e,e1,he⟩:=Ao8 z o ht l;exact B7 e1 ⟨e,rfl,Fg ht hok m l he⟩
theorem DY {N:Nat}(hN:3000000<=N){h:B0}(q:BR h):T8 N h=some (hres N h):=by
 suffices g:∃r,T8 N h=some r/\r=hres N h by obtain⟨r,g,rfl⟩:=g;exact g
 obtain⟨e,_,e1,he⟩:=RZ hN q.tree;unfold T8;refine B7 e1 ?_;rcases he with⟨rfl,ht⟩ | ⟨rfl,ht⟩
 case inr=>exact ifT (by decide) ⟨16,rfl,by unfold hres;rw[if_pos ht]⟩
 refine ifF (by decide) ?_;by_cases f:64<h.Laws.n
 ·exact ifT (by simp;omega) ⟨12,rfl,by unfold hres;rw[if_neg (fun k=>k ht),if_pos f]⟩
 refine ifF (by simp;omega) ?_;refine Bk (fun i x1=>x1=(i:Int)/\∀j,j<i->chkAll N (h.Laws.g j)) h.Laws.n _ (by omega) ⟨rfl,fun j s=>absurd s (by omega)⟩ ?_;rintro self i x1 hle ⟨rfl,hc⟩ hs;by_cases a:i<h.Laws.n
 ·obtain⟨y,_,y1,hy⟩:=Fc hN (q.laws i a);refine ifT (by simp;omega) (ifT (by omega) (B7 (by rw[AZ1];exact y1) ?_));rcases hy with⟨rfl,hy⟩ | ⟨rfl,hy⟩
  case inr=>exact ifT (by decide) ⟨17,rfl,by unfold hres;rw[if_neg (fun k=>k ht),if_neg f,if_pos ⟨i,a,hy⟩]⟩
  refine ifF (by decide) (hs a _ ⟨C4 (by omega),fun j s=>?_⟩);by_cases e:j=i
  ·subst e;exact hy
  ·exact hc j (by omega)
 obtain rfl:i=h.Laws.n:=by omega
 have l:Fd N h.Laws:=⟨by omega,hc⟩;have w:¬ ∃i,i<h.Laws.n/\¬chkAll N (h.Laws.g i):=fun⟨i,q,hn⟩=>hn (hc i q);refine ifF (by simp) ?_;refine Bk (fun i x1=>x1=(i:Int)/\¬AQ8 h i) h.Laws.n _ (by omega) ⟨rfl,fun⟨u,v,_,d,_⟩=>absurd d (by omega)⟩ ?_;rintro a3 i x1 hle2 ⟨rfl,t⟩ a4;by_cases a:i<h.Laws.n
 ·refine ifT (by simp;omega) ?_;refine Bk (fun k x5=>x5=(k:Int)/\∀u,u<k->(h.Laws.g u).Name≠(h.Laws.g i).Name) i _ (by omega) ⟨rfl,fun u hu=>absurd hu (by omega)⟩ ?_;rintro a5 k x5 hk ⟨rfl,x⟩ a6;by_cases z:k<i
  ·refine ifT (by simp;omega) (ifT (by omega) ?_);rw[AZ1,AZ1];by_cases e:(h.Laws.g k).Name=(h.Laws.g i).Name
   ·exact ifT (by simp[e]) ⟨6,rfl,by unfold hres;rw[if_neg (fun k=>k ht),if_neg f,if_neg w,if_pos ⟨k,i,z,a,e⟩]⟩
   ·refine ifF (by simp;exact fun g=>e g.symm) (a6 z _ ⟨C4 (by omega),fun u hu=>?_⟩);by_cases e2:u=k
    ·subst e2;exact e
    ·exact x u (by omega)
  ·refine ifF (by simp;omega) (a4 a _ ⟨C4 (by omega),fun⟨u,v,a7,d,hn⟩=>?_⟩);by_cases e:v=i
   ·subst e;exact x u (by omega) hn
   ·exact t ⟨u,v,a7,by omega,hn⟩
 obtain rfl:i=h.Laws.n:=by omega
 refine ifF (by simp) ?_;by_cases b:h.On.n=h.Tree.n
 case neg=>exact ifT (by simp;omega) ⟨2,rfl,by unfold hres;rw[if_neg (fun k=>k ht),if_neg f,if_neg w,if_neg t,if_pos b]⟩
 refine ifF (by simp[b]) ?_;have h63:=ht.2.1;refine Bk (fun i x1=>x1=(i:Int)/\∀v,v<i->¬ 64<(R8 h v).n) h.On.n _ (by omega) ⟨rfl,fun v d=>absurd d (by omega)⟩ ?_;rintro a8 i x1 hle3 ⟨rfl,a0⟩ a9;by_cases a:i<h.On.n
 ·refine ifT (by simp;omega) (B7 (NS q ht b N i (by omega) (by omega)) ?_);by_cases hg:64<(R8 h i).n
  ·exact ifT (by simp;omega) ⟨2,rfl,Fg ht l t b (.inl ⟨⟨i,a,hg⟩,rfl⟩)⟩
  ·refine ifF (by simp;omega) (a9 a _ ⟨C4 (by omega),fun v d=>?_⟩);by_cases e:v=i
   ·subst e;exact hg
   ·exact a0 v (by omega)
 refine ifF (by simp;omega) ?_;have m:¬Xd h:=fun⟨v,d,g⟩=>a0 v (by omega) g;refine Bk (fun i x1=>x1=(i:Int)/\∀v,v<i->¬AO9 h v) h.On.n _ (by omega) ⟨rfl,fun v d=>absurd d (by omega)⟩ ?_;rintro b0 i x1 hle4 ⟨rfl,a1⟩ b1;by_cases c:i<h.On.n
 ·have hl:=q.len i c;refine ifT (by simp;omega) ?_;refine Bk (fun k x1=>x1=(k:Int)/\∀j,j<k->¬((h.On.g i).g j<0 \/ (h.Laws.n:Int)<=(h.On.g i).g j)) (h.On.g i).n _ (by omega) ⟨rfl,fun j s=>absurd s (by omega)⟩ ?_;rintro b2 k x1 hk ⟨rfl,a2⟩ b3;refine ifT (by omega) ?_;rw[AZ1,AZ1];by_cases o:k<(h.On.g i).n
  ·refine ifT (by simp;omega) (ifT (by omega) ?_);by_cases g1:(h.On.g i).g k<0
   ·exact ifT (by simpa using g1) ⟨3,rfl,Fg ht l t b (.inr (.inl ⟨m,⟨i,c,k,o,.inl g1⟩,rfl⟩))⟩
   refine ifF (by simpa using g1) (ifT (by omega) ?_);by_cases g2:(h.Laws.n:Int)<=(h.On.g i).g k
   ·exact ifT (by simpa using g2) ⟨3,rfl,Fg ht l t b (.inr (.inl ⟨m,⟨i,c,k,o,.inr g2⟩,rfl⟩))⟩
   refine ifF (by simpa using g2) (b3 o _ ⟨C4 (by omega),fun j s=>?_⟩);by_cases e:j=k
   ·subst e;exact fun g=>g.elim g1 g2
   ·exact a2 j (by omega)
  ·refine ifF (by simp;omega) (b1 c _ ⟨C4 (by omega),fun v d=>?_⟩);by_cases e:v=i
   ·subst e;exact fun⟨j,s,g⟩=>a2 j (by omega) g
   ·exact a1 v (by omega)
 ·exact ifF (by simp;omega) ⟨0,rfl,Fg ht l t b (.inr (.inr ⟨m,fun v d=>a1 v (by omega),rfl⟩))⟩
end Go.AM
namespace Go.AM
open IntKind (wrap)
open Go.Proofs
def Ac0 (t:Sl M9)(v:Nat):List Nat:=
 if hp:0<=(t.g v).Parent/\(t.g v).Parent<v then Ac0 t (t.g v).Parent.toNat++[v]else [v]
termination_by v
decreasing_by omega
theorem JJ {t:Sl M9}{v:Nat}(a:(t.g v).Parent<0):Ac0 t v=[v]:=by rw[Ac0,dif_neg (by omega)]
theorem Sa {t:Sl M9}{v p:Nat}(a:(t.g v).Parent=(p:Int))(hp:p<v):Ac0 t v=Ac0 t p++[v]:=by rw[Ac0,dif_pos (by omega),a,AZ1]
theorem Xe {t:Sl M9}(ht:BX t):∀(m v:Nat),v<=m->v<t.n->∀x∈Ac0 t v,x<=v
 |m,v,hm,hv,x,hx=>by
  rcases AU ht hv with⟨_,e⟩ | ⟨p,hp,e⟩
  ·rw[JJ (by omega)]at hx;simp at hx;omega
  ·rw[Sa e hp]at hx;rcases List.mem_append.1 hx with hx|hx
   ·match m with
    |0=>omega
    |m+1=>have:=Xe ht m p (by omega) (by omega) x hx;omega
   ·simp at hx;omega
theorem AA3 {α : Type}{x:Sl α}{m:Nat}(h:x.n=m+1):x.toList.reverse=x.g m::(x.take m).toList.reverse:=by unfold Sl.toList;rw[h,Bd9,Bg0,Bh4];rfl
theorem Yv {x2:Sl Int}(hx:x2.n<100000):∀(k M:Nat),k<=x2.n->k<M->W6 M (fun (a:Int->Option (List Int)) (x3:Int)=>
 if (decide (0<=x3)) then
  if (((0:Int)<=x3/\x3<(x2.n:Int))/\x3.toNat<x2.n)then
   Ap (x2.g x3.toNat) (
    a (wrap .i64 (x3-1))
    )
  else none
 else
  some []
 ) ((k:Int)-1)=some (x2.take k).toList.reverse
 |0,M,hk,hM=>by obtain⟨M,rfl⟩:∃K,M=K+1:=⟨M-1,by omega⟩;rw[BB,if_neg (by simp)];rfl
 |k+1,M,hk,hM=>by obtain⟨M,rfl⟩:∃K,M=K+1:=⟨M-1,by omega⟩;rw[show ((k+1:Nat):Int)-1=(k:Int) by omega,BB,if_pos (by simp),if_pos ⟨by omega,by omega⟩,F3 (by omega) (by omega),Yv hx k M (by omega) (by omega),AZ1,AA3 (x:=x2.take (k+1)) (m:=k) rfl];rfl
theorem Ao9 {N:Nat}(j:3000000<=N){t:Sl M9}(ht:BX t){v:Nat}(f:v<t.n):P3 N (v:Int) t=some ((Ac0 t v).map fun (x:Nat)=>(x:Int)):=by
 have i:=ht.2.1;have key:∀(m c:Nat) (x2:Sl Int) (M:Nat),c<m->c<t.n->m+1<M->x2.n+c<=1000->∃y:Sl Int,y.n<=1001/\y.toList.reverse=((Ac0 t c).map fun (x:Nat)=>(x:Int))++x2.toList.reverse /\
  P6 M (fun (a:Int->Sl Int->Option (List Int)) (x1:Int) (x2:Sl Int)=>
  if (decide (0<=x1)) then
   if (((x2.n+(Sl.of [x1]:Sl Int).n)*8<=140737488355328/\x2.n+(Sl.of [x1]:Sl Int).n<=140737488355328)/\((0:Int)<=x1/\x1<(t.n:Int)))then
    a (t.g x1.toNat).Parent (x2.push x1)
   else none
  else
   W6 N (fun b (x3:Int)=>
    if (decide (0<=x3)) then
     if (((0:Int)<=x3/\x3<(x2.n:Int))/\x3.toNat<x2.n)then
      Ap (x2.g x3.toNat) (
       b (wrap .i64 (x3-1))
       )
     else none
    else
     some []
    ) (wrap .i64 ((x2.n:Int)-1))
  ) (c:Int) x2=some y.toList.reverse:=by
  intro m
  induction m with
  |zero=>exact fun c _ _ h=>absurd h (by omega)
  |succ m ih=>
   intro c x2 M hc d l hx;obtain⟨M,rfl⟩:∃K,M=K+1:=⟨M-1,by omega⟩;rw[E7,if_pos (by simp),if_pos ⟨by show (x2.n+1)*8<=_/\x2.n+1<=_;omega,by omega⟩,AZ1];rcases AU ht d with⟨_,e⟩ | ⟨p,hp,e⟩
   ·obtain⟨M,rfl⟩:∃K,M=K+1:=⟨M-1,by omega⟩;refine⟨x2.push (c:Int),by show x2.n+1<=_;omega,by rw[WM,Bh4,JJ (by omega)];rfl,?_⟩;rw[e,E7,if_neg (by decide)];have hb:=Yv (x2:=x2.push (c:Int)) (by show x2.n+1<_;omega) (x2.n+1) N (AZ7 _) (by omega);rw[F3 (by show _<=((x2.n+1:Nat):Int)-1;omega) (by show ((x2.n+1:Nat):Int)-1<=_;omega)];exact hb
   ·obtain⟨y,y1,y2,y3⟩:=ih p (x2.push (c:Int)) M (by omega) (by omega) (by omega) (by show x2.n+1+p<=_;omega);refine⟨y,y1,?_,by rw[e];exact y3⟩;rw[y2,WM,Bh4,Sa e hp,Bg0,Bl4];rfl
 obtain⟨y,_,y2,y3⟩:=key (v+1) v (Sl.nil:Sl Int) N (by omega) f (by omega) (by show 0+v<=_;omega);unfold P3;rw[y3,y2];show some (_++[])=_;rw[Bg3]
def AP0 (h:B0)(L:List Nat)(z:Sl Int):Sl Int:=L.foldl (fun z x=>z.app (h.On.g x)) z
theorem UH {h:B0}(ht:BX h.Tree):∀(m v:Nat),v<=m->v<h.Tree.n->AP0 h (Ac0 h.Tree v) (Sl.nil:Sl Int)=R8 h v
 |m,v,hm,hv=>by
  rcases AU ht hv with⟨_,e⟩ | ⟨p,hp,e⟩
  ·rw[JJ (by omega),Ff (by omega)];rfl
  ·rw[Sa e hp,JI e hp]
   match m with
   |0=>omega
   |m+1=>
    have:=UH ht m p (by omega) (by omega)
    unfold AP0 at this⊢;rw[List.foldl_append,this];rfl
theorem NT {h:B0}(c:BR h):∀(L:List Nat) (z:Sl Int),(∀x∈L,x<h.On.n)->z.n+L.length*1100000<=10000000000 ->
 P7 (L.map fun (x:Nat)=>(x:Int)) (fun (a:Sl Int->Option ((Sl Int)×Int)) (x1:Int) (z1:Sl Int)=>
  if (((0:Int)<=x1/\x1<(h.On.n:Int))/\((z1.n+(h.On.g x1.toNat).n)*8<=140737488355328/\z1.n+(h.On.g x1.toNat).n<=140737488355328))then
   a (z1.app (h.On.g x1.toNat))
  else none
  ) (fun (z1:Sl Int)=>
   some (z1,0)
  ) z=some (AP0 h L z,0)
 |[],z,_,_=>rfl
 |x::L,z,hx,hz=>by have b:=hx x (by simp);have hl:=c.len x b;simp only[Bc6,Bk4]at hz;rw[Bc2,P7,AZ1,if_pos ⟨by omega,by omega⟩];exact NT c L _ (fun y hy=>hx y (by simp[hy])) (by show z.n+(h.On.g x).n+_<=_;omega)
theorem Sb {t:Sl M9}(ht:BX t):∀(m v:Nat),v<=m->v<t.n->(Ac0 t v).length<=v+1
 |m,v,hm,hv=>by
  rcases AU ht hv with⟨_,e⟩ | ⟨p,hp,e⟩
  ·rw[JJ (by omega)];simp
  ·rw[Sa e hp]
   match m with
   |0=>omega
   |m+1=>have:=Sb ht m p (by omega) (by omega);simp;omega
theorem Yw {N:Nat}(g:3000000<=N){h:B0}(d:BR h)(v:Int) :∃s e,O4 N h v=some (s,e)/\Dp N h v=some (s,e)/\((e=0/\Gf N h/\0<=v/\v<h.Tree.n/\s=R8 h v.toNat) \/ (e≠0/\s=(Sl.nil:Sl Int))):=by
 unfold O4 Dp;rw[Cn g d,DY g d,AZ4,AZ4];by_cases f:hres N h=0
 case neg=>
  have b:(hres N h != 0)=true:=by simpa using f
  rw[if_pos b,if_pos b];exact⟨_,_,rfl,rfl,.inr ⟨f,rfl⟩⟩
 have a:=hres_zero.1 f;have c:¬(hres N h != 0)=true:=by simp[f]
 rw[if_neg c,if_neg c,AR,Dn,AZ4,AZ4];by_cases m:0<=v/\v<(h.Tree.n:Int)
 case neg=>
  have hb:(!((decide (0<=v))&&(decide (v<(h.Tree.n:Int)))))=true:=by simp;omega
  rw[if_pos hb,if_pos hb];exact⟨_,_,rfl,rfl,.inr ⟨by decide,rfl⟩⟩
 have hb:¬(!((decide (0<=v))&&(decide (v<(h.Tree.n:Int)))))=true:=by simp;omega
 rw[if_neg hb,if_neg hb,Al,AZ4];obtain⟨u,rfl⟩:∃u:Nat,v=(u:Int):=⟨v.toNat,by omega⟩;have l:=a.tree.2.1;have hw:=Ao9 g a.tree (v:=u) (by omega);have j:=Sb a.tree u u (AZ7 _) (by omega);have i:=NT d (Ac0 h.Tree u) (Sl.nil:Sl Int) (fun x hx=>by have:=Xe a.tree u u (AZ7 _) (by omega) x hx;have:=a.on;omega) (by show 0+_<=_;omega);rw[NS d a.tree a.on N u (by omega) (by omega),AZ4];refine⟨R8 h u,0,?_,rfl,.inl ⟨rfl,a,by omega,by omega,by rw[AZ1]⟩⟩;show (P3 N (u:Int) h.Tree).bind _=_;rw[hw,AZ4,i,UH a.tree u u (AZ7 _) (by omega)]
theorem Xf {N:Nat}{h:B0}(a:Gf N h):∀(m v:Nat),v<=m->v<h.Tree.n->∀i,i<(R8 h v).n->0<=(R8 h v).g i/\(R8 h v).g i<h.Laws.n
 |m,v,hm,hv,i,b=>by
  have AP6:∀j,j<(h.On.g v).n->0<=(h.On.g v).g j/\(h.On.g v).g j<h.Laws.n:=fun j c=>by
   have:=a.bad v (by have:=a.on;omega)
   constructor
   ·exact Int.not_lt.1 fun g=>this ⟨j,c,.inl g⟩
   ·exact Int.not_le.1 fun g=>this ⟨j,c,.inr g⟩
  rcases AU a.tree hv with⟨_,e⟩ | ⟨p,hp,e⟩
  ·rw[Ff (by omega)]at b⊢;have b:i<0+(h.On.g v).n:=b
   have:((Sl.nil:Sl Int).app (h.On.g v)).g i=(h.On.g v).g i:=by show (if i<0 then (default:Int)else (h.On.g v).g (i-0))=_;rw[if_neg (by omega)];rfl
   rw[this];exact AP6 i (by omega)
  ·rw[JI e hp]at b⊢;have b:i<(R8 h p).n+(h.On.g v).n:=b;show 0<=(if i<(R8 h p).n then (R8 h p).g i else (h.On.g v).g (i-(R8 h p).n))/\(if i<(R8 h p).n then (R8 h p).g i else (h.On.g v).g (i-(R8 h p).n))<_;split
   ·match m with
    |0=>omega
    |m+1=>exact Xf a m p (by omega) (by omega) i (by assumption)
   ·exact AP6 _ (by omega)
theorem Iz:∀(d:Nat) (p:Pat),okP d p->∀M,100+d<=M->∃q,O6 M p=some q/\PE p q
 |0,p,h,M,_=>h.elim
 |d+1,p,h,0,hM=>by omega
 |d+1,p,h,M+1,hM=>by
  show ∃q,P4 (O6 M) M p=some q/\_;unfold P4;have hn:=h.1;refine P9 (fun i (x1:Sl Pat) x2=>x2=(i:Int)/\x1.n=i/\∀j,j<i->PE (p.L.g j) (x1.g j)) p.L.n _ (by omega) ⟨rfl,rfl,fun j a=>absurd a (by omega)⟩ ?_;rintro c i x1 x2 f ⟨rfl,hx,a⟩ hs;by_cases hl:i<p.L.n
  ·obtain⟨q,q1,q2⟩:=Iz d (p.L.g i) (h.2.2 i hl) M (by omega);refine ifT (by simp;omega) (ifT (by omega) (B7 (by rw[AZ1];exact q1) (ifT (by show (x1.n+1)*64<=_/\x1.n+1<=_;omega) (hs hl _ _ ⟨C4 (by omega),by show x1.n+1=_;omega,fun j b=>?_⟩))));show PE _ (if j<x1.n then x1.g j else q);by_cases e:j=i
   ·subst e;rw[if_neg (by omega)];exact q2
   ·rw[if_pos (by omega)];exact a j (by omega)
  ·exact ifF (by simp;omega) ⟨_,rfl,PE_of.2 ⟨rfl,rfl,rfl,rfl,rfl,by show x1.n=_;omega,fun j b=>a j (by omega)⟩⟩
theorem Ac1 {N:Nat}(d:3000000<=N){l:Law}(hl:Lw l)(hc:chkAll N l):∃l',U8 N l=some l' /\ LE l l':=by have a:=hc.f hl;obtain⟨_,h1,b,g,c,_⟩:=a;have i:=c.1;obtain⟨q1,e1,g1⟩:=Iz 40 l.Left (NJ 40 _ (by omega) h1 _ (by simp)) N (by omega);obtain⟨q2,e2,g2⟩:=Iz 40 l.Right (NJ 40 _ (by omega) b _ (by simp)) N (by omega);unfold U8 A6 F8;rw[e1,e2,AZ4,AZ4,if_pos (by omega),AZ4,if_pos (by omega)];exact⟨_,rfl,rfl,g1,g2,SE.refl _,SE.refl _,rfl⟩
theorem Yx {N:Nat}(m:3000000<=N){h:B0}(o:BR h)(c:Gf N h){l:Sl Int}(hn:l.n<1000000)(hl:∀i,i<l.n->0<=l.g i/\l.g i<h.Laws.n) :∃s,R6 N h l=some s/\s.n=l.n/\∀i,i<l.n->LE (h.Laws.g (l.g i).toNat) (s.g i):=by
 unfold R6;refine P9 (fun i (x1:Sl Law) x2=>x2=(i:Int)/\x1.n=i/\∀j,j<i->LE (h.Laws.g (l.g j).toNat) (x1.g j)) l.n _ (by omega) ⟨rfl,rfl,fun j b=>absurd b (by omega)⟩ ?_;rintro f i x1 x2 hle ⟨rfl,hx,b⟩ hs;by_cases a:i<l.n
 ·have r:=hl i a;obtain⟨q,q1,q2⟩:=Ac1 m (o.laws (l.g i).toNat (by omega)) (c.laws.2 (l.g i).toNat (by omega));refine ifT (by simp;omega) ?_;rw[AZ1];refine ifT ⟨by omega,r⟩ (B7 q1 (ifT (by show (x1.n+1)*200<=_/\x1.n+1<=_;omega) (hs a _ _ ⟨C4 (by omega),by show x1.n+1=_;omega,fun j d=>?_⟩)));show LE _ (if j<x1.n then x1.g j else q);by_cases e:j=i
  ·subst e;rw[if_neg (by omega)];exact q2
  ·rw[if_pos (by omega)];exact b j (by omega)
 ·exact ifF (by simp;omega) ⟨_,rfl,by omega,fun j d=>b j (by omega)⟩
def Ac2 (h:B0)(l:Sl Int):Sl Law:=⟨l.n,fun i=>h.Laws.g (l.g i).toNat⟩
theorem AA4 {N:Nat}(q:3000000<=N){h:B0}(b:BR h)(v:Int) :∃s s' e,O5 N h v=some (s,e)/\EY N h v=some (s',e)/\LS s' s/\((e=0/\Gf N h/\0<=v/\v<h.Tree.n/\SE s' (Ac2 h (R8 h v.toNat))) \/ (e≠0/\s.n=0)):=by
 obtain⟨l,e,h1,w,t⟩:=Yw q b v;unfold O5 EY;rw[h1,w,AZ4,AZ4];have hl:l.n<1000000/\(∀i,i<l.n->0<=l.g i/\l.g i<h.Laws.n)/\∃s,R6 N h l=some s/\s.n=l.n/\∀i,i<l.n->LE (h.Laws.g (l.g i).toNat) (s.g i):=by
  rcases t with⟨_,a,g1,g2,rfl⟩ | ⟨_,rfl⟩
  ·have x:(R8 h v.toNat).n<=64:=Bl9 fun g=>a.long ⟨v.toNat,by have:=a.on;omega,g⟩;have f:=Xf a v.toNat v.toNat (AZ7 _) (by omega);exact⟨by omega,f,Yx q b a (by omega) f⟩
  ·refine⟨by show 0<_;omega,fun i b=>absurd b (Be7 i),(Sl.nil:Sl Law),?_,rfl,fun i b=>absurd b (Be7 i)⟩;unfold R6;obtain⟨M,rfl⟩:∃K,N=K+1:=⟨N-1,by omega⟩;rw[E7,if_neg (by show ¬decide ((0:Int)<((0:Nat):Int))=true;decide)]
 obtain⟨hn,y,s,s1,s2,s3⟩:=hl;have z:∃r,(P6 N (fun (c:Sl Law->Int->Option ((Sl Law)×Int)) (x1:Sl Law) (x2:Int)=>
  if (decide (x2<(l.n:Int))) then
   if ((((0:Int)<=x2/\x2<(l.n:Int))/\x2.toNat<l.n)/\((0:Int)<=(l.g x2.toNat)/\(l.g x2.toNat)<(h.Laws.n:Int)))then
    if ((x1.n+(Sl.of [h.Laws.g (l.g x2.toNat).toNat]:Sl Law).n)*200<=140737488355328/\x1.n+(Sl.of [h.Laws.g (l.g x2.toNat).toNat]:Sl Law).n<=140737488355328)then
     c (x1.push (h.Laws.g (l.g x2.toNat).toNat)) (wrap .i64 (x2+1))
    else none
   else none
  else
   some (x1,e)
  ) (Sl.nil:Sl Law) 0)=some r/\r.2=e/\r.1.n=l.n/\∀i,i<l.n->r.1.g i=h.Laws.g (l.g i).toNat:=by
  refine P9 (fun i (x1:Sl Law) x2=>x2=(i:Int)/\x1.n=i/\∀j,j<i->x1.g j=h.Laws.g (l.g j).toNat) l.n _ (by omega) ⟨rfl,rfl,fun j m=>absurd m (by omega)⟩ ?_;rintro u i x1 x2 hle ⟨rfl,hx,m⟩ hs;by_cases d:i<l.n
  ·refine ifT (by simp;omega) ?_;rw[AZ1];refine ifT ⟨⟨by omega,d⟩,y i d⟩ (ifT (by show (x1.n+1)*200<=_/\x1.n+1<=_;omega) (hs d _ _ ⟨C4 (by omega),by show x1.n+1=_;omega,fun j o=>?_⟩));show (if j<x1.n then x1.g j else _)=_;by_cases e:j=i
   ·subst e;rw[if_neg (by omega)]
   ·rw[if_pos (by omega)];exact m j (by omega)
  ·exact ifF (by simp;omega) ⟨_,rfl,rfl,by show x1.n=_;omega,fun j o=>m j (by omega)⟩
 obtain⟨⟨s',e'⟩,d1,d2,d3,d4⟩:=z;dsimp only at d2 d3 d4;subst d2;rw[s1,AZ4];refine⟨s,s',_,rfl,d1,⟨by omega,fun i b=>by rw[d4 i (by omega)];exact s3 i (by omega)⟩,?_⟩;rcases t with⟨g0,a,g1,g2,rfl⟩ | ⟨g0,rfl⟩
 ·exact .inl ⟨g0,a,g1,g2,d3,fun i b=>d4 i (by omega)⟩
 ·exact .inr ⟨g0,s2⟩
end Go.AM
namespace Go.AM
open Go.Proofs
def Ap0 (N:Nat)(l:Law)(w:Sl Sound):Option (Sl Sound):=(R5 N l w).bind fun y=>if y.2=0 then some y.1 else none
def Sc (N:Nat):List Law->Sl Sound->Option (Sl Sound)
 |[],w=>some w
 |l::L,w=>(Ap0 N l w).bind (Sc N L)
def goodL (N:Nat)(l:Law):Prop:=Lw l/\chkAll N l
theorem AP1 {N:Nat}(a:3000000<=N){l:Law}(hl:goodL N l){w:Sl Sound}(hw:wOk w):(∃v,R5 N l w=some (v,0)/\Ap0 N l w=some v/\wOk v) \/ (∃v,R5 N l w=some (v,11)/\Ap0 N l w=none):=by
 obtain⟨⟨v,e⟩,_,h1,_,_,_,b⟩:=UD a hl.1 (LE.refl l) (SE.refl w) fun i c=>(hw.2 i c).ok;rcases b with⟨_,h⟩ | ⟨_,h,h'⟩ | ⟨_,_,h|⟨h,h'⟩⟩
 ·exact absurd hl.2 h
 ·exact absurd ((U9 h).2 hw) h'
 ·dsimp only at h;subst h;exact .inr ⟨v,h1,by unfold Ap0;rw[h1];rfl⟩
 ·dsimp only at h h';subst h;exact .inl ⟨v,h1,by unfold Ap0;rw[h1];rfl,h'⟩
theorem Xg {N:Nat}(f:3000000<=N){laws:Sl Law}(hl:Ge laws)(c:Fd N laws):∀(m i:Nat) (w:Sl Sound),wOk w->i<=laws.n->laws.n<=i+m ->
 (∃L,(∀M,m<M->P6 M (T5 N 0 laws) w i=some L)/\Sc N (laws.toList.drop i) w=some (JF w L)/\wOk (JF w L)) \/
 ((∃L,∀M,m<M->P6 M (T5 N 0 laws) w i=none/\P6 M (T5 N 11 laws) w i=some L)/\Sc N (laws.toList.drop i) w=none):=by
 have b:=c.1;have fin:∀(m i:Nat) (w:Sl Sound),wOk w->i=laws.n->∃L,(∀M,m<M->P6 M (T5 N 0 laws) w i=some L)/\Sc N (laws.toList.drop i) w=some (JF w L)/\wOk (JF w L):=by rintro m i w hw rfl;refine⟨[],fun M d=>?_,by rw[DX];rfl,hw⟩;obtain⟨M,rfl⟩:∃K,M=K+1:=⟨M-1,by omega⟩;rw[E7,T5,if_neg (by simp),if_pos rfl]
 intro m
 induction m with
 |zero=>exact fun i w hw g hm=>.inl (fin 0 i w hw (by omega))
 |succ m ih=>
  intro i w hw g hm;by_cases a:i<laws.n
  case neg=>exact .inl (fin _ i w hw (by omega))
  rw[FN _ a];rcases AP1 f ⟨hl i a,c.2 i a⟩ hw with⟨v,g1,g2,g3⟩ | ⟨v,g1,g2⟩
  ·rcases ih (i+1) v g3 (by omega) (by omega)with⟨L,a1,a2,a3⟩ | ⟨⟨L,a1⟩,a2⟩
   ·refine .inl ⟨((i+1:Nat),v)::L,fun M d=>?_,by unfold Sc;rw[g2];exact a2,a3⟩;obtain⟨M,rfl⟩:∃K,M=K+1:=⟨M-1,by omega⟩;rw[E7,R7 a b g1,if_neg (by simp)];show Ap _ (P6 M (T5 N 0 laws) v _)=_;rw[a1 M (by omega)];rfl
   ·refine .inr ⟨⟨((i+1:Nat),v)::L,fun M d=>?_⟩,by unfold Sc;rw[g2];exact a2⟩;obtain⟨M,rfl⟩:∃K,M=K+1:=⟨M-1,by omega⟩;obtain⟨b1,b2⟩:=a1 M (by omega);rw[E7,E7,R7 a b g1,R7 a b g1,if_neg (by simp),if_neg (by simp)];refine⟨?_,?_⟩
    ·show Ap _ (P6 M (T5 N 0 laws) v _)=_;rw[b1];rfl
    ·show Ap _ (P6 M (T5 N 11 laws) v _)=_;rw[b2];rfl
  ·refine .inr ⟨⟨[],fun M d=>?_⟩,by unfold Sc;rw[g2];rfl⟩;obtain⟨M,rfl⟩:∃K,M=K+1:=⟨M-1,by omega⟩;rw[E7,E7,R7 a b g1,R7 a b g1];exact⟨rfl,rfl⟩
theorem Xh {N:Nat}(g:3000000<=N){laws:Sl Law}(hl:Ge laws)(d:Fd N laws){w:Sl Sound}(hw:wOk w) :(∃v,Sc N laws.toList w=some v/\G3 N laws w=some (v,0)/\wOk v) \/ (Sc N laws.toList w=none/\G3 N laws w=some ((Sl.nil:Sl Sound),11)):=by
 have j:=d.1;have l:=hw.1;obtain⟨e,e1,m⟩:=NP g hl (w:=w) fun i o=>(hw.2 i o).ok
 have:e=0:=by
  rcases m with⟨h,h'⟩ | ⟨_,h⟩
  ·exact Hr h (lawsE_zero.2 d)
  ·exact (U9 h).2 hw
 subst this;have b:A6 N w=some w:=by unfold A6;rw[if_pos (by omega)]
 have a:∀c,C7 N c laws w=(Ap (0,w) (P6 N (T5 N c laws) w 0)).bind fun L1=>P7 L1 (fun (f:Sl Sound->Option (Sl Sound)) (x1:Int×(Sl Sound)) (z1:Sl Sound)=>f x1.2) (fun (z1:Sl Sound)=>some z1) (Sl.nil:Sl Sound):=by intro c;unfold C7 AQ U7;rw[AZ4,b,AZ4];rfl
 unfold G3;rw[e1,AZ4,if_neg (by decide)];rcases Xg g hl d laws.n 0 w hw (by omega) (by omega)with⟨L,g1,g2,g3⟩ | ⟨⟨L,g1⟩,g2⟩
 ·have g1:P6 N (T5 N 0 laws) w 0=some L:=g1 N (by omega)
  have:F6 N laws w=some (JF w L,true):=by
   have e0:C7 N 0 laws w=some (JF w L):=by rw[a,g1];exact JG _ _
   unfold F6;rw[e0]
  rw[this];exact .inl ⟨_,g2,rfl,g3⟩
 ·obtain⟨g3,g4⟩:=g1 N (by omega);have g3:P6 N (T5 N 0 laws) w 0=none:=g3;have g4:P6 N (T5 N 11 laws) w 0=some L:=g4
  have:F6 N laws w=some ((Sl.nil:Sl Sound),false):=by
   have e0:C7 N 0 laws w=none:=by rw[a,g3];rfl
   have e11:C7 N 11 laws w=some (JF w L):=by rw[a,g4];exact JG _ _
   unfold F6;rw[e0,e11];rfl
  rw[this];exact .inr ⟨g2,rfl⟩
theorem AF8 {α : Type}(s t:Sl α):(s.app t).toList=s.toList++t.toList:=by
 show (List.range (s.n+t.n)).map (fun i=>if i<s.n then s.g i else t.g (i-s.n))=_;rw[List.range_add,Bg0,Bg7];congr 1
 ·exact Bc1 fun i a=>if_pos (Bf4.1 a)
 ·refine Bc1 fun i a=>?_;show (if s.n+i<s.n then _ else t.g (s.n+i-s.n))=_;rw[if_neg (by omega)];congr 1;omega
theorem AA5 {h:B0}(b:BR h){l:Sl Int}(hl:∀i,i<l.n->0<=l.g i/\l.g i<h.Laws.n):Ge (Ac2 h l):=fun i a=>b.laws _ (by have:=hl i a;omega)
theorem AA6 {N:Nat}{h:B0}(a:Gf N h){l:Sl Int}(hn:l.n<=64)(hl:∀i,i<l.n->0<=l.g i/\l.g i<h.Laws.n):Fd N (Ac2 h l):=⟨hn,fun i b=>a.laws.2 _ (by have:=hl i b;omega)⟩
end Go.AM
namespace Go.AM
open IntKind (wrap)
open Go.Proofs
theorem eqR {R:Type}{x:Option R}{y:R}(h:∃r,x=some r/\r=y):x=some y:=by obtain⟨r,h,rfl⟩:=h;exact h
def Sd (t:Sl M9)(v:Nat):Prop:=∀u,0<u->u<t.n->(t.g u).Parent≠(v:Int)
open Classical in
noncomputable def T1 (t:Sl M9):Nat->Sl Int
 |0=>(Sl.nil:Sl Int)
 |i+1=>if Sd t i then (T1 t i).push (i:Int)else T1 t i
theorem NU {t:Sl M9}{i:Nat}(h:Sd t i):T1 t (i+1)=(T1 t i).push (i:Int):=if_pos h
theorem Se {t:Sl M9}{i:Nat}(h:¬Sd t i):T1 t (i+1)=T1 t i:=if_neg h
theorem Ap1 (t:Sl M9):∀i,(T1 t i).n<=i
 |0=>AZ7 0
 |i+1=>by
  have:=Ap1 t i
  by_cases h:Sd t i
  ·rw[NU h];show (T1 t i).n+1<=i+1;omega
  ·rw[Se h];omega
theorem Xi (t:Sl M9):∀i k,k<(T1 t i).n->∃v:Nat,v<i/\(T1 t i).g k=(v:Int)
 |0,k,hk=>absurd hk (Be7 k)
 |i+1,k,hk=>by
  by_cases h:Sd t i
  ·rw[NU h]at hk⊢;have hk:k<(T1 t i).n+1:=hk;show ∃v:Nat,v<i+1/\(if k<(T1 t i).n then (T1 t i).g k else (i:Int))=(v:Int);by_cases a:k<(T1 t i).n
   ·rw[if_pos a];obtain⟨v,h1,b⟩:=Xi t i k a;exact⟨v,by omega,b⟩
   ·rw[if_neg a];exact⟨i,by omega,rfl⟩
  ·rw[Se h]at hk⊢;obtain⟨v,h1,b⟩:=Xi t i k hk;exact⟨v,by omega,b⟩
theorem AA7 {N:Nat}(s:3000000<=N){t:Sl M9}(ht:BX t):∃X,Z1 N t=some X/\(X.n=t.n/\∀v,v<t.n->((X.g v).n=0↔Sd t v)):=by
 have o:=ht.2.1;unfold Z1;refine ifT (by omega) (P9 (fun i x (X:Sl (Sl Int))=>x=(i:Int)/\X.n=t.n/\∀v,v<t.n->(((X.g v).n=0 ↔ ∀u,0<u->u<i->(t.g u).Parent≠(v:Int))/\(X.g v).n<=i)) t.n _ (by omega)
  ⟨rfl,rfl,fun v b=>⟨⟨fun _ u h1 a=>absurd a (Be7 u),fun _=>rfl⟩,AZ7 0⟩⟩ ?_)
 rintro l i x X hle ⟨rfl,c,f⟩ hs;by_cases hl:i<t.n
 case neg=>
  obtain rfl:i=t.n:=by omega
  exact ifF (by simp) ⟨X,rfl,c,fun v b=>(f v b).1⟩
 refine ifT (by simpa using hl) (ifT (by omega) ?_);rw[AZ1,C4 (by omega)];rcases AU ht hl with⟨q,h1⟩ | ⟨p,hp,e⟩
 ·subst q;rw[h1];refine ifT (by show Int.toNat (-1)<X.n;rw[c];exact hl) (ltX (ifF (by simp) (hs hl _ _ ⟨rfl,c,fun v b=>?_⟩)));have e:(X.upd (Int.toNat (-1)) (X.g (Int.toNat (-1)))).g v=X.g v:=by
   show (if v=_ then X.g (Int.toNat (-1))else X.g v)=X.g v;split
   ·rename_i e;rw[e]
   ·rfl
  rw[e];obtain⟨g1,g2⟩:=f v b;exact⟨g1.trans ⟨fun _ u h1 a=>absurd a (by omega),fun _ u h1 a=>absurd a (by omega)⟩,by omega⟩
 ·rw[e,AZ1];have j:p<t.n:=by omega
  have m:=(f p j).2;refine ifT (by omega) (ltX (ifT (by simp;omega) (ifT ⟨⟨by omega,by rw[c];omega⟩,by omega,by omega⟩ (hs hl _ _ ⟨rfl,c,fun v b=>?_⟩))));show ((if v=p then (X.g p).push (i:Int)else X.g v).n=0↔_)/\(if v=p then (X.g p).push (i:Int)else X.g v).n<=i+1;by_cases d:v=p
  ·subst d;rw[if_pos rfl];refine⟨⟨fun h=>absurd h (Nat.succ_ne_zero _),fun h=>absurd e (h i (by omega) (by omega))⟩,?_⟩;show (X.g v).n+1<=i+1;omega
  ·rw[if_neg d];obtain⟨g1,g2⟩:=f v b;refine⟨g1.trans ⟨fun h u h1 a=>?_,fun h u h1 a=>h u h1 (by omega)⟩,by omega⟩;by_cases r:u=i
   ·subst r;rw[e];omega
   ·exact h u h1 (by omega)
theorem AX8 {R:Type}{Q:R->Prop}{a:Sl Int->Int->Option R}{t:Sl M9}{i:Nat}(c:i<1000){b:Bool}(hb:b=true↔Sd t i)(h:∃r,a (T1 t (i+1)) ((i+1:Nat):Int)=some r/\Q r) :∃r,(if b then
  if (((T1 t i).n+(Sl.of [(i:Int)]:Sl Int).n)*8<=140737488355328/\(T1 t i).n+(Sl.of [(i:Int)]:Sl Int).n<=140737488355328)then
   a ((T1 t i).push (i:Int)) (wrap .i64 ((i:Int)+1))
  else none
  else a (T1 t i) (wrap .i64 ((i:Int)+1)))=some r/\Q r:=by
 have hn:=Ap1 t i;rw[C4 (by omega)];by_cases hk:Sd t i
 ·rw[NU hk]at h;exact ifT (hb.2 hk) (ifT ⟨by show ((T1 t i).n+1)*8<=_;omega,by show (T1 t i).n+1<=_;omega⟩ h)
 ·rw[Se hk]at h;exact ifF (fun g=>hk (hb.1 g)) h
theorem Xj {N:Nat}(c:3000000<=N){t:Sl M9}(ht:BX t):∃r,BN N t=some r/\r=T1 t t.n:=by
 have d:=ht.2.1;unfold BN;obtain⟨X,e,a,hk⟩:=AA7 c ht;refine B7 e (P9 (fun i x1 x2=>x2=(i:Int)/\x1=T1 t i) t.n _ (by omega) ⟨rfl,rfl⟩ ?_);rintro b i x1 x2 hle ⟨rfl,rfl⟩ hs;by_cases hl:i<t.n
 ·refine ifT (by rw[a];simpa using hl) (ifT (by omega) ?_);rw[AZ1];exact AX8 (by omega) (by rw[<- hk i hl];simp) (hs hl _ _ ⟨rfl,rfl⟩)
 ·obtain rfl:i=t.n:=by omega
  exact ifF (by rw[a];simp) ⟨_,rfl,rfl⟩
theorem AA8 {N:Nat}(l:3000000<=N){t:Sl M9}(ht:BX t){v:Nat}(m:v<t.n):∃r,AS N t (v:Int)=some r/\(r.n=0↔Sd t v):=by
 have f:=ht.2.1;unfold AS;refine P9 (fun i (x1:Sl Int) x2=>x2=(i:Int)/\x1.n<=i/\(x1.n=0 ↔ ∀u,0<u->u<i->(t.g u).Parent≠(v:Int))) t.n _ (by omega) ⟨rfl,AZ7 0,fun _ u h1 a=>absurd a (Be7 u),fun _=>rfl⟩ ?_;rintro b i x1 x2 hle ⟨rfl,hn,c⟩ hs;by_cases hl:i<t.n
 ·refine ifT (by simpa using hl) (ifT (by omega) ?_);rw[AZ1,C4 (by omega)];by_cases hp:(t.g i).Parent=(v:Int)
  ·have d:0<i:=by
    rcases AU ht hl with⟨d,h1⟩ | ⟨p,hp,e⟩
    ·rw[h1]at hp;omega
    ·omega
   refine ifT (by simpa using hp) (ifT ⟨by show (x1.n+1)*8<=_;omega,by show x1.n+1<=_;omega⟩ (hs hl _ _ ⟨rfl,by show x1.n+1<=i+1;omega,fun h=>absurd h (Nat.succ_ne_zero _),fun h=>absurd hp (h i d (by omega))⟩))
  ·refine ifF (by simpa using hp) (hs hl _ _ ⟨rfl,by omega,c.trans ⟨fun h u h1 a=>?_,fun h u h1 a=>h u h1 (by omega)⟩⟩);by_cases j:u=i
   ·subst j;exact hp
   ·exact h u h1 (by omega)
 ·obtain rfl:i=t.n:=by omega
  exact ifF (by simp) ⟨_,rfl,c⟩
theorem Ac3 {N:Nat}(a:3000000<=N){t:Sl M9}(c:NR t):∃s e,BO N t=some (s,e)/\T4 N t=some (s,e)/\((BX t/\e=0/\s=T1 t t.n) \/ (¬BX t/\e=16/\s=(Sl.nil:Sl Int))):=by
 obtain⟨e,e1,e2,d⟩:=RZ a c;unfold BO T4;rw[e1,e2,AZ4,AZ4];rcases d with⟨rfl,ht⟩ | ⟨rfl,ht⟩
 ·have f:=ht.2.1;rw[if_neg (by decide),if_neg (by decide)];obtain⟨r,g1,rfl⟩:=Xj a ht;refine⟨_,0,by rw[g1];rfl,eqR (P9 (fun i x1 x2=>x2=(i:Int)/\x1=T1 t i) t.n _ (by omega) ⟨rfl,rfl⟩ ?_),.inl ⟨ht,rfl,rfl⟩⟩;rintro b i x1 x2 hle ⟨rfl,rfl⟩ hs;by_cases hl:i<t.n
  ·refine ifT (by simpa using hl) ?_;obtain⟨r,k1,k2⟩:=AA8 a ht hl;exact B7 k1 (AX8 (by omega) (by rw[<- k2];simp) (hs hl _ _ ⟨rfl,rfl⟩))
  ·obtain rfl:i=t.n:=by omega
   exact ifF (by simp) ⟨_,rfl,rfl⟩
 ·exact⟨_,16,if_pos (by decide),if_pos (by decide),.inr ⟨ht,rfl,rfl⟩⟩
end Go.AM
namespace Go.AM
open Go.Proofs
theorem Ap2 {N:Nat}(t:3000000<=N)(h:B0):∃b,DU N h=some b/\True:=by
 unfold DU;by_cases hb:(((decide (70<(h.Tree.n:Int)))||(decide (70<(h.Laws.n:Int))))||(decide (70<(h.On.n:Int))))=true
 ·exact ifT hb ⟨_,rfl,trivial⟩
 refine ifF hb ?_;have o : h.Laws.n<=70/\h.On.n<=70:=by simp at hb;omega
 refine Bk (fun i x=>x=(i:Int)) h.On.n _ (by omega) rfl ?_;rintro l i x q rfl hs;by_cases d:i<h.On.n
 ·refine ifT (by simp;omega) (ifT (by omega) ?_);by_cases m:(decide (70<((h.On.g (i:Int).toNat).n:Int)))=true
  ·exact ifT m ⟨_,rfl,trivial⟩
  ·exact ifF m (hs d _ (C4 (by omega)))
 ·refine ifF (by simp;omega) ?_;refine Bk (fun i x=>x=(i:Int)) h.Laws.n _ (by omega) rfl ?_;rintro f i x q rfl j;by_cases d:i<h.Laws.n
  ·rw[C4 (by omega)];refine ifT (by simp;omega) (ifT (by omega) ?_);obtain⟨r,s⟩:=AA1 (N:=N) (by omega) (h.Laws.sub (i:Int).toNat ((i+1:Nat):Int).toNat);refine B7 s ?_;have last:∀z3:Bool,∃r,(if z3 then some false else f ((i+1:Nat):Int))=some r/\True:=fun z=>by
    cases z
    ·exact ifF (by simp) (j d _ rfl)
    ·exact ifT rfl ⟨_,rfl,trivial⟩
   refine ltX ?_;by_cases g1:(decide (4<r))=true
   ·exact ifT g1 (last _)
   refine ifF g1 ?_;by_cases g2:(decide (20<((h.Laws.g (i:Int).toNat).If.n:Int)))=true
   ·exact ifT g2 (last _)
   refine ifF g2 ?_;by_cases g3:(decide (20<((h.Laws.g (i:Int).toNat).Out.n:Int)))=true
   ·exact ifT g3 (last _)
   refine ifF g3 ?_;obtain⟨a,ha,_⟩:=JH (N:=N) (by omega) (h.Laws.g (i:Int).toNat).Left;refine B7 ha ?_;by_cases g4:(decide (41<(a:Int)))=true
   ·exact ifT g4 (last _)
   refine ifF g4 ?_;obtain⟨c,hc,_⟩:=JH (N:=N) (by omega) (h.Laws.g (i:Int).toNat).Right;exact B7 hc (last _)
  ·exact ifF (by simp;omega) ⟨_,rfl,trivial⟩
theorem Ap3 {N:Nat}(t:3000000<=N){h:B0}(u:BR h)(l:Sl (Sl Sound)):∃b,DV N h l=some b/\(b=true->l.n<=300/\∀i,i<l.n->(l.g i).n<=50):=by
 obtain⟨b,hb,_⟩:=Ap2 t h;unfold DV;refine B7 hb ?_;by_cases g:((!b)||(decide (300<(l.n:Int))))=true
 ·exact ifT g ⟨_,rfl,fun g=>by cases g⟩
 refine ifF g ?_;have hn:l.n<=300:=by simp at g;omega
 refine P9 (fun i x1 x2=>x2=(i:Int)/\∀j,j<i->(l.g j).n<=50) l.n _ (by omega) ⟨rfl,fun j v=>absurd v (by omega)⟩ ?_;rintro w i x1 x2 f ⟨rfl,hw⟩ hs;by_cases d:i<l.n
 ·refine ifT (by simp;omega) (ifT (by omega) ?_);rw[AZ1];by_cases g5:(decide (50<((l.g i).n:Int)))=true
  ·exact ifT g5 ⟨_,rfl,fun g=>by cases g⟩
  ·refine ifF g5 (hs d _ _ ⟨C4 (by omega),fun j v=>?_⟩);by_cases e:j=i
   ·subst e;simp at g5;omega
   ·exact hw j (by omega)
 ·obtain rfl:i=l.n:=by omega
  refine ifF (by simp) ?_;by_cases g5:((decide ((l.n:Int)<=256))&&(decide (1500<x1)))=true
  ·exact ifT g5 ⟨_,rfl,fun g=>by cases g⟩
  refine ifF g5 (B7 (DY t u) ?_);by_cases g6:(hres N h != 0)=true
  ·exact ifT g6 ⟨_,rfl,fun _=>⟨hn,hw⟩⟩
  refine ifF g6 ?_;have m:Gf N h:=hres_zero.1 (by simpa using g6);have x:=m.laws.1;have y:=u.on;refine P9 (fun i x3 x4=>x4=(i:Int)) h.Laws.n _ (by omega) rfl ?_;rintro o i x3 x4 f rfl q;by_cases d:i<h.Laws.n
  ·obtain⟨a,ha,_⟩:=JH (N:=N) (by omega) (h.Laws.g (i:Int).toNat).Left;obtain⟨c,hc,_⟩:=JH (N:=N) (by omega) (h.Laws.g (i:Int).toNat).Right;exact ifT (by simp;omega) (ifT (by omega) (B7 ha (B7 hc (q d _ _ (C4 (by omega))))))
  ·refine ifF (by simp;omega) ?_;refine P9 (fun i x3 x4=>x4=(i:Int)) h.On.n _ (by omega) rfl ?_;rintro r i x3 x4 f rfl s;by_cases d:i<h.On.n
   ·exact ifT (by simp;omega) (ifT (by omega) (s d _ _ (C4 (by omega))))
   ·exact ifF (by simp;omega) ⟨_,rfl,fun _=>⟨hn,hw⟩⟩
def Ko (z:BitVec 64)(k:Nat)(b:Bool):BitVec 64:=if b then z ||| (1#64 <<< k)else z
def Ap4 (M:Nat->Bool):Nat->BitVec 64
 |0=>0#64
 |k+1=>Ko (Ap4 M k) k (M k)
noncomputable def Br (h:B0) (k:Nat):Nat:=((T1 h.Tree h.Tree.n).g k).toNat
theorem Ap5 {h:B0}{k:Nat}(hk:k<(T1 h.Tree h.Tree.n).n):Br h k<h.Tree.n/\(T1 h.Tree h.Tree.n).g k=(Br h k:Int):=by obtain⟨v,h1,a⟩:=Xi h.Tree h.Tree.n k hk;unfold Br;rw[a,AZ1];exact⟨h1,rfl⟩
theorem Ap6 {N:Nat}(i:3000000<=N){h:B0}(l:BR h)(d:Gf N h){k:Nat}(hk:k<(T1 h.Tree h.Tree.n).n) :O4 N h ((T1 h.Tree h.Tree.n).g k)=some (R8 h (Br h k),0)/\Dp N h ((T1 h.Tree h.Tree.n).g k)=some (R8 h (Br h k),0)/\(R8 h (Br h k)).n<=64 /\
  ∀j,j<(R8 h (Br h k)).n->0<=(R8 h (Br h k)).g j/\(R8 h (Br h k)).g j<h.Laws.n:=by
 obtain⟨h1,q⟩:=Ap5 hk;obtain⟨s,e,a,b,c⟩:=Yw i l (Br h k:Int);have f:(R8 h (Br h k)).n<=64:=Nat.not_lt.1 fun g=>d.long ⟨Br h k,by have:=d.on;omega,g⟩;rcases c with⟨rfl,_,_,_,rfl⟩ | ⟨g1,g2⟩
 ·rw[AZ1]at a b;rw[q];exact⟨a,b,f,Xf d _ _ (AZ7 _) h1⟩
 ·exfalso;unfold O4 at a;rw[Cn i l,hres_zero.2 d,AZ4,if_neg (by decide),AR,AZ4,if_neg (by simp;omega)]at a;cases hw:(Al N h.Tree (Br h k:Int))with
  |none=>rw[hw]at a;cases a
  |some w=>have r:=d.tree.2.1;have m:=Ao9 i d.tree (v:=Br h k) h1;have o:=NT l (Ac0 h.Tree (Br h k)) (Sl.nil:Sl Int) (fun x hx=>by have:=Xe d.tree _ _ (AZ7 _) h1 x hx;have:=d.on;omega) (by have:=Sb d.tree _ _ (AZ7 _) h1;show 0+_<=_;omega);unfold Al at a;rw[AZ4]at a;replace a:(P3 N (Br h k:Int) h.Tree).bind _=_:=a;rw[m,AZ4,o]at a;cases a;exact g1 rfl
end Go.AM
namespace Go.AM
open Go.Proofs
theorem Fh (g:Nat->Int×Int)(n:Nat):Oa g (n+1)=Oa g n++TW (g n) 4:=by unfold Oa;rw[Bd9,List.flatMap_append];simp
theorem Ap7 (s:Int×Int):(TW s 4).length=8:=rfl
theorem Fi (g:Nat->Int×Int):∀n,(Oa g n).length=8*n
 |0=>rfl
 |n+1=>by rw[Fh,Ba7,Fi g n,Ap7];omega
theorem Ap8 {a b:Nat}(ha:a<4294967296)(hb:b<4294967296)(h:∀i,i<4->byB (a:Int) i=byB (b:Int) i):a=b:=by
 have key:∀(m i:Nat),2 ^ (8*i)=m->i<4->((a:Int) / (m:Int) % 256).toNat % 256=((b:Int) / (m:Int) % 256).toNat % 256:=fun m i hm c=>by
  have:=congrArg UInt8.toNat (h i c)
  unfold byB at this;rw[Bn6,Bn6,show ((2:Int) ^ (8*i))=(m:Int) by rw[<- hm];norm_cast]at this;exact this
 have d:=key 1 0 rfl (by omega);have h1:=key 256 1 rfl (by omega);have f:=key 65536 2 rfl (by omega);have g:=key 16777216 3 rfl (by omega);omega
theorem AA9 {s t:Sound}(hs:vS s)(ht:vS t)(h:TW (s.Plus,s.Minus) 4=TW (t.Plus,t.Minus) 4):s=t:=by
 obtain⟨p,m,rfl,_⟩:=hs;obtain⟨p',m',rfl,_⟩:=ht;have h:[byB (p.toNat:Int) 0,byB (m.toNat:Int) 0,byB (p.toNat:Int) 1,byB (m.toNat:Int) 1,byB (p.toNat:Int) 2,byB (m.toNat:Int) 2,byB (p.toNat:Int) 3,byB (m.toNat:Int) 3]=[byB (p'.toNat:Int) 0,byB (m'.toNat:Int) 0,byB (p'.toNat:Int) 1,byB (m'.toNat:Int) 1,byB (p'.toNat:Int) 2,byB (m'.toNat:Int) 2,byB (p'.toNat:Int) 3,byB (m'.toNat:Int) 3]:=h;simp only[Bg5]at h;obtain⟨a0,b0,a1,b1,a2,b2,a3,b3,_⟩:=h;have e1:p=p':=Bb9 (Ap8 p.isLt p'.isLt fun i a=>match i,a with
  |0,_=>a0
  |1,_=>a1
  |2,_=>a2
  |3,_=>a3)
 have e2:m=m':=Bb9 (Ap8 m.isLt m'.isLt fun i a=>match i,a with
  |0,_=>b0
  |1,_=>b1
  |2,_=>b2
  |3,_=>b3)
 rw[e1,e2]
theorem Yy {f g:Nat->Sound}:∀n,(∀i,i<n->vS (f i))->(∀i,i<n->vS (g i))->Oa (fun i=>((f i).Plus,(f i).Minus)) n=Oa (fun i=>((g i).Plus,(g i).Minus)) n->∀i,i<n->f i=g i
 |0,_,_,_,i,hi=>absurd hi (by omega)
 |n+1,hf,hg,h,i,hi=>by
  rw[Fh,Fh]at h;obtain⟨h1,a⟩:=List.append_inj h (by rw[Fi,Fi]);by_cases e:i=n
  ·subst e;exact AA9 (hf _ hi) (hg _ hi) a
  ·exact Yy n (fun j b=>hf j (by omega)) (fun j b=>hg j (by omega)) h1 i (by omega)
theorem Ap9 {v u:Sl Sound}(a:wOk v)(b:wOk u):Jq v=Jq u↔SE v u:=by
 constructor
 ·intro h;have hn:v.n=u.n:=by
   have:=congrArg List.length h
   unfold Jq at this;rw[Fi,Fi]at this;omega
  refine⟨hn,?_⟩;unfold Jq at h;rw[<- hn]at h;exact Yy v.n a.2 (fun i c=>b.2 i (by omega)) h
 ·rintro⟨hn,h⟩;unfold Jq;rw[<- hn]
  have:∀n,n<=v.n->Oa (fun i=>((v.g i).Plus,(v.g i).Minus)) n=Oa (fun i=>((u.g i).Plus,(u.g i).Minus)) n:=by
   intro n
   induction n with
   |zero=>intro _;rfl
   |succ n ih=>intro d;rw[Fh,Fh,ih (by omega),h n (by omega)]
  exact this v.n (AZ7 _)
def AY8 (v:Sl Sound)(e:Int):Str:=if e=0 then Jq v else [45]
theorem Yz (v:Sl Sound):Jq v≠[45]:=fun h=>by
 have:=congrArg List.length h
 unfold Jq at this;rw[Fi]at this;simp at this;omega
def AP2 (v:Sl Sound)(e:Int):Prop:=(e=0/\wOk v) \/ (v=(Sl.nil:Sl Sound)/\e=11)
theorem AB0 {v u:Sl Sound}{e f:Int}(a:AP2 v e)(b:AP2 u f):AY8 v e=AY8 u f↔e=f/\SE v u:=by
 unfold AY8;rcases a with⟨rfl,a⟩ | ⟨rfl,rfl⟩<;>rcases b with⟨rfl,b⟩ | ⟨rfl,rfl⟩
 ·rw[if_pos rfl,if_pos rfl,Ap9 a b];simp
 ·rw[if_pos rfl,if_neg (by decide)];exact⟨fun h=>absurd h (Yz v),fun h=>absurd h.1 (by decide)⟩
 ·rw[if_neg (by decide),if_pos rfl];exact⟨fun h=>absurd h.symm (Yz u),fun h=>absurd h.1 (by decide)⟩
 ·rw[if_neg (by decide)];exact⟨fun _=>⟨rfl,SE.refl _⟩,fun _=>rfl⟩
def V2 (x:Nat->Str)(k:Nat):Bool:=(List.range k).all fun j=>decide (x j≠x k)
def Fj (x:Nat->Str)(q:Nat):Nat->Bool:=fun j=>decide (x j=x q)
def OZ (x:Nat->Str)(K m:Nat):List Int:=((List.range K).filter (V2 x)).map fun q=>U (Ap4 (Fj x q) m)
theorem firstK_iff {x:Nat->Str}{k:Nat}:V2 x k=true ↔ ∀j,j<k->x j≠x k:=by unfold V2;rw[Ba9];simp only[Bf4,decide_eq_true_eq]
theorem YA (x:Nat->Str):∀(m k:Nat),k<=m->∃q,q<=k/\V2 x q=true/\x q=x k
 |0,k,h=>⟨k,AZ7 _,firstK_iff.2 fun j a=>absurd a (by omega),rfl⟩
 |m+1,k,h=>by
  by_cases e:V2 x k=true
  ·exact⟨k,AZ7 _,e,rfl⟩
  ·have:¬ ∀j,j<k->x j≠x k:=fun g=>e (firstK_iff.2 g)
   have:∃j,j<k/\x j=x k:=Bc3 fun g=>this fun j a b=>g ⟨j,a,b⟩
   obtain⟨j,a,b⟩:=this;obtain⟨q,q1,q2,q3⟩:=YA x m j (by omega);exact⟨q,by omega,q2,q3.trans b⟩
theorem Ac4 {x:Nat->Str}{p q:Nat}(hp:V2 x p=true)(a:V2 x q=true)(h:x p=x q):p=q:=by
 rcases Nat.lt_trichotomy p q with g|g|g
 ·exact absurd h (firstK_iff.1 a p g)
 ·exact g
 ·exact absurd h.symm (firstK_iff.1 hp q g)
theorem Aq0 (p:Nat->Bool){a:Nat}:∀{b:Nat},a<=b->NG p a<=NG p b
 |0,h=>by obtain rfl:a=0:=(by omega);exact AZ7 _
 |b+1,h=>by
  by_cases e:a=b+1
  ·subst e;exact AZ7 _
  ·have:=Aq0 p (a:=a) (b:=b) (by omega)
   rw[GY];omega
theorem Sf {p:Nat->Bool}{q m:Nat}(c:p q=true)(h:q<m):NG p q<NG p m:=by
 have:=Aq0 p (a:=q+1) (b:=m) h
 rw[GY,if_pos c]at this;omega
theorem AB1 {p:Nat->Bool}{a b:Nat}(ha:p a=true)(hb:p b=true)(h:NG p a=NG p b):a=b:=by
 rcases Nat.lt_trichotomy a b with g|g|g
 ·have:=Sf ha g;omega
 ·exact g
 ·have:=Sf hb g;omega
theorem AF9 {p:Nat->Bool}{f g:Nat->Int}:∀K,(∀q,q<K->p q=true->g (NG p q)=f q)->(List.range (NG p K)).map g=((List.range K).filter p).map f
 |0,_=>rfl
 |K+1,h=>by
  have ih:=AF9 K fun q a=>h q (by omega);rw[GY,Bd9 (n:=K),Bn5,Bg0,<- ih];by_cases e:p K=true
  ·rw[if_pos e,Bd9,Bg0];simp[e,h K (by omega) e]
  ·rw[if_neg e];simp[e]
theorem UI {M:Nat->Bool}:∀{k:Nat},(∀j,j<k->M j=false)->Ap4 M k=0#64
 |0,_=>rfl
 |k+1,h=>by unfold Ap4 Ko;rw[h k (by omega),if_neg (by decide),UI fun j a=>h j (by omega)]
noncomputable def AP3 (N:Nat) (h:B0) (k:Nat):Sl Law:=((O5 N h ((T1 h.Tree h.Tree.n).g k)).getD (Sl.nil,0)).1
noncomputable def drv (N:Nat) (h:B0) (w:Sl Sound) (k:Nat):Sl Sound×Int:=(G3 N (AP3 N h k) w).getD (Sl.nil,0)
noncomputable def AB2 (N:Nat) (h:B0) (w:Sl Sound) (k:Nat):Str:=AY8 (drv N h w k).1 (drv N h w k).2
theorem AB3 {N:Nat}{s t:Sl Law}(h:LS s t)(a:Fd N s):Fd N t:=lawsE_zero.1 (Xb h (lawsE_zero.2 a))
theorem LS.symm' {s t:Sl Law}(h:LS s t):LS t s:=⟨h.1.symm,fun i a=>(h.2 i (by rw[h.1];exact a)).symm⟩
theorem Qt {N:Nat}(o:3000000<=N){h:B0}(t:BR h)(d:Gf N h){k:Nat}(hk:k<(T1 h.Tree h.Tree.n).n) :O5 N h ((T1 h.Tree h.Tree.n).g k)=some (AP3 N h k,0)/\∀w,wOk w->G3 N (AP3 N h k) w=some (drv N h w k)/\AP2 (drv N h w k).1 (drv N h w k).2 /\
  ∃r,Jx N h w ((T1 h.Tree h.Tree.n).g k)=some r/\SE (drv N h w k).1 r.1/\r.2=(drv N h w k).2:=by
 obtain⟨hv,u⟩:=Ap5 hk;obtain⟨la,_,x,j⟩:=Ap6 o t d hk;obtain⟨s,s',e,h1,z,y,h4⟩:=AA4 o t ((T1 h.Tree h.Tree.n).g k);obtain⟨p,p1,p2,p3⟩:=Yx o t d (l:=R8 h (Br h k)) (by omega) j;have he:e=0:=by unfold O5 at h1;rw[la,AZ4,p1]at h1;cases h1;rfl
 subst he;have hs:AP3 N h k=s:=by unfold AP3;rw[h1];rfl
 rw[hs];refine⟨h1,fun w hw=>?_⟩;rcases h4 with⟨_,_,_,_,q⟩ | ⟨q,_⟩
 case inr=>exact absurd rfl q
 rw[u,AZ1]at q;have i1:Ge (Ac2 h (R8 h (Br h k))):=AA5 t j;have o1:Fd N (Ac2 h (R8 h (Br h k))):=AA6 d x j;have ls:LS (Ac2 h (R8 h (Br h k))) s:=by
  refine⟨q.1.symm.trans y.1,fun i c=>?_⟩;have f : i<s'.n:=by rw[q.1];exact c
  have b:=y.2 i f
  rwa [q.2 i f]at b
 have i2:=Ys ls i1;have o2:=AB3 ls o1;obtain⟨r,r',d1,d2,d3,d4,d5⟩:=Ab7 o i2 y.symm' (SE.refl w) fun i c=>(hw.2 i c).ok;have hd:drv N h w k=r:=by unfold drv;rw[hs,d1];rfl
 rw[hd];refine⟨d1,?_,r', ?_,d3,d4.symm⟩
 ·rcases Xh o i2 o2 hw with⟨v,_,a,b⟩ | ⟨_,a⟩
  ·rw[a]at d1;cases d1;exact .inl ⟨rfl,b⟩
  ·rw[a]at d1;cases d1;exact .inr ⟨rfl,rfl⟩
 ·unfold Jx Ho;obtain⟨b,b1,hb⟩:=Fb (N:=N) (w:=w) (by omega) fun i c=>(hw.2 i c).ok;rw[DY o t,hres_zero.2 d,AZ4,if_neg (by decide),b1,(U9 hb).2 hw];have m:¬(!((decide (0<=(T1 h.Tree h.Tree.n).g k))&&(decide ((T1 h.Tree h.Tree.n).g k<(h.Tree.n:Int)))))=true:=by rw[u];simp;omega
  simp only[AZ4];rw[if_neg (by decide),Dn,AZ4,if_neg m];unfold LF;rw[z,AZ4,d2];rfl
end Go.AM
namespace Go.AM
open Go.Proofs
theorem Ac5 {N:Nat}(o:3000000<=N){l:Sl (Sl Sound)}(hw:∀i,i<l.n->okA (l.g i)) :∃e,Cm N l=some e/\((256<l.n/\e=12) \/ (l.n<=256/\Ao2 l e)):=by
 unfold Cm;by_cases b:256<l.n
 ·exact ifT (by simp;omega) ⟨_,rfl,.inl ⟨b,rfl⟩⟩
 refine ifF (by simp;omega) ?_;refine Bk (fun i x1=>x1=(i:Int)/\∀j,j<i->wOk (l.g j)) l.n _ (by omega) ⟨rfl,fun j d=>absurd d (by omega)⟩ ?_;rintro f i x1 q ⟨rfl,h⟩ hs;by_cases a:i<l.n
 ·obtain⟨e,e1,m⟩:=Fb (N:=N) (by omega) (hw i a);refine ifT (by simp;omega) (ifT (by omega) (B7 (by rw[AZ1];exact e1) ?_));by_cases c:e=0
  ·refine ifF (by simp[c]) (hs a _ ⟨C4 (by omega),fun j d=>?_⟩);by_cases e:j=i
   ·subst e;exact (U9 m).1 c
   ·exact h j (by omega)
  ·exact ifT (by simpa using c) ⟨e,rfl,.inr ⟨by omega,.inr ⟨i,a,h,m,c⟩⟩⟩
 ·exact ifF (by simp;omega) ⟨0,rfl,.inr ⟨by omega,.inl ⟨rfl,fun j d=>h j (by omega)⟩⟩⟩
theorem optNX {α R:Type}{Q:R->Prop}{o:Option α}{a:Option R}{f : α -> Option R}(h:o=none)(b:∃r,a=some r/\Q r):∃r,Av1 o a f=some r/\Q r:=by subst h;exact b
theorem optSX {α R:Type}{Q:R->Prop}{o:Option α}{a:Option R}{f : α -> Option R}{v : α}(h:o=some v)(b:∃r,f v=some r/\Q r):∃r,Av1 o a f=some r/\Q r:=by subst h;exact b
def UJ (S:Nat->List Int):Nat->Option (List Int)
 |0=>some []
 |i+1=>(UJ S i).bind fun A=>if 64<(if 1<(S i).length then A++S i else A).length then none else some (if 1<(S i).length then A++S i else A)
theorem NV {S:Nat->List Int}{i:Nat}:∀{n:Nat},i<=n->UJ S i=none->UJ S n=none
 |0,h,e=>by obtain rfl:i=0:=(by omega);exact e
 |n+1,h,e=>by
  by_cases g:i=n+1
  ·subst g;exact e
  ·show (UJ S n).bind _=none;rw[NV (n:=n) (by omega) e];rfl
theorem Sg {S:Nat->List Int}:∀{i:Nat}{A:List Int},UJ S i=some A->A.length<=64
 |0,A,h=>by cases h;exact Bh1 _
 |i+1,A,h=>by
  replace h:(UJ S i).bind _=some A:=h;cases a:UJ S i with
  |none=>rw[a]at h;cases h
  |some B=>
   rw[a,AZ4]at h;generalize (if 1<(S i).length then B++S i else B)=C at h;by_cases g:64<C.length
   ·rw[if_pos g]at h;cases h
   ·rw[if_neg g]at h;cases h;omega
def Aq1 (K:Nat)(o:Option (List Int))(L:Int)(H:List Int)(e:Int):Prop:=match o with
 |none=>L=0/\H=[]/\e=12
 |some A=>L=(K:Int)/\H=A/\e=0
theorem Aq2 (x:Nat->Str)(K m:Nat):(OZ x K m).length<=K:=by unfold OZ;rw[Bd8];exact Be1 (Bp9 _ _) (by simp)
noncomputable def JK (N:Nat) (h:B0) (l:Sl (Sl Sound)) (K i:Nat):List Int:=OZ (AB2 N h (l.g i)) K K
theorem Ac6 {N:Nat}(hN:3000000<=N){h:B0}(hi:BR h)(a2:Gf N h){ls:Sl Int}(a3:ls=T1 h.Tree h.Tree.n)(hK:ls.n<=32)(hlv:J7 N h=some (ls,0))
 {l:Sl (Sl Sound)}(hn:l.n<=256) (hw:∀i,i<l.n->wOk (l.g i)) :
 ∃r:A3×Int,H0 N h l=some r/\Aq1 ls.n (UJ (JK N h l ls.n) l.n) r.1.Langs r.1.Has.toList r.2:=by
 unfold H0;refine B7 (Cn hN hi) (ifF (by rw[hres_zero.2 a2];decide) (ifF (by simp;omega) ?_));refine Bk (fun i x1=>x1=(i:Int)) l.n _ (by omega) rfl ?_;rintro self i x1 hii rfl hs;by_cases o:i<l.n
 ·obtain⟨e,e1,he⟩:=Hb (N:=N) (w:=l.g i) (by omega) fun j hj=>((hw i o).2 j hj).ok;have h0:=(U9 he).2 (hw i o);exact ifT (by simp;omega) (ifT (by omega) (B7 (by rw[AZ1];exact e1) (ifF (by simp[h0]) (hs o _ (C4 (by omega))))))
 refine ifF (by simp;omega) (B7 hlv (ifF (by show ¬((0:Int) != 0)=true;decide) ?_));refine P9 (fun k (x2:Sl (Sl Law)) x3=>x3=(k:Int)/\x2.n=k/\∀j,j<k->x2.g j=AP3 N h j) ls.n _ (by omega) ⟨rfl,rfl,fun j hj=>absurd hj (by omega)⟩ ?_;rintro self2 k x2 x3 hk ⟨rfl,hxn,hx⟩ hs2;by_cases hkl:k<ls.n
 ·obtain⟨a,_⟩:=Qt hN hi a2 (k:=k) (by rw[<- a3];exact hkl);rw[<- a3]at a;refine ifT (by simp;omega) (ifT (by show ((0:Int)<=(k:Int)/\(k:Int)<(ls.n:Int))/\(k:Int).toNat<ls.n;omega) ?_);rw[AZ1];refine B7 a (ifF (by show ¬((0:Int) != 0)=true;decide) (ifT (by show (x2.n+1)*24<=_/\x2.n+1<=_;omega) (hs2 hkl _ _ ⟨C4 (by omega),by show x2.n+1=_;omega,fun j hj=>?_⟩)));show (if j<x2.n then x2.g j else AP3 N h k)=_;by_cases e:j<x2.n
  ·rw[if_pos e];exact hx j (by omega)
  ·rw[if_neg e,show j=k by omega]
 obtain rfl:k=ls.n:=by omega
 refine ifF (by simp) ?_;refine P9 (fun i (x7:Sl Int) x8=>x8=(i:Int)/\UJ (JK N h l ls.n) i=some x7.toList) l.n _ (by omega) ⟨rfl,rfl⟩ ?_;rintro self5 m x7 x8 hm ⟨rfl,t⟩ hs5;by_cases a4:m<l.n
 ·refine ifT (by simp;omega) (ifT (by omega) ?_);rw[AZ1];have hwm:=hw m a4;have hS:JK N h l ls.n m=OZ (AB2 N h (l.g m)) ls.n ls.n:=rfl;have hd:∀k,k<ls.n->G3 N (x2.g k) (l.g m)=some (drv N h (l.g m) k)/\Cy N (drv N h (l.g m) k).1 (drv N h (l.g m) k).2=some (AB2 N h (l.g m) k):=fun k hk=>by
   obtain⟨_,b⟩:=Qt hN hi a2 (k:=k) (by rw[<- a3];exact hk);obtain⟨b1,b2,_⟩:=b _ hwm;rw[hx k hk];refine⟨b1,?_⟩;unfold Cy;rw[if_pos]
   ·rfl
   ·rcases b2 with⟨_,g⟩ | ⟨g,_⟩
    ·have:=g.1;omega
    ·rw[g];show 0*8<=_;omega
  generalize AB2 N h (l.g m)=x at hd hS;refine Un (fun k (v:List (Str×Int)) (c:Sl Int) x14=>x14=(k:Int)/\c.n=NG (V2 x) k/\(∀q,q<k->V2 x q=true->c.g (NG (V2 x) q)=U (Ap4 (Fj x q) k)) /\
   (∀q,q<k->V2 x q=true->BU eqS (x q) v=some (NG (V2 x) q:Int))/\(∀s,(∀q,q<k->x q≠s)->BU eqS s v=none)) ls.n _ (by omega)
   ⟨rfl,rfl,fun q y=>absurd y (by omega),fun q y=>absurd y (by omega),fun s _=>rfl⟩ ?_
  rintro self6 k v c x14 hk' ⟨rfl,c1,c2,c3,c4⟩ hs6;have hcl:=AM4 (V2 x) k;by_cases u:k<ls.n
  ·obtain⟨d1,d2⟩:=hd k u;refine ifT (by simp;omega) (ifT (by rw[hxn];omega) ?_);rw[AZ1];refine B7 d1 (B7 d2 ?_);by_cases z:V2 x k=true
   ·have a5:BU eqS (x k) v=none:=c4 _ (firstK_iff.1 z);refine optNX a5 ?_;refine ifT (by show (c.n+1)*8<=_/\c.n+1<=_;omega) (ifT (by show (((((0:Int)<=(c.n:Int)/\(c.n:Int)<((c.n+1:Nat):Int))/\(c.n:Int).toNat<c.n+1)/\(0:Int)<=(k:Int))/\((0:Int)<=(c.n:Int)/\(c.n:Int)<((c.n+1:Nat):Int)))/\(c.n:Int).toNat<c.n+1;omega) (hs6 u _ _ _ ⟨C4 (by omega),?_,fun q y f=>?_,fun q y f=>?_,fun s a0=>?_⟩))
    ·show c.n+1=_;rw[GY,if_pos z,c1]
    ·show (if NG (V2 x) q=(c.n:Int).toNat then D2 .or .u64 ((c.push 0).g (c.n:Int).toNat) (shI .shl .u64 1 (k:Int))else (c.push 0).g (NG (V2 x) q))=_;rw[AZ1];by_cases e:q=k
     ·subst e;rw[if_pos c1.symm];show D2 .or .u64 (if c.n<c.n then c.g c.n else 0) _=_;rw[if_neg (by omega),Nl _ (by omega),show (0:Int)=U 0#64 from rfl,AL9];show _=U (Ko (Ap4 (Fj x q) q) q (Fj x q q));rw[UI (M:=Fj x q) fun j hj=>decide_eq_false (firstK_iff.1 z j hj)];unfold Ko Fj;rw[if_pos (by simp)]
     ·have o:=Sf f (show q<k by omega);rw[if_neg (by omega)];show (if NG (V2 x) q<c.n then c.g (NG (V2 x) q)else 0)=_;rw[if_pos (by omega),c2 q (by omega) f];show _=U (Ko (Ap4 (Fj x q) k) k (Fj x q k));unfold Ko Fj;rw[if_neg];simp only[decide_eq_true_eq];exact fun g=>firstK_iff.1 z q (by omega) g.symm
    ·rw[Fe];by_cases e:q=k
     ·subst e;rw[if_pos rfl,c1]
     ·rw[if_neg (firstK_iff.1 z q (by omega))];exact c3 q (by omega) f
    ·rw[Fe,if_neg (fun g=>a0 k (by omega) g.symm)];exact c4 s fun q y=>a0 q (by omega)
   ·obtain⟨p,p1,p2,p3⟩:=YA x k k (AZ7 _);have hpk:p<k:=by
     rcases Br8 p k with g|g
     ·exact g
     ·obtain rfl:p=k:=by omega
      exact absurd p2 z
    have hlk:=c3 p hpk p2;rw[p3]at hlk;have o:=Sf p2 hpk;refine optSX hlk ?_;refine ifT (by omega) (hs6 u _ _ _ ⟨C4 (by omega),?_,fun q y f=>?_,fun q y f=>?_,fun s a0=>c4 s fun q y=>a0 q (by omega)⟩)
    ·show c.n=_;rw[GY,if_neg z,c1];rfl
    ·have a1:q<k:=by
      rcases Br8 q k with g|g
      ·exact g
      ·obtain rfl:q=k:=by omega
       exact absurd f z
     show (if NG (V2 x) q=(NG (V2 x) p:Int).toNat then D2 .or .u64 (c.g (NG (V2 x) p:Int).toNat) (shI .shl .u64 1 (k:Int))else c.g (NG (V2 x) q))=U (Ko (Ap4 (Fj x q) k) k (Fj x q k));rw[AZ1];by_cases e:q=p
     ·subst e;rw[if_pos rfl,c2 q a1 f,Nl _ (by omega),AL9];unfold Ko Fj;rw[if_pos (by simp[p3])]
     ·rw[if_neg fun g=>e (AB1 f p2 g),c2 q a1 f];unfold Ko Fj;rw[if_neg];simp only[decide_eq_true_eq];exact fun g=>e (Ac4 f p2 (g.symm.trans p3.symm))
    ·have a1:q<k:=by
      rcases Br8 q k with g|g
      ·exact g
      ·obtain rfl:q=k:=by omega
       exact absurd f z
     exact c3 q a1 f
  ·obtain rfl:k=ls.n:=by omega
   have hT:c.toList=JK N h l ls.n m:=by rw[hS];unfold Sl.toList OZ;rw[c1];exact AF9 ls.n c2
   have hlen:(JK N h l ls.n m).length=c.n:=by rw[<- hT,DW]
   have h7:x7.n<=64:=by rw[<- DW x7];exact Sg t
   have d:UJ (JK N h l ls.n) (m+1)=if 64<(if 1<c.n then x7.toList++c.toList else x7.toList).length then none else some (if 1<c.n then x7.toList++c.toList else x7.toList):=by show (UJ _ m).bind _=_;rw[t,AZ4,hlen,hT]
   refine ifF (by simp) ?_;by_cases h1:1<c.n
   ·simp only[if_pos h1]at d;have hl2:(x7.toList++c.toList).length=x7.n+c.n:=by rw[Ba7,DW,DW]
    refine ifT (by simp;omega) (ifT (by omega) ?_);by_cases h64:64<x7.n+c.n
    ·rw[if_pos (by rw[hl2];exact h64)]at d;refine ifT (by show decide ((64:Int)<((x7.n+c.n:Nat):Int))=true;simp;omega) ⟨_,rfl,?_⟩;rw[NV (show m+1<=l.n by omega) d];exact⟨rfl,rfl,rfl⟩
    ·rw[if_neg (by rw[hl2];exact h64)]at d;refine ifF (by show ¬decide ((64:Int)<((x7.n+c.n:Nat):Int))=true;simp;omega) (hs5 a4 _ _ ⟨C4 (by omega),?_⟩);rw[d,AF8]
   ·simp only[if_neg h1]at d;rw[if_neg (by rw[DW];omega)]at d;refine ifF (by simp;omega) (ifF (by simp;omega) (hs5 a4 _ _ ⟨C4 (by omega),d⟩))
 ·obtain rfl:m=l.n:=by omega
  refine ifF (by simp) ⟨_,rfl,?_⟩;rw[t];exact⟨rfl,rfl,rfl⟩
end Go.AM
