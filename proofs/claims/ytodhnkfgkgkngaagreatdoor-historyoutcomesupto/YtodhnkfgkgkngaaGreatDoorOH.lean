/- What a law's walk and its plain proof need, part 8: no condition of its own. -/
import Derived.Test.YtodhnkfgkgkngaaGreatDoorOG
import Derived.Test.YtodhnkfgkgkngaaGreatDoorOF
set_option linter.defProp false
set_option linter.unusedSimpArgs false
set_option linter.unusedVariables false
set_option linter.unusedSectionVars false
namespace Go.AM
open IntKind (wrap)
def AL8:=@UInt8.toNat_ofNat'
open Go.Proofs
def apE (N:Nat)(l:Law)(w:Sl Sound)(r:Sl Sound×Int):Prop:=(r.2=17/\¬chkAll N l) \/ (chkAll N l/\TX w r.2/\r.2≠0) \/ (chkAll N l/\wOk w/\(r.2=11 \/ (r.2=0/\wOk r.1)))
theorem Lc {N:Nat}(o:3000000<=N){l l' : Law}(hl:Hx l)(hle:LE l l'){w w' : Sl Sound}(b:SE w w')(hw:∀i,i<w.n->okS (w.g i)) :∃r r',P1 N l w=some r/\KK N l' w' = some r' /\ SE r.1 r'.1/\r.2=r'.2/\apE N l w r:=by
 obtain⟨⟨x,y,e⟩,⟨x',y',e'⟩,h1,q,⟨_,hn,hs,m⟩,ht⟩:=XD o hl hle b hw;dsimp only at hn hs m;subst m;have t:=b.1;unfold trE at ht;dsimp only at ht;unfold P1 KK;rw[h1,q,Ay4,Ay4];dsimp only;by_cases a:e=0
 case neg=>
  rw[if_pos (show (e != 0)=true by simpa using a),if_pos (show (e != 0)=true by simpa using a)];refine⟨_,_,rfl,rfl,SE.refl _,rfl,?_⟩;rcases ht with h|h|⟨j,c,d⟩
  ·exact .inl h
  ·exact .inr (.inl h)
  ·exact .inr (.inr ⟨j,c,.inl (d.resolve_right fun h=>a h.1)⟩)
 rw[if_neg (show ¬(e != 0)=true by simp[a]),if_neg (show ¬(e != 0)=true by simp[a])];rcases ht with h|h|⟨j,c,d⟩
 ·exact absurd (h.1.symm.trans a) (by decide)
 ·exact absurd a h.2.2
 rcases d with d|⟨_,h6,u⟩
 ·exact absurd (d.symm.trans a) (by decide)
 have v:=c.1;by_cases hy:y.n=0
 ·rw[if_neg (show ¬decide ((0:Int)<(y.n:Int))=true by simp[hy]),if_pos (show ((y'.n:Int)==0)=true by simp[<- hn,hy]),if_pos (by show (0+w'.n)*8<=_/\0+w'.n<=_;omega),Ap2 (s:=(Sl.of []:Sl Sound)) rfl];unfold A4;rw[if_pos (by omega)];exact⟨_,_,rfl,rfl,b,rfl,.inr (.inr ⟨j,c,.inr ⟨rfl,c⟩⟩)⟩
 ·have hk:=u (y.n-1) (by omega);have f:=hs (y.n-1) (by omega);have hb:=hk.1;have z:=f.1;have e1:wrap .i64 ((y.n:Int)-1)=((y.n-1:Nat):Int):=Ak8 (by omega) (by omega);have e2:wrap .i64 ((y'.n:Int)-1)=((y.n-1:Nat):Int):=by rw[<- hn];exact e1
  rw[e1,e2,Ay0,if_pos (show decide ((0:Int)<(y.n:Int))=true by simp;omega),if_pos (by omega),if_neg (show ¬((y'.n:Int)==0)=true by simp;omega),if_pos ⟨by omega,by show (0+(y'.g (y.n-1)).n)*8<=_/\0+(y'.g (y.n-1)).n<=_;omega⟩,Ap2 (s:=(Sl.of []:Sl Sound)) rfl];exact⟨_,_,rfl,rfl,f,rfl,.inr (.inr ⟨j,c,.inr ⟨rfl,hk⟩⟩)⟩
theorem QK {N:Nat}{s:Sl Law}(m:s.n<N)(hs:s.n<1000000){f:Law->Option Bool}{b:Nat->Bool}(o:∀i,i<s.n->f (s.g i)=some (b i)) :∃r,B9 N s f=some r/\(r=true ↔ ∃i,i<s.n/\b i=true):=by
 unfold B9 E2
 have:∃y,S8 N (fun (a:Int->Option Int) (x1:Int)=>
  if (decide (x1<(s.n:Int))) then
   if ((0:Int)<=x1/\x1<(s.n:Int))then
    (f (s.g x1.toNat)).bind fun y3=>
    if y3 then
     some x1
    else
     a (wrap .i64 (x1+1))
   else none
  else
   some (-1)) 0=some y/\(0<=y ↔ ∃i,i<s.n/\b i=true):=by
  refine BA (fun i x1=>x1=(i:Int)/\∀j,j<i->b j=false) s.n _ m ⟨rfl,fun j c=>absurd c (by omega)⟩ ?_;rintro l i x1 q ⟨rfl,h⟩ d;by_cases hl:i<s.n
  ·refine ifT (by simp;omega) (ifT (by omega) (B1 (by rw[Ay0];exact o i hl) ?_));cases hb:b i
   ·refine ifF (by simp) (d hl _ ⟨C0 (by omega),fun j c=>?_⟩);by_cases e:j=i
    ·subst e;exact hb
    ·exact h j (by omega)
   ·exact ifT rfl ⟨i,rfl,fun _=>⟨i,hl,hb⟩,fun _=>by omega⟩
  ·refine ifF (by simp;omega) ⟨-1,rfl,fun h=>absurd h (by decide),?_⟩;rintro⟨j,c,hb⟩;rw[h j (by omega)]at hb;cases hb
 obtain⟨y,e,hy⟩:=this;exact B1 e ⟨_,rfl,by rw[decide_eq_true_eq];exact hy⟩
def QL (N:Nat)(laws:Sl Law)(e:Int):Prop:=(64<laws.n/\e=12) \/ (laws.n<=64/\(∃i,i<laws.n/\¬chkAll N (laws.g i))/\e=17) \/ ((laws.n<=64/\∀i,i<laws.n->chkAll N (laws.g i))/\e=0)
theorem MW {N:Nat}{laws:Sl Law}{e e' : Int}(h:QL N laws e)(h' : QL N laws e'):e=e':=by rcases h with⟨h,rfl⟩ | ⟨h,⟨i,b,a⟩,rfl⟩ | ⟨⟨h,a⟩,rfl⟩<;>rcases h' with⟨g,rfl⟩ | ⟨g,⟨j,c,g2⟩,rfl⟩ | ⟨⟨g,g2⟩,rfl⟩<;>first|rfl|(exfalso;omega)|exact absurd (g2 i b) a|exact absurd (a j c) g2
def LS (s t:Sl Law):Prop:=s.n=t.n/\∀i,i<s.n->LE (s.g i) (t.g i)
def Fk (laws:Sl Law):Prop:=∀i,i<laws.n->Hx (laws.g i)
theorem ZO {laws laws' : Sl Law}(h:LS laws laws')(hl:Fk laws):Fk laws':=fun i a=>by exact Jq (h.2 i (by rw[h.1];exact a)) (hl i (by rw[h.1];exact a))
theorem Vs {N:Nat}(o:3000000<=N){laws:Sl Law}(hl:Fk laws):∃e,S0 N laws=some e/\Gr N laws=some e/\QL N laws e:=by
 have h1:∃e,S0 N laws=some e/\QL N laws e:=by
  unfold S0;by_cases hn:64<laws.n
  ·exact ifT (by simp;omega) ⟨12,rfl,.inl ⟨hn,rfl⟩⟩
  refine ifF (by simp;omega) ?_;have u:∀i,∃b,i<laws.n->O1 N (laws.g i)=some b/\(b=true ↔ ¬chkAll N (laws.g i)):=by
   intro i;by_cases a:i<laws.n
   ·obtain⟨e,e1,_,d⟩:=Fi o (hl i a);refine⟨e != 0,fun _=>⟨by unfold O1;rw[e1];rfl,?_⟩⟩;rcases d with⟨rfl,h⟩ | ⟨rfl,h⟩
    ·exact⟨fun h=>absurd h (by decide),fun g=>absurd h g⟩
    ·exact⟨fun _=>h,fun _=>by decide⟩
   ·exact⟨false,fun h=>absurd h a⟩
  obtain⟨f,l⟩:=AF8 u;obtain⟨r,e1,h1⟩:=QK (N:=N) (s:=laws) (by omega) (by omega) (f:=fun u1=>O1 N u1) (fun i a=>(l i a).1);refine B1 e1 ?_;cases q:r
  ·refine ifF (by simp) ⟨0,rfl,.inr (.inr ⟨⟨by omega,fun i a=>AB6 fun hn=>?_⟩,rfl⟩)⟩
   have:=h1.2 ⟨i,a,(l i a).2.2 hn⟩
   rw[q]at this;cases this
  ·obtain⟨i,a,hb⟩:=h1.1 q;exact ifT rfl ⟨17,rfl,.inr (.inl ⟨by omega,⟨i,a,(l i a).2.1 hb⟩,rfl⟩)⟩
 have v:∃e,Gr N laws=some e/\QL N laws e:=by
  unfold Gr;by_cases hn:64<laws.n
  ·exact ifT (by simp;omega) ⟨12,rfl,.inl ⟨hn,rfl⟩⟩
  refine ifF (by simp;omega) ?_;refine BA (fun i x1=>x1=(i:Int)/\∀j,j<i->chkAll N (laws.g j)) laws.n _ (by omega) ⟨rfl,fun j m=>absurd m (by omega)⟩ ?_;rintro t i x1 a ⟨rfl,h⟩ hs;by_cases c:i<laws.n
  ·obtain⟨e,_,e1,d⟩:=Fi o (hl i c);refine ifT (by simp;omega) (ifT (by omega) (B1 (by rw[Ay0];exact e1) ?_));rcases d with⟨rfl,hc⟩ | ⟨rfl,hc⟩
   ·refine ifF (by decide) (hs c _ ⟨C0 (by omega),fun j m=>?_⟩);by_cases e:j=i
    ·subst e;exact hc
    ·exact h j (by omega)
   ·exact ifT (by decide) ⟨17,rfl,.inr (.inl ⟨by omega,⟨i,c,hc⟩,rfl⟩)⟩
  ·exact ifF (by simp;omega) ⟨0,rfl,.inr (.inr ⟨⟨by omega,fun j m=>h j (by omega)⟩,rfl⟩)⟩
 obtain⟨e,e1,g1⟩:=h1;obtain⟨e',e2,g2⟩:=v;obtain rfl:=MW g1 g2;exact⟨_,e1,e2,g1⟩
def Ad9 (l:Sl (Sl Sound))(e:Int):Prop:=(e=0/\∀i,i<l.n->wOk (l.g i)) \/ (∃i,i<l.n/\(∀j,j<i->wOk (l.g j))/\TX (l.g i) e/\e≠0)
theorem Vt {N:Nat}(o:3000000<=N){l:Sl (Sl Sound)}(hn:l.n<2000000)(hw:∀i,i<l.n->∀j,j<(l.g i).n->okS ((l.g i).g j)) :∃e,S8 N (fun (a:Int->Option Int) (x1:Int)=>
  if (decide (x1<(l.n:Int))) then
   if ((0:Int)<=x1/\x1<(l.n:Int))then
    (J0 N (l.g x1.toNat)).bind fun y4=>
    if (y4 != 0) then
     some y4
    else
     a (wrap .i64 (x1+1))
   else none
  else
   some 0
  ) 0=some e/\Ad9 l e:=by
 refine BA (fun i x1=>x1=(i:Int)/\∀j,j<i->wOk (l.g j)) l.n _ (by omega) ⟨rfl,fun j d=>absurd d (by omega)⟩ ?_;rintro f i x1 q ⟨rfl,h⟩ hs;by_cases b:i<l.n
 ·obtain⟨e,e1,m⟩:=KY (N:=N) (by omega) (hw i b);refine ifT (by simp;omega) (ifT (by omega) (B1 (by rw[Ay0];exact e1) ?_));by_cases c:e=0
  ·refine ifF (by simp[c]) (hs b _ ⟨C0 (by omega),fun j d=>?_⟩);by_cases e:j=i
   ·subst e;exact (U9 m).1 c
   ·exact h j (by omega)
  ·exact ifT (by simpa using c) ⟨e,rfl,.inr ⟨i,b,h,m,c⟩⟩
 ·exact ifF (by simp;omega) ⟨0,rfl,.inl ⟨rfl,fun j d=>h j (by omega)⟩⟩
theorem Am9 {w:Sl Sound}{e:Int}(h:Ad9 (Sl.of [w]:Sl (Sl Sound)) e):TX w e:=by
 rcases h with⟨rfl,h⟩ | ⟨i,a,_,h,_⟩
 ·exact .inr (.inr ⟨h 0 (by show 0<1;omega),rfl⟩)
 ·match i,a with
  |0,_=>exact h
theorem SJ {N:Nat}(b:3000000<=N){laws:Sl Law}(hl:Fk laws){w:Sl Sound}(hw:∀i,i<w.n->okS (w.g i)) :∃e,Z1 N laws (Sl.of [w]:Sl (Sl Sound))=some e/\((QL N laws e/\e≠0) \/ (QL N laws 0/\TX w e)):=by
 unfold Z1;obtain⟨e,e1,_,h1⟩:=Vs b hl;refine B1 e1 ?_;by_cases a:e=0
 case neg=>exact ifT (by simpa using a) ⟨e,rfl,.inl ⟨h1,a⟩⟩
 refine ifF (by simp[a]) (ifF (by show ¬decide ((256:Int)<((1:Nat):Int))=true;decide) ?_);obtain⟨e2,e3,c⟩:=Vt (N:=N) b (l:=(Sl.of [w]:Sl (Sl Sound))) (by show 1<_;omega) fun i d=>by
  match i,d with
  |0,_=>exact hw
 exact⟨e2,e3,.inr ⟨a ▸ h1,Am9 c⟩⟩
def CG (N:Nat)(c:Int)(q1:Sl Law)(a:Sl Sound->Int->Option QE)(x1:Sl Sound)(x2:Int):Option QE:=
 if (decide (x2<(q1.n:Int))) then
  if ((0:Int)<=x2/\x2<(q1.n:Int))then
   (P1 N (q1.g x2.toNat) x1).bind fun y4=>
   if (y4.2 != 0) then
    if y4.2=c then some []else none
   else
    Bm (wrap .i64 (x2+1),y4.1) (
     a y4.1 (wrap .i64 (x2+1))
     )
  else none
 else
  if c=0 then some []else none
theorem Cm {N:Nat}{c:Int}{laws:Sl Law}{a:Sl Sound->Int->Option QE}{w:Sl Sound}{i:Nat}(d:i<laws.n)(b:laws.n<=64){y:Sl Sound×Int}(h:P1 N (laws.g i) w=some y) :CG N c laws a w (i:Int)=if (y.2 != 0) then (if y.2=c then some []else none)else Bm (((i+1:Nat):Int),y.1) (a y.1 ((i+1:Nat):Int)):=by unfold CG;rw[if_pos (show decide ((i:Int)<(laws.n:Int))=true by simp;omega),if_pos (by omega),Ay0,h,Ay4,C0 (by omega)]
def OB:Sl Sound->QE->Sl Sound
 |w,[]=>w
 |_,(_,v)::L=>OB v L
theorem OC:∀(L:QE) (w:Sl Sound),Q4 L (fun (a:Sl Sound->Option (Sl Sound)) (x1:Int×(Sl Sound)) (z1:Sl Sound)=>a x1.2) (fun (z1:Sl Sound)=>some z1) w=some (OB w L)
 |[],w=>rfl
 |(p,v)::L,w=>OC L v
def Hz (N:Nat)(laws:Sl Law):Prop:=laws.n<=64/\∀i,i<laws.n->chkAll N (laws.g i)
theorem lawsE_zero {N:Nat}{laws:Sl Law}:QL N laws 0↔Hz N laws:=by
 constructor
 ·rintro (⟨_,h⟩ | ⟨_,_,h⟩ | ⟨h,_⟩)
  ·cases h
  ·cases h
  ·exact h
 ·exact fun h=>.inr (.inr ⟨h,rfl⟩)
end Go.AM
namespace Go.AM
open IntKind (wrap)
open Go.Proofs
theorem sEq (x y:Sound):((x.Plus==y.Plus)&&(x.Minus==y.Minus))=decide (x=y):=by cases x;cases y;rw[AA9];simp
theorem An0 {N:Nat}{x y:Sl Sound}(l:x.n<N)(hs:x.n<10000000) :∃b,(if ((x.n:Int) != (y.n:Int)) then
 some false
 else
  S8 N (fun (a:Int->Option Bool) (x1:Int)=>
   if (decide (x1<(x.n:Int))) then
    if (((0:Int)<=x1/\x1<(x.n:Int))/\((0:Int)<=x1/\x1<(y.n:Int)))then
     if ((((x.g x1.toNat).Plus==(y.g x1.toNat).Plus)&&((x.g x1.toNat).Minus==(y.g x1.toNat).Minus)) != true) then
      some false
     else
      a (wrap .i64 (x1+1))
    else none
   else
    some true
   ) 0)=some b/\(b=true↔SE x y):=by
 by_cases hn:x.n=y.n
 case neg=>exact ifT (by simp;omega) ⟨false,rfl,by simp,fun h=>absurd h.1 hn⟩
 refine ifF (by simp[hn]) ?_;refine BA (fun i x1=>x1=(i:Int)/\∀j,j<i->x.g j=y.g j) x.n _ l ⟨rfl,fun j c=>absurd c (by omega)⟩ ?_;rintro f i x1 m ⟨rfl,h⟩ d;by_cases hl:i<x.n
 ·refine ifT (by simp;omega) (ifT (by omega) ?_);rw[Ay0,sEq];by_cases e:x.g i=y.g i
  ·refine ifF (by simp[e]) (d hl _ ⟨C0 (by omega),fun j c=>?_⟩);by_cases e2:j=i
   ·subst e2;exact e
   ·exact h j (by omega)
  ·exact ifT (by simp[e]) ⟨false,rfl,by simp,fun h=>absurd (h.2 i hl) e⟩
 ·exact ifF (by simp;omega) ⟨true,rfl,fun _=>⟨hn,fun j c=>h j (by omega)⟩,fun _=>rfl⟩
theorem An1 {N:Nat}{x y:Sl Sound}(a:x.n<N)(hs:x.n<10000000):∃b,M0 N x y=some b/\(b=true↔SE x y):=by obtain⟨b,h,hb⟩:=An0 (N:=N) (x:=x) (y:=y) a hs;exact⟨b,by unfold M0;rw[show D9 N x y=some b from h];rfl,hb⟩
abbrev okA (w:Sl Sound):Prop:=∀i,i<w.n->okS (w.g i)
end Go.AM
namespace Go.AM
open Go.Proofs
def dep:Nat->Pat->Prop
 |0,_=>False
 |d+1,p=>p.L.n<=40/\∀i,i<p.L.n->dep d (p.L.g i)
theorem Ae0:∀(d:Nat) (p:Pat),dep d p->∀e,d<=e->dep e p
 |0,_,h,_,_=>h.elim
 |d+1,p,h,0,he=>by omega
 |d+1,p,h,e+1,he=>⟨h.1,fun i a=>Ae0 d _ (h.2 i a) e (by omega)⟩
theorem QM {N:Nat}(o:1000<=N):∀(d:Nat),d<=40->∀(p:Pat) (M:Nat),N+d+2<=M->∃r:Nat,Z8 M p ((40-d:Nat):Int)=some (r:Int)/\40-d<r/\r<=41/\(r<=40->dep (d+1) p)
 |d,hd,p,0,hM=>by omega
 |d,hd,p,M+1,hM=>by
  have:∃x,Z8 (M+1) p ((40-d:Nat):Int)=some x/\∃r:Nat,x=(r:Int)/\40-d<r/\r<=41/\(r<=40->dep (d+1) p):=by
   show ∃x,Aq (Z8 M) M p _=some x/\_;unfold Aq;rw[C0 (by omega)];refine N8 (fun i x1 x2=>x2=(i:Int)/\∃k:Nat,x1=(k:Int)/\40-d+1+i<=k/\k<=41/\i<=p.L.n/\(k<=40->∀j,j<i->dep d (p.L.g j))) 41 _ (by omega) ⟨rfl,40-d+1,rfl,by omega,by omega,by omega,fun _ j b=>absurd b (by omega)⟩ ?_;rintro f i x1 x2 q ⟨rfl,k,rfl,h1,c,s,l⟩ hs;by_cases hc:i<p.L.n/\k<=40
   ·refine ifT (by simp only[Ay3,decide_eq_true_eq];omega) (ifT (by omega) ?_);obtain⟨r,m,r1,r2,r3⟩:=QM o (40-k) (by omega) (p.L.g i) M (by omega);rw[show ((40-(40-k):Nat):Int)=(k:Int) by omega]at m;refine B1 (by rw[Ay0];exact m) (hs (by omega) _ _ ⟨C0 (by omega),r,rfl,by omega,r2,by omega,fun a j b=>?_⟩);by_cases e:j=i
    ·subst e;exact Ae0 _ _ (r3 a) d (by omega)
    ·exact l hc.2 j (by omega)
   ·refine ifF (by simp only[Ay3,decide_eq_true_eq];omega) ⟨_,rfl,k,rfl,by omega,c,fun hk=>⟨by omega,fun j b=>l hk j (by omega)⟩⟩
  obtain⟨x,h1,r,rfl,c⟩:=this;exact⟨r,h1,c⟩
theorem Ld:∀(d:Nat) (p:Pat),dep d p->∀M,100+d<=M->∃r,W1 M p=some r
 |0,p,h,M,_=>h.elim
 |d+1,p,h,0,hM=>by omega
 |d+1,p,h,M+1,hM=>by
  suffices ∃r,W1 (M+1) p=some r/\True by obtain⟨r,h,_⟩:=this;exact⟨r,h⟩
  show ∃x,U0 (W1 M) M p=some x/\_;unfold U0;have hn:=h.1;refine N8 (fun i x1 x2=>x2=(i:Int)) p.L.n _ (by omega) rfl ?_;rintro a i x1 x2 c rfl hs;by_cases hl:i<p.L.n
  ·obtain⟨r,b⟩:=Ld d (p.L.g i) (h.2 i hl) M (by omega);exact ifT (by simp;omega) (ifT (by omega) (B1 (by rw[Ay0];exact b) (hs hl _ _ (C0 (by omega)))))
  ·exact ifF (by simp;omega) ⟨_,rfl,trivial⟩
theorem OD {N:Nat}(b:2000<=N)(p:Pat):∃r:Nat,AH N p=some (r:Int)/\(r<=40->dep 41 p):=by obtain⟨r,h1,_,_,a⟩:=QM (N:=1000) (by omega) 40 (by omega) p N (by omega);exact⟨r,by unfold AH;rw[show Z8 N p 0=some (r:Int) from h1];rfl,a⟩
theorem ZP {N:Nat}(f:2000<=N)(laws:Sl Law):∃r,BF N laws=some r:=by
 suffices ∃r,BF N laws=some r/\True by obtain⟨r,h,_⟩:=this;exact⟨r,h⟩
 unfold BF;refine N8 (fun i x1 x2=>x2=(i:Int)) 301 _ (by omega) rfl ?_;rintro d i x1 x2 s rfl hs;by_cases hc:i<laws.n/\i<=300
 ·refine ifT (by simp only[Ay3,decide_eq_true_eq];omega) (ifT (by omega) ?_);refine N8 (fun j x7 x8=>x8=(j:Int)) 2 _ (by omega) rfl ?_;rintro b j x7 x8 t rfl a;by_cases hl:j<2
  ·refine ifT (by show decide ((j:Int)<((2:Nat):Int))=true;simp;omega) (ifT (by show (0:Int)<=(j:Int)/\(j:Int)<((2:Nat):Int);omega) ?_);obtain⟨r,l,m⟩:=OD f ((Sl.of [(laws.g (i:Int).toNat).Left,(laws.g (i:Int).toNat).Right]:Sl Pat).g (j:Int).toNat);refine B1 l ?_;by_cases c:r<=40
   ·obtain⟨q,o⟩:=Ld 41 _ (m c) N (by omega);exact ifT (by simp;omega) (B1 o (a hl _ _ (C0 (by omega))))
   ·exact ifF (by simp;omega) (a hl _ _ (C0 (by omega)))
  ·exact ifF (by show ¬decide ((j:Int)<((2:Nat):Int))=true;simp;omega) (hs (by omega) _ _ (C0 (by omega)))
 ·exact ifF (by simp only[Ay3,decide_eq_true_eq];omega) ⟨_,rfl,trivial⟩
end Go.AM
namespace Go.AM
open IntKind (wrap)
open Go.Proofs
def Jh (s:Str):Bool:=(decide (1<=s.length)&&decide (s.length<=24))&&s.all fun c=>Oz ((c.toNat:Nat):Int)
theorem QN {N:Nat}{s:Str}(m:s.length<N)(hs:s.length<1000000000){let_:Int->Option Bool}(hl:∀y,let_ y=some (Oz y)){fin:Bool}(n:fin=(decide (1<=s.length)&&decide (s.length<=24))) :S8 N (fun (a:Int->Option Bool) (x1:Int)=>
  if (decide (x1<(s.length:Int))) then
   if ((0:Int)<=x1/\x1<(s.length:Int))then
    (let_ (BO s x1)).bind fun y3=>
    if (!y3) then
     some false
    else
     a (wrap .i64 (x1+1))
   else none
  else
   some fin
 ) 0=some (Jh s):=by
 suffices h:∃b,S8 N (fun (a:Int->Option Bool) (x1:Int)=>
  if (decide (x1<(s.length:Int))) then
   if ((0:Int)<=x1/\x1<(s.length:Int))then
    (let_ (BO s x1)).bind fun y3=>
    if (!y3) then
     some false
    else
     a (wrap .i64 (x1+1))
   else none
  else
   some fin
  ) 0=some b/\b=Jh s by obtain⟨b,h,rfl⟩:=h;exact h
 refine BA (fun i x1=>x1=(i:Int)/\∀j (h:j<s.length),j<i->Oz ((s[j].toNat:Nat):Int)=true) s.length _ m ⟨rfl,fun j _ f=>absurd f (by omega)⟩ ?_;rintro l i x1 q ⟨rfl,h⟩ g;by_cases d:i<s.length
 ·have eb:BO s (i:Int)=((s[i].toNat:Nat):Int):=by simp[BO,d]
  refine ifT (by simp;omega) (ifT (by omega) (B1 (hl _) ?_));rw[eb];cases hb:Oz ((s[i].toNat:Nat):Int)
  ·refine ifT rfl ⟨false,rfl,?_⟩;symm;unfold Jh;rw[AO4]
   right
   rw[List.all_eq_false];exact⟨s[i],AN3 d,by rw[hb];simp⟩
  ·refine ifF (by simp) (g d _ ⟨C0 (by omega),fun j f o=>?_⟩);by_cases e:j=i
   ·subst e;exact hb
   ·exact h j f (by omega)
 ·refine ifF (by simp;omega) ⟨_,rfl,?_⟩;unfold Jh;rw[n]
  have:(s.all fun c=>Oz ((c.toNat:Nat):Int))=true:=Az6.2 fun c hc=>by obtain⟨j,f,rfl⟩:=AK9 hc;exact h j f (by omega)
  rw[this,AK8]
theorem XE {N:Nat}{s:Str}(a:s.length<N)(hs:s.length<1000000000):Bg N s=some (Jh s):=by unfold Bg;exact QN a hs (fun y=>rfl) (by rw[AA9];simp;omega)
theorem ZQ {N:Nat}{s:Str}(a:s.length<N)(hs:s.length<1000000000):Fw N s=some (Jh s):=by unfold Fw;exact QN a hs (fun y=>rfl) (by rw[AA9];simp;omega)
def ZR (t:Sl F0)(v:Nat):Prop:=(v=0->(t.g 0).Parent = -1)/\(0<v->0<=(t.g v).Parent/\(t.g v).Parent<v)/\Jh (t.g v).Name=true/\∀u,u<v->(t.g u).Name≠(t.g v).Name
def Cn (t:Sl F0):Prop:=1<=t.n/\t.n<=63/\∀v,v<t.n->ZR t v
def Vu (t:Sl F0)(e:Int):Prop:=(e=0/\Cn t) \/ (e=16/\¬Cn t)
theorem Vv {t:Sl F0}{e e' : Int}(h:Vu t e)(h' : Vu t e'):e=e':=by
 rcases h with⟨rfl,h⟩ | ⟨rfl,h⟩<;>rcases h' with⟨rfl,h'⟩ | ⟨rfl,h'⟩
 ·rfl
 ·exact absurd h h'
 ·exact absurd h' h
 ·rfl
def Lf (t:Sl F0):Prop:=∀v,v<t.n->(t.g v).Name.length<1100000
theorem XF {N:Nat}(y:3000000<=N){t:Sl F0}(ht:Lf t):∃e,DW N t=some e/\Vu t e:=by
 unfold DW;by_cases z:t.n<1
 ·exact ifT (fun h=>absurd h (by simp;omega)) (ifT (by simp;omega) ⟨16,rfl,.inr ⟨rfl,fun h=>by have:=h.1;omega⟩⟩)
 refine ifT (fun _ _=>by omega) ?_;by_cases h1:63<t.n
 ·exact ifT (by simp;omega) ⟨16,rfl,.inr ⟨rfl,fun h=>by have:=h.2.1;omega⟩⟩
 by_cases m:(t.g 0).Parent = -1
 case neg=>exact ifT (by simp[m]) ⟨16,rfl,.inr ⟨rfl,fun h=>m ((h.2.2 0 (by omega)).1 rfl)⟩⟩
 refine ifF (by simp[m];omega) ?_;refine BA (fun i x1=>x1=(i:Int)/\∀j,j<i->ZR t j) t.n _ (by omega) ⟨rfl,fun j x=>absurd x (by omega)⟩ ?_;rintro f i x1 hi ⟨rfl,h⟩ hs;by_cases a:i<t.n
 case neg=>exact ifF (by simp;omega) ⟨0,rfl,.inl ⟨rfl,by omega,by omega,fun v hv=>h v (by omega)⟩⟩
 refine ifT (by simp;omega) (ltX ?_);have b:=ZQ (N:=N) (s:=(t.g i).Name) (by have:=ht i a;omega) (by have:=ht i a;omega);have rest:(0<i->0<=(t.g i).Parent/\(t.g i).Parent<i)->∃r,(if (!Jh (t.g i).Name) then some 16 else
  S8 N (fun (d:Int->Option Int) (x7:Int)=>
   if (decide (x7<(i:Int))) then
    if (((0:Int)<=x7/\x7<(t.n:Int))/\((0:Int)<=(i:Int)/\(i:Int)<(t.n:Int)))then
     if (((t.g x7.toNat).Name==(t.g (i:Int).toNat).Name) != false) then
      some 16
     else
      d (wrap .i64 (x7+1))
    else none
   else
    f (wrap .i64 ((i:Int)+1))
   ) 0)=some r/\Vu t r:=by
  intro hp;cases hb:Jh (t.g i).Name
  ·exact ifT rfl ⟨16,rfl,.inr ⟨rfl,fun h=>by have:=(h.2.2 i a).2.2.1;rw[hb]at this;cases this⟩⟩
  refine ifF (by simp) ?_;refine BA (fun k x7=>x7=(k:Int)/\∀u,u<k->(t.g u).Name≠(t.g i).Name) i _ (by omega) ⟨rfl,fun u o=>absurd o (by omega)⟩ ?_;rintro q k x7 hk ⟨rfl,h'⟩ w;by_cases l:k<i
  ·refine ifT (by simp;omega) (ifT (by omega) ?_);rw[Ay0,Ay0];by_cases e:(t.g k).Name=(t.g i).Name
   ·exact ifT (by simp[e]) ⟨16,rfl,.inr ⟨rfl,fun h=>(h.2.2 i a).2.2.2 k l e⟩⟩
   ·refine ifF (by simp[e]) (w l _ ⟨C0 (by omega),fun u o=>?_⟩);by_cases e2:u=k
    ·subst e2;exact e
    ·exact h' u (by omega)
  ·refine ifF (by simp;omega) (hs a _ ⟨C0 (by omega),fun j x=>?_⟩);by_cases e:j=i
   ·subst e;exact⟨fun e=>by subst e;exact m,hp,hb,fun u o=>h' u (by omega)⟩
   ·exact h j (by omega)
 by_cases c:0<i
 ·refine ifT (by simp;omega) (ifT (by omega) ?_);rw[Ay0];by_cases g1:(t.g i).Parent<0
  ·exact ifT (by simpa using g1) (ifT rfl ⟨16,rfl,.inr ⟨rfl,fun h=>by have:=((h.2.2 i a).2.1 c).1;omega⟩⟩)
  refine ifF (by simpa using g1) (ifT (by omega) ?_);by_cases g2:(i:Int)<=(t.g i).Parent
  ·exact ifT (by simpa using g2) (ifT rfl ⟨16,rfl,.inr ⟨rfl,fun h=>by have:=((h.2.2 i a).2.1 c).2;omega⟩⟩)
  exact ifF (by simpa using g2) (ifT (by omega) (B1 b (rest fun _=>⟨by omega,by omega⟩)))
 ·exact ifF (by simp;omega) (ifT (by omega) (B1 (by rw[Ay0];exact b) (rest fun h=>absurd h c)))
theorem Ii {ν : Type}{k s:Str}{v : ν}:∀es:List (Str × ν),BQ eqS s (NE eqS k v es)=if s=k then some v else BQ eqS s es
 |[]=>by simp only[NE,BQ];by_cases h:s=k<;>simp[eqS,h]
 |(a,x)::es=>by
  simp only[NE];by_cases h:k=a
  ·subst h;rw[if_pos (by simp[eqS])];simp only[BQ];by_cases b:s=k<;>simp[eqS,b]
  ·rw[if_neg (by simp[eqS,h])];simp only[BQ];rw[Ii es];by_cases b:s=k
   ·subst b;simp[eqS,h]
   ·simp[b]
theorem Uc {ν : Type}{k:Str}{v : ν}:∀{es:List (Str × ν)},BQ eqS k es=none->(NE eqS k v es).length=es.length+1
 |[],_=>rfl
 |(a,x)::es,h=>by
  simp only[BQ]at h;simp only[NE];by_cases e:eqS k a=true
  ·rw[if_pos e]at h;cases h
  ·rw[if_neg e]at h;rw[if_neg e,AB1,Uc h];rfl
theorem Ud {ν : Type}{k:Str}{v x : ν}:∀{es:List (Str × ν)},BQ eqS k es=some x->(NE eqS k v es).length=es.length
 |[],h=>by cases h
 |(a,y)::es,h=>by
  simp only[BQ]at h;simp only[NE];by_cases e:eqS k a=true
  ·rw[if_pos e];rfl
  ·rw[if_neg e]at h;rw[if_neg e,AB1,Ud h];rfl
theorem XG {N:Nat}(m:3000000<=N){t:Sl F0}(ht:Lf t):∃e,U5 N t=some e/\Vu t e:=by
 unfold U5;by_cases o:t.n=0 \/ 63<t.n
 ·exact ifT (by simp;omega) ⟨16,rfl,.inr ⟨rfl,fun h=>by have g1:=h.1;have g2:=h.2.1;omega⟩⟩
 refine ifF (by simp;omega) ?_;refine N8 (fun i (x2:List (Str×Bool)) x3=>x3=(i:Int)/\(∀j,j<i->ZR t j)/\∀s,(BQ eqS s x2=some true/\∃u,u<i/\(t.g u).Name=s) \/ (BQ eqS s x2=none/\∀u,u<i->(t.g u).Name≠s)) t.n _ (by omega) ⟨rfl,fun j f=>absurd f (by omega),fun s=>.inr ⟨rfl,fun u c=>absurd c (by omega)⟩⟩ ?_;rintro l i x2 x3 q ⟨rfl,h,hm⟩ hs;by_cases a:i<t.n
 case neg=>exact ifF (by simp;omega) ⟨0,rfl,.inl ⟨rfl,by omega,by omega,fun v r=>h v (by omega)⟩⟩
 refine ifT (by simp;omega) (ifT (by omega) (ltX ?_));rw[Ay0];have b:=XE (N:=N) (s:=(t.g i).Name) (by have:=ht i a;omega) (by have:=ht i a;omega);have e1:(if 0<wrap .i64 ((i:Int)-1)then (0:Int)else wrap .i64 ((i:Int)-1))=if i=0 then -1 else 0:=by rw[D3 (by omega) (by omega)];split<;>split<;>omega
 rw[e1];by_cases g1:(i:Int)<=(t.g i).Parent
 ·refine ifT (by simpa using g1) (ifT rfl ⟨16,rfl,.inr ⟨rfl,fun h=>?_⟩⟩);have hk:=h.2.2 i a;by_cases d:i=0
  ·subst d;have:=hk.1 rfl;omega
  ·have:=(hk.2.1 (by omega)).2;omega
 refine ifF (by simpa using g1) ?_;by_cases g2:(t.g i).Parent<if i=0 then -1 else 0
 ·refine ifT (by simpa using g2) (ifT rfl ⟨16,rfl,.inr ⟨rfl,fun h=>?_⟩⟩);have hk:=h.2.2 i a;by_cases d:i=0
  ·subst d;have:=hk.1 rfl;simp at g2;omega
  ·have:=(hk.2.1 (by omega)).1;simp[d]at g2;omega
 refine ifF (by simpa using g2) (B1 b ?_);cases hb:Jh (t.g i).Name
 ·exact ifT rfl (ifT rfl ⟨16,rfl,.inr ⟨rfl,fun h=>by have:=(h.2.2 i a).2.2.1;rw[hb]at this;cases this⟩⟩)
 refine ifF (by simp) ?_;rcases hm (t.g i).Name with⟨e,u,c,hn⟩ | ⟨e,hn⟩
 ·rw[e];exact⟨16,rfl,.inr ⟨rfl,fun h=>(h.2.2 i a).2.2.2 u c hn⟩⟩
 rw[e,PB];refine ifF (show ¬false=true by simp) (hs a _ _ ⟨C0 (by omega),fun j f=>?_,fun s=>?_⟩)
 ·by_cases e:j=i
  ·subst e;refine⟨fun e=>?_,fun hp=>?_,hb,hn⟩
   ·subst e;simp at g2;omega
   ·have:¬j=0:=by omega
    simp[this]at g2;omega
  ·exact h j (by omega)
 ·rw[Ii];by_cases e:s=(t.g i).Name
  ·exact .inl ⟨by rw[if_pos e],i,by omega,e.symm⟩
  ·rw[if_neg e];rcases hm s with⟨g,u,c,hn⟩ | ⟨g,hn⟩
   ·exact .inl ⟨g,u,by omega,hn⟩
   ·refine .inr ⟨g,fun u c=>?_⟩;by_cases e2:u=i
    ·subst e2;exact fun h=>e h.symm
    ·exact hn u (by omega)
theorem Ue {N:Nat}(a:3000000<=N){t:Sl F0}(ht:Lf t):∃e,U5 N t=some e/\DW N t=some e/\Vu t e:=by obtain⟨e,h1,b⟩:=XG a ht;obtain⟨e',c,d⟩:=XF a ht;obtain rfl:=Vv b d;exact⟨_,h1,c,b⟩
end Go.AM
namespace Go.AM
open IntKind (wrap)
open Go.Proofs
structure Co (h:A6):Prop where
 laws:Fk h.Laws
 tree:Lf h.Tree
 on:h.On.n<1100000
 len:∀v,v<h.On.n->(h.On.g v).n<1100000
def AK (h:A6)(v:Nat):Sl Int:=
 if hp:0<=(h.Tree.g v).Parent/\(h.Tree.g v).Parent<v then (AK h (h.Tree.g v).Parent.toNat).app (h.On.g v)else (Sl.nil:Sl Int).app (h.On.g v)
termination_by v
decreasing_by omega
theorem Fy {h:A6}{v:Nat}(a:(h.Tree.g v).Parent<0):AK h v=(Sl.nil:Sl Int).app (h.On.g v):=by rw[AK,dif_neg (by omega)]
theorem Fz {h:A6}{v p:Nat}(a:(h.Tree.g v).Parent=(p:Int))(hp:p<v):AK h v=(AK h p).app (h.On.g v):=by rw[AK,dif_pos (by omega),a,Ay0]
theorem Bi {t:Sl F0}(ht:Cn t){v:Nat}(a:v<t.n):(v=0/\(t.g v).Parent = -1) \/ ∃p:Nat,p<v/\(t.g v).Parent=(p:Int):=by
 have hk:=ht.2.2 v a;by_cases b:v=0
 ·subst b;exact .inl ⟨rfl,hk.1 rfl⟩
 ·obtain⟨g1,g2⟩:=hk.2.1 (by omega);exact .inr ⟨(t.g v).Parent.toNat,by omega,by omega⟩
theorem XH {h:A6}(a:Co h)(ht:Cn h.Tree)(hn:h.On.n=h.Tree.n):∀(m v:Nat),v<=m->v<h.Tree.n->(AK h v).n<=(v+1)*1100000
 |m,v,hm,hv=>by
  have hl:=a.len v (by omega);rcases Bi ht hv with⟨_,e⟩ | ⟨p,hp,e⟩
  ·rw[Fy (by omega)];show 0+(h.On.g v).n<=_;omega
  ·rw[Fz e hp]
   match m with
   |0=>omega
   |m+1=>
    have:=XH a ht hn m p (by omega) (by omega)
    show (AK h p).n+(h.On.g v).n<=_;have b:(p+1)*1100000+1100000<=(v+1)*1100000:=by omega
    omega
def Vw (h:A6):Prop:=∃v,v<h.On.n/\64<(AK h v).n
def Ap5 (h:A6)(v:Nat):Prop:=∃k,k<(h.On.g v).n/\((h.On.g v).g k<0 \/ (h.Laws.n:Int)<=(h.On.g v).g k)
def XJ (h:A6)(e:Int):Prop:=(Vw h/\e=2) \/ (¬Vw h/\(∃v,v<h.On.n/\Ap5 h v)/\e=3) \/ (¬Vw h/\(∀v,v<h.On.n->¬Ap5 h v)/\e=0)
theorem XK {N:Nat}(hN:3000000<=N){h:A6}(hi:Co h)(ht:Cn h.Tree)(hn:h.On.n=h.Tree.n):∃e,U6 N h=some e/\XJ h e:=by
 have h63:=ht.2.1;unfold U6;refine ifT (by omega) ?_;refine Xa (fun i (x4:Sl Int) (x5:Bool) x6=>x6=(i:Int)/\x4.n=h.On.n/\(∀v,v<i->x4.g v=((AK h v).n:Int)/\(AK h v).n<=64)/\(x5=true ↔ ∃v,v<i/\Ap5 h v)) h.On.n _ (by omega) ⟨rfl,by show ((h.On.n:Nat):Int).toNat=_;omega,fun v b=>absurd b (by omega),⟨fun g=>(by cases g),fun⟨v,b,_⟩=>absurd b (by omega)⟩⟩ ?_;rintro m i x4 x5 x6 hle ⟨rfl,hx,hp,hb⟩ hs;by_cases o:i<h.On.n
 case neg=>
  refine ifF (by simp;omega) ?_;have hl:¬Vw h:=fun⟨v,b,hl⟩=>by have:=(hp v (by omega)).2;omega
  cases x5
  ·exact ifF (by simp) ⟨0,rfl,.inr (.inr ⟨hl,fun v b g=>(by have:=hb.2 ⟨v,by omega,g⟩;cases this),rfl⟩)⟩
  ·obtain⟨v,b,g⟩:=hb.1 rfl;exact ifT rfl ⟨3,rfl,.inr (.inl ⟨hl,⟨v,by omega,g⟩,rfl⟩)⟩
 refine ifT (by simp;omega) (ifT (by rw[Ay0];omega) (ifT (by omega) (ltX ?_)));rw[Ay0];have hl:=hi.len i (by omega);have hlb:=XH hi ht hn i i (Ay6 _) (by omega);have rest:∀z:Sl Int,z.n=h.On.n->(∀v,v<i->z.g v=x4.g v)->z.g i=((AK h i).n:Int)->∃r,(if (((0:Int)<=(i:Int)/\(i:Int)<(z.n:Int))/\i<z.n)then
  if (decide (64<(z.g i))) then
   some 2
  else
   S5 N (fun (d:Bool->Int->Option Int) (c:Bool) (a:Int)=>
    if (decide (a<((h.On.g i).n:Int))) then
     if ((0:Int)<=a/\a<((h.On.g i).n:Int))then
      d ((c||(decide (((h.On.g i).g a.toNat)<0)))||(decide ((h.Laws.n:Int)<=((h.On.g i).g a.toNat)))) (wrap .i64 (a+1))
     else none
    else
     m z c (wrap .i64 ((i:Int)+1))
    ) x5 0
  else none)=some r/\XJ h r:=by
  intro z hz u q;refine ifT (by omega) ?_;rw[q];by_cases w:64<(AK h i).n
  ·exact ifT (by simp;omega) ⟨2,rfl,.inl ⟨⟨i,o,w⟩,rfl⟩⟩
  refine ifF (by simp;omega) ?_;refine N8 (fun k (c:Bool) a=>a=(k:Int)/\(c=true↔(∃v,v<i/\Ap5 h v) \/ ∃j,j<k/\j<(h.On.g i).n/\((h.On.g i).g j<0 \/ (h.Laws.n:Int)<=(h.On.g i).g j))) (h.On.g i).n _ (by omega) ⟨rfl,hb.trans ⟨fun g=>.inl g,fun g=>g.resolve_right fun⟨j,f,_⟩=>absurd f (by omega)⟩⟩ ?_;rintro x k c a hk ⟨rfl,s⟩ y;by_cases l:k<(h.On.g i).n
  ·refine ifT (by simp;omega) (ifT (by omega) (y l _ _ ⟨C0 (by omega),?_⟩));rw[Ay0,AA0,AA0,s,decide_eq_true_eq,decide_eq_true_eq];constructor
   ·rintro (((g|⟨j,f,g⟩)|g)|g)
    ·exact .inl g
    ·exact .inr ⟨j,by omega,g⟩
    ·exact .inr ⟨k,by omega,l,.inl g⟩
    ·exact .inr ⟨k,by omega,l,.inr g⟩
   ·rintro (g|⟨j,f,a0,g⟩)
    ·exact .inl (.inl (.inl g))
    ·by_cases e:j=k
     ·subst e;rcases g with g|g
      ·exact .inl (.inr g)
      ·exact .inr g
     ·exact .inl (.inl (.inr ⟨j,by omega,a0,g⟩))
  ·refine ifF (by simp;omega) (hs o _ _ _ ⟨C0 (by omega),hz,fun v b=>?_,s.trans ?_⟩)
   ·by_cases e:v=i
    ·subst e;exact⟨q,by omega⟩
    ·rw[u v (by omega)];exact hp v (by omega)
   ·constructor
    ·rintro (⟨v,b,g⟩ | ⟨j,_,f,g⟩)
     ·exact⟨v,by omega,g⟩
     ·exact⟨i,by omega,j,f,g⟩
    ·rintro⟨v,b,g⟩;by_cases e:v=i
     ·subst e;obtain⟨j,f,g⟩:=g;exact .inr ⟨j,by omega,f,g⟩
     ·exact .inl ⟨v,by omega,g⟩
 rcases Bi ht (v:=i) (by omega)with⟨_,e⟩ | ⟨p,t,e⟩
 ·rw[e];refine ifF (by decide) (rest _ hx (fun v b=>?_) ?_)
  ·show (if v=i then _ else x4.g v)=_;rw[if_neg (by omega)]
  ·show (if i=i then ((h.On.g i).n:Int)else _)=_;rw[if_pos rfl,Fy (by omega)];show _=((0+(h.On.g i).n:Nat):Int);omega
 ·have a1:=hp p t;rw[e];refine ifT (by simp) (ifT ?_ ?_)
  ·show ((((((0:Int)<=(i:Int)/\(i:Int)<(x4.n:Int))/\i<x4.n)/\(0:Int)<=(p:Int)/\(p:Int)<(x4.n:Int))/\(p:Int).toNat<x4.n)/\(0:Int)<=(i:Int)/\(i:Int)<(x4.n:Int))/\i<x4.n;omega
  ·rw[Ay0];refine rest _ hx (fun v b=>?_) ?_
   ·show (if v=i then _ else if v=i then _ else x4.g v)=_;rw[if_neg (by omega),if_neg (by omega)]
   ·show (if i=i then wrap .i64 ((if i=i then ((h.On.g i).n:Int)else _)+(if p=i then _ else x4.g p))else _)=_;rw[if_pos rfl,if_pos rfl,if_neg (by omega),a1.1,Fz e t,D3 (by omega) (by omega)];show _=(((AK h p).n+(h.On.g i).n:Nat):Int);omega
end Go.AM
namespace Go.AM
open Go.Proofs
def Aw0 (h:A6)(i:Nat):Prop:=∃u v,u<v/\v<i/\(h.Laws.g u).Name=(h.Laws.g v).Name
open Classical in
noncomputable def hres (N:Nat) (h:A6):Int:=
 if ¬Cn h.Tree then 16 else if 64<h.Laws.n then 12 else if ∃i,i<h.Laws.n/\¬chkAll N (h.Laws.g i)then 17 else if Aw0 h h.Laws.n then 6 else if h.On.n≠h.Tree.n then 2
 else if Vw h then 2 else if ∃v,v<h.On.n/\Ap5 h v then 3 else 0
structure Cp (N:Nat) (h:A6):Prop where
 tree:Cn h.Tree
 laws:Hz N h.Laws
 dup:¬Aw0 h h.Laws.n
 on:h.On.n=h.Tree.n
 long:¬Vw h
 bad:∀v,v<h.On.n->¬Ap5 h v
theorem hres_zero {N:Nat}{h:A6}:hres N h=0↔Cp N h:=by
 unfold hres;constructor
 ·intro g;split at g
  ·cases g
  split at g
  ·cases g
  split at g
  ·cases g
  split at g
  ·cases g
  split at g
  ·cases g
  split at g
  ·cases g
  split at g
  ·cases g
  rename_i h1 n c d f j l;exact⟨Classical.not_not.1 h1,⟨by omega,fun i a=>AB6 fun hn=>c ⟨i,a,hn⟩⟩,d,Classical.not_not.1 f,j,fun v b hb=>l ⟨v,b,hb⟩⟩
 ·intro g;have m:=g.laws.1;rw[if_neg (fun k=>k g.tree),if_neg (by omega),if_neg (fun⟨i,a,hn⟩=>hn (g.laws.2 i a)),if_neg g.dup,if_neg (fun k=>k g.on),if_neg g.long,if_neg (fun⟨v,b,hb⟩=>g.bad v b hb)]
theorem Vx {N:Nat}{h:A6}(h1:Cn h.Tree)(a:Hz N h.Laws)(b:¬Aw0 h h.Laws.n)(c:h.On.n=h.Tree.n){e:Int}(d:XJ h e):e=hres N h:=by
 have f:=a.1;unfold hres;rw[if_neg (fun k=>k h1),if_neg (by omega),if_neg (fun⟨i,j,hn⟩=>hn (a.2 i j)),if_neg b,if_neg (fun k=>k c)];rcases d with⟨g,rfl⟩ | ⟨g,g2,rfl⟩ | ⟨g,g2,rfl⟩
 ·rw[if_pos g]
 ·rw[if_neg g,if_pos g2]
 ·rw[if_neg g,if_neg (fun⟨v,l,hb⟩=>g2 v l hb)]
theorem MX {N:Nat}(z:3000000<=N){h:A6}(o:Co h):D7 N h=some (hres N h):=by
 suffices g:∃r,D7 N h=some r/\r=hres N h by obtain⟨r,g,rfl⟩:=g;exact g
 obtain⟨e,e1,_,he⟩:=Ue z o.tree;unfold D7;refine B1 e1 ?_;rcases he with⟨rfl,ht⟩ | ⟨rfl,ht⟩
 case inr=>exact ifT (by decide) ⟨16,rfl,by unfold hres;rw[if_pos ht]⟩
 refine ifF (by decide) ?_;by_cases c:64<h.Laws.n
 ·exact ifT (by simp;omega) ⟨12,rfl,by unfold hres;rw[if_neg (fun k=>k ht),if_pos c]⟩
 refine ifF (by simp;omega) ?_;refine N8 (fun i (x1:List (Str×Int)) x2=>x2=(i:Int)/\(∀j,j<i->chkAll N (h.Laws.g j))/\(∀s,(BQ eqS s x1=none/\∀u,u<i->(h.Laws.g u).Name≠s) \/ (∃v,BQ eqS s x1=some v)/\∃u,u<i/\(h.Laws.g u).Name=s)/\((Aw0 h i/\x1.length<i) \/ (¬Aw0 h i/\x1.length=i))) h.Laws.n _ (by omega)
  ⟨rfl,fun j hj=>absurd hj (by omega),fun s=>.inl ⟨rfl,fun u q=>absurd q (by omega)⟩,.inr ⟨fun⟨u,v,_,hv,_⟩=>absurd hv (by omega),rfl⟩⟩ ?_
 rintro self i x1 x2 hle ⟨rfl,hc,hm,hl⟩ hs;by_cases d:i<h.Laws.n
 ·obtain⟨y,y1,_,hy⟩:=Fi z (o.laws i d);refine ifT (by simp;omega) (ifT (by omega) (B1 (by rw[Ay0];exact y1) ?_));rcases hy with⟨rfl,hy⟩ | ⟨rfl,hy⟩
  case inr=>exact ifT (by decide) ⟨17,rfl,by unfold hres;rw[if_neg (fun k=>k ht),if_neg c,if_pos ⟨i,d,hy⟩]⟩
  refine ifF (by decide) ?_;rw[Ay0];have t : ∀j,j<i+1->chkAll N (h.Laws.g j):=fun j hj=>by
   by_cases e:j=i
   ·subst e;exact hy
   ·exact hc j (by omega)
  have look:∀(v:Int) (s:Str),(BQ eqS s (NE eqS (h.Laws.g i).Name v x1)=none/\∀u,u<i+1->(h.Laws.g u).Name≠s) \/ (∃w,BQ eqS s (NE eqS (h.Laws.g i).Name v x1)=some w)/\∃u,u<i+1/\(h.Laws.g u).Name=s:=by
   intro v s;rw[Ii];by_cases e:s=(h.Laws.g i).Name
   ·exact .inr ⟨⟨v,by rw[if_pos e]⟩,i,by omega,e.symm⟩
   ·rw[if_neg e];rcases hm s with⟨g,g2⟩ | ⟨g,u,q,g2⟩
    ·refine .inl ⟨g,fun u q=>?_⟩;by_cases e2:u=i
     ·subst e2;exact fun k=>e k.symm
     ·exact g2 u (by omega)
    ·exact .inr ⟨g,u,by omega,g2⟩
  rcases hm (h.Laws.g i).Name with⟨g,g2⟩ | ⟨⟨v,g⟩,u,q,g2⟩
  ·rw[g,PB];refine hs d _ _ ⟨C0 (by omega),t,look _,?_⟩;rw[Uc g];rcases hl with⟨⟨a,b,f,hb,hn⟩,hl⟩ | ⟨m,hl⟩
   ·exact .inl ⟨⟨a,b,f,by omega,hn⟩,by omega⟩
   ·refine .inr ⟨fun⟨a,b,f,hb,hn⟩=>?_,by omega⟩;by_cases e:b=i
    ·subst e;exact g2 a f hn
    ·exact m ⟨a,b,f,by omega,hn⟩
  ·rw[g,WD];refine hs d _ _ ⟨C0 (by omega),t,look _,?_⟩;rw[Ud g];refine .inl ⟨⟨u,i,q,by omega,g2⟩,?_⟩;rcases hl with⟨_,hl⟩ | ⟨_,hl⟩<;>omega
 ·obtain rfl:i=h.Laws.n:=by omega
  have hok:Hz N h.Laws:=⟨by omega,hc⟩;have x:¬ ∃i,i<h.Laws.n/\¬chkAll N (h.Laws.g i):=fun⟨i,o,hn⟩=>hn (hc i o);refine ifF (by simp) ?_;rw[RA];rcases hl with⟨m,hl⟩ | ⟨m,hl⟩
  ·exact ifT (by simp;omega) ⟨6,rfl,by unfold hres;rw[if_neg (fun k=>k ht),if_neg c,if_neg x,if_pos m]⟩
  refine ifF (by simp;omega) ?_;by_cases l:h.On.n=h.Tree.n
  case neg=>exact ifT (by simp;omega) ⟨2,rfl,by unfold hres;rw[if_neg (fun k=>k ht),if_neg c,if_neg x,if_neg m,if_pos l]⟩
  refine ifF (by simp[l]) ?_;obtain⟨e,e1,he⟩:=XK z o ht l;exact B1 e1 ⟨e,rfl,Vx ht hok m l he⟩
end Go.AM
namespace Go.AM
open Go.Proofs
def An2 (t:Sl F0)(v:Nat):List Nat:=
 if hp:0<=(t.g v).Parent/\(t.g v).Parent<v then An2 t (t.g v).Parent.toNat++[v]else [v]
termination_by v
decreasing_by omega
theorem XL {t:Sl F0}{v:Nat}(a:(t.g v).Parent<0):An2 t v=[v]:=by rw[An2,dif_neg (by omega)]
theorem An3 {t:Sl F0}{v p:Nat}(a:(t.g v).Parent=(p:Int))(hp:p<v):An2 t v=An2 t p++[v]:=by rw[An2,dif_pos (by omega),a,Ay0]
theorem Gx:∀(d:Nat) (p:Pat),okP d p->∀M,100+d<=M->∃q,N0 M p=some q/\PE p q
 |0,p,h,M,_=>h.elim
 |d+1,p,h,0,hM=>by omega
 |d+1,p,h,M+1,hM=>by
  show ∃q,N6 (N0 M) M p=some q/\_;unfold N6;have hn:=h.1;refine N8 (fun i (x1:Sl Pat) x2=>x2=(i:Int)/\x1.n=i/\∀j,j<i->PE (p.L.g j) (x1.g j)) p.L.n _ (by omega) ⟨rfl,rfl,fun j a=>absurd a (by omega)⟩ ?_;rintro c i x1 x2 f ⟨rfl,hx,a⟩ hs;by_cases hl:i<p.L.n
  ·obtain⟨q,q1,q2⟩:=Gx d (p.L.g i) (h.2.2 i hl) M (by omega);refine ifT (by simp;omega) (ifT (by omega) (B1 (by rw[Ay0];exact q1) (ifT (by show (x1.n+1)*64<=_/\x1.n+1<=_;omega) (hs hl _ _ ⟨C0 (by omega),by show x1.n+1=_;omega,fun j b=>?_⟩))));show PE _ (if j<x1.n then x1.g j else q);by_cases e:j=i
   ·subst e;rw[if_neg (by omega)];exact q2
   ·rw[if_pos (by omega)];exact a j (by omega)
  ·exact ifF (by simp;omega) ⟨_,rfl,PE_of.2 ⟨rfl,rfl,rfl,rfl,rfl,by show x1.n=_;omega,fun j b=>a j (by omega)⟩⟩
theorem Vy {N:Nat}(d:3000000<=N){l:Law}(hl:Hx l)(hc:chkAll N l):∃l',O2 N l=some l' /\ LE l l':=by have a:=hc.f hl;obtain⟨_,h1,b,g,c,_⟩:=a;have i:=c.1;obtain⟨q1,e1,g1⟩:=Gx 40 l.Left (KV 40 _ (by omega) h1 _ (by simp)) N (by omega);obtain⟨q2,e2,g2⟩:=Gx 40 l.Right (KV 40 _ (by omega) b _ (by simp)) N (by omega);unfold O2 A4 F2;rw[e1,e2,Ay4,Ay4,if_pos (by omega),Ay4,if_pos (by omega)];exact⟨_,rfl,rfl,g1,g2,SE.refl _,SE.refl _,rfl⟩
theorem ZS {N:Nat}(m:3000000<=N){h:A6}(o:Co h)(c:Cp N h){l:Sl Int}(hn:l.n<1000000)(hl:∀i,i<l.n->0<=l.g i/\l.g i<h.Laws.n) :∃s,P2 N h l=some s/\s.n=l.n/\∀i,i<l.n->LE (h.Laws.g (l.g i).toNat) (s.g i):=by
 unfold P2;refine N8 (fun i (x1:Sl Law) x2=>x2=(i:Int)/\x1.n=i/\∀j,j<i->LE (h.Laws.g (l.g j).toNat) (x1.g j)) l.n _ (by omega) ⟨rfl,rfl,fun j b=>absurd b (by omega)⟩ ?_;rintro f i x1 x2 hle ⟨rfl,hx,b⟩ hs;by_cases a:i<l.n
 ·have r:=hl i a;obtain⟨q,q1,q2⟩:=Vy m (o.laws (l.g i).toNat (by omega)) (c.laws.2 (l.g i).toNat (by omega));refine ifT (by simp;omega) ?_;rw[Ay0];refine ifT ⟨by omega,r⟩ (B1 q1 (ifT (by show (x1.n+1)*200<=_/\x1.n+1<=_;omega) (hs a _ _ ⟨C0 (by omega),by show x1.n+1=_;omega,fun j d=>?_⟩)));show LE _ (if j<x1.n then x1.g j else q);by_cases e:j=i
  ·subst e;rw[if_neg (by omega)];exact q2
  ·rw[if_pos (by omega)];exact b j (by omega)
 ·exact ifF (by simp;omega) ⟨_,rfl,by omega,fun j d=>b j (by omega)⟩
def OE (h:A6)(l:Sl Int):Sl Law:=⟨l.n,fun i=>h.Laws.g (l.g i).toNat⟩
end Go.AM
namespace Go.AM
open Go.Proofs
def LZ (N:Nat)(l:Law)(w:Sl Sound):Option (Sl Sound):=(P1 N l w).bind fun y=>if y.2=0 then some y.1 else none
def Cr (N:Nat):List Law->Sl Sound->Option (Sl Sound)
 |[],w=>some w
 |l::L,w=>(LZ N l w).bind (Cr N L)
theorem QO {N:Nat}:∀(A B:List Law) (w:Sl Sound),Cr N (A++B) w=(Cr N A w).bind (Cr N B)
 |[],B,w=>rfl
 |l::A,B,w=>by
  show (LZ N l w).bind (Cr N (A++B))=((LZ N l w).bind (Cr N A)).bind (Cr N B);cases LZ N l w with
  |none=>rfl
  |some v=>exact QO A B v
def Vz (N:Nat)(l:Law):Prop:=Hx l/\chkAll N l
theorem ZT {N:Nat}{l l' : Law}(h:LE l l')(g:Vz N l):Vz N l':=⟨Jq h g.1,(Hy h).1 g.2⟩
def OR (o o' : Option (Sl Sound)):Prop:=(o=none/\o' = none) \/ ∃v v',o=some v/\o' = some v' /\ SE v v' /\ wOk v
theorem SK {N:Nat}(a:3000000<=N){l:Law}(hl:Vz N l){w:Sl Sound}(hw:wOk w):(∃v,P1 N l w=some (v,0)/\LZ N l w=some v/\wOk v) \/ (∃v,P1 N l w=some (v,11)/\LZ N l w=none):=by
 obtain⟨⟨v,e⟩,_,h1,_,_,_,b⟩:=Lc a hl.1 (LE.refl l) (SE.refl w) fun i c=>(hw.2 i c).ok;rcases b with⟨_,h⟩ | ⟨_,h,h'⟩ | ⟨_,_,h|⟨h,h'⟩⟩
 ·exact absurd hl.2 h
 ·exact absurd ((U9 h).2 hw) h'
 ·dsimp only at h;subst h;exact .inr ⟨v,h1,by unfold LZ;rw[h1];rfl⟩
 ·dsimp only at h h';subst h;exact .inl ⟨v,h1,by unfold LZ;rw[h1];rfl,h'⟩
theorem Aw1 {N:Nat}(c:3000000<=N){l l' : Law}(hl:Vz N l)(hle:LE l l'){w w' : Sl Sound}(hw:wOk w)(a:SE w w'):OR (LZ N l w) (LZ N l' w'):=by
 have b:=a.wOk hw;obtain⟨r,r',h1,g,j,f,_⟩:=Lc c hl.1 hle a fun i d=>(hw.2 i d).ok;obtain⟨q,q',k1,k2,k3,k4,_⟩:=Lc c (Jq hle hl.1) (LE.refl l') (SE.refl w') fun i d=>(b.2 i d).ok;obtain rfl:=AA8 (g.symm.trans k2);rcases SK c hl hw with⟨v,g1,g2,g3⟩ | ⟨v,g1,g2⟩<;>rcases SK c (ZT hle hl) b with⟨u,p1,p2,p3⟩ | ⟨u,p1,p2⟩
 ·obtain rfl:=AA8 (g1.symm.trans h1);obtain rfl:=AA8 (p1.symm.trans k1);exact .inr ⟨v,u,g2,p2,j.trans k3.symm,g3⟩
 ·obtain rfl:=AA8 (g1.symm.trans h1);obtain rfl:=AA8 (p1.symm.trans k1);exact absurd (f.trans k4.symm) (by show ¬((0:Int)=11);decide)
 ·obtain rfl:=AA8 (g1.symm.trans h1);obtain rfl:=AA8 (p1.symm.trans k1);exact absurd (f.trans k4.symm) (by show ¬((11:Int)=0);decide)
 ·exact .inl ⟨g2,p2⟩
def LEs:List Law->List Law->Prop
 |[],[]=>True
 |p::l,q::m=>LE p q/\LEs l m
 |_,_=>False
theorem Ae1 {N:Nat}(a:3000000<=N):∀(L L' : List Law) (w w' : Sl Sound),(∀l∈L,Vz N l)->LEs L L' -> wOk w->SE w w' -> OR (Cr N L w) (Cr N L' w')
 |[],[],w,w',_,_,hw,hse=>.inr ⟨w,w',rfl,rfl,hse,hw⟩
 |l::L,l' :: L',w,w',hg,⟨h1,h2⟩,hw,hse=>by
  unfold Cr;rcases Aw1 a (hg l (by simp)) h1 hw hse with⟨e1,e2⟩ | ⟨v,v',e1,e2,e3,e4⟩
  ·rw[e1,e2];exact .inl ⟨rfl,rfl⟩
  ·rw[e1,e2];exact Ae1 a L L' v v' (fun x hx=>hg x (by simp[hx])) h2 e4 e3
 |[],_::_,_,_,_,h,_,_=>h.elim
 |_::_,[],_,_,_,h,_,_=>h.elim
theorem QP {f g:Nat->Law}:∀(l:List Nat),(∀i∈l,LE (f i) (g i))->LEs (l.map f) (l.map g)
 |[],_=>trivial
 |i::l,h=>⟨h i (by simp),QP l fun j a=>h j (by simp[a])⟩
theorem LS.s {s t:Sl Law}(h:LS s t):LEs s.toList t.toList:=by unfold Sl.toList;rw[<- h.1];exact QP _ fun i a=>h.2 i (AE3.1 a)
theorem An4 {N:Nat}{laws:Sl Law}(hl:Fk laws)(b:Hz N laws):∀l∈laws.toList,Vz N l:=by intro l h;obtain⟨i,a,rfl⟩:=AF3.1 h;have a:=AE3.1 a;exact⟨hl i a,b.2 i a⟩
theorem SL {N:Nat}(f:3000000<=N){laws:Sl Law}(hl:Fk laws)(c:Hz N laws):∀(m i:Nat) (w:Sl Sound),wOk w->i<=laws.n->laws.n<=i+m ->
 (∃L,(∀M,m<M->S5 M (CG N 0 laws) w i=some L)/\Cr N (laws.toList.drop i) w=some (OB w L)/\wOk (OB w L)) \/
 ((∃L,∀M,m<M->S5 M (CG N 0 laws) w i=none/\S5 M (CG N 11 laws) w i=some L)/\Cr N (laws.toList.drop i) w=none):=by
 have b:=c.1;have fin:∀(m i:Nat) (w:Sl Sound),wOk w->i=laws.n->∃L,(∀M,m<M->S5 M (CG N 0 laws) w i=some L)/\Cr N (laws.toList.drop i) w=some (OB w L)/\wOk (OB w L):=by rintro m i w hw rfl;refine⟨[],fun M d=>?_,by rw[Cl];rfl,hw⟩;obtain⟨M,rfl⟩:∃K,M=K+1:=⟨M-1,by omega⟩;rw[O4,CG,if_neg (by simp),if_pos rfl]
 intro m
 induction m with
 |zero=>exact fun i w hw g hm=>.inl (fin 0 i w hw (by omega))
 |succ m ih=>
  intro i w hw g hm;by_cases a:i<laws.n
  case neg=>exact .inl (fin _ i w hw (by omega))
  rw[Ed _ a];rcases SK f ⟨hl i a,c.2 i a⟩ hw with⟨v,g1,g2,g3⟩ | ⟨v,g1,g2⟩
  ·rcases ih (i+1) v g3 (by omega) (by omega)with⟨L,a1,a2,a3⟩ | ⟨⟨L,a1⟩,a2⟩
   ·refine .inl ⟨((i+1:Nat),v)::L,fun M d=>?_,by unfold Cr;rw[g2];exact a2,a3⟩;obtain⟨M,rfl⟩:∃K,M=K+1:=⟨M-1,by omega⟩;rw[O4,Cm a b g1,if_neg (by simp)];show Bm _ (S5 M (CG N 0 laws) v _)=_;rw[a1 M (by omega)];rfl
   ·refine .inr ⟨⟨((i+1:Nat),v)::L,fun M d=>?_⟩,by unfold Cr;rw[g2];exact a2⟩;obtain⟨M,rfl⟩:∃K,M=K+1:=⟨M-1,by omega⟩;obtain⟨b1,b2⟩:=a1 M (by omega);rw[O4,O4,Cm a b g1,Cm a b g1,if_neg (by simp),if_neg (by simp)];refine⟨?_,?_⟩
    ·show Bm _ (S5 M (CG N 0 laws) v _)=_;rw[b1];rfl
    ·show Bm _ (S5 M (CG N 11 laws) v _)=_;rw[b2];rfl
  ·refine .inr ⟨⟨[],fun M d=>?_⟩,by unfold Cr;rw[g2];rfl⟩;obtain⟨M,rfl⟩:∃K,M=K+1:=⟨M-1,by omega⟩;rw[O4,O4,Cm a b g1,Cm a b g1];exact⟨rfl,rfl⟩
theorem SM {N:Nat}(g:3000000<=N){laws:Sl Law}(hl:Fk laws)(d:Hz N laws){w:Sl Sound}(hw:wOk w) :(∃v,Cr N laws.toList w=some v/\J2 N laws w=some (v,0)/\wOk v) \/ (Cr N laws.toList w=none/\J2 N laws w=some ((Sl.nil:Sl Sound),11)):=by
 have j:=d.1;have l:=hw.1;obtain⟨e,e1,m⟩:=SJ g hl (w:=w) fun i o=>(hw.2 i o).ok
 have:e=0:=by
  rcases m with⟨h,h'⟩ | ⟨_,h⟩
  ·exact MW h (lawsE_zero.2 d)
  ·exact (U9 h).2 hw
 subst this;have b:A4 N w=some w:=by unfold A4;rw[if_pos (by omega)]
 have a:∀c,E3 N c laws w=(Bm (0,w) (S5 N (CG N c laws) w 0)).bind fun L1=>Q4 L1 (fun (f:Sl Sound->Option (Sl Sound)) (x1:Int×(Sl Sound)) (z1:Sl Sound)=>f x1.2) (fun (z1:Sl Sound)=>some z1) (Sl.nil:Sl Sound):=by intro c;unfold E3 AS Z4;rw[Ay4,b,Ay4];rfl
 unfold J2;rw[e1,Ay4,if_neg (by decide)];rcases SL g hl d laws.n 0 w hw (by omega) (by omega)with⟨L,g1,g2,g3⟩ | ⟨⟨L,g1⟩,g2⟩
 ·have g1:S5 N (CG N 0 laws) w 0=some L:=g1 N (by omega)
  have:J9 N laws w=some (OB w L,true):=by
   have e0:E3 N 0 laws w=some (OB w L):=by rw[a,g1];exact OC _ _
   unfold J9;rw[e0]
  rw[this];exact .inl ⟨_,g2,rfl,g3⟩
 ·obtain⟨g3,g4⟩:=g1 N (by omega);have g3:S5 N (CG N 0 laws) w 0=none:=g3;have g4:S5 N (CG N 11 laws) w 0=some L:=g4
  have:J9 N laws w=some ((Sl.nil:Sl Sound),false):=by
   have e0:E3 N 0 laws w=none:=by rw[a,g3];rfl
   have e11:E3 N 11 laws w=some (OB w L):=by rw[a,g4];exact OC _ _
   unfold J9;rw[e0,e11];rfl
  rw[this];exact .inr ⟨g2,rfl⟩
def An5 (h:A6)(L:List Nat):List Law:=L.flatMap fun x=>(OE h (h.On.g x)).toList
theorem ZU {h:A6}(b:Co h){l:Sl Int}(hl:∀i,i<l.n->0<=l.g i/\l.g i<h.Laws.n):Fk (OE h l):=fun i a=>b.laws _ (by have:=hl i a;omega)
theorem ZV {N:Nat}{h:A6}(a:Cp N h){l:Sl Int}(hn:l.n<=64)(hl:∀i,i<l.n->0<=l.g i/\l.g i<h.Laws.n):Hz N (OE h l):=⟨hn,fun i b=>a.laws.2 _ (by have:=hl i b;omega)⟩
theorem An6 {N:Nat}{h:A6}(a:Cp N h){x:Nat}(hx:x<h.Tree.n):(h.On.g x).n<=64/\∀i,i<(h.On.g x).n->0<=(h.On.g x).g i/\(h.On.g x).g i<h.Laws.n:=by
 have c:=a.on;refine⟨?_,fun j b=>?_⟩
 ·have hl:(AK h x).n<=64:=AN2 fun g=>a.long ⟨x,by omega,g⟩;rcases Bi a.tree hx with⟨_,e⟩ | ⟨p,hp,e⟩
  ·rw[Fy (by omega)]at hl;have hl:0+(h.On.g x).n<=64:=hl;omega
  ·rw[Fz e hp]at hl;have hl:(AK h p).n+(h.On.g x).n<=64:=hl;omega
 ·have:=a.bad x (by omega)
  constructor
  ·exact Int.not_lt.1 fun g=>this ⟨j,b,.inl g⟩
  ·exact Int.not_le.1 fun g=>this ⟨j,b,.inr g⟩
end Go.AM
namespace Go.AM
open IntKind (wrap)
open Go.Proofs
theorem eqR {R:Type}{x:Option R}{y:R}(h:∃r,x=some r/\r=y):x=some y:=by obtain⟨r,h,rfl⟩:=h;exact h
def OF (t:Sl F0)(v:Nat):Prop:=∀u,0<u->u<t.n->(t.g u).Parent≠(v:Int)
open Classical in
noncomputable def N7 (t:Sl F0):Nat->Sl Int
 |0=>(Sl.nil:Sl Int)
 |i+1=>if OF t i then (N7 t i).push (i:Int)else N7 t i
theorem Lg {t:Sl F0}{i:Nat}(h:OF t i):N7 t (i+1)=(N7 t i).push (i:Int):=if_pos h
theorem OG {t:Sl F0}{i:Nat}(h:¬OF t i):N7 t (i+1)=N7 t i:=if_neg h
theorem SN (t:Sl F0):∀i,(N7 t i).n<=i
 |0=>Ay6 0
 |i+1=>by
  have:=SN t i
  by_cases h:OF t i
  ·rw[Lg h];show (N7 t i).n+1<=i+1;omega
  ·rw[OG h];omega
theorem SO (t:Sl F0):∀i k,k<(N7 t i).n->∃v:Nat,v<i/\(N7 t i).g k=(v:Int)
 |0,k,hk=>absurd hk (AC1 k)
 |i+1,k,hk=>by
  by_cases h:OF t i
  ·rw[Lg h]at hk⊢;have hk:k<(N7 t i).n+1:=hk;show ∃v:Nat,v<i+1/\(if k<(N7 t i).n then (N7 t i).g k else (i:Int))=(v:Int);by_cases a:k<(N7 t i).n
   ·rw[if_pos a];obtain⟨v,h1,b⟩:=SO t i k a;exact⟨v,by omega,b⟩
   ·rw[if_neg a];exact⟨i,by omega,rfl⟩
  ·rw[OG h]at hk⊢;obtain⟨v,h1,b⟩:=SO t i k hk;exact⟨v,by omega,b⟩
theorem ZW {N:Nat}(s:3000000<=N){t:Sl F0}(ht:Cn t):∃X,U7 N t=some X/\(X.n=t.n/\∀v,v<t.n->((X.g v).n=0↔OF t v)):=by
 have o:=ht.2.1;unfold U7;refine ifT (by omega) (N8 (fun i x (X:Sl (Sl Int))=>x=(i:Int)/\X.n=t.n/\∀v,v<t.n->(((X.g v).n=0 ↔ ∀u,0<u->u<i->(t.g u).Parent≠(v:Int))/\(X.g v).n<=i)) t.n _ (by omega)
  ⟨rfl,rfl,fun v b=>⟨⟨fun _ u h1 a=>absurd a (AC1 u),fun _=>rfl⟩,Ay6 0⟩⟩ ?_)
 rintro l i x X hle ⟨rfl,c,f⟩ hs;by_cases hl:i<t.n
 case neg=>
  obtain rfl:i=t.n:=by omega
  exact ifF (by simp) ⟨X,rfl,c,fun v b=>(f v b).1⟩
 refine ifT (by simpa using hl) (ifT (by omega) ?_);rw[Ay0,C0 (by omega)];rcases Bi ht hl with⟨q,h1⟩ | ⟨p,hp,e⟩
 ·subst q;rw[h1];refine ifT (by show Int.toNat (-1)<X.n;rw[c];exact hl) (ltX (ifF (by simp) (hs hl _ _ ⟨rfl,c,fun v b=>?_⟩)));have e:(X.upd (Int.toNat (-1)) (X.g (Int.toNat (-1)))).g v=X.g v:=by
   show (if v=_ then X.g (Int.toNat (-1))else X.g v)=X.g v;split
   ·rename_i e;rw[e]
   ·rfl
  rw[e];obtain⟨g1,g2⟩:=f v b;exact⟨g1.trans ⟨fun _ u h1 a=>absurd a (by omega),fun _ u h1 a=>absurd a (by omega)⟩,by omega⟩
 ·rw[e,Ay0];have j:p<t.n:=by omega
  have m:=(f p j).2;refine ifT (by omega) (ltX (ifT (by simp;omega) (ifT ⟨⟨by omega,by rw[c];omega⟩,by omega,by omega⟩ (hs hl _ _ ⟨rfl,c,fun v b=>?_⟩))));show ((if v=p then (X.g p).push (i:Int)else X.g v).n=0↔_)/\(if v=p then (X.g p).push (i:Int)else X.g v).n<=i+1;by_cases d:v=p
  ·subst d;rw[if_pos rfl];refine⟨⟨fun h=>absurd h (Nat.succ_ne_zero _),fun h=>absurd e (h i (by omega) (by omega))⟩,?_⟩;show (X.g v).n+1<=i+1;omega
  ·rw[if_neg d];obtain⟨g1,g2⟩:=f v b;refine⟨g1.trans ⟨fun h u h1 a=>?_,fun h u h1 a=>h u h1 (by omega)⟩,by omega⟩;by_cases r:u=i
   ·subst r;rw[e];omega
   ·exact h u h1 (by omega)
theorem Aw2 {R:Type}{Q:R->Prop}{a:Sl Int->Int->Option R}{t:Sl F0}{i:Nat}(c:i<1000){b:Bool}(hb:b=true↔OF t i)(h:∃r,a (N7 t (i+1)) ((i+1:Nat):Int)=some r/\Q r) :∃r,(if b then
  if (((N7 t i).n+(Sl.of [(i:Int)]:Sl Int).n)*8<=140737488355328/\(N7 t i).n+(Sl.of [(i:Int)]:Sl Int).n<=140737488355328)then
   a ((N7 t i).push (i:Int)) (wrap .i64 ((i:Int)+1))
  else none
  else a (N7 t i) (wrap .i64 ((i:Int)+1)))=some r/\Q r:=by
 have hn:=SN t i;rw[C0 (by omega)];by_cases hk:OF t i
 ·rw[Lg hk]at h;exact ifT (hb.2 hk) (ifT ⟨by show ((N7 t i).n+1)*8<=_;omega,by show (N7 t i).n+1<=_;omega⟩ h)
 ·rw[OG hk]at h;exact ifF (fun g=>hk (hb.1 g)) h
theorem SP {N:Nat}(c:3000000<=N){t:Sl F0}(ht:Cn t):∃r,Ay N t=some r/\r=N7 t t.n:=by
 have d:=ht.2.1;unfold Ay;obtain⟨X,e,a,hk⟩:=ZW c ht;refine B1 e (N8 (fun i x1 x2=>x2=(i:Int)/\x1=N7 t i) t.n _ (by omega) ⟨rfl,rfl⟩ ?_);rintro b i x1 x2 hle ⟨rfl,rfl⟩ hs;by_cases hl:i<t.n
 ·refine ifT (by rw[a];simpa using hl) (ifT (by omega) ?_);rw[Ay0];exact Aw2 (by omega) (by rw[<- hk i hl];simp) (hs hl _ _ ⟨rfl,rfl⟩)
 ·obtain rfl:i=t.n:=by omega
  exact ifF (by rw[a];simp) ⟨_,rfl,rfl⟩
theorem ZX {N:Nat}(l:3000000<=N){t:Sl F0}(ht:Cn t){v:Nat}(m:v<t.n):∃r,CT N t (v:Int)=some r/\(r.n=0↔OF t v):=by
 have f:=ht.2.1;unfold CT;refine N8 (fun i (x1:Sl Int) x2=>x2=(i:Int)/\x1.n<=i/\(x1.n=0 ↔ ∀u,0<u->u<i->(t.g u).Parent≠(v:Int))) t.n _ (by omega) ⟨rfl,Ay6 0,fun _ u h1 a=>absurd a (AC1 u),fun _=>rfl⟩ ?_;rintro b i x1 x2 hle ⟨rfl,hn,c⟩ hs;by_cases hl:i<t.n
 ·refine ifT (by simpa using hl) (ifT (by omega) ?_);rw[Ay0,C0 (by omega)];by_cases hp:(t.g i).Parent=(v:Int)
  ·have d:0<i:=by
    rcases Bi ht hl with⟨d,h1⟩ | ⟨p,hp,e⟩
    ·rw[h1]at hp;omega
    ·omega
   refine ifT (by simpa using hp) (ifT ⟨by show (x1.n+1)*8<=_;omega,by show x1.n+1<=_;omega⟩ (hs hl _ _ ⟨rfl,by show x1.n+1<=i+1;omega,fun h=>absurd h (Nat.succ_ne_zero _),fun h=>absurd hp (h i d (by omega))⟩))
  ·refine ifF (by simpa using hp) (hs hl _ _ ⟨rfl,by omega,c.trans ⟨fun h u h1 a=>?_,fun h u h1 a=>h u h1 (by omega)⟩⟩);by_cases j:u=i
   ·subst j;exact hp
   ·exact h u h1 (by omega)
 ·obtain rfl:i=t.n:=by omega
  exact ifF (by simp) ⟨_,rfl,c⟩
theorem MY {N:Nat}(a:3000000<=N){t:Sl F0}(c:Lf t):∃s e,F8 N t=some (s,e)/\IP N t=some (s,e)/\((Cn t/\e=0/\s=N7 t t.n) \/ (¬Cn t/\e=16/\s=(Sl.nil:Sl Int))):=by
 obtain⟨e,e1,e2,d⟩:=Ue a c;unfold F8 IP;rw[e1,e2,Ay4,Ay4];rcases d with⟨rfl,ht⟩ | ⟨rfl,ht⟩
 ·have f:=ht.2.1;rw[if_neg (by decide),if_neg (by decide)];obtain⟨r,g1,rfl⟩:=SP a ht;refine⟨_,0,by rw[g1];rfl,eqR (N8 (fun i x1 x2=>x2=(i:Int)/\x1=N7 t i) t.n _ (by omega) ⟨rfl,rfl⟩ ?_),.inl ⟨ht,rfl,rfl⟩⟩;rintro b i x1 x2 hle ⟨rfl,rfl⟩ hs;by_cases hl:i<t.n
  ·refine ifT (by simpa using hl) ?_;obtain⟨r,k1,k2⟩:=ZX a ht hl;exact B1 k1 (Aw2 (by omega) (by rw[<- k2];simp) (hs hl _ _ ⟨rfl,rfl⟩))
  ·obtain rfl:i=t.n:=by omega
   exact ifF (by simp) ⟨_,rfl,rfl⟩
 ·exact⟨_,16,if_pos (by decide),if_pos (by decide),.inr ⟨ht,rfl,rfl⟩⟩
end Go.AM
namespace Go.AM
open IntKind (wrap)
open Go.Proofs
def outR (o:Option (Sl Sound))(y:Sl Sound)(e:Int):Prop:=(∃x,o=some x/\e=0/\SE y x/\wOk y) \/ (o=none/\e=11/\y.n=0)
theorem XM {N:Nat}(q:3000000<=N){h:A6}(c:Co h)(b:Cp N h){x:Nat}(r:x<h.Tree.n){z z' : Sl Sound}(t:wOk z)(d:SE z z') :∃s y,P2 N h (h.On.g x)=some s/\J2 N s z=some y/\outR (Cr N (OE h (h.On.g x)).toList z') y.1 y.2:=by
 have a0:=b.on;obtain⟨o1,o2⟩:=An6 b r;obtain⟨s,s1,s2,s3⟩:=ZS q c b (l:=h.On.g x) (by omega) o2;have a:LS (OE h (h.On.g x)) s:=⟨s2.symm,fun i c=>s3 i c⟩;have f:=ZU c o2;have j:=ZV b o1 o2;have m:=ZO a f;have o : Hz N s:=⟨by omega,fun i c=>(Hy (a.2 i (by rw[a.1];exact c))).1 (j.2 i (by rw[a.1];exact c))⟩;have w:=Ae1 q _ _ z' z (An4 f j) a.s (d.wOk t) d.symm;rcases SM q m o t with⟨v,d1,d2,d3⟩ | ⟨d1,d2⟩
 ·rcases w with⟨_,f2⟩ | ⟨u,u',f1,f2,f3,f4⟩
  ·rw[d1]at f2;cases f2
  ·rw[d1]at f2;obtain rfl:=AA8 f2;exact⟨s,_,s1,d2,.inl ⟨u,f1,rfl,f3.symm,d3⟩⟩
 ·rcases w with⟨f1,_⟩ | ⟨u,u',_,f2,_⟩
  ·exact⟨s,_,s1,d2,.inr ⟨f1,rfl,rfl⟩⟩
  ·rw[d1]at f2;cases f2
def DV (N:Nat)(h:A6)(w:Sl Sound)(v:Nat):Option (Sl Sound):=Cr N (An5 h (An2 h.Tree v)) w
theorem SQ {N:Nat}{h:A6}{w:Sl Sound}{v:Nat}(a:(h.Tree.g v).Parent<0):DV N h w v=Cr N (OE h (h.On.g v)).toList w:=by unfold DV An5;rw[XL a];simp
theorem ZY {N:Nat}{h:A6}{w:Sl Sound}{v p:Nat}(a:(h.Tree.g v).Parent=(p:Int))(hp:p<v):DV N h w v=(DV N h w p).bind (Cr N (OE h (h.On.g v)).toList):=by unfold DV;rw[An3 a hp,<- QO];congr 1;unfold An5;simp
theorem Uf {N:Nat}(m:3000000<=N){h:A6}(q:Co h)(a:Cp N h){w w' : Sl Sound}(hw:wOk w)(d:SE w w') :∃X,F9 N h w=some X/\(X.n=h.Tree.n/\∀v,v<h.Tree.n->outR (DV N h w' v) (X.g v).w (X.g v).e):=by
 have t:=a.tree.2.1;have u:=a.on;unfold F9;refine ifT (by omega) ?_;refine N8 (fun i (x1:Sl Q0) x2=>x2=(i:Int)/\x1.n=h.Tree.n/\∀v,v<i->outR (DV N h w' v) (x1.g v).w (x1.g v).e) h.Tree.n _ (by omega) ⟨rfl,by show (h.Tree.n:Int).toNat=_;omega,fun j b=>absurd b (by omega)⟩ ?_;rintro c i x1 x2 hle ⟨rfl,hx,b⟩ hs;by_cases hl:i<h.Tree.n
 case neg=>exact ifF (by simp;omega) ⟨_,rfl,hx,fun v z=>b v (by omega)⟩
 refine ifT (by simp;omega) (ifT (by omega) ?_);have put:∀o:Q0,outR (DV N h w' i) o.w o.e->∃r,c (x1.upd i o) (wrap .i64 ((i:Int)+1))=some r/\(r.n=h.Tree.n/\∀v,v<h.Tree.n->outR (DV N h w' v) (r.g v).w (r.g v).e):=fun o ho=>
  hs hl _ _ ⟨C0 (by omega),hx,fun v z=>by
   show outR _ (if v=i then o else x1.g v).w (if v=i then o else x1.g v).e;by_cases e:v=i
   ·rw[if_pos e,e];exact ho
   ·rw[if_neg e];exact b v (by omega)⟩
 rw[Ay0];rcases Bi a.tree hl with⟨e0,e⟩ | ⟨p,hp,e⟩
 ·have f:decide (0<=(h.Tree.g i).Parent)=false:=by rw[e];rfl
  rw[f];refine ifT (fun h=>by cases h) (ifT (by simp) (ifT (by omega) ?_));obtain⟨s,y,y1,y2,y3⟩:=XM m q a hl hw d;refine B1 y1 (B1 y2 (ifT (by omega) (put ⟨y.1,y.2⟩ ?_)));rw[SQ (by omega)];exact y3
 ·have f:decide (0<=(h.Tree.g i).Parent)=true:=by rw[e];simp
  rw[f];simp only[if_true];have l:(h.Tree.g i).Parent.toNat=p:=by omega
  rw[l];refine ifT (fun _=>by omega) ?_;rcases b p hp with⟨x,g1,g2,g3,g4⟩ | ⟨g1,g2,g3⟩
  ·refine ifT (by rw[g2];rfl) (ifT (by omega) ?_);obtain⟨s,y,y1,y2,y3⟩:=XM m q a hl g4 g3;refine B1 y1 (B1 y2 (ifT (by omega) (put ⟨y.1,y.2⟩ ?_)));rw[ZY e hp,g1];exact y3
  ·refine ifF (by rw[g2];decide) (ifT (by omega) (put ⟨(x1.g p).w,(x1.g p).e⟩ ?_));rw[ZY e hp,g1];exact .inr ⟨rfl,g2,g3⟩
end Go.AM
namespace Go.AM
open Go.Proofs
end Go.AM
namespace Go.AM
open Go.Proofs
theorem XN {N:Nat}(t:3000000<=N)(h:A6):∃b,Cg N h=some b/\True:=by
 unfold Cg;by_cases hb:(((decide (70<(h.Tree.n:Int)))||(decide (70<(h.Laws.n:Int))))||(decide (70<(h.On.n:Int))))=true
 ·exact ifT hb ⟨_,rfl,trivial⟩
 refine ifF hb ?_;have o : h.Laws.n<=70/\h.On.n<=70:=by simp at hb;omega
 refine BA (fun i x=>x=(i:Int)) h.On.n _ (by omega) rfl ?_;rintro l i x q rfl hs;by_cases d:i<h.On.n
 ·refine ifT (by simp;omega) (ifT (by omega) ?_);by_cases m:(decide (70<((h.On.g (i:Int).toNat).n:Int)))=true
  ·exact ifT m ⟨_,rfl,trivial⟩
  ·exact ifF m (hs d _ (C0 (by omega)))
 ·refine ifF (by simp;omega) ?_;refine BA (fun i x=>x=(i:Int)) h.Laws.n _ (by omega) rfl ?_;rintro f i x q rfl j;by_cases d:i<h.Laws.n
  ·rw[C0 (by omega)];refine ifT (by simp;omega) (ifT (by omega) ?_);obtain⟨r,s⟩:=ZP (N:=N) (by omega) (h.Laws.sub (i:Int).toNat ((i+1:Nat):Int).toNat);refine B1 s ?_;have last:∀z3:Bool,∃r,(if z3 then some false else f ((i+1:Nat):Int))=some r/\True:=fun z=>by
    cases z
    ·exact ifF (by simp) (j d _ rfl)
    ·exact ifT rfl ⟨_,rfl,trivial⟩
   refine ltX ?_;by_cases g1:(decide (4<r))=true
   ·exact ifT g1 (last _)
   refine ifF g1 ?_;by_cases g2:(decide (20<((h.Laws.g (i:Int).toNat).If.n:Int)))=true
   ·exact ifT g2 (last _)
   refine ifF g2 ?_;by_cases g3:(decide (20<((h.Laws.g (i:Int).toNat).Out.n:Int)))=true
   ·exact ifT g3 (last _)
   refine ifF g3 ?_;obtain⟨a,ha,_⟩:=OD (N:=N) (by omega) (h.Laws.g (i:Int).toNat).Left;refine B1 ha ?_;by_cases g4:(decide (41<(a:Int)))=true
   ·exact ifT g4 (last _)
   refine ifF g4 ?_;obtain⟨c,hc,_⟩:=OD (N:=N) (by omega) (h.Laws.g (i:Int).toNat).Right;exact B1 hc (last _)
  ·exact ifF (by simp;omega) ⟨_,rfl,trivial⟩
end Go.AM
namespace Go.AM
open IntKind (wrap)
open Go.Proofs
def agree (o o' : Option (Sl Sound)):Prop:=(o=none/\o' = none) \/ ∃x x',o=some x/\o' = some x' /\ SE x x'
theorem OH {o o' : Option (Sl Sound)}{y y' : Sl Sound}{e e' : Int}(h:outR o y e)(h' : outR o' y' e'):(e=e' /\ SE y y')↔agree o o':=by
 rcases h with⟨x,h1,j,g,m⟩ | ⟨h1,j,g⟩<;>rcases h' with⟨x',d,f,c,l⟩ | ⟨d,f,c⟩<;>subst h1<;>subst d<;>subst j<;>subst f
 ·refine⟨fun h=>.inr ⟨x,x',rfl,rfl,g.symm.trans (h.2.trans c)⟩,?_⟩;rintro (⟨h,_⟩ | ⟨a,b,ha,hb,hs⟩)
  ·cases h
  ·cases ha;cases hb;exact⟨rfl,g.trans (hs.trans c.symm)⟩
 ·refine⟨fun h=>absurd h.1 (by decide),?_⟩;rintro (⟨h,_⟩ | ⟨a,b,ha,hb,hs⟩)
  ·cases h
  ·cases hb
 ·refine⟨fun h=>absurd h.1 (by decide),?_⟩;rintro (⟨_,h⟩ | ⟨a,b,ha,hb,hs⟩)
  ·cases h
  ·cases ha
 ·exact⟨fun _=>.inl ⟨rfl,rfl⟩,fun _=>⟨rfl,by rw[g,c],fun i n=>by omega⟩⟩
theorem outR.le {o:Option (Sl Sound)}{y:Sl Sound}{e:Int}(h:outR o y e):y.n<=32:=by
 rcases h with⟨_,_,_,_,h⟩ | ⟨_,_,h⟩
 ·exact h.1
 ·omega
theorem An7 {N:Nat}(d:3000000<=N){R:Type}{Q:R->Prop}{eq:Nat->Sl Sound->Sl Sound->Option Bool}(c:∀x y:Sl Sound,x.n<=32->∃b,eq N x y=some b/\(b=true↔SE x y))
 {o o' : Option (Sl Sound)}{y y' : Sl Sound}{e e' : Int}(h:outR o y e) (h' : outR o' y' e') {k:Bool->Option R}(hy:agree o o' -> ∃r,k false=some r/\Q r) (hn:¬agree o o' -> ∃r,k true=some r/\Q r) :
 ∃r,(if (e != e') then k true else (eq N y y').bind fun z=>k (!z))=some r/\Q r:=by
 by_cases a:e=e'
 ·refine ifF (by simp[a]) ?_;obtain⟨b,b1,b2⟩:=c y y' h.le;refine B1 b1 ?_;cases b
  ·exact hn fun g=>by have:=b2.2 ((OH h h').2 g).2;cases this
  ·exact hy ((OH h h').1 ⟨a,b2.1 rfl⟩)
 ·exact ifT (by simp[a]) (hn fun g=>a ((OH h h').2 g).1)
def Ug (N:Nat)(g h:A6)(l:Sl (Sl Sound))(i k:Nat):Prop:=¬agree (DV N g (l.g i) ((N7 g.Tree g.Tree.n).g k).toNat) (DV N h (l.g i) ((N7 h.Tree h.Tree.n).g k).toNat)
def OI (N:Nat)(g h:A6)(l:Sl (Sl Sound))(r:Bool×Int):Prop:=
 (∃i,i<l.n/\(∀j,j<i->wOk (l.g j))/\TX (l.g i) r.2/\r.2≠0/\r.1=false) \/
 ((∀j,j<l.n->wOk (l.g j)) /\
  (((N7 g.Tree g.Tree.n).n≠(N7 h.Tree h.Tree.n).n/\r=(false,2)) \/
   ((N7 g.Tree g.Tree.n).n=(N7 h.Tree h.Tree.n).n/\(((∃i k,i<l.n/\k<(N7 g.Tree g.Tree.n).n/\Ug N g h l i k)/\r=(false,0)) \/
    ((∀i k,i<l.n->k<(N7 g.Tree g.Tree.n).n->¬Ug N g h l i k)/\r=(true,0))))))
theorem MZ {N:Nat}{g h:A6}{l:Sl (Sl Sound)}{r r' : Bool×Int}(a:OI N g h l r)(b:OI N g h l r'):r=r':=by
 rcases a with⟨i,a1,a2,a3,a4,a5⟩ | ⟨a0,a⟩<;>rcases b with⟨i',b1,b2,b3,b4,b5⟩ | ⟨b0,b⟩
 ·have:i=i':=by
   rcases Nat.lt_trichotomy i i' with h|h|h
   ·exact absurd ((U9 a3).2 (b2 i h)) a4
   ·exact h
   ·exact absurd ((U9 b3).2 (a2 i' h)) b4
  subst this
  have:=Qy a3 b3
  cases r;cases r';simp_all
 ·exact absurd ((U9 a3).2 (b0 i a1)) a4
 ·exact absurd ((U9 b3).2 (a0 i' b1)) b4
 ·rcases a with⟨a1,rfl⟩ | ⟨a1,a⟩<;>rcases b with⟨b1,rfl⟩ | ⟨b1,b⟩
  ·rfl
  ·exact absurd b1 a1
  ·exact absurd a1 b1
  ·rcases a with⟨⟨i,k,h1,j,m⟩,rfl⟩ | ⟨a,rfl⟩<;>rcases b with⟨⟨i',k',c,d,f⟩,rfl⟩ | ⟨b,rfl⟩
   ·rfl
   ·exact absurd m (b i k h1 j)
   ·exact absurd f (a i' k' c d)
   ·rfl
theorem SR (t:Sl F0){k:Nat}(hk:k<(N7 t t.n).n):∃u:Nat,u<t.n/\(N7 t t.n).g k=(u:Int):=SO t t.n k hk
theorem wEq32 {N:Nat}(a:3000000<=N)(x y:Sl Sound)(hx:x.n<=32):∃b,M0 N x y=some b/\(b=true↔SE x y):=An1 (by omega) (by omega)
theorem Fl {N:Nat}(o:3000000<=N){g h:A6}(hg:Co g)(hh:Co h)(a:Cp N g)(b:Cp N h){l:Sl (Sl Sound)}(hl:∀i,i<l.n->okA (l.g i))(hn:l.n<=256) :∃r,H6 N g h l=some r/\OI N g h l r:=by
 have g63:=a.tree.2.1;have h63:=b.tree.2.1;unfold H6;rw[MX o hg,MX o hh,hres_zero.2 a,hres_zero.2 b];refine B1 rfl (ifF (by decide) (B1 rfl (ifF (by decide) (ifF (by simp;omega) ?_))));refine BA (fun i x=>x=(i:Int)/\∀j,j<i->wOk (l.g j)) l.n _ (by omega) ⟨rfl,fun j t=>absurd t (by omega)⟩ ?_;rintro self i x hi ⟨rfl,t⟩ hs;by_cases w:i<l.n
 ·refine ifT (by simp;omega) (ifT (by omega) ?_);rw[Ay0];obtain⟨e,e1,e2⟩:=KY (N:=N) (by omega) (hl i w);refine B1 e1 ?_;by_cases h0:e=0
  ·refine ifF (by simp[h0]) (hs w _ ⟨C0 (by omega),fun j y=>?_⟩);by_cases e3:j=i
   ·subst e3;exact (U9 e2).1 h0
   ·exact t j (by omega)
  ·exact ifT (by simpa using h0) ⟨_,rfl,.inl ⟨i,w,t,e2,h0,rfl⟩⟩
 have hw:∀j,j<l.n->wOk (l.g j):=fun j y=>t j (by omega);refine ifF (by simp;omega) ?_;obtain⟨s,e,l1,_,l3⟩:=MY o hg.tree;rcases l3 with⟨_,rfl,rfl⟩ | ⟨l3,_⟩
 case inr=>exact absurd a.tree l3
 obtain⟨s',e',l1',_,l3'⟩:=MY o hh.tree;rcases l3' with⟨_,rfl,rfl⟩ | ⟨l3',_⟩
 case inr=>exact absurd b.tree l3'
 have hsn:=SN g.Tree g.Tree.n;refine B1 l1 (B1 l1' ?_);by_cases m:(N7 g.Tree g.Tree.n).n=(N7 h.Tree h.Tree.n).n
 case neg=>exact ifT (by simp;omega) ⟨_,rfl,.inr ⟨hw,.inl ⟨m,rfl⟩⟩⟩
 refine ifF (by simp[m]) ?_;refine BA (fun i x=>x=(i:Int)/\∀j k,j<i->k<(N7 g.Tree g.Tree.n).n->¬Ug N g h l j k) l.n _ (by omega) ⟨rfl,fun j k t=>absurd t (by omega)⟩ ?_;rintro self2 i2 x hi2 ⟨rfl,a0⟩ hs2;by_cases c:i2<l.n
 case neg=>exact ifF (by simp;omega) ⟨_,rfl,.inr ⟨hw,.inr ⟨m,.inr ⟨fun j k y hk=>a0 j k (by omega) hk,rfl⟩⟩⟩⟩
 refine ifT (by simp;omega) (ifT (by omega) ?_);rw[Ay0];obtain⟨X,x1,x2,x3⟩:=Uf o hg a (hw i2 c) (SE.refl _);obtain⟨Y,y1,y2,y3⟩:=Uf o hh b (hw i2 c) (SE.refl _);refine B1 x1 (B1 y1 ?_);refine BA (fun k x=>x=(k:Int)/\∀q,q<k->¬Ug N g h l i2 q) (N7 g.Tree g.Tree.n).n _ (by omega) ⟨rfl,fun q hq=>absurd hq (by omega)⟩ ?_;rintro z k x hk3 ⟨rfl,a1⟩ hs3;by_cases d:k<(N7 g.Tree g.Tree.n).n
 ·obtain⟨u,u1,u2⟩:=SR g.Tree d;obtain⟨v,v1,v2⟩:=SR h.Tree (k:=k) (by omega);refine ifT (by simp;omega) ?_;rw[Ay0,u2,v2,Ay0,Ay0];refine ifT (by dsimp only;omega) (ltX (An7 o (k:=fun z9=>if z9 then some (false,0)else z (wrap .i64 ((k:Int)+1))) (eq:=M0) (wEq32 o) (x3 u u1) (y3 v v1) (fun ha=>?_) fun ha=>?_))
  ·refine ifF (by simp) (hs3 d _ ⟨C0 (by omega),fun q hq=>?_⟩);by_cases e3:q=k
   ·subst e3;unfold Ug;rw[u2,v2,Ay0,Ay0];exact fun f=>f ha
   ·exact a1 q (by omega)
  ·exact ifT rfl ⟨_,rfl,.inr ⟨hw,.inr ⟨m,.inl ⟨⟨i2,k,c,d,by unfold Ug;rw[u2,v2,Ay0,Ay0];exact ha⟩,rfl⟩⟩⟩⟩
 ·refine ifF (by simp;omega) (hs2 c _ ⟨C0 (by omega),fun j q y hq=>?_⟩);by_cases e3:j=i2
  ·subst e3;exact a1 q (by omega)
  ·exact a0 j q (by omega) hq
end Go.AM
namespace Go.AM
open Go.Proofs
end Go.AM
namespace Go.AM
open Go.Proofs
end Go.AM
namespace Go.AM
open Go.Proofs
end Go.AM
namespace Go.AM
open Go.Proofs
end Go.AM
namespace Go.AM
open Go.Proofs
end Go.AM
namespace Go.AM
open IntKind (wrap)
open Go.Proofs
structure Lh (x:Ez):Prop where
 par:∀i,i<x.Parents.n->∃k:Nat,x.Parents.g i=(k:Int)/\k<256
 laws:Fk x.Laws
 on:∀i,i<x.On.n->∃k:Nat,x.On.g i=(k:Int)/\k<65536
theorem Uh {n:Nat}(h:n<256):IntKind.u8.wrap (n:Int)=n:=by have h1:((n:Int) % (2 ^ 8:Int))=n:=AH0 (by omega) (by omega);unfold wrap;simp only[IntKind.bits,IntKind.signed,h1,AG6,Ay7,if_false]
def XO (a j:Nat):Str:=[UInt8.ofNat (a+j)]
theorem XP {a j:Nat}(h:a+j<256):[UInt8.ofNat (wrap .u8 ((a:Int)+(wrap .u8 (j:Int)))).toNat]=XO a j:=by rw[Uh (by omega),<- Int.natCast_add,Uh h,Ay0];rfl
theorem Ui {a i j:Nat}(b:a+i<256)(c:a+j<256)(h:XO a i=XO a j):i=j:=by
 have:=congrArg UInt8.toNat (AQ1 h).1
 rw[AL8,AL8]at this;omega
theorem XQ:∀j:Fin 10,Jh (XO 97 j.val)=true:=by decide +kernel
def ZZ (x:Ez):Nat->F0
 |0=>⟨-1,[114]⟩
 |j+1=>⟨(((x.Parents.g j).toNat % (j+1):Nat):Int),XO 97 (j+1)⟩
def An8 (x:Ez)(j:Nat):Law:=⟨XO 65 j,(x.Laws.g j).Left,(x.Laws.g j).Right,(x.Laws.g j).If,(x.Laws.g j).Out,(x.Laws.g j).Mode⟩
theorem XR {x:Ez}(hx:Lh x){j:Nat}(d:j<x.Laws.n):Hx (An8 x j):=by obtain⟨⟨a,b,c⟩,l,f,g,i⟩:=hx.laws j d;exact⟨⟨a,b,c⟩,by show 1<_;omega,f,g,i⟩
theorem Aa0 {x:Ez}{t:Sl F0}(hn:t.n<=10)(ht:∀j,j<t.n->t.g j=ZZ x j){v:Nat}(c:v<t.n):ZR t v:=by
 have a:∀j,j<t.n->0<j->(ZZ x j).Name=XO 97 j:=fun j _ d=>by obtain⟨k,rfl⟩:∃k,j=k+1:=⟨j-1,by omega⟩;rfl
 have b:∀j,j<10->([114]:Str)≠XO 97 j:=fun j f h=>by
  have:=congrArg UInt8.toNat (AQ1 h).1
  rw[AL8]at this;have e:(114:UInt8).toNat=114:=rfl;omega
 refine⟨fun h=>by rw[ht 0 (by omega)];rfl,fun d=>?_,?_,fun u i=>?_⟩
 ·obtain⟨k,rfl⟩:∃k,v=k+1:=⟨v-1,by omega⟩;rw[ht _ c];show 0<=(((x.Parents.g k).toNat % (k+1):Nat):Int)/\(((x.Parents.g k).toNat % (k+1):Nat):Int)<((k+1:Nat):Int)
  have:=AQ2 (x.Parents.g k).toNat (show 0<k+1 by omega)
  omega
 ·rw[ht _ c];by_cases d:v=0
  ·subst d;show Jh [114]=true;decide +kernel
  ·rw[a v c (by omega)];exact XQ ⟨v,by omega⟩
 ·rw[ht _ c,ht u (by omega),a v c (by omega)];by_cases d:u=0
  ·subst d;exact b v (by omega)
  ·rw[a u (by omega) (by omega)];exact fun h=>by have:=Ui (by omega) (by omega) h;omega
theorem Na {h:A6}(ht:Cn h.Tree)(a:∀v,v<h.Tree.n->(h.On.g v).n<=5):∀(m v:Nat),v<=m->v<h.Tree.n->(AK h v).n<=(v+1)*5
 |m,v,hm,hv=>by
  have:=a v hv
  rcases Bi ht hv with⟨_,e⟩ | ⟨p,hp,e⟩
  ·rw[Fy (by omega)];show 0+(h.On.g v).n<=_;omega
  ·rw[Fz e hp];show (AK h p).n+(h.On.g v).n<=_
   match m with
   |0=>omega
   |m+1=>
    have:=Na ht a m p (by omega) (by omega)
    omega
structure An9 (N:Nat) (x:Ez) (h:A6):Prop where
 hist:Cp N h
 n:h.Tree.n<=10
 node:∀j,j<h.Tree.n->h.Tree.g j=ZZ x j
 laws:h.Laws.n<=6
 law:∀j,j<h.Laws.n->h.Laws.g j=An8 x j/\j<x.Laws.n
 five:∀v,v<h.Tree.n->(h.On.g v).n<=5
theorem Uj {N:Nat}(hN:3000000<=N){x:Ez}(hx:Lh x) :∃r:A6×Bool,O3 N x=some r/\Co r.1/\(r.2=true->An9 N x r.1):=by
 have t:Co (⟨(Sl.nil:Sl F0),(Sl.nil:Sl Law),(Sl.nil:Sl (Sl Int))⟩:A6):=
  ⟨fun i hi=>absurd hi (AC1 i),fun i hi=>absurd hi (AC1 i),by show 0<_;omega,fun i hi=>absurd hi (AC1 i)⟩
 unfold O3;refine N8 (fun i (x1:Sl F0) x2=>x2=((i+1:Nat):Int)/\x1.n=i+1/\∀j,j<i+1->x1.g j=ZZ x j) 9 _ (by omega) ⟨rfl,rfl,fun j s=>by obtain rfl:j=0:=(by omega);rfl⟩ ?_;rintro self i x1 x2 hi ⟨rfl,hn1,h1⟩ hs;by_cases hlt:i+1<=x.Parents.n/\i+1<10
 ·obtain⟨k,hk,hk2⟩:=hx.par i (by omega);have e1:wrap .i64 (((i+1:Nat):Int)-1)=(i:Int):=by rw[Ak8 (by omega) (by omega)];rfl
  refine ifT (by simp;omega) ?_;rw[e1,Ay0,hk,D3 (n:=(k:Int)) (by omega) (by omega)];refine ifT ⟨⟨by omega,by omega⟩,by omega⟩ (ifT (by show (x1.n+1)*24<=_/\x1.n+1<=_;omega) (hs (by omega) _ _ ⟨C0 (by omega),by show x1.n+1=_;omega,fun j s=>?_⟩));show (if j<x1.n then x1.g j else _)=_;by_cases e:j<x1.n
  ·rw[if_pos e];exact h1 j (by omega)
  ·obtain rfl:j=i+1:=by omega
   rw[if_neg e];have e2:[UInt8.ofNat (wrap .u8 (97+(wrap .u8 ((i+1:Nat):Int)))).toNat]=XO 97 (i+1):=XP (a:=97) (by omega);rw[e2];show (⟨_,_⟩:F0)=⟨(((x.Parents.g i).toNat % (i+1):Nat):Int),XO 97 (i+1)⟩;rw[hk,Ay0];rfl
 refine ifF (by simp;omega) ?_;clear hs;refine N8 (fun i (x4:Sl Law) x5=>x5=(i:Int)/\x4.n=i/\∀j,j<i->x4.g j=An8 x j/\j<x.Laws.n/\chkAll N (An8 x j)) 6 _ (by omega) ⟨rfl,rfl,fun j s=>absurd s (by omega)⟩ ?_;rintro self2 m x4 x5 hm ⟨rfl,hn4,h4⟩ hs2;by_cases hlt2:m<x.Laws.n/\m<6
 ·obtain⟨hml,hm6⟩:=hlt2;have e2:[UInt8.ofNat (wrap .u8 (65+(wrap .u8 (m:Int)))).toNat]=XO 65 m:=XP (a:=65) (by omega);have hin:=XR hx hml;refine ifT (by simp;omega) (ifT (by omega) ?_);rw[Ay0,e2];obtain⟨b,hb,_⟩:=XN hN (⟨(Sl.nil:Sl F0),(Sl.of [An8 x m]:Sl Law),(Sl.nil:Sl (Sl Int))⟩:A6);have hl:Ci N (An8 x m)=some b:=by unfold Ci;rw[hb];rfl
  refine B1 hl (ltX ?_);cases b
  ·exact ifT rfl (ifT rfl ⟨_,rfl,t,fun h=>by cases h⟩)
  ·refine ifF (by decide) ?_;obtain⟨e,he,hE⟩:=MU hN hin;refine B1 he ?_;rcases hE with⟨rfl,hc⟩ | ⟨rfl,_⟩
   ·refine ifF (by decide) (ifT (by show (x4.n+1)*200<=_/\x4.n+1<=_;omega) (hs2 hm6 _ _ ⟨C0 (by omega),by show x4.n+1=_;omega,fun j s=>?_⟩));show (if j<x4.n then x4.g j else An8 x m)=_/\_;by_cases e:j<x4.n
    ·rw[if_pos e];exact h4 j (by omega)
    ·obtain rfl:j=m:=by omega
     rw[if_neg e];exact⟨rfl,hml,hc⟩
   ·exact ifT (by decide) ⟨_,rfl,t,fun h=>by cases h⟩
 refine ifF (by simp;omega) ?_;clear hs2;have hL1:wrap .i64 ((x4.n:Int)+1)=((x4.n+1:Nat):Int):=C0 (by omega);rw[hL1];refine N8 (fun v (f:Sl (Sl Int)) x11=>x11=(v:Int)/\f.n=v/\∀u,u<v->(f.g u).n<=5/\∀j,j<(f.g u).n->0<=(f.g u).g j/\(f.g u).g j<x4.n) x1.n _ (by omega) ⟨rfl,rfl,fun j s=>absurd s (by omega)⟩ ?_;rintro self5 v f x11 w ⟨rfl,hn10,a1⟩ hs5;by_cases hvl:v<x1.n
 ·obtain⟨c,hc,hc2⟩:∃c:Nat,Bh N x.On (v:Int)=some (c:Int)/\c<65536:=by
   unfold Bh;by_cases h:v<x.On.n
   ·obtain⟨k,hk,hk2⟩:=hx.on v h;exact⟨k,by rw[if_pos (by simp;omega),if_pos (by omega),Ay0,hk,D3 (by omega) (by omega)],hk2⟩
   ·exact⟨0,by rw[if_neg (by simp;omega)];rfl,by omega⟩
  refine ifT (by simp;omega) (B1 hc ?_);refine N8 (fun q (l:Sl Int) x15=>l.n=q/\(∃d:Nat,x15=(d:Int)/\d<65536)/\∀j,j<l.n->0<=l.g j/\l.g j<x4.n) 5 _ (by omega) ⟨rfl,⟨c,rfl,hc2⟩,fun j s=>absurd s (AC1 j)⟩ ?_;rintro self6 q l x15 hq ⟨hn14,⟨d,rfl,hd⟩,h14⟩ hs6;refine ifT (by omega) ?_;have em:(d:Int).tmod ((x4.n+1:Nat):Int)=((d % (x4.n+1):Nat):Int):=rfl;have ed:(d:Int).tdiv ((x4.n+1:Nat):Int)=((d / (x4.n+1):Nat):Int):=rfl;rw[em,ed];have hlt3:=AQ2 d (show 0<x4.n+1 by omega);have hle3:=Nat.div_le_self d (x4.n+1);generalize d / (x4.n+1)=d1 at hle3;generalize d % (x4.n+1)=m1 at hlt3;by_cases g:m1≠0/\q<5
  ·rw[Ak8 (by omega) (by omega),D3 (n:=(d1:Int)) (by omega) (by omega)];refine ifT (by simp;omega) (ifT ⟨⟨by omega,by show (l.n+1)*8<=_;omega,by show l.n+1<=_;omega⟩,by omega⟩ (hs6 (by omega) _ _ ⟨by show l.n+1=_;omega,⟨_,rfl,by omega⟩,fun j s=>?_⟩));show 0<=(if j<l.n then l.g j else _)/\(if j<l.n then l.g j else _)<_;by_cases e:j<l.n
   ·rw[if_pos e];exact h14 j e
   ·rw[if_neg e];omega
  ·refine ifF (by simp;omega) (ifT (by show (f.n+1)*24<=_/\f.n+1<=_;omega) (hs5 hvl _ _ ⟨C0 (by omega),by show f.n+1=_;omega,fun u hu=>?_⟩));show (if u<f.n then f.g u else l).n<=5/\∀j,j<(if u<f.n then f.g u else l).n->0<=(if u<f.n then f.g u else l).g j/\(if u<f.n then f.g u else l).g j<_;by_cases e:u<f.n
   ·rw[if_pos e];exact a1 u (by omega)
   ·rw[if_neg e];exact⟨by omega,h14⟩
 obtain rfl:v=x1.n:=by omega
 refine ifF (by simp) ⟨_,rfl,?_,fun _=>?_⟩
 ·refine⟨fun i o=>?_,fun i o=>?_,by show f.n<_;omega,fun i o=>?_⟩
  ·have o:i<x4.n:=o;show Hx (x4.g i);obtain⟨e,hil,_⟩:=h4 i (by omega);rw[e];exact XR hx hil
  ·have o:i<x1.n:=o;show (x1.g i).Name.length<_;rw[h1 i (by omega)];cases i<;>(show 1<_;omega)
  ·have o:i<f.n:=o;show (f.g i).n<_
   have:=(a1 i (by omega)).1
   omega
 ·have y:Cn x1:=⟨by omega,by omega,fun v w=>Aa0 (by omega) (fun j s=>h1 j (by omega)) w⟩;have z:∀v,v<x1.n->(f.g v).n<=5:=fun v w=>(a1 v (by omega)).1;refine⟨⟨y,⟨by show x4.n<=64;omega,fun i o=>?_⟩,?_,by show f.n=x1.n;omega,?_,fun v w=>?_⟩,by show x1.n<=10;omega,fun j s=>h1 j (by have s:j<x1.n:=s;omega),by show x4.n<=6;omega,fun j s=>?_,fun v w=>z v w⟩
  ·have o:i<x4.n:=o;show chkAll N (x4.g i);obtain⟨e,_,hc⟩:=h4 i (by omega);rw[e];exact hc
  ·rintro⟨u,v,h1',h2',a2⟩;have h2' : v<x4.n:=h2';have a2 : (x4.g u).Name=(x4.g v).Name:=a2;rw[(h4 u (by omega)).1,(h4 v (by omega)).1]at a2
   have:=Ui (a:=65) (by omega) (by omega) a2
   omega
  ·rintro⟨v,w,a0⟩;have w:v<f.n:=w;have a0:64<(AK (⟨x1,x4,f⟩:A6) v).n:=a0
   have:=Na (h:=(⟨x1,x4,f⟩:A6)) y z v v (Ay6 _) (by show v<x1.n;omega)
   omega
  ·have w:v<f.n:=w;rintro⟨j,s,hb⟩;have s:j<(f.g v).n:=s;have hb:(f.g v).g j<0 \/ ((x4.n:Nat):Int)<=(f.g v).g j:=hb
   have:=(a1 v (by omega)).2 j s
   omega
  ·have s:j<x4.n:=s;exact⟨(h4 j (by omega)).1,(h4 j (by omega)).2.1⟩
end Go.AM
namespace Go.AM
open Go.Proofs
end Go.AM
namespace Go.AM
open Go.Proofs
end Go.AM
namespace Go.AM
open Go.Proofs
end Go.AM
namespace Go.AM
open IntKind (wrap)
open Go.Proofs
theorem agree.symm {o o' : Option (Sl Sound)}(h:agree o o'):agree o' o:=by
 rcases h with⟨h1,a⟩ | ⟨x,x',h1,a,b⟩
 ·exact .inl ⟨a,h1⟩
 ·exact .inr ⟨x',x,a,h1,b.symm⟩
theorem agree.refl (o:Option (Sl Sound)):agree o o:=by
 cases o with
 |none=>exact .inl ⟨rfl,rfl⟩
 |some x=>exact .inr ⟨x,x,rfl,rfl,SE.refl x⟩
theorem Nb {N:Nat}{g h:A6}{l:Sl (Sl Sound)}{r:Bool×Int}(a:OI N g h l r):OI N h g l r:=by
 rcases a with a|⟨a0,a⟩
 ·exact .inl a
 ·refine .inr ⟨a0,?_⟩;rcases a with⟨a1,a2⟩ | ⟨a1,a⟩
  ·exact .inl ⟨fun e=>a1 e.symm,a2⟩
  ·refine .inr ⟨a1.symm,?_⟩;rcases a with⟨⟨i,k,h1,d,b⟩,e⟩ | ⟨h1,e⟩
   ·exact .inl ⟨⟨i,k,h1,by omega,fun f=>b f.symm⟩,e⟩
   ·exact .inr ⟨fun i k c hk f=>h1 i k c (by omega) fun q=>f q.symm,e⟩
theorem VA {N:Nat}{g g' h:A6}(ht:g'.Tree=g.Tree)(c:∀w v,v<g.Tree.n->DV N g' w v=DV N g w v){l:Sl (Sl Sound)}{r:Bool×Int}(a:OI N g h l r):OI N g' h l r:=by
 have hm:∀i k,k<(N7 g.Tree g.Tree.n).n->(Ug N g' h l i k↔Ug N g h l i k):=fun i k hk=>by obtain⟨u,u1,u2⟩:=SR g.Tree hk;unfold Ug;rw[ht,u2,Ay0,c _ _ u1]
 unfold OI at a⊢;rw[ht];rcases a with a|⟨a0,a⟩
 ·exact .inl a
 ·refine .inr ⟨a0,?_⟩;rcases a with a|⟨a1,a⟩
  ·exact .inl a
  ·refine .inr ⟨a1,?_⟩;rcases a with⟨⟨i,k,h1,b,d⟩,e⟩ | ⟨h1,e⟩
   ·exact .inl ⟨⟨i,k,h1,b,(hm i k b).2 d⟩,e⟩
   ·exact .inr ⟨fun i k j hk=>fun f=>h1 i k j hk ((hm i k hk).1 f),e⟩
structure XS (g t:A6):Prop where
 tree:t.Tree=g.Tree
 ln:t.Laws.n=g.Laws.n
 law:∀j,j<g.Laws.n->t.Laws.g j=g.Laws.g (g.Laws.n-1-j)
 n:t.On.n=g.On.n
 rn:∀v,v<g.On.n->(t.On.g v).n=(g.On.g v).n
 row:∀v,v<g.On.n->∀j,j<(g.On.g v).n->(t.On.g v).g j=(g.Laws.n:Int)-1-(g.On.g v).g j
theorem QR {g t:A6}(hc:XS g t):∀(m v:Nat),v<=m->v<g.On.n->(AK t v).n=(AK g v).n
 |m,v,hm,hv=>by
  have a:=hc.rn v hv;by_cases hp:0<=(g.Tree.g v).Parent/\(g.Tree.g v).Parent<v
  ·obtain⟨p,e⟩:∃p:Nat,(g.Tree.g v).Parent=(p:Int):=⟨(g.Tree.g v).Parent.toNat,by omega⟩;rw[Fz e (by omega),Fz (h:=t) (p:=p) (by rw[hc.tree];exact e) (by omega)];show (AK t p).n+_=(AK g p).n+_
   match m with
   |0=>omega
   |m+1=>rw[QR hc m p (by omega) (by omega),a]
  ·have e1:AK t v=(Sl.nil:Sl Int).app (t.On.g v):=by rw[AK,dif_neg (by rw[hc.tree];exact hp)]
   have e2:AK g v=(Sl.nil:Sl Int).app (g.On.g v):=by rw[AK,dif_neg hp]
   rw[e1,e2];show 0+_=0+_;rw[a]
theorem XT {g t:A6}(hc:XS g t){N:Nat}(a:Cp N g){v:Nat}(c:v<g.Tree.n):(OE t (t.On.g v)).toList=(OE g (g.On.g v)).toList:=by obtain⟨o1,o2⟩:=An6 a c;have d:=a.on;have f:=hc.rn v (by omega);show (List.range (t.On.g v).n).map _=(List.range (g.On.g v).n).map _;rw[f];refine AB4 fun j b=>?_;have b:=AE3.1 b;have i:=o2 j b;show t.Laws.g ((t.On.g v).g j).toNat=g.Laws.g ((g.On.g v).g j).toNat;rw[hc.row v (by omega) j b,hc.law _ (by omega)];congr 1;omega
theorem XU {g t:A6}(hc:XS g t){N:Nat}(a:Cp N g){w:Sl Sound}:∀(m v:Nat),v<=m->v<g.Tree.n->DV N t w v=DV N g w v
 |m,v,hm,hv=>by
  have hl:=XT hc a hv;rcases Bi a.tree hv with⟨_,e⟩ | ⟨p,hp,e⟩
  ·rw[SQ (by rw[hc.tree];omega),SQ (by omega),hl]
  ·rw[ZY (p:=p) (by rw[hc.tree];exact e) hp,ZY e hp,hl]
   match m with
   |0=>omega
   |m+1=>rw[XU hc a m p (by omega) (by omega)]
theorem Ao0 {g t:A6}(hc:XS g t){N:Nat}(c:Co g)(a:Cp N g):Co t/\Cp N t:=by
 have j:=a.on;have l:=hc.ln;refine⟨⟨fun i d=>?_,by rw[hc.tree];exact c.tree,by rw[hc.n];exact c.on,fun v b=>?_⟩,⟨by rw[hc.tree];exact a.tree,⟨by rw[hc.ln];exact a.laws.1,fun i d=>?_⟩,?_,by rw[hc.n,hc.tree];exact a.on,?_,fun v b=>?_⟩⟩
 ·rw[hc.law i (by omega)];exact c.laws _ (by omega)
 ·rw[hc.n]at b;rw[hc.rn v b];exact c.len v b
 ·rw[hc.law i (by omega)];exact a.laws.2 _ (by omega)
 ·rintro⟨u,v,h1,m,f⟩;rw[hc.law u (by omega),hc.law v (by omega)]at f;exact a.dup ⟨g.Laws.n-1-v,g.Laws.n-1-u,by omega,by omega,f.symm⟩
 ·rintro⟨v,b,hl⟩;rw[hc.n]at b;rw[QR hc v v (Ay6 _) b]at hl;exact a.long ⟨v,b,hl⟩
 ·rw[hc.n]at b;rintro⟨k,hk,hb⟩;rw[hc.rn v b]at hk;rw[hc.row v b k hk,hc.ln]at hb;refine a.bad v b ⟨k,hk,?_⟩;omega
theorem VB {N:Nat}{g:A6}{l:Sl (Sl Sound)}{r:Bool×Int}(a:OI N g g l r):r.1=(r.2==0):=by
 rcases a with⟨i,a1,a2,a3,a4,a5⟩ | ⟨a0,a⟩
 ·rw[a5];simp[a4]
 ·rcases a with⟨a1,a2⟩ | ⟨a1,a⟩
  ·exact absurd rfl a1
  ·rcases a with⟨⟨i,k,h1,c,b⟩,e⟩ | ⟨h1,e⟩
   ·exact absurd (agree.refl _) b
   ·rw[e];rfl
theorem FZ {N:Nat}(o:3000000<=N)(hw:U8 N=some true){x y:Ez}(hx:Lh x)(hy:Lh y){l:Sl (Sl Sound)}(hl:∀i,i<l.n->okA (l.g i)):O9 N x y l=some true:=by
 refine eqR ?_;unfold O9;obtain⟨⟨g,b⟩,g1,gi,g2⟩:=Uj o hx;obtain⟨⟨h,c⟩,h1,hi,h2⟩:=Uj o hy;refine B1 g1 (B1 h1 ?_);dsimp only;by_cases hb:(((!b)||(!c))||(decide (4<(l.n:Int))))=true
 ·exact ifT hb (B1 hw ⟨_,rfl,rfl⟩)
 refine ifF hb ?_;simp only[AA0,AA3,decide_eq_true_eq,not_or,Bool.not_eq_false]at hb;obtain⟨⟨rfl,rfl⟩,h4⟩:=hb;replace gi:Co g:=gi;replace hi:Co h:=hi;have gok:Cp N g:=(g2 rfl).hist;have s:Cp N h:=(h2 rfl).hist;have g63:=gok.tree.2.1;have gl:=gok.laws.1;have gon:=gok.on;refine BA (fun i x=>x=(i:Int)) l.n _ (by omega) rfl ?_;rintro self i q hle rfl hs;by_cases hlt:i<l.n
 ·refine ifT (by simp;omega) (ifT (by omega) ?_);by_cases h5:(decide (50<((l.g (i:Int).toNat).n:Int)))=true
  ·exact ifT h5 (B1 hw ⟨_,rfl,rfl⟩)
  ·exact ifF h5 (hs hlt _ (C0 (by omega)))
 refine ifF (by simp;omega) ?_;clear hs;refine N8 (fun i (x2:Sl Law) x3=>x3=(g.Laws.n:Int)-1-(i:Int)/\x2.n=i/\∀j,j<i->x2.g j=g.Laws.g (g.Laws.n-1-j)) g.Laws.n _ (by omega) ⟨D3 (by omega) (by omega) |>.trans (by omega),rfl,fun j d=>absurd d (by omega)⟩ ?_;rintro self2 m x2 x3 hm ⟨rfl,hn2,hg2⟩ hs2;by_cases hlm:m<g.Laws.n
 ·have e1:((g.Laws.n:Int)-1-(m:Int)).toNat=g.Laws.n-1-m:=by omega
  refine ifT (by simp;omega) (ifT (by omega) (ifT (by show (x2.n+1)*200<=_/\x2.n+1<=_;omega) (hs2 hlm _ _ ⟨?_,by show x2.n+1=_;omega,fun j d=>?_⟩)))
  ·rw[D3 (by omega) (by omega)];omega
  ·show (if j<x2.n then x2.g j else _)=_;by_cases e:j<x2.n
   ·rw[if_pos e];exact hg2 j (by omega)
   ·obtain rfl:j=m:=by omega
    rw[if_neg e,e1]
 obtain rfl:m=g.Laws.n:=by omega
 refine ifF (by simp;omega) ?_;clear hs2;have eW:wrap .i64 ((g.Laws.n:Int)-1)=(g.Laws.n:Int)-1:=D3 (by omega) (by omega);rw[eW];refine N8 (fun v (x6:Sl (Sl Int)) x7=>x7=(v:Int)/\x6.n=v/\∀u,u<v->(x6.g u).n=(g.On.g u).n/\∀j,j<(g.On.g u).n->(x6.g u).g j=(g.Laws.n:Int)-1-(g.On.g u).g j) g.On.n _ (by omega) ⟨rfl,rfl,fun j d=>absurd d (by omega)⟩ ?_;rintro self5 v x6 x7 hv ⟨rfl,hn6,h6⟩ hs5;by_cases hvl:v<g.On.n
 ·refine ifT (by simp;omega) (ifT (by omega) ?_);obtain⟨o1,o2⟩:=An6 gok (x:=v) (by omega);rw[Ay0];refine N8 (fun j (a:Sl Int) x11=>x11=(j:Int)/\a.n=j/\∀k,k<j->a.g k=(g.Laws.n:Int)-1-(g.On.g v).g k) (g.On.g v).n _ (by omega) ⟨rfl,rfl,fun j d=>absurd d (by omega)⟩ ?_;rintro self6 j a x11 d ⟨rfl,hn10,h10⟩ hs6;by_cases hjl:j<(g.On.g v).n
  ·have:=o2 j hjl
   refine ifT (by simp;omega) ?_;rw[Ay0];refine ifT ⟨by omega,by show (a.n+1)*8<=_/\a.n+1<=_;omega⟩ (hs6 hjl _ _ ⟨C0 (by omega),by show a.n+1=_;omega,fun k hk=>?_⟩);show (if k<a.n then a.g k else _)=_;by_cases e:k<a.n
   ·rw[if_pos e];exact h10 k (by omega)
   ·obtain rfl:k=j:=by omega
    rw[if_neg e];show wrap .i64 _=_;rw[D3 (by omega) (by omega)]
  ·refine ifF (by simp;omega) (ifT (by show (x6.n+1)*24<=_/\x6.n+1<=_;omega) (hs5 hvl _ _ ⟨C0 (by omega),by show x6.n+1=_;omega,fun u hu=>?_⟩));show (if u<x6.n then x6.g u else a).n=_/\∀j,_->(if u<x6.n then x6.g u else a).g j=_;by_cases e:u<x6.n
   ·rw[if_pos e];exact h6 u (by omega)
   ·obtain rfl:u=v:=by omega
    rw[if_neg e];exact⟨by omega,fun k hk=>h10 k (by omega)⟩
 obtain rfl:v=g.On.n:=by omega
 refine ifF (by simp) ?_;clear hs5;have hc:XS g ⟨g.Tree,x2,x6⟩:=⟨rfl,hn2,hg2,hn6,fun v hv=>(h6 v hv).1,fun v hv=>(h6 v hv).2⟩;obtain⟨ti,tok⟩:=Ao0 hc gi gok;obtain⟨r1,a1,a2⟩:=Fl o gi gi gok gok hl (by omega);obtain⟨r2,b1,b2⟩:=Fl o gi ti gok tok hl (by omega);obtain⟨r3,c1,c2⟩:=Fl o gi hi gok s hl (by omega);obtain⟨r4,d1,d2⟩:=Fl o hi gi s gok hl (by omega);obtain rfl:=MZ (Nb (VA (g:=g) (g':=⟨g.Tree,x2,x6⟩) (h:=g) rfl (fun w v hv=>XU hc gok v v (Ay6 _) hv) a2)) b2;obtain rfl:=MZ (Nb c2) d2;have t:=VB a2;refine B1 a1 (B1 b1 (B1 c1 (B1 d1 (ifF (by simp[t]) ?_))));by_cases z:r3.2=0
 case neg=>
  have hf:r3.1=false:=by
   rcases c2 with⟨i,_,_,_,_,e⟩ | ⟨_,⟨_,e⟩ | ⟨_,⟨_,e⟩ | ⟨_,e⟩⟩⟩
   ·exact e
   ·rw[e]
   ·rw[e]
   ·rw[e]at z;exact absurd rfl z
  exact ifT (by simpa using z) (ltX (ifT (by simp[hf]) (B1 hw ⟨_,rfl,rfl⟩)))
 refine ifF (by simp[z]) ?_;obtain⟨hwk,hne,hres⟩:(∀j,j<l.n->wOk (l.g j))/\(N7 g.Tree g.Tree.n).n=(N7 h.Tree h.Tree.n).n/\(r3.1=true ↔ ∀i k,i<l.n->k<(N7 g.Tree g.Tree.n).n->¬Ug N g h l i k):=by
  rcases c2 with⟨i,_,_,_,e4,e⟩ | ⟨w1,⟨_,e⟩ | ⟨w2,⟨⟨i,k,h1,h2,h3⟩,e⟩ | ⟨h1,e⟩⟩⟩
  ·exact absurd z e4
  ·rw[e]at z;exact absurd z (by decide)
  ·refine⟨w1,w2,?_⟩;rw[e];exact⟨fun f=>(by cases f),fun f=>absurd h3 (f i k h1 h2)⟩
  ·refine⟨w1,w2,?_⟩;rw[e];exact⟨fun _=>h1,fun _=>rfl⟩
 refine N8 (fun i (a0:Bool) x14=>x14=(i:Int)/\(a0=true ↔ ∀j k,j<i->k<(N7 g.Tree g.Tree.n).n->¬Ug N g h l j k)) l.n _ (by omega) ⟨rfl,⟨fun _ j k d=>absurd d (by omega),fun _=>rfl⟩⟩ ?_;rintro self7 n a0 x14 hn ⟨rfl,h13⟩ hs7;by_cases a3:n<l.n
 case neg=>
  obtain rfl:n=l.n:=by omega
  have e:a0=r3.1:=by rw[AA9,h13,hres]
  exact ifF (by simp) (ltX (ifT (by rw[e];simp) (B1 hw ⟨_,rfl,rfl⟩)))
 refine ifT (by simp;omega) ?_;rw[C0 (by omega)];refine ifT (by omega) ?_;rw[Ay0,Ay0];have e1:(l.sub n (n+1)).n=1:=by show n+1-n=1;omega
 have e2:∀j,j<1->(l.sub n (n+1)).g j=l.g n:=fun j d=>by
  obtain rfl:j=0:=by omega
  rfl
 obtain⟨r,f1,f2⟩:=Fl o gi hi gok s (l:=l.sub n (n+1)) (fun i hi=>by rw[e2 i (by omega)];exact hl n a3) (by omega);obtain⟨q1,q2⟩:r.2=0/\(r.1=true ↔ ∀k,k<(N7 g.Tree g.Tree.n).n->¬Ug N g h l n k):=by
  have hm:∀k,Ug N g h (l.sub n (n+1)) 0 k↔Ug N g h l n k:=fun k=>AG4;rcases f2 with⟨i,i1,_,e3,e4,e⟩ | ⟨w1,⟨e3,e⟩ | ⟨w2,⟨⟨i,k,h1,h2,h3⟩,e⟩ | ⟨h1,e⟩⟩⟩
  ·rw[e2 i (by omega)]at e3;exact absurd ((U9 e3).2 (hwk n a3)) e4
  ·exact absurd hne e3
  ·obtain rfl:i=0:=by omega
   rw[e];exact⟨rfl,fun f=>(by cases f),fun f=>absurd ((hm k).1 h3) (f k h2)⟩
  ·rw[e];exact⟨rfl,fun _ k hk f=>h1 0 k (by omega) hk ((hm k).2 f),fun _=>rfl⟩
 refine B1 f1 (ifF (by simp[q1]) (hs7 a3 _ _ ⟨rfl,?_⟩));rw[Ay3,h13,q2];constructor
 ·rintro⟨u1,u2⟩ j k d hk;by_cases e:j=n
  ·subst e;exact u2 k hk
  ·exact u1 j k (by omega) hk
 ·intro u;exact⟨fun j k d hk=>u j k (by omega) hk,fun k hk=>u n k (by omega) hk⟩
end Go.AM
