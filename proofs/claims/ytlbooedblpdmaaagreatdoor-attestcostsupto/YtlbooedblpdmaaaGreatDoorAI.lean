/- What a law's walk and its plain proof need, part 9: no condition of its own. -/
import Derived.Test.YtlbooedblpdmaaaGreatDoorAH
import Derived.Test.YtlbooedblpdmaaaGreatDoorAG
set_option linter.defProp false
set_option linter.unusedSimpArgs false
set_option linter.unusedVariables false
set_option linter.unusedSectionVars false
namespace Go.AM
variable {N:Nat}
def Ic{c:Prop}{i:Decidable c}{α:Sort _}{a b:α}(h:¬c:=by simp):(if c then a else b)=b:=Ix h
open IntKind (wrap)
def Cq2:=@List.flatMap_cons
def Cr0:=@List.filter_append
def Cx7:=@List.filterMap_append
def CG5:=@List.flatMap_append
def CI1:=@Classical.not_not
def CI2:=@List.length_filterMap_le
def CM6:=@UInt8.toNat_ofNat'
open Go.Proofs
def apE (N:Nat)(l:Law)(w:Sl To)(r:Sl To×Int):Prop:=(r.2=17/\¬chkAll N l) \/ (chkAll N l/\AZ4 w r.2/\r.2≠0) \/ (chkAll N l/\wOk w/\(r.2=11 \/ (r.2=0/\wOk r.1)))
def Qg (o:3000000<=N){l l' : Law}(hl:Tz l)(hle:LE l l'){w w' : Sl To}(b:SE w w')(hw:∀i,i<w.n->okS (w.g i)) :∃r r',Y2 N l w=some r/\Y1 N l' w' = some r' /\ SE r.1 r'.1/\r.2=r'.2/\apE N l w r:=by
 obtain⟨⟨x,y,e⟩,⟨x',y',e'⟩,h1,q,⟨_,hn,hs,m⟩,ht⟩:=Bu9 o hl hle b hw;dsimp only at hn hs m;subst m;have t:=b.1;unfold trE at ht;dsimp only at ht;unfold Y2 Y1;rw[h1,q,Cl3,Cl3];dsimp only;by_cases a:e=0
 case neg=>
  rw[Il (show (e != 0)=true by simpa using a),Il (show (e != 0)=true by simpa using a)];refine⟨_,_,rfl,rfl,SE.refl _,rfl,?_⟩;rcases ht with h|h|⟨j,c,d⟩
  .exact .inl h
  .exact .inr (.inl h)
  exact .inr (.inr ⟨j,c,.inl (d.resolve_right fun h=>a h.1)⟩)
 rw[Ix (show ¬(e != 0)=true by simp[a]),Ix (show ¬(e != 0)=true by simp[a])];rcases ht with h|h|⟨j,c,d⟩
 .exact Kh (h.1.symm.trans a) (by decide)
 .exact Kh a h.2.2
 rcases d with d|⟨_,h6,u⟩
 .exact Kh (d.symm.trans a) (by decide)
 have v:=c.1;by_cases hy:y.n=0
 .rw[Ix (show ¬decide ((0:Int)<(y.n:Int))=true by simp[hy]),Il (show ((y'.n:Int)==0)=true by simp[<- hn,hy]),Il (by show (0+w'.n)*8<=_/\0+w'.n<=_;omega),BY3 (s:=(Sl.of []:Sl To)) rfl];unfold B9;rw[Cw];exact⟨_,_,rfl,rfl,b,rfl,.inr (.inr ⟨j,c,.inr ⟨rfl,c⟩⟩)⟩
 have hk:=u (y.n-1) (by omega);have f:=hs (y.n-1) (by omega);have hb:=hk.1;have z:=f.1;have e1:wrap .i64 ((y.n:Int)-1)=((y.n-1:Nat):Int):=BW8 (by omega) (by omega);have e2:wrap .i64 ((y'.n:Int)-1)=((y.n-1:Nat):Int):=by rw[<- hn];exact e1
 rw[e1,e2,Cl2,Il (show decide ((0:Int)<(y.n:Int))=true by simp;omega),Cw,Ix (show ¬((y'.n:Int)==0)=true by simp;omega),Il ⟨by omega,by show (0+(y'.g (y.n-1)).n)*8<=_/\0+(y'.g (y.n-1)).n<=_;omega⟩,BY3 (s:=(Sl.of []:Sl To)) rfl];exact⟨_,_,rfl,rfl,f,rfl,.inr (.inr ⟨j,c,.inr ⟨rfl,hk⟩⟩)⟩
def AF5 {s:Sl Law}(m:s.n<N)(hs:s.n<1000000){f:Law->Option Bool}{b:Nat->Bool}(o:∀i,i<s.n->f (s.g i)=some (b i)) :∃r,F4 N s f=some r/\(r=true ↔ ∃i,i<s.n/\b i=true):=by
 unfold F4 H6
 have:∃y,T9 N (fun (a:Int->Option Int) (x1:Int)=>
  if (decide (x1<(s.n:Int))) then
   if ((0:Int)<=x1/\x1<(s.n:Int))then
    (f (s.g x1.toNat)).bind fun y3=>
    if y3 then
     some x1
    else
     a (wrap .i64 (x1+1))
   else none
  else
   some (-1)) 0=some y/\(0<=y ↔ ∃i,i<s.n/\b i=true):=by
  refine Aq (fun i x1=>x1=(i:Int)/\∀j,j<i->b j=false) s.n _ m ⟨rfl,fun j c=>Kh c (by omega)⟩ ?_;rintro l i x1 q ⟨rfl,h⟩ d;by_cases hl:i<s.n
  .refine Ax (Ab (B4 (by rw[Cl2];exact o i hl) ?_));cases hb:b i
   .refine Ci (d hl _ ⟨Cl,fun j c=>?_⟩);by_cases e:j=i
    .subst e;exact hb
    exact h j (by omega)
   exact ifT rfl ⟨i,rfl,fun _=>⟨i,hl,hb⟩,fun _=>by omega⟩
  refine Bm ⟨-1,rfl,fun h=>Kh h (by decide),?_⟩;rintro⟨j,c,hb⟩;rw[h j (by omega)]at hb;cases hb
 obtain⟨y,e,hy⟩:=this;exact B4 e ⟨_,rfl,by rw[Sp];exact hy⟩
def TB (N:Nat)(laws:Sl Law)(e:Int):Prop:=(64<laws.n/\e=12) \/ (laws.n<=64/\(∃i,i<laws.n/\¬chkAll N (laws.g i))/\e=17) \/ ((laws.n<=64/\∀i,i<laws.n->chkAll N (laws.g i))/\e=0)
def MH {laws:Sl Law}{e e' : Int}(h:TB N laws e)(h' : TB N laws e'):e=e':=by rcases h with⟨h,rfl⟩ | ⟨h,⟨i,b,a⟩,rfl⟩ | ⟨⟨h,a⟩,rfl⟩<;>rcases h' with⟨g,rfl⟩ | ⟨g,⟨j,c,g2⟩,rfl⟩ | ⟨⟨g,g2⟩,rfl⟩<;>first|rfl|(exfalso;omega)|exact Kh (g2 i b) a|exact Kh (a j c) g2
def LS (s t:Sl Law):Prop:=s.n=t.n/\∀i,i<s.n->LE (s.g i) (t.g i)
def LS.refl (s:Sl Law):LS s s:=⟨rfl,fun _ _=>LE.refl _⟩
def Bv0 {laws laws' : Sl Law}(h:LS laws laws'){e:Int}(hw:TB N laws e):TB N laws' e:=by
 have hn:=h.1;rcases hw with⟨h1,a⟩ | ⟨h1,⟨i,c,a⟩,b⟩ | ⟨⟨h1,a⟩,b⟩
 .exact .inl ⟨by omega,a⟩
 .exact .inr (.inl ⟨by omega,⟨i,by omega,fun g=>a ((HT (h.2 i c)).2 g)⟩,b⟩)
 exact .inr (.inr ⟨⟨by omega,fun i c=>(HT (h.2 i (by omega))).1 (a i (by omega))⟩,b⟩)
def HU (laws:Sl Law):Prop:=∀i,i<laws.n->Tz (laws.g i)
def AZ9 {laws laws' : Sl Law}(h:LS laws laws')(hl:HU laws):HU laws':=fun i a=>by exact UR (h.2 i (by rw[h.1];exact a)) (hl i (by rw[h.1];exact a))
def Ak5 (o:3000000<=N){laws:Sl Law}(hl:HU laws):∃e,AQ N laws=some e/\Y0 N laws=some e/\TB N laws e:=by
 have h1:∃e,AQ N laws=some e/\TB N laws e:=by
  unfold AQ;by_cases hn:64<laws.n
  .exact Ax ⟨12,rfl,.inl ⟨hn,rfl⟩⟩
  refine Bm ?_;have u:∀i,∃b,i<laws.n->W6 N (laws.g i)=some b/\(b=true ↔ ¬chkAll N (laws.g i)):=by
   intro i;by_cases a:i<laws.n
   .obtain⟨e,e1,_,d⟩:=HS o (hl i a);refine⟨e != 0,fun _=>⟨by unfold W6;rw[e1];rfl,?_⟩⟩;rcases d with⟨rfl,h⟩ | ⟨rfl,h⟩
    .exact⟨fun h=>Kh h (by decide),fun g=>Kh h g⟩
    exact⟨fun _=>h,fun _=>by decide⟩
   exact⟨false,fun h=>Kh h a⟩
  obtain⟨f,l⟩:=Cy3 u;obtain⟨r,e1,h1⟩:=AF5 (N:=N) (s:=laws) (by omega) (by omega) (f:=fun u1=>W6 N u1) (fun i a=>(l i a).1);refine B4 e1 ?_;cases q:r
  .refine Ci ⟨0,rfl,.inr (.inr ⟨⟨by omega,fun i a=>Cn1 fun hn=>?_⟩,rfl⟩)⟩
   have:=h1.2 ⟨i,a,(l i a).2.2 hn⟩
   rw[q]at this;cases this
  obtain⟨i,a,hb⟩:=h1.1 q;exact ifT rfl ⟨17,rfl,.inr (.inl ⟨by omega,⟨i,a,(l i a).2.1 hb⟩,rfl⟩)⟩
 have v:∃e,Y0 N laws=some e/\TB N laws e:=by
  unfold Y0;by_cases hn:64<laws.n
  .exact Ax ⟨12,rfl,.inl ⟨hn,rfl⟩⟩
  refine Bm ?_;refine Aq (fun i x1=>x1=(i:Int)/\∀j,j<i->chkAll N (laws.g j)) laws.n _ (by omega) ⟨rfl,fun j m=>Kh m (by omega)⟩ ?_;rintro t i x1 a ⟨rfl,h⟩ hs;by_cases c:i<laws.n
  .obtain⟨e,_,e1,d⟩:=HS o (hl i c);refine Ax (Ab (B4 (by rw[Cl2];exact e1) ?_));rcases d with⟨rfl,hc⟩ | ⟨rfl,hc⟩
   .refine Ck (hs c _ ⟨Cl,fun j m=>?_⟩);by_cases e:j=i
    .subst e;exact hc
    exact h j (by omega)
   exact Bf ⟨17,rfl,.inr (.inl ⟨by omega,⟨i,c,hc⟩,rfl⟩)⟩
  exact Bm ⟨0,rfl,.inr (.inr ⟨⟨by omega,fun j m=>h j (by omega)⟩,rfl⟩)⟩
 obtain⟨e,e1,g1⟩:=h1;obtain⟨e',e2,g2⟩:=v;obtain rfl:=MH g1 g2;exact⟨_,e1,e2,g1⟩
def BO8 (l:Sl (Sl To))(e:Int):Prop:=(e=0/\∀i,i<l.n->wOk (l.g i)) \/ (∃i,i<l.n/\(∀j,j<i->wOk (l.g j))/\AZ4 (l.g i) e/\e≠0)
def Bi1 (o:3000000<=N){l:Sl (Sl To)}(hn:l.n<2000000)(hw:∀i,i<l.n->∀j,j<(l.g i).n->okS ((l.g i).g j)) :∃e,T9 N (fun (a:Int->Option Int) (x1:Int)=>
  if (decide (x1<(l.n:Int))) then
   if ((0:Int)<=x1/\x1<(l.n:Int))then
    (Q7 N (l.g x1.toNat)).bind fun y4=>
    if (y4 != 0) then
     some y4
    else
     a (wrap .i64 (x1+1))
   else none
  else
   some 0
  ) 0=some e/\BO8 l e:=by
 refine Aq (fun i x1=>x1=(i:Int)/\∀j,j<i->wOk (l.g j)) l.n _ (by omega) ⟨rfl,fun j d=>Kh d (by omega)⟩ ?_;rintro f i x1 q ⟨rfl,h⟩ hs;by_cases b:i<l.n
 .obtain⟨e,e1,m⟩:=KX (N:=N) (by omega) (hw i b);refine Ax (Ab (B4 (by rw[Cl2];exact e1) ?_));by_cases c:e=0
  .refine ifF (by simp[c]) (hs b _ ⟨Cl,fun j d=>?_⟩);by_cases e:j=i
   .subst e;exact (DB m).1 c
   exact h j (by omega)
  exact ifT (by simpa using c) ⟨e,rfl,.inr ⟨i,b,h,m,c⟩⟩
 exact Bm ⟨0,rfl,.inl ⟨rfl,fun j d=>h j (by omega)⟩⟩
def BZ0 {w:Sl To}{e:Int}(h:BO8 (Sl.of [w]:Sl (Sl To)) e):AZ4 w e:=by
 rcases h with⟨rfl,h⟩ | ⟨i,a,_,h,_⟩
 .exact .inr (.inr ⟨h 0 (by show 0<1;omega),rfl⟩)
 match i,a with
 |0,_=>exact h
def WD (b:3000000<=N){laws:Sl Law}(hl:HU laws){w:Sl To}(hw:∀i,i<w.n->okS (w.g i)) :∃e,CF N laws (Sl.of [w]:Sl (Sl To))=some e/\((TB N laws e/\e≠0) \/ (TB N laws 0/\AZ4 w e)):=by
 unfold CF;obtain⟨e,e1,_,h1⟩:=Ak5 b hl;refine B4 e1 ?_;by_cases a:e=0
 case neg=>exact ifT (by simpa using a) ⟨e,rfl,.inl ⟨h1,a⟩⟩
 refine ifF (by simp[a]) (ifF (by show ¬decide ((256:Int)<((1:Nat):Int))=true;decide) ?_);obtain⟨e2,e3,c⟩:=Bi1 (N:=N) b (l:=(Sl.of [w]:Sl (Sl To))) (by show 1<_;omega) fun i d=>by
  match i,d with
  |0,_=>exact hw
 exact⟨e2,e3,.inr ⟨a ▸ h1,BZ0 c⟩⟩
def Ae (N:Nat)(c:Int)(q1:Sl Law)(a:Sl To->Int->Option AE9)(x1:Sl To)(x2:Int):Option AE9:= if (decide (x2<(q1.n:Int))) then if ((0:Int)<=x2/\x2<(q1.n:Int))then (Y2 N (q1.g x2.toNat) x1).bind fun y4=>if (y4.2 != 0) then if y4.2=c then some []else none else Be (wrap .i64 (x2+1),y4.1) (a y4.1 (wrap .i64 (x2+1))) else none else if c=0 then some []else none
def Y3 {c:Int}{laws:Sl Law}{a:Sl To->Int->Option AE9}{w:Sl To}{i:Nat}(d:i<laws.n)(b:laws.n<=64){y:Sl To×Int}(h:Y2 N (laws.g i) w=some y) :Ae N c laws a w (i:Int)=if (y.2 != 0) then (if y.2=c then some []else none)else Be (((i+1:Nat):Int),y.1) (a y.1 ((i+1:Nat):Int)):=by unfold Ae;rw[Il (show decide ((i:Int)<(laws.n:Int))=true by simp;omega),Cw,Cl2,h,Cl3,Cl]
abbrev Cj0:=(Sl (Sl To))×Int
def KZ (N:Nat)(a:Sl Law)(b:Sl (Sl To)->Int->Option Cj0)(x2:Sl (Sl To))(x3:Int):Option Cj0:= if (decide (x3<(a.n:Int))) then if ((((0:Int)<=x3/\x3<(a.n:Int))/\((0:Int)<=x3/\x3<(x2.n:Int)))/\x3.toNat<x2.n)then (Y1 N (a.g x3.toNat) (x2.g x3.toNat)).bind fun y7=>if (y7.2 != 0) then some ((Sl.nil:Sl (Sl To)),y7.2) else if ((x2.n+(Sl.of [y7.1]:Sl (Sl To)).n)*24<=140737488355328/\x2.n+(Sl.of [y7.1]:Sl (Sl To)).n<=140737488355328)then b (x2.push y7.1) (wrap .i64 (x3+1)) else none else none else some (x2,0)
def Qh:Sl To->AE9->Sl To
 |w,[]=>w
 |_,(_,v)::L=>Qh v L
def Qi:∀(L:AE9) (w:Sl To),Q5 L (fun (a:Sl To->Option (Sl To)) (x1:Int×(Sl To)) (z1:Sl To)=>a x1.2) (fun (z1:Sl To)=>some z1) w=some (Qh w L)
 |[],w=>rfl
 |(p,v)::L,w=>Qi L v
def HV (N:Nat)(laws:Sl Law):Prop:=laws.n<=64/\∀i,i<laws.n->chkAll N (laws.g i)
def Bv1 (x:3000000<=N){laws laws' : Sl Law}(hl:HU laws)(o:LS laws laws')(q:HV N laws):∀(m i:Nat) (w w' : Sl To),SE w w' -> wOk w->i<=laws.n->laws.n<=i+m ->
 (∃L v',SE (Qh w L) v' /\ wOk (Qh w L)/\(∀M,m<M->P9 M (Ae N 0 laws) w i=some L)/\∀M x2,m<M->x2.n=i+1->x2.g i=w' -> ∃y,P9 M (KZ N laws') x2 i=some (y,0)/\y.n=laws.n+1/\y.g laws.n=v') \/
 ((∃L,∀M,m<M->P9 M (Ae N 0 laws) w i=none/\P9 M (Ae N 11 laws) w i=some L)/\∀M x2,m<M->x2.n=i+1->x2.g i=w' -> P9 M (KZ N laws') x2 i=some ((Sl.nil:Sl (Sl To)),11)):=by
 have z:=o.1;have b:=q.1;intro m
 induction m with
 |zero=>
  intro i w w' c hw hi hm;refine .inl ⟨[],w',c,hw,fun M d=>?_,fun M x2 d hx f=>⟨x2,?_,by omega,by rw[<- f];congr 1;omega⟩⟩
  .obtain⟨M,rfl⟩:∃K,M=K+1:=⟨M-1,by omega⟩;rw[F9,Ae,Fq,Il rfl]
  obtain⟨M,rfl⟩:∃K,M=K+1:=⟨M-1,by omega⟩;rw[F9,KZ,Fq]
 |succ m ih=>
  intro i w w' c hw hi hm;by_cases a:i<laws.n
  case neg=>
   refine .inl ⟨[],w',c,hw,fun M d=>?_,fun M x2 d hx f=>⟨x2,?_,by omega,by rw[<- f];congr 1;omega⟩⟩
   .obtain⟨M,rfl⟩:∃K,M=K+1:=⟨M-1,by omega⟩;rw[F9,Ae,Fq,Il rfl]
   obtain⟨M,rfl⟩:∃K,M=K+1:=⟨M-1,by omega⟩;rw[F9,KZ,Fq]
  obtain⟨⟨v,e⟩,⟨v',e'⟩,h1,r,s,t,l⟩:=Qg x (hl i a) (o.2 i a) c fun j hj=>(hw.2 j hj).ok;simp only at s t;subst t;rcases l with⟨_,l⟩ | ⟨_,l,h6⟩ | ⟨_,_,l⟩
  .exact Kh (q.2 i a) l
  .exact Kh ((DB l).2 hw) h6
  rcases l with rfl|⟨rfl,hv⟩
  .refine .inr ⟨⟨[],fun M d=>?_⟩,fun M x2 d hx f=>?_⟩
   .obtain⟨M,rfl⟩:∃K,M=K+1:=⟨M-1,by omega⟩;rw[F9,F9,Y3 a b h1,Y3 a b h1];exact⟨rfl,rfl⟩
   obtain⟨M,rfl⟩:∃K,M=K+1:=⟨M-1,by omega⟩;rw[F9,KZ,Cx,Cw,Cl2,f,r,Cl3,Il (by simp)]
  rcases ih (i+1) v v' s hv (by omega) (by omega)with⟨L,u,g1,g2,g3,g4⟩ | ⟨⟨L,g1⟩,g2⟩
  .refine .inl ⟨((i+1:Nat),v)::L,u,g1,g2,fun M d=>?_,fun M x2 d hx f=>?_⟩
   .obtain⟨M,rfl⟩:∃K,M=K+1:=⟨M-1,by omega⟩;rw[F9,Y3 a b h1,Ic];show Be _ (P9 M (Ae N 0 laws) v _)=_;rw[g3 M (by omega)];rfl
   obtain⟨M,rfl⟩:∃K,M=K+1:=⟨M-1,by omega⟩;rw[F9,KZ,Cx,Cw,Cl2,f,r,Cl3,Ic,Il (by show (x2.n+1)*24<=_/\x2.n+1<=_;omega),Cl];exact g4 M (x2.push v') (by omega) (by show x2.n+1=_;omega) (by show (if i+1<x2.n then x2.g (i+1)else v')=v';rw[Fp])
  refine .inr ⟨⟨((i+1:Nat),v)::L,fun M d=>?_⟩,fun M x2 d hx f=>?_⟩
  .obtain⟨M,rfl⟩:∃K,M=K+1:=⟨M-1,by omega⟩;obtain⟨a1,a2⟩:=g1 M (by omega);rw[F9,F9,Y3 a b h1,Y3 a b h1,Ic,Ic];refine⟨?_,?_⟩
   .show Be _ (P9 M (Ae N 0 laws) v _)=_;rw[a1];rfl
   show Be _ (P9 M (Ae N 11 laws) v _)=_;rw[a2];rfl
  obtain⟨M,rfl⟩:∃K,M=K+1:=⟨M-1,by omega⟩;rw[F9,KZ,Cx,Cw,Cl2,f,r,Cl3,Ic,Il (by show (x2.n+1)*24<=_/\x2.n+1<=_;omega),Cl];exact g2 M (x2.push v') (by omega) (by show x2.n+1=_;omega) (by show (if i+1<x2.n then x2.g (i+1)else v')=v';rw[Fp])
def BI5 {w:Sl To}(d:w.n<N)(hs:w.n<10000000):∃y,AI N w=some y/\SE w y:=by
 suffices h:∃y,AI N w=some y/\y=DY w.g w.n by obtain⟨y,h,rfl⟩:=h;exact⟨_,h,(OJ _ _).symm,fun i b=>(AR3 w.g b).symm⟩
 unfold AI;refine N4 (fun i x1 x2=>x2=(i:Int)/\x1=DY w.g i) w.n _ d ⟨rfl,rfl⟩ ?_;rintro c i x1 x2 b ⟨rfl,rfl⟩ a;by_cases hl:i<w.n
 .have:=OJ w.g i
  refine Ax (ifT ⟨by omega,by show ((DY w.g i).n+1)*8<=_/\(DY w.g i).n+1<=_;omega⟩ (a hl _ _ ⟨Cl,by rw[Cl2];rfl⟩))
 exact Bm ⟨_,rfl,by congr 1;omega⟩
def deE (N:Nat)(laws:Sl Law)(w:Sl To)(r:Sl To×Int):Prop:=(TB N laws r.2/\r.2≠0) \/ (TB N laws 0/\AZ4 w r.2/\r.2≠0) \/ (HV N laws/\wOk w/\(r.2=11 \/ (r.2=0/\wOk r.1)))
def lawsE_zero {laws:Sl Law}:TB N laws 0↔HV N laws:=by
 constructor
 .rintro (⟨_,h⟩ | ⟨_,_,h⟩ | ⟨h,_⟩)
  .cases h
  .cases h
  exact h
 exact fun h=>.inr (.inr ⟨h,rfl⟩)
def Bi2 (v:3000000<=N){laws laws' : Sl Law}(hl:HU laws)(j:LS laws laws'){w w' : Sl To}(m:SE w w')(hw:∀i,i<w.n->okS (w.g i)) :∃r r',J4 N laws w=some r/\U5 N laws' w' = some r' /\ SE r.1 r'.1/\r.2=r'.2/\deE N laws w r:=by
 obtain⟨e,e1,h1⟩:=WD v hl hw;obtain⟨a,_,a1,ha⟩:=Ak5 v (AZ9 j hl);unfold J4 U5 Bp;rw[e1,a1,Cl3,Cl3];rcases h1 with⟨h1,u⟩ | ⟨h1,x⟩
 .obtain rfl:=MH (Bv0 j h1) ha;have d:(e != 0)=true:=by simpa using u
  have o:¬(e==0)=true:=by simpa using u
  rw[Il d,lt,Ix o];dsimp only;rw[Il d,Cl3];dsimp only;rw[Il d];exact⟨_,_,rfl,rfl,SE.refl _,rfl,.inl ⟨h1,u⟩⟩
 obtain rfl:=MH (Bv0 j h1) ha;rw[lt,Il (show ((0:Int)==0)=true from rfl)];obtain⟨b,b1,hb⟩:=MG (N:=N) (by omega) (Ci9 m hw);obtain rfl:=WA (BO7 m x) hb;rw[b1,Cl3];dsimp only;by_cases u:e=0
 case neg=>
  have d:(e != 0)=true:=by simpa using u
  rw[Il d,Il d,Cl3];dsimp only;rw[Il d];exact⟨_,_,rfl,rfl,SE.refl _,rfl,.inr (.inl ⟨h1,x,u⟩)⟩
 have o:¬(e != 0)=true:=by simp[u]
 rw[Ix o,Ix o];have q:=lawsE_zero.1 h1;have s:wOk w:=(DB x).1 u;have a0:=s.1;have a2:=m.1;have a3:=q.1;have a4:=j.1;obtain⟨y4,c1,c2⟩:=BI5 (N:=N) (w:=w') (by omega) (by omega);have t:B9 N w=some w:=by unfold B9;rw[Cw]
 have l:∀c,F0 N c laws w=(Be (0,w) (P9 N (Ae N c laws) w 0)).bind fun L1=>Q5 L1 (fun (f:Sl To->Option (Sl To)) (x1:Int×(Sl To)) (z1:Sl To)=>f x1.2) (fun (z1:Sl To)=>some z1) (Sl.nil:Sl To):=by intro c;unfold F0 CG AB;rw[Cl3,t,Cl3];rfl
 have z:∀(x2:Sl (Sl To)),(P9 N (fun f (x2:Sl (Sl To)) (x3:Int)=>KZ N laws' f x2 x3) x2 0)=P9 N (KZ N laws') x2 ((0:Nat):Int):=fun _=>rfl;rw[c1,Cl3];rcases Bv1 v hl j q laws.n 0 w y4 (m.trans c2) s (by omega) (by omega)with⟨L,v',g1,g2,g3,g4⟩ | ⟨⟨L,g1⟩,g2⟩
 .obtain⟨y,d1,d2,d3⟩:=g4 N (Sl.of [y4]:Sl (Sl To)) (by omega) rfl rfl
  have:I5 N laws w=some (Qh w L,true):=by
   have e0:F0 N 0 laws w=some (Qh w L):=by rw[l];have g3:P9 N (Ae N 0 laws) w 0=some L:=g3 N (by omega);rw[g3];exact Qi _ _
   unfold I5;rw[e0]
  rw[this,Cl3,Ic];refine⟨_,(v',0),rfl,?_,g1,rfl,.inr (.inr ⟨q,s,.inr ⟨rfl,g2⟩⟩)⟩;show Option.bind (P9 N (KZ N laws') (Sl.of [y4]:Sl (Sl To)) ((0:Nat):Int)) _=_;rw[d1,Cl3,Ic];have ew:wrap .i64 ((y.n:Int)-1)=((laws.n:Nat):Int):=by rw[d2,E8 (by omega) (by omega)];omega
  simp only[ew,Cl2];rw[Cw,d3]
 have:I5 N laws w=some ((Sl.nil:Sl To),false):=by
  obtain⟨g3,g4⟩:=g1 N (by omega);have g3:P9 N (Ae N 0 laws) w 0=none:=g3;have g4:P9 N (Ae N 11 laws) w 0=some L:=g4;have e0:F0 N 0 laws w=none:=by rw[l,g3];rfl
  have e11:F0 N 11 laws w=some (Qh w L):=by rw[l,g4];exact Qi _ _
  unfold I5;rw[e0,e11];rfl
 rw[this,Cl3,Il (by simp)];refine⟨_,((Sl.nil:Sl To),11),rfl,?_,SE.refl _,rfl,.inr (.inr ⟨q,s,.inl rfl⟩)⟩;show Option.bind (P9 N (KZ N laws') (Sl.of [y4]:Sl (Sl To)) ((0:Nat):Int)) _=_;rw[g2 N (Sl.of [y4]:Sl (Sl To)) (by omega) rfl rfl,Cl3,Il (by decide)]
end Go.AM
namespace Go.AM
variable {N:Nat}
open IntKind (wrap)
open Go.Proofs
def La {α : Type}(s:Sl α)(a : α):(s.push a).toList=s.toList++[a]:=by
 show (List.range (s.n+1)).map (fun i=>if i<s.n then s.g i else a)=_;rw[Cw9,Cq9];congr 1
 .exact Co7 fun i b=>Il (Cn2.1 b)
 simp
def W2 {α : Type}(s:Sl α):s.toList.length=s.n:=by simp[Sl.toList]
def tl_eq {α : Type}{s t:Sl α}:s.toList=t.toList↔SE s t:=by
 constructor
 .intro h;have hn:s.n=t.n:=by rw[<- De s,h,De]
  refine⟨hn,fun i a=>?_⟩
  have:=congrArg (fun l=>l[i]?) h
  simpa[Sl.toList,a,hn ▸ a]using this
 rintro⟨h1,b⟩;unfold Sl.toList;rw[<- h1];exact Co7 fun i a=>b i (Cn2.1 a)
def sEq (x y:To):((x.Plus==y.Plus)&&(x.Minus==y.Minus))=decide (x=y):=by cases x;cases y;rw[Cp6];simp
def Bv2 {x y:Sl To}(l:x.n<N)(hs:x.n<10000000) :∃b,(if ((x.n:Int) != (y.n:Int)) then
 some false
 else
  T9 N (fun (a:Int->Option Bool) (x1:Int)=>
   if (decide (x1<(x.n:Int))) then
    if (((0:Int)<=x1/\x1<(x.n:Int))/\((0:Int)<=x1/\x1<(y.n:Int)))then
     if ((((x.g x1.toNat).Plus==(y.g x1.toNat).Plus)&&((x.g x1.toNat).Minus==(y.g x1.toNat).Minus)) != true) then
      some false
     else
      a (wrap .i64 (x1+1))
    else none
   else
    some true
   ) 0)=some b/\(b=true↔SE x y):=by
 by_cases hn:x.n=y.n
 case neg=>exact Ax ⟨false,rfl,by simp,fun h=>Kh h.1 hn⟩
 refine ifF (by simp[hn]) ?_;refine Aq (fun i x1=>x1=(i:Int)/\∀j,j<i->x.g j=y.g j) x.n _ l ⟨rfl,fun j c=>Kh c (by omega)⟩ ?_;rintro f i x1 m ⟨rfl,h⟩ d;by_cases hl:i<x.n
 .refine Ax (Ab ?_);rw[Cl2,sEq];by_cases e:x.g i=y.g i
  .refine ifF (by simp[e]) (d hl _ ⟨Cl,fun j c=>?_⟩);by_cases e2:j=i
   .subst e2;exact e
   exact h j (by omega)
  exact ifT (by simp[e]) ⟨false,rfl,by simp,fun h=>Kh (h.2 i hl) e⟩
 exact Bm ⟨true,rfl,fun _=>⟨hn,fun j c=>h j (by omega)⟩,fun _=>rfl⟩
def Bv3 {x y:Sl To}(a:x.n<N)(hs:x.n<10000000):∃b,N2 N x y=some b/\(b=true↔SE x y):=by obtain⟨b,h,hb⟩:=Bv2 (N:=N) (x:=x) (y:=y) a hs;exact⟨b,by unfold N2;rw[show H4 N x y=some b from h];rfl,hb⟩
def BZ1 {x y:Sl To}(a:x.n<N)(hs:x.n<10000000):∃b,Jd N x y=some b/\(b=true↔SE x y):=Bv2 a hs
abbrev okA (w:Sl To):Prop:=∀i,i<w.n->okS (w.g i)
end Go.AM
namespace Go.AM
open Go.Proofs
def dep:Nat->Pat->Prop
 |0,_=>False
 |d+1,p=>p.L.n<=40/\∀i,i<p.L.n->dep d (p.L.g i)
def BO9:∀(d:Nat) (p:Pat),dep d p->∀e,d<=e->dep e p
 |0,_,h,_,_=>h.elim
 |d+1,p,h,0,he=>by omega
 |d+1,p,h,e+1,he=>⟨h.1,fun i a=>BO9 d _ (h.2 i a) e (by omega)⟩
def AF6 {N:Nat}(o:1000<=N):∀(d:Nat),d<=40->∀(p:Pat) (M:Nat),N+d+2<=M->∃r:Nat,CT M p ((40-d:Nat):Int)=some (r:Int)/\40-d<r/\r<=41/\(r<=40->dep (d+1) p)
 |d,hd,p,0,hM=>by omega
 |d,hd,p,M+1,hM=>by
  have:∃x,CT (M+1) p ((40-d:Nat):Int)=some x/\∃r:Nat,x=(r:Int)/\40-d<r/\r<=41/\(r<=40->dep (d+1) p):=by
   show ∃x,Dt (CT M) M p _=some x/\_;unfold Dt;rw[Cl];refine N4 (fun i x1 x2=>x2=(i:Int)/\∃k:Nat,x1=(k:Int)/\40-d+1+i<=k/\k<=41/\i<=p.L.n/\(k<=40->∀j,j<i->dep d (p.L.g j))) 41 _ (by omega) ⟨rfl,40-d+1,rfl,by omega,by omega,by omega,fun _ j b=>Kh b (by omega)⟩ ?_;rintro f i x1 x2 q ⟨rfl,k,rfl,h1,c,s,l⟩ hs;by_cases hc:i<p.L.n/\k<=40
   .refine ifT (by simp only[Cl8,Sp];omega) (Ab ?_);obtain⟨r,m,r1,r2,r3⟩:=AF6 o (40-k) (by omega) (p.L.g i) M (by omega);rw[show ((40-(40-k):Nat):Int)=(k:Int) by omega]at m;refine B4 (by rw[Cl2];exact m) (hs (by omega) _ _ ⟨Cl,r,rfl,by omega,r2,by omega,fun a j b=>?_⟩);by_cases e:j=i
    .subst e;exact BO9 _ _ (r3 a) d (by omega)
    exact l hc.2 j (by omega)
   refine ifF (by simp only[Cl8,Sp];omega) ⟨_,rfl,k,rfl,by omega,c,fun hk=>⟨by omega,fun j b=>l hk j (by omega)⟩⟩
  obtain⟨x,h1,r,rfl,c⟩:=this;exact⟨r,h1,c⟩
def Ba0 {N:Nat}(b:2000<=N)(p:Pat):∃r:Nat,FF N p=some (r:Int)/\(r<=40->dep 41 p):=by obtain⟨r,h1,_,_,a⟩:=AF6 (N:=1000) (by omega) 40 (by omega) p N (by omega);exact⟨r,by unfold FF;rw[show CT N p 0=some (r:Int) from h1];rfl,a⟩
end Go.AM
namespace Go.AM
variable {N:Nat}
open IntKind (wrap)
open Go.Proofs
def Fd (s:Str):Bool:=(decide (1<=s.length)&&decide (s.length<=24))&&s.all fun c=>As7 ((c.toNat:Nat):Int)
def AF7 {s:Str}(m:s.length<N)(hs:s.length<1000000000){let_:Int->Option Bool}(hl:∀y,let_ y=some (As7 y)){fin:Bool}(n:fin=(decide (1<=s.length)&&decide (s.length<=24))) :T9 N (fun (a:Int->Option Bool) (x1:Int)=>
  if (decide (x1<(s.length:Int))) then
   if ((0:Int)<=x1/\x1<(s.length:Int))then
    (let_ (P8 s x1)).bind fun y3=>
    if (!y3) then
     some false
    else
     a (wrap .i64 (x1+1))
   else none
  else
   some fin
 ) 0=some (Fd s):=by
 suffices h:∃b,T9 N (fun (a:Int->Option Bool) (x1:Int)=>
  if (decide (x1<(s.length:Int))) then
   if ((0:Int)<=x1/\x1<(s.length:Int))then
    (let_ (P8 s x1)).bind fun y3=>
    if (!y3) then
     some false
    else
     a (wrap .i64 (x1+1))
   else none
  else
   some fin
  ) 0=some b/\b=Fd s by obtain⟨b,h,rfl⟩:=h;exact h
 refine Aq (fun i x1=>x1=(i:Int)/\∀j (h:j<s.length),j<i->As7 ((s[j].toNat:Nat):Int)=true) s.length _ m ⟨rfl,fun j _ f=>Kh f (by omega)⟩ ?_;rintro l i x1 q ⟨rfl,h⟩ g;by_cases d:i<s.length
 .have eb:P8 s (i:Int)=((s[i].toNat:Nat):Int):=by simp[P8,d]
  refine Ax (Ab (B4 (hl _) ?_));rw[eb];cases hb:As7 ((s[i].toNat:Nat):Int)
  .refine ifT rfl ⟨false,rfl,?_⟩;symm;unfold Fd;rw[CK8]
   right
   rw[List.all_eq_false];exact⟨s[i],CJ1 d,by rw[hb];simp⟩
  refine Ci (g d _ ⟨Cl,fun j f o=>?_⟩);by_cases e:j=i
  .subst e;exact hb
  exact h j f (by omega)
 refine Bm ⟨_,rfl,?_⟩;unfold Fd;rw[n]
 have:(s.all fun c=>As7 ((c.toNat:Nat):Int))=true:=Cn7.2 fun c hc=>by obtain⟨j,f,rfl⟩:=CG0 hc;exact h j f (by omega)
 rw[this,CF8]
def Bv4 {s:Str}(a:s.length<N)(hs:s.length<1000000000):ER N s=some (Fd s):=by unfold ER;exact AF7 a hs (fun y=>rfl) (by rw[Cp6];simp;omega)
def GU {s:Str}(a:s.length<N)(hs:s.length<1000000000):S2 N s=some (Fd s):=by unfold S2;exact AF7 a hs (fun y=>rfl) (by rw[Cp6];simp;omega)
def BZ2 (t:Sl J6)(v:Nat):Prop:=(v=0->(t.g 0).Parent = -1)/\(0<v->0<=(t.g v).Parent/\(t.g v).Parent<v)/\Fd (t.g v).Name=true/\∀u,u<v->(t.g u).Name≠(t.g v).Name
def Af (t:Sl J6):Prop:=1<=t.n/\t.n<=63/\∀v,v<t.n->BZ2 t v
def Bi3 (t:Sl J6)(e:Int):Prop:=(e=0/\Af t) \/ (e=16/\¬Af t)
def Bi4 {t:Sl J6}{e e' : Int}(h:Bi3 t e)(h' : Bi3 t e'):e=e':=by
 rcases h with⟨rfl,h⟩ | ⟨rfl,h⟩<;>rcases h' with⟨rfl,h'⟩ | ⟨rfl,h'⟩
 .rfl
 .exact Kh h h'
 .exact Kh h' h
 rfl
def Lb (t:Sl J6):Prop:=∀v,v<t.n->(t.g v).Name.length<1100000
def Bv5 (y:3000000<=N){t:Sl J6}(ht:Lb t):∃e,S7 N t=some e/\Bi3 t e:=by
 unfold S7;by_cases z:t.n<1
 .exact ifT (fun h=>Kh h (by simp;omega)) (Ax ⟨16,rfl,.inr ⟨rfl,fun h=>by have:=h.1;omega⟩⟩)
 refine ifT (fun _ _=>by omega) ?_;by_cases h1:63<t.n
 .exact Ax ⟨16,rfl,.inr ⟨rfl,fun h=>by have:=h.2.1;omega⟩⟩
 by_cases m:(t.g 0).Parent = -1
 case neg=>exact ifT (by simp[m]) ⟨16,rfl,.inr ⟨rfl,fun h=>m ((h.2.2 0 (by omega)).1 rfl)⟩⟩
 refine ifF (by simp[m];omega) ?_;refine Aq (fun i x1=>x1=(i:Int)/\∀j,j<i->BZ2 t j) t.n _ (by omega) ⟨rfl,fun j x=>Kh x (by omega)⟩ ?_;rintro f i x1 hi ⟨rfl,h⟩ hs;by_cases a:i<t.n
 case neg=>exact Bm ⟨0,rfl,.inl ⟨rfl,by omega,by omega,fun v hv=>h v (by omega)⟩⟩
 refine Ax (ltX ?_);have b:=GU (N:=N) (s:=(t.g i).Name) (by have:=ht i a;omega) (by have:=ht i a;omega);have rest:(0<i->0<=(t.g i).Parent/\(t.g i).Parent<i)->∃r,(if (!Fd (t.g i).Name) then some 16 else
  T9 N (fun (d:Int->Option Int) (x7:Int)=>
   if (decide (x7<(i:Int))) then
    if (((0:Int)<=x7/\x7<(t.n:Int))/\((0:Int)<=(i:Int)/\(i:Int)<(t.n:Int)))then
     if (((t.g x7.toNat).Name==(t.g (i:Int).toNat).Name) != false) then
      some 16
     else
      d (wrap .i64 (x7+1))
    else none
   else
    f (wrap .i64 ((i:Int)+1))
   ) 0)=some r/\Bi3 t r:=by
  intro hp;cases hb:Fd (t.g i).Name
  .exact ifT rfl ⟨16,rfl,.inr ⟨rfl,fun h=>by have:=(h.2.2 i a).2.2.1;rw[hb]at this;cases this⟩⟩
  refine Ci ?_;refine Aq (fun k x7=>x7=(k:Int)/\∀u,u<k->(t.g u).Name≠(t.g i).Name) i _ (by omega) ⟨rfl,fun u o=>Kh o (by omega)⟩ ?_;rintro q k x7 hk ⟨rfl,h'⟩ w;by_cases l:k<i
  .refine Ax (Ab ?_);rw[Cl2,Cl2];by_cases e:(t.g k).Name=(t.g i).Name
   .exact ifT (by simp[e]) ⟨16,rfl,.inr ⟨rfl,fun h=>(h.2.2 i a).2.2.2 k l e⟩⟩
   refine ifF (by simp[e]) (w l _ ⟨Cl,fun u o=>?_⟩);by_cases e2:u=k
   .subst e2;exact e
   exact h' u (by omega)
  refine Bm (hs a _ ⟨Cl,fun j x=>?_⟩);by_cases e:j=i
  .subst e;exact⟨fun e=>by subst e;exact m,hp,hb,fun u o=>h' u (by omega)⟩
  exact h j (by omega)
 by_cases c:0<i
 .refine Ax (Ab ?_);rw[Cl2];by_cases g1:(t.g i).Parent<0
  .exact ifT (by simpa using g1) (ifT rfl ⟨16,rfl,.inr ⟨rfl,fun h=>by have:=((h.2.2 i a).2.1 c).1;omega⟩⟩)
  refine ifF (by simpa using g1) (Ab ?_);by_cases g2:(i:Int)<=(t.g i).Parent
  .exact ifT (by simpa using g2) (ifT rfl ⟨16,rfl,.inr ⟨rfl,fun h=>by have:=((h.2.2 i a).2.1 c).2;omega⟩⟩)
  exact ifF (by simpa using g2) (Ab (B4 b (rest fun _=>⟨by omega,by omega⟩)))
 exact Bm (Ab (B4 (by rw[Cl2];exact b) (rest fun h=>Kh h c)))
def RA {ν : Type}{k s:Str}{v : ν}:∀es:List (Str × ν),DW eqS s (Rk eqS k v es)=if s=k then some v else DW eqS s es
 |[]=>by simp only[Rk,DW];by_cases h:s=k<;>simp[eqS,h]
 |(a,x)::es=>by
  simp only[Rk];by_cases h:k=a
  .subst h;rw[Il (by simp[eqS])];simp only[DW];by_cases b:s=k<;>simp[eqS,b]
  rw[Ix (by simp[eqS,h])];simp only[DW];rw[RA es];by_cases b:s=k
  .subst b;simp[eqS,h]
  simp[b]
def Ba1 {ν : Type}{k:Str}{v : ν}:∀{es:List (Str × ν)},DW eqS k es=none->(Rk eqS k v es).length=es.length+1
 |[],_=>rfl
 |(a,x)::es,h=>by
  simp only[DW]at h;simp only[Rk];by_cases e:eqS k a=true
  .rw[Il e]at h;cases h
  rw[Ix e]at h;rw[Ix e,Co6,Ba1 h];rfl
def Ba2 {ν : Type}{k:Str}{v x : ν}:∀{es:List (Str × ν)},DW eqS k es=some x->(Rk eqS k v es).length=es.length
 |[],h=>by cases h
 |(a,y)::es,h=>by
  simp only[DW]at h;simp only[Rk];by_cases e:eqS k a=true
  .rw[Il e];rfl
  rw[Ix e]at h;rw[Ix e,Co6,Ba2 h];rfl
def Bv6 (m:3000000<=N){t:Sl J6}(ht:Lb t):∃e,X4 N t=some e/\Bi3 t e:=by
 unfold X4;by_cases o:t.n=0 \/ 63<t.n
 .exact Ax ⟨16,rfl,.inr ⟨rfl,fun h=>by have g1:=h.1;have g2:=h.2.1;omega⟩⟩
 refine Bm ?_;refine N4 (fun i (x2:List (Str×Bool)) x3=>x3=(i:Int)/\(∀j,j<i->BZ2 t j)/\∀s,(DW eqS s x2=some true/\∃u,u<i/\(t.g u).Name=s) \/ (DW eqS s x2=none/\∀u,u<i->(t.g u).Name≠s)) t.n _ (by omega) ⟨rfl,fun j f=>Kh f (by omega),fun s=>.inr ⟨rfl,fun u c=>Kh c (by omega)⟩⟩ ?_;rintro l i x2 x3 q ⟨rfl,h,hm⟩ hs;by_cases a:i<t.n
 case neg=>exact Bm ⟨0,rfl,.inl ⟨rfl,by omega,by omega,fun v r=>h v (by omega)⟩⟩
 refine Ax (Ab (ltX ?_));rw[Cl2];have b:=Bv4 (N:=N) (s:=(t.g i).Name) (by have:=ht i a;omega) (by have:=ht i a;omega);have e1:(if 0<wrap .i64 ((i:Int)-1)then (0:Int)else wrap .i64 ((i:Int)-1))=if i=0 then -1 else 0:=by rw[E8 (by omega) (by omega)];split<;>split<;>omega
 rw[e1];by_cases g1:(i:Int)<=(t.g i).Parent
 .refine ifT (by simpa using g1) (ifT rfl ⟨16,rfl,.inr ⟨rfl,fun h=>?_⟩⟩);have hk:=h.2.2 i a;by_cases d:i=0
  .subst d;have:=hk.1 rfl;omega
  have:=(hk.2.1 (by omega)).2;omega
 refine ifF (by simpa using g1) ?_;by_cases g2:(t.g i).Parent<if i=0 then -1 else 0
 .refine ifT (by simpa using g2) (ifT rfl ⟨16,rfl,.inr ⟨rfl,fun h=>?_⟩⟩);have hk:=h.2.2 i a;by_cases d:i=0
  .subst d;have:=hk.1 rfl;simp at g2;omega
  have:=(hk.2.1 (by omega)).1;simp[d]at g2;omega
 refine ifF (by simpa using g2) (B4 b ?_);cases hb:Fd (t.g i).Name
 .exact ifT rfl (ifT rfl ⟨16,rfl,.inr ⟨rfl,fun h=>by have:=(h.2.2 i a).2.2.1;rw[hb]at this;cases this⟩⟩)
 refine Ci ?_;rcases hm (t.g i).Name with⟨e,u,c,hn⟩ | ⟨e,hn⟩
 .rw[e];exact⟨16,rfl,.inr ⟨rfl,fun h=>(h.2.2 i a).2.2.2 u c hn⟩⟩
 rw[e,Vz];refine ifF (show ¬false=true by simp) (hs a _ _ ⟨Cl,fun j f=>?_,fun s=>?_⟩)
 .by_cases e:j=i
  .subst e;refine⟨fun e=>?_,fun hp=>?_,hb,hn⟩
   .subst e;simp at g2;omega
   have:¬j=0:=by omega
   simp[this]at g2;omega
  exact h j (by omega)
 rw[RA];by_cases e:s=(t.g i).Name
 .exact .inl ⟨by rw[Il e],i,by omega,e.symm⟩
 rw[Ix e];rcases hm s with⟨g,u,c,hn⟩ | ⟨g,hn⟩
 .exact .inl ⟨g,u,by omega,hn⟩
 refine .inr ⟨g,fun u c=>?_⟩;by_cases e2:u=i
 .subst e2;exact fun h=>e h.symm
 exact hn u (by omega)
def MI (a:3000000<=N){t:Sl J6}(ht:Lb t):∃e,X4 N t=some e/\S7 N t=some e/\Bi3 t e:=by obtain⟨e,h1,b⟩:=Bv6 a ht;obtain⟨e',c,d⟩:=Bv5 a ht;obtain rfl:=Bi4 b d;exact⟨_,h1,c,b⟩
end Go.AM
namespace Go.AM
open IntKind (wrap)
open Go.Proofs
structure I6 (h:A5):Prop where
 laws:HU h.Laws
 tree:Lb h.Tree
 on:h.On.n<1100000
 len:∀v,v<h.On.n->(h.On.g v).n<1100000
def Fe (h:A5)(v:Nat):Sl Int:= if hp:0<=(h.Tree.g v).Parent/\(h.Tree.g v).Parent<v then (Fe h (h.Tree.g v).Parent.toNat).app (h.On.g v)else (Sl.nil:Sl Int).app (h.On.g v)
termination_by v
decreasing_by omega
def En {h:A5}{v:Nat}(a:(h.Tree.g v).Parent<0):Fe h v=(Sl.nil:Sl Int).app (h.On.g v):=by rw[Fe,dif_neg (by omega)]
def Jn {h:A5}{v p:Nat}(a:(h.Tree.g v).Parent=(p:Int))(hp:p<v):Fe h v=(Fe h p).app (h.On.g v):=by rw[Fe,dif_pos (by omega),a,Cl2]
def Z5 {t:Sl J6}(ht:Af t){v:Nat}(a:v<t.n):(v=0/\(t.g v).Parent = -1) \/ ∃p:Nat,p<v/\(t.g v).Parent=(p:Int):=by
 have hk:=ht.2.2 v a;by_cases b:v=0
 .subst b;exact .inl ⟨rfl,hk.1 rfl⟩
 obtain⟨g1,g2⟩:=hk.2.1 (by omega);exact .inr ⟨(t.g v).Parent.toNat,by omega,by omega⟩
def AR9 {h:A5}(a:I6 h)(ht:Af h.Tree)(hn:h.On.n=h.Tree.n):∀(m v:Nat),v<=m->v<h.Tree.n->(Fe h v).n<=(v+1)*1100000
 |m,v,hm,hv=>by
  have hl:=a.len v (by omega);rcases Z5 ht hv with⟨_,e⟩ | ⟨p,hp,e⟩
  .rw[En (by omega)];show 0+(h.On.g v).n<=_;omega
  rw[Jn e hp]
  match m with
  |0=>omega
  |m+1=>
   have:=AR9 a ht hn m p (by omega) (by omega)
   show (Fe h p).n+(h.On.g v).n<=_;have b:(p+1)*1100000+1100000<=(v+1)*1100000:=by omega
   omega
def AF8 {h:A5}(a:I6 h)(ht:Af h.Tree)(hn:h.On.n=h.Tree.n):∀(M v:Nat),v+2<=M->v<h.Tree.n->BU M h (v:Int)=some (Fe h v)
 |0,v,hM,_=>by omega
 |M+1,v,hM,hv=>by
  have b:=ht.2.1;show R5 (BU M) M h (v:Int)=_;unfold R5;rw[Ic,Cw,Cl2];have hl:=a.len v (by omega);rcases Z5 ht hv with⟨c,e⟩ | ⟨p,hp,e⟩
  .rw[e,En (by omega)]
   have:BU M h (-1)=some (Sl.nil:Sl Int):=by obtain⟨K,rfl⟩:∃K,M=K+1:=⟨M-1,by omega⟩;show R5 (BU K) K h (-1)=_;unfold R5;rw[Il (by decide)]
   rw[this,Cl3,Il ⟨by omega,by show (0+(h.On.g v).n)*8<=_/\0+(h.On.g v).n<=_;omega⟩]
  have hb:=AR9 a ht hn p p (Cl9 _) (by omega);rw[e,AF8 a ht hn M p (by omega) (by omega),Cl3,Jn e hp,Il ⟨by omega,by omega⟩]
def AS0 (h:A5):Prop:=∃v,v<h.On.n/\64<(Fe h v).n
def BZ3 (h:A5)(v:Nat):Prop:=∃k,k<(h.On.g v).n/\((h.On.g v).g k<0 \/ (h.Laws.n:Int)<=(h.On.g v).g k)
def Bv7 (h:A5)(e:Int):Prop:=(AS0 h/\e=2) \/ (¬AS0 h/\(∃v,v<h.On.n/\BZ3 h v)/\e=3) \/ (¬AS0 h/\(∀v,v<h.On.n->¬BZ3 h v)/\e=0)
def Bv8 {N:Nat}(hN:3000000<=N){h:A5}(hi:I6 h)(ht:Af h.Tree)(hn:h.On.n=h.Tree.n):∃e,Bw N h=some e/\Bv7 h e:=by
 have h63:=ht.2.1;unfold Bw;refine Ab ?_;refine KU (fun i (x4:Sl Int) (x5:Bool) x6=>x6=(i:Int)/\x4.n=h.On.n/\(∀v,v<i->x4.g v=((Fe h v).n:Int)/\(Fe h v).n<=64)/\(x5=true ↔ ∃v,v<i/\BZ3 h v)) h.On.n _ (by omega) ⟨rfl,by show ((h.On.n:Nat):Int).toNat=_;omega,fun v b=>Kh b (by omega),⟨fun g=>(by cases g),fun⟨v,b,_⟩=>Kh b (by omega)⟩⟩ ?_;rintro m i x4 x5 x6 hle ⟨rfl,hx,hp,hb⟩ hs;by_cases o:i<h.On.n
 case neg=>
  refine Bm ?_;have hl:¬AS0 h:=fun⟨v,b,hl⟩=>by have:=(hp v (by omega)).2;omega
  cases x5
  .exact Ci ⟨0,rfl,.inr (.inr ⟨hl,fun v b g=>(by have:=hb.2 ⟨v,by omega,g⟩;cases this),rfl⟩)⟩
  obtain⟨v,b,g⟩:=hb.1 rfl;exact ifT rfl ⟨3,rfl,.inr (.inl ⟨hl,⟨v,by omega,g⟩,rfl⟩)⟩
 refine Ax (ifT (by rw[Cl2];omega) (Ab (ltX ?_)));rw[Cl2];have hl:=hi.len i (by omega);have hlb:=AR9 hi ht hn i i (Cl9 _) (by omega);have rest:∀z:Sl Int,z.n=h.On.n->(∀v,v<i->z.g v=x4.g v)->z.g i=((Fe h i).n:Int)->∃r,(if (((0:Int)<=(i:Int)/\(i:Int)<(z.n:Int))/\i<z.n)then
  if (decide (64<(z.g i))) then
   some 2
  else
   P9 N (fun (d:Bool->Int->Option Int) (c:Bool) (a:Int)=>
    if (decide (a<((h.On.g i).n:Int))) then
     if ((0:Int)<=a/\a<((h.On.g i).n:Int))then
      d ((c||(decide (((h.On.g i).g a.toNat)<0)))||(decide ((h.Laws.n:Int)<=((h.On.g i).g a.toNat)))) (wrap .i64 (a+1))
     else none
    else
     m z c (wrap .i64 ((i:Int)+1))
    ) x5 0
  else none)=some r/\Bv7 h r:=by
  intro z hz u q;refine Ab ?_;rw[q];by_cases w:64<(Fe h i).n
  .exact Ax ⟨2,rfl,.inl ⟨⟨i,o,w⟩,rfl⟩⟩
  refine Bm ?_;refine N4 (fun k (c:Bool) a=>a=(k:Int)/\(c=true↔(∃v,v<i/\BZ3 h v) \/ ∃j,j<k/\j<(h.On.g i).n/\((h.On.g i).g j<0 \/ (h.Laws.n:Int)<=(h.On.g i).g j))) (h.On.g i).n _ (by omega) ⟨rfl,hb.trans ⟨fun g=>.inl g,fun g=>g.resolve_right fun⟨j,f,_⟩=>Kh f (by omega)⟩⟩ ?_;rintro x k c a hk ⟨rfl,s⟩ y;by_cases l:k<(h.On.g i).n
  .refine Ax (Ab (y l _ _ ⟨Cl,?_⟩));rw[Cl2,Co3,Co3,s,Sp,Sp];constructor
   .rintro (((g|⟨j,f,g⟩)|g)|g)
    .exact .inl g
    .exact .inr ⟨j,by omega,g⟩
    .exact .inr ⟨k,by omega,l,.inl g⟩
    exact .inr ⟨k,by omega,l,.inr g⟩
   rintro (g|⟨j,f,a0,g⟩)
   .exact .inl (.inl (.inl g))
   by_cases e:j=k
   .subst e;rcases g with g|g
    .exact .inl (.inr g)
    exact .inr g
   exact .inl (.inl (.inr ⟨j,by omega,a0,g⟩))
  refine Bm (hs o _ _ _ ⟨Cl,hz,fun v b=>?_,s.trans ?_⟩)
  .by_cases e:v=i
   .subst e;exact⟨q,by omega⟩
   rw[u v (by omega)];exact hp v (by omega)
  constructor
  .rintro (⟨v,b,g⟩ | ⟨j,_,f,g⟩)
   .exact⟨v,by omega,g⟩
   exact⟨i,by omega,j,f,g⟩
  rintro⟨v,b,g⟩;by_cases e:v=i
  .subst e;obtain⟨j,f,g⟩:=g;exact .inr ⟨j,by omega,f,g⟩
  exact .inl ⟨v,by omega,g⟩
 rcases Z5 ht (v:=i) (by omega)with⟨_,e⟩ | ⟨p,t,e⟩
 .rw[e];refine Ck (rest _ hx (fun v b=>?_) ?_)
  .show (if v=i then _ else x4.g v)=_;rw[Fp]
  show (if i=i then ((h.On.g i).n:Int)else _)=_;rw[Il rfl,En (by omega)];show _=((0+(h.On.g i).n:Nat):Int);omega
 have a1:=hp p t;rw[e];refine Ay (ifT ?_ ?_)
 .show ((((((0:Int)<=(i:Int)/\(i:Int)<(x4.n:Int))/\i<x4.n)/\(0:Int)<=(p:Int)/\(p:Int)<(x4.n:Int))/\(p:Int).toNat<x4.n)/\(0:Int)<=(i:Int)/\(i:Int)<(x4.n:Int))/\i<x4.n;omega
 rw[Cl2];refine rest _ hx (fun v b=>?_) ?_
 .show (if v=i then _ else if v=i then _ else x4.g v)=_;rw[Fp,Fp]
 show (if i=i then wrap .i64 ((if i=i then ((h.On.g i).n:Int)else _)+(if p=i then _ else x4.g p))else _)=_;rw[Il rfl,Il rfl,Fp,a1.1,Jn e t,E8 (by omega) (by omega)];show _=(((Fe h p).n+(h.On.g i).n:Nat):Int);omega
end Go.AM
namespace Go.AM
variable {N:Nat}
open Go.Proofs
def Cc4 (h:A5)(i:Nat):Prop:=∃u v,u<v/\v<i/\(h.Laws.g u).Name=(h.Laws.g v).Name
open Classical in
noncomputable def hres (N:Nat) (h:A5):Int:= if ¬Af h.Tree then 16 else if 64<h.Laws.n then 12 else if ∃i,i<h.Laws.n/\¬chkAll N (h.Laws.g i)then 17 else if Cc4 h h.Laws.n then 6 else if h.On.n≠h.Tree.n then 2 else if AS0 h then 2 else if ∃v,v<h.On.n/\BZ3 h v then 3 else 0
structure U7 (N:Nat) (h:A5):Prop where
 tree:Af h.Tree
 laws:HV N h.Laws
 dup:¬Cc4 h h.Laws.n
 on:h.On.n=h.Tree.n
 long:¬AS0 h
 bad:∀v,v<h.On.n->¬BZ3 h v
def hres_zero {h:A5}:hres N h=0↔U7 N h:=by
 unfold hres;constructor
 .intro g;split at g
  .cases g
  split at g
  .cases g
  split at g
  .cases g
  split at g
  .cases g
  split at g
  .cases g
  split at g
  .cases g
  split at g
  .cases g
  rename_i h1 n c d f j l;exact⟨CI1.1 h1,⟨by omega,fun i a=>Cn1 fun hn=>c ⟨i,a,hn⟩⟩,d,CI1.1 f,j,fun v b hb=>l ⟨v,b,hb⟩⟩
 intro g;have m:=g.laws.1;rw[Ix (fun k=>k g.tree),Fp,Ix (fun⟨i,a,hn⟩=>hn (g.laws.2 i a)),Ix g.dup,Ix (fun k=>k g.on),Ix g.long,Ix (fun⟨v,b,hb⟩=>g.bad v b hb)]
def HW {h:A5}(h1:Af h.Tree)(a:HV N h.Laws)(b:¬Cc4 h h.Laws.n)(c:h.On.n=h.Tree.n){e:Int}(d:Bv7 h e):e=hres N h:=by
 have f:=a.1;unfold hres;rw[Ix (fun k=>k h1),Fp,Ix (fun⟨i,j,hn⟩=>hn (a.2 i j)),Ix b,Ix (fun k=>k c)];rcases d with⟨g,rfl⟩ | ⟨g,g2,rfl⟩ | ⟨g,g2,rfl⟩
 .rw[Il g]
 .rw[Ix g,Il g2]
 rw[Ix g,Ix (fun⟨v,l,hb⟩=>g2 v l hb)]
def RB (z:3000000<=N){h:A5}(o:I6 h):R6 N h=some (hres N h):=by
 suffices g:∃r,R6 N h=some r/\r=hres N h by obtain⟨r,g,rfl⟩:=g;exact g
 obtain⟨e,e1,_,he⟩:=MI z o.tree;unfold R6;refine B4 e1 ?_;rcases he with⟨rfl,ht⟩ | ⟨rfl,ht⟩
 case inr=>exact Bf ⟨16,rfl,by unfold hres;rw[Il ht]⟩
 refine Ck ?_;by_cases c:64<h.Laws.n
 .exact Ax ⟨12,rfl,by unfold hres;rw[Ix (fun k=>k ht),Il c]⟩
 refine Bm ?_;refine N4 (fun i (x1:List (Str×Int)) x2=>x2=(i:Int)/\(∀j,j<i->chkAll N (h.Laws.g j))/\(∀s,(DW eqS s x1=none/\∀u,u<i->(h.Laws.g u).Name≠s) \/ (∃v,DW eqS s x1=some v)/\∃u,u<i/\(h.Laws.g u).Name=s)/\((Cc4 h i/\x1.length<i) \/ (¬Cc4 h i/\x1.length=i))) h.Laws.n _ (by omega)
  ⟨rfl,fun j hj=>Kh hj (by omega),fun s=>.inl ⟨rfl,fun u q=>Kh q (by omega)⟩,.inr ⟨fun⟨u,v,_,hv,_⟩=>Kh hv (by omega),rfl⟩⟩ ?_
 rintro self i x1 x2 hle ⟨rfl,hc,hm,hl⟩ hs;by_cases d:i<h.Laws.n
 .obtain⟨y,y1,_,hy⟩:=HS z (o.laws i d);refine Ax (Ab (B4 (by rw[Cl2];exact y1) ?_));rcases hy with⟨rfl,hy⟩ | ⟨rfl,hy⟩
  case inr=>exact Bf ⟨17,rfl,by unfold hres;rw[Ix (fun k=>k ht),Ix c,Il ⟨i,d,hy⟩]⟩
  refine Ck ?_;rw[Cl2];have t : ∀j,j<i+1->chkAll N (h.Laws.g j):=fun j hj=>by
   by_cases e:j=i
   .subst e;exact hy
   exact hc j (by omega)
  have look:∀(v:Int) (s:Str),(DW eqS s (Rk eqS (h.Laws.g i).Name v x1)=none/\∀u,u<i+1->(h.Laws.g u).Name≠s) \/ (∃w,DW eqS s (Rk eqS (h.Laws.g i).Name v x1)=some w)/\∃u,u<i+1/\(h.Laws.g u).Name=s:=by
   intro v s;rw[RA];by_cases e:s=(h.Laws.g i).Name
   .exact .inr ⟨⟨v,by rw[Il e]⟩,i,by omega,e.symm⟩
   rw[Ix e];rcases hm s with⟨g,g2⟩ | ⟨g,u,q,g2⟩
   .refine .inl ⟨g,fun u q=>?_⟩;by_cases e2:u=i
    .subst e2;exact fun k=>e k.symm
    exact g2 u (by omega)
   exact .inr ⟨g,u,by omega,g2⟩
  rcases hm (h.Laws.g i).Name with⟨g,g2⟩ | ⟨⟨v,g⟩,u,q,g2⟩
  .rw[g,Vz];refine hs d _ _ ⟨Cl,t,look _,?_⟩;rw[Ba1 g];rcases hl with⟨⟨a,b,f,hb,hn⟩,hl⟩ | ⟨m,hl⟩
   .exact .inl ⟨⟨a,b,f,by omega,hn⟩,by omega⟩
   refine .inr ⟨fun⟨a,b,f,hb,hn⟩=>?_,by omega⟩;by_cases e:b=i
   .subst e;exact g2 a f hn
   exact m ⟨a,b,f,by omega,hn⟩
  rw[g,Bp5];refine hs d _ _ ⟨Cl,t,look _,?_⟩;rw[Ba2 g];refine .inl ⟨⟨u,i,q,by omega,g2⟩,?_⟩;rcases hl with⟨_,hl⟩ | ⟨_,hl⟩<;>omega
 obtain rfl:i=h.Laws.n:=by omega
 have hok:HV N h.Laws:=⟨by omega,hc⟩;have x:¬ ∃i,i<h.Laws.n/\¬chkAll N (h.Laws.g i):=fun⟨i,o,hn⟩=>hn (hc i o);refine Ci ?_;rw[AM4];rcases hl with⟨m,hl⟩ | ⟨m,hl⟩
 .exact Ax ⟨6,rfl,by unfold hres;rw[Ix (fun k=>k ht),Ix c,Ix x,Il m]⟩
 refine Bm ?_;by_cases l:h.On.n=h.Tree.n
 case neg=>exact Ax ⟨2,rfl,by unfold hres;rw[Ix (fun k=>k ht),Ix c,Ix x,Ix m,Il l]⟩
 refine ifF (by simp[l]) ?_;obtain⟨e,e1,he⟩:=Bv8 z o ht l;exact B4 e1 ⟨e,rfl,HW ht hok m l he⟩
def Qj (hN:3000000<=N){h:A5}(q:I6 h):P6 N h=some (hres N h):=by
 suffices g:∃r,P6 N h=some r/\r=hres N h by obtain⟨r,g,rfl⟩:=g;exact g
 obtain⟨e,_,e1,he⟩:=MI hN q.tree;unfold P6;refine B4 e1 ?_;rcases he with⟨rfl,ht⟩ | ⟨rfl,ht⟩
 case inr=>exact Bf ⟨16,rfl,by unfold hres;rw[Il ht]⟩
 refine Ck ?_;by_cases f:64<h.Laws.n
 .exact Ax ⟨12,rfl,by unfold hres;rw[Ix (fun k=>k ht),Il f]⟩
 refine Bm ?_;refine Aq (fun i x1=>x1=(i:Int)/\∀j,j<i->chkAll N (h.Laws.g j)) h.Laws.n _ (by omega) ⟨rfl,fun j s=>Kh s (by omega)⟩ ?_;rintro self i x1 hle ⟨rfl,hc⟩ hs;by_cases a:i<h.Laws.n
 .obtain⟨y,_,y1,hy⟩:=HS hN (q.laws i a);refine Ax (Ab (B4 (by rw[Cl2];exact y1) ?_));rcases hy with⟨rfl,hy⟩ | ⟨rfl,hy⟩
  case inr=>exact Bf ⟨17,rfl,by unfold hres;rw[Ix (fun k=>k ht),Ix f,Il ⟨i,a,hy⟩]⟩
  refine Ck (hs a _ ⟨Cl,fun j s=>?_⟩);by_cases e:j=i
  .subst e;exact hy
  exact hc j (by omega)
 obtain rfl:i=h.Laws.n:=by omega
 have l:HV N h.Laws:=⟨by omega,hc⟩;have w:¬ ∃i,i<h.Laws.n/\¬chkAll N (h.Laws.g i):=fun⟨i,q,hn⟩=>hn (hc i q);refine Ci ?_;refine Aq (fun i x1=>x1=(i:Int)/\¬Cc4 h i) h.Laws.n _ (by omega) ⟨rfl,fun⟨u,v,_,d,_⟩=>Kh d (by omega)⟩ ?_;rintro a3 i x1 hle2 ⟨rfl,t⟩ a4;by_cases a:i<h.Laws.n
 .refine Ax ?_;refine Aq (fun k x5=>x5=(k:Int)/\∀u,u<k->(h.Laws.g u).Name≠(h.Laws.g i).Name) i _ (by omega) ⟨rfl,fun u hu=>Kh hu (by omega)⟩ ?_;rintro a5 k x5 hk ⟨rfl,x⟩ a6;by_cases z:k<i
  .refine Ax (Ab ?_);rw[Cl2,Cl2];by_cases e:(h.Laws.g k).Name=(h.Laws.g i).Name
   .exact ifT (by simp[e]) ⟨6,rfl,by unfold hres;rw[Ix (fun k=>k ht),Ix f,Ix w,Il ⟨k,i,z,a,e⟩]⟩
   refine ifF (by simp;exact fun g=>e g.symm) (a6 z _ ⟨Cl,fun u hu=>?_⟩);by_cases e2:u=k
   .subst e2;exact e
   exact x u (by omega)
  refine Bm (a4 a _ ⟨Cl,fun⟨u,v,a7,d,hn⟩=>?_⟩);by_cases e:v=i
  .subst e;exact x u (by omega) hn
  exact t ⟨u,v,a7,by omega,hn⟩
 obtain rfl:i=h.Laws.n:=by omega
 refine Ci ?_;by_cases b:h.On.n=h.Tree.n
 case neg=>exact Ax ⟨2,rfl,by unfold hres;rw[Ix (fun k=>k ht),Ix f,Ix w,Ix t,Il b]⟩
 refine ifF (by simp[b]) ?_;have h63:=ht.2.1;refine Aq (fun i x1=>x1=(i:Int)/\∀v,v<i->¬ 64<(Fe h v).n) h.On.n _ (by omega) ⟨rfl,fun v d=>Kh d (by omega)⟩ ?_;rintro a8 i x1 hle3 ⟨rfl,a0⟩ a9;by_cases a:i<h.On.n
 .refine Ax (B4 (AF8 q ht b N i (by omega) (by omega)) ?_);by_cases hg:64<(Fe h i).n
  .exact Ax ⟨2,rfl,HW ht l t b (.inl ⟨⟨i,a,hg⟩,rfl⟩)⟩
  refine Bm (a9 a _ ⟨Cl,fun v d=>?_⟩);by_cases e:v=i
  .subst e;exact hg
  exact a0 v (by omega)
 refine Bm ?_;have m:¬AS0 h:=fun⟨v,d,g⟩=>a0 v (by omega) g;refine Aq (fun i x1=>x1=(i:Int)/\∀v,v<i->¬BZ3 h v) h.On.n _ (by omega) ⟨rfl,fun v d=>Kh d (by omega)⟩ ?_;rintro b0 i x1 hle4 ⟨rfl,a1⟩ b1;by_cases c:i<h.On.n
 .have hl:=q.len i c;refine Ax ?_;refine Aq (fun k x1=>x1=(k:Int)/\∀j,j<k->¬((h.On.g i).g j<0 \/ (h.Laws.n:Int)<=(h.On.g i).g j)) (h.On.g i).n _ (by omega) ⟨rfl,fun j s=>Kh s (by omega)⟩ ?_;rintro b2 k x1 hk ⟨rfl,a2⟩ b3;refine Ab ?_;rw[Cl2,Cl2];by_cases o:k<(h.On.g i).n
  .refine Ax (Ab ?_);by_cases g1:(h.On.g i).g k<0
   .exact ifT (by simpa using g1) ⟨3,rfl,HW ht l t b (.inr (.inl ⟨m,⟨i,c,k,o,.inl g1⟩,rfl⟩))⟩
   refine ifF (by simpa using g1) (Ab ?_);by_cases g2:(h.Laws.n:Int)<=(h.On.g i).g k
   .exact ifT (by simpa using g2) ⟨3,rfl,HW ht l t b (.inr (.inl ⟨m,⟨i,c,k,o,.inr g2⟩,rfl⟩))⟩
   refine ifF (by simpa using g2) (b3 o _ ⟨Cl,fun j s=>?_⟩);by_cases e:j=k
   .subst e;exact fun g=>g.elim g1 g2
   exact a2 j (by omega)
  refine Bm (b1 c _ ⟨Cl,fun v d=>?_⟩);by_cases e:v=i
  .subst e;exact fun⟨j,s,g⟩=>a2 j (by omega) g
  exact a1 v (by omega)
 exact Bm ⟨0,rfl,HW ht l t b (.inr (.inr ⟨m,fun v d=>a1 v (by omega),rfl⟩))⟩
end Go.AM
namespace Go.AM
open Go.Proofs
def Ku (t:Sl J6)(v:Nat):List Nat:= if hp:0<=(t.g v).Parent/\(t.g v).Parent<v then Ku t (t.g v).Parent.toNat++[v]else [v]
termination_by v
decreasing_by omega
def HX {t:Sl J6}{v:Nat}(a:(t.g v).Parent<0):Ku t v=[v]:=by rw[Ku,dif_neg (by omega)]
def RC {t:Sl J6}{v p:Nat}(a:(t.g v).Parent=(p:Int))(hp:p<v):Ku t v=Ku t p++[v]:=by rw[Ku,dif_pos (by omega),a,Cl2]
def RD {t:Sl J6}(ht:Af t):∀(m v:Nat),v<=m->v<t.n->∀x∈Ku t v,x<=v
 |m,v,hm,hv,x,hx=>by
  rcases Z5 ht hv with⟨_,e⟩ | ⟨p,hp,e⟩
  .rw[HX (by omega)]at hx;simp at hx;omega
  rw[RC e hp]at hx;rcases List.mem_append.1 hx with hx|hx
  .match m with
   |0=>omega
   |m+1=>have:=RD ht m p (by omega) (by omega) x hx;omega
  simp at hx;omega
def Ba3 {t:Sl J6}(ht:Af t):∀(m v:Nat),v<=m->v<t.n->(Ku t v).length<=v+1
 |m,v,hm,hv=>by
  rcases Z5 ht hv with⟨_,e⟩ | ⟨p,hp,e⟩
  .rw[HX (by omega)];simp
  rw[RC e hp]
  match m with
  |0=>omega
  |m+1=>have:=Ba3 ht m p (by omega) (by omega);simp;omega
def As9 (h:A5)(l:Sl Int):Sl Law:=⟨l.n,fun i=>h.Laws.g (l.g i).toNat⟩
end Go.AM
namespace Go.AM
variable {N:Nat}
open Go.Proofs
def ZC (N:Nat)(l:Law)(w:Sl To):Option (Sl To):=(Y2 N l w).bind fun y=>if y.2=0 then some y.1 else none
def Ff (N:Nat):List Law->Sl To->Option (Sl To)
 |[],w=>some w
 |l::L,w=>(ZC N l w).bind (Ff N L)
def Bi5 (N:Nat)(l:Law):Prop:=Tz l/\chkAll N l
def BI6 {l l' : Law}(h:LE l l')(g:Bi5 N l):Bi5 N l':=⟨UR h g.1,(HT h).1 g.2⟩
def OR (o o' : Option (Sl To)):Prop:=(o=none/\o' = none) \/ ∃v v',o=some v/\o' = some v' /\ SE v v' /\ wOk v
def AS1 (a:3000000<=N){l:Law}(hl:Bi5 N l){w:Sl To}(hw:wOk w):(∃v,Y2 N l w=some (v,0)/\ZC N l w=some v/\wOk v) \/ (∃v,Y2 N l w=some (v,11)/\ZC N l w=none):=by
 obtain⟨⟨v,e⟩,_,h1,_,_,_,b⟩:=Qg a hl.1 (LE.refl l) (SE.refl w) fun i c=>(hw.2 i c).ok;rcases b with⟨_,h⟩ | ⟨_,h,h'⟩ | ⟨_,_,h|⟨h,h'⟩⟩
 .exact Kh hl.2 h
 .exact Kh ((DB h).2 hw) h'
 .dsimp only at h;subst h;exact .inr ⟨v,h1,by unfold ZC;rw[h1];rfl⟩
 dsimp only at h h';subst h;exact .inl ⟨v,h1,by unfold ZC;rw[h1];rfl,h'⟩
def Cj1 (c:3000000<=N){l l' : Law}(hl:Bi5 N l)(hle:LE l l'){w w' : Sl To}(hw:wOk w)(a:SE w w'):OR (ZC N l w) (ZC N l' w'):=by
 have b:=a.wOk hw;obtain⟨r,r',h1,g,j,f,_⟩:=Qg c hl.1 hle a fun i d=>(hw.2 i d).ok;obtain⟨q,q',k1,k2,k3,k4,_⟩:=Qg c (UR hle hl.1) (LE.refl l') (SE.refl w') fun i d=>(b.2 i d).ok;obtain rfl:=Cm3 (g.symm.trans k2);rcases AS1 c hl hw with⟨v,g1,g2,g3⟩ | ⟨v,g1,g2⟩<;>rcases AS1 c (BI6 hle hl) b with⟨u,p1,p2,p3⟩ | ⟨u,p1,p2⟩
 .obtain rfl:=Cm3 (g1.symm.trans h1);obtain rfl:=Cm3 (p1.symm.trans k1);exact .inr ⟨v,u,g2,p2,j.trans k3.symm,g3⟩
 .obtain rfl:=Cm3 (g1.symm.trans h1);obtain rfl:=Cm3 (p1.symm.trans k1);exact Kh (f.trans k4.symm) (by show ¬((0:Int)=11);decide)
 .obtain rfl:=Cm3 (g1.symm.trans h1);obtain rfl:=Cm3 (p1.symm.trans k1);exact Kh (f.trans k4.symm) (by show ¬((11:Int)=0);decide)
 exact .inl ⟨g2,p2⟩
def LEs:List Law->List Law->Prop
 |[],[]=>True
 |p::l,q::m=>LE p q/\LEs l m
 |_,_=>False
def Bv9 {N:Nat}(a:3000000<=N):∀(L L' : List Law) (w w' : Sl To),(∀l∈L,Bi5 N l)->LEs L L' -> wOk w->SE w w' -> OR (Ff N L w) (Ff N L' w')
 |[],[],w,w',_,_,hw,hse=>.inr ⟨w,w',rfl,rfl,hse,hw⟩
 |l::L,l' :: L',w,w',hg,⟨h1,h2⟩,hw,hse=>by
  unfold Ff;rcases Cj1 a (hg l (by simp)) h1 hw hse with⟨e1,e2⟩ | ⟨v,v',e1,e2,e3,e4⟩
  .rw[e1,e2];exact .inl ⟨rfl,rfl⟩
  rw[e1,e2];exact Bv9 a L L' v v' (fun x hx=>hg x (by simp[hx])) h2 e4 e3
 |[],_::_,_,_,_,h,_,_=>h.elim
 |_::_,[],_,_,_,h,_,_=>h.elim
def AS2 (f:3000000<=N){laws:Sl Law}(hl:HU laws)(c:HV N laws):∀(m i:Nat) (w:Sl To),wOk w->i<=laws.n->laws.n<=i+m ->
 (∃L,(∀M,m<M->P9 M (Ae N 0 laws) w i=some L)/\Ff N (laws.toList.drop i) w=some (Qh w L)/\wOk (Qh w L)) \/
 ((∃L,∀M,m<M->P9 M (Ae N 0 laws) w i=none/\P9 M (Ae N 11 laws) w i=some L)/\Ff N (laws.toList.drop i) w=none):=by
 have b:=c.1;have fin:∀(m i:Nat) (w:Sl To),wOk w->i=laws.n->∃L,(∀M,m<M->P9 M (Ae N 0 laws) w i=some L)/\Ff N (laws.toList.drop i) w=some (Qh w L)/\wOk (Qh w L):=by rintro m i w hw rfl;refine⟨[],fun M d=>?_,by rw[Gj];rfl,hw⟩;obtain⟨M,rfl⟩:∃K,M=K+1:=⟨M-1,by omega⟩;rw[F9,Ae,Ic,Il rfl]
 intro m
 induction m with
 |zero=>exact fun i w hw g hm=>.inl (fin 0 i w hw (by omega))
 |succ m ih=>
  intro i w hw g hm;by_cases a:i<laws.n
  case neg=>exact .inl (fin _ i w hw (by omega))
  rw[Jk _ a];rcases AS1 f ⟨hl i a,c.2 i a⟩ hw with⟨v,g1,g2,g3⟩ | ⟨v,g1,g2⟩
  .rcases ih (i+1) v g3 (by omega) (by omega)with⟨L,a1,a2,a3⟩ | ⟨⟨L,a1⟩,a2⟩
   .refine .inl ⟨((i+1:Nat),v)::L,fun M d=>?_,by unfold Ff;rw[g2];exact a2,a3⟩;obtain⟨M,rfl⟩:∃K,M=K+1:=⟨M-1,by omega⟩;rw[F9,Y3 a b g1,Ic];show Be _ (P9 M (Ae N 0 laws) v _)=_;rw[a1 M (by omega)];rfl
   refine .inr ⟨⟨((i+1:Nat),v)::L,fun M d=>?_⟩,by unfold Ff;rw[g2];exact a2⟩;obtain⟨M,rfl⟩:∃K,M=K+1:=⟨M-1,by omega⟩;obtain⟨b1,b2⟩:=a1 M (by omega);rw[F9,F9,Y3 a b g1,Y3 a b g1,Ic,Ic];refine⟨?_,?_⟩
   .show Be _ (P9 M (Ae N 0 laws) v _)=_;rw[b1];rfl
   show Be _ (P9 M (Ae N 11 laws) v _)=_;rw[b2];rfl
  refine .inr ⟨⟨[],fun M d=>?_⟩,by unfold Ff;rw[g2];rfl⟩;obtain⟨M,rfl⟩:∃K,M=K+1:=⟨M-1,by omega⟩;rw[F9,F9,Y3 a b g1,Y3 a b g1];exact⟨rfl,rfl⟩
def WE (g:3000000<=N){laws:Sl Law}(hl:HU laws)(d:HV N laws){w:Sl To}(hw:wOk w) :(∃v,Ff N laws.toList w=some v/\J4 N laws w=some (v,0)/\wOk v) \/ (Ff N laws.toList w=none/\J4 N laws w=some ((Sl.nil:Sl To),11)):=by
 have j:=d.1;have l:=hw.1;obtain⟨e,e1,m⟩:=WD g hl (w:=w) fun i o=>(hw.2 i o).ok
 have:e=0:=by
  rcases m with⟨h,h'⟩ | ⟨_,h⟩
  .exact MH h (lawsE_zero.2 d)
  exact (DB h).2 hw
 subst this;have b:B9 N w=some w:=by unfold B9;rw[Cw]
 have a:∀c,F0 N c laws w=(Be (0,w) (P9 N (Ae N c laws) w 0)).bind fun L1=>Q5 L1 (fun (f:Sl To->Option (Sl To)) (x1:Int×(Sl To)) (z1:Sl To)=>f x1.2) (fun (z1:Sl To)=>some z1) (Sl.nil:Sl To):=by intro c;unfold F0 CG AB;rw[Cl3,b,Cl3];rfl
 unfold J4;rw[e1,Cl3,Ix (by decide)];rcases AS2 g hl d laws.n 0 w hw (by omega) (by omega)with⟨L,g1,g2,g3⟩ | ⟨⟨L,g1⟩,g2⟩
 .have g1:P9 N (Ae N 0 laws) w 0=some L:=g1 N (by omega)
  have:I5 N laws w=some (Qh w L,true):=by
   have e0:F0 N 0 laws w=some (Qh w L):=by rw[a,g1];exact Qi _ _
   unfold I5;rw[e0]
  rw[this];exact .inl ⟨_,g2,rfl,g3⟩
 obtain⟨g3,g4⟩:=g1 N (by omega);have g3:P9 N (Ae N 0 laws) w 0=none:=g3;have g4:P9 N (Ae N 11 laws) w 0=some L:=g4
 have:I5 N laws w=some ((Sl.nil:Sl To),false):=by
  have e0:F0 N 0 laws w=none:=by rw[a,g3];rfl
  have e11:F0 N 11 laws w=some (Qh w L):=by rw[a,g4];exact Qi _ _
  unfold I5;rw[e0,e11];rfl
 rw[this];exact .inr ⟨g2,rfl⟩
def Ba4 {α : Type}(s t:Sl α):(s.app t).toList=s.toList++t.toList:=by
 show (List.range (s.n+t.n)).map (fun i=>if i<s.n then s.g i else t.g (i-s.n))=_;rw[List.range_add,Cq9,Cw2];congr 1
 .exact Co7 fun i a=>Il (Cn2.1 a)
 refine Co7 fun i a=>?_;show (if s.n+i<s.n then _ else t.g (s.n+i-s.n))=_;rw[Fp];congr 1;omega
def US (h:A5)(l:Sl Int):(As9 h l).toList=l.toList.map fun (i:Int)=>h.Laws.g i.toNat:=by unfold As9 Sl.toList;rw[Cw2];rfl
def RE (h:A5)(L:List Nat):List Law:=L.flatMap fun x=>(As9 h (h.On.g x)).toList
def AF9 {h:A5}(ht:Af h.Tree):∀(m v:Nat),v<=m->v<h.Tree.n->RE h (Ku h.Tree v)=(As9 h (Fe h v)).toList
 |m,v,hm,hv=>by
  rcases Z5 ht hv with⟨_,e⟩ | ⟨p,hp,e⟩
  .rw[HX (by omega),En (by omega),BY3 rfl];simp[RE]
  rw[RC e hp,Jn e hp,US,Ba4,Cq9,<- US,<- US]
  match m with
  |0=>omega
  |m+1=>rw[<- AF9 ht m p (by omega) (by omega)];simp[RE]
def AG0 {h:A5}(a:U7 N h){x:Nat}(hx:x<h.Tree.n):(h.On.g x).n<=64/\∀i,i<(h.On.g x).n->0<=(h.On.g x).g i/\(h.On.g x).g i<h.Laws.n:=by
 have c:=a.on;refine⟨?_,fun j b=>?_⟩
 .have hl:(Fe h x).n<=64:=CF0 fun g=>a.long ⟨x,by omega,g⟩;rcases Z5 a.tree hx with⟨_,e⟩ | ⟨p,hp,e⟩
  .rw[En (by omega)]at hl;have hl:0+(h.On.g x).n<=64:=hl;omega
  rw[Jn e hp]at hl;have hl:(Fe h p).n+(h.On.g x).n<=64:=hl;omega
 have:=a.bad x (by omega)
 constructor
 .exact Int.not_lt.1 fun g=>this ⟨j,b,.inl g⟩
 exact Int.not_le.1 fun g=>this ⟨j,b,.inr g⟩
end Go.AM
namespace Go.AM
variable {N:Nat}
open IntKind (wrap)
open Go.Proofs
def eqR {R:Type}{x:Option R}{y:R}(h:∃r,x=some r/\r=y):x=some y:=by obtain⟨r,h,rfl⟩:=h;exact h
def At0 (t:Sl J6)(v:Nat):Prop:=∀u,0<u->u<t.n->(t.g u).Parent≠(v:Int)
open Classical in
noncomputable def F7 (t:Sl J6):Nat->Sl Int
 |0=>(Sl.nil:Sl Int)
 |i+1=>if At0 t i then (F7 t i).push (i:Int)else F7 t i
def WF {t:Sl J6}{i:Nat}(h:At0 t i):F7 t (i+1)=(F7 t i).push (i:Int):=Il h
def At1 {t:Sl J6}{i:Nat}(h:¬At0 t i):F7 t (i+1)=F7 t i:=Ix h
def At2 (t:Sl J6):∀i,(F7 t i).n<=i
 |0=>Cl9 0
 |i+1=>by
  have:=At2 t i
  by_cases h:At0 t i
  .rw[WF h];show (F7 t i).n+1<=i+1;omega
  rw[At1 h];omega
def Lc (t:Sl J6):∀i k,k<(F7 t i).n->∃v:Nat,v<i/\(F7 t i).g k=(v:Int)
 |0,k,hk=>Kh hk (Cp7 k)
 |i+1,k,hk=>by
  by_cases h:At0 t i
  .rw[WF h]at hk⊢;have hk:k<(F7 t i).n+1:=hk;show ∃v:Nat,v<i+1/\(if k<(F7 t i).n then (F7 t i).g k else (i:Int))=(v:Int);by_cases a:k<(F7 t i).n
   .rw[Il a];obtain⟨v,h1,b⟩:=Lc t i k a;exact⟨v,by omega,b⟩
   rw[Ix a];exact⟨i,by omega,rfl⟩
  rw[At1 h]at hk⊢;obtain⟨v,h1,b⟩:=Lc t i k hk;exact⟨v,by omega,b⟩
def BI7 (s:3000000<=N){t:Sl J6}(ht:Af t):∃X,Bx N t=some X/\(X.n=t.n/\∀v,v<t.n->((X.g v).n=0↔At0 t v)):=by
 have o:=ht.2.1;unfold Bx;refine Ab (N4 (fun i x (X:Sl (Sl Int))=>x=(i:Int)/\X.n=t.n/\∀v,v<t.n->(((X.g v).n=0 ↔ ∀u,0<u->u<i->(t.g u).Parent≠(v:Int))/\(X.g v).n<=i)) t.n _ (by omega)
  ⟨rfl,rfl,fun v b=>⟨⟨fun _ u h1 a=>Kh a (Cp7 u),fun _=>rfl⟩,Cl9 0⟩⟩ ?_)
 rintro l i x X hle ⟨rfl,c,f⟩ hs;by_cases hl:i<t.n
 case neg=>
  obtain rfl:i=t.n:=by omega
  exact Ci ⟨X,rfl,c,fun v b=>(f v b).1⟩
 refine ifT (by simpa using hl) (Ab ?_);rw[Cl2,Cl];rcases Z5 ht hl with⟨q,h1⟩ | ⟨p,hp,e⟩
 .subst q;rw[h1];refine ifT (by show Int.toNat (-1)<X.n;rw[c];exact hl) (ltX (Ci (hs hl _ _ ⟨rfl,c,fun v b=>?_⟩)));have e:(X.upd (Int.toNat (-1)) (X.g (Int.toNat (-1)))).g v=X.g v:=by
   show (if v=_ then X.g (Int.toNat (-1))else X.g v)=X.g v;split
   .rename_i e;rw[e]
   rfl
  rw[e];obtain⟨g1,g2⟩:=f v b;exact⟨g1.trans ⟨fun _ u h1 a=>Kh a (by omega),fun _ u h1 a=>Kh a (by omega)⟩,by omega⟩
 rw[e,Cl2];have j:p<t.n:=by omega
 have m:=(f p j).2;refine Ab (ltX (Ax (ifT ⟨⟨by omega,by rw[c];omega⟩,by omega,by omega⟩ (hs hl _ _ ⟨rfl,c,fun v b=>?_⟩))));show ((if v=p then (X.g p).push (i:Int)else X.g v).n=0↔_)/\(if v=p then (X.g p).push (i:Int)else X.g v).n<=i+1;by_cases d:v=p
 .subst d;rw[Il rfl];refine⟨⟨fun h=>Kh h (Nat.succ_ne_zero _),fun h=>Kh e (h i (by omega) (by omega))⟩,?_⟩;show (X.g v).n+1<=i+1;omega
 rw[Ix d];obtain⟨g1,g2⟩:=f v b;refine⟨g1.trans ⟨fun h u h1 a=>?_,fun h u h1 a=>h u h1 (by omega)⟩,by omega⟩;by_cases r:u=i
 .subst r;rw[e];omega
 exact h u h1 (by omega)
def Cj2 {R:Type}{Q:R->Prop}{a:Sl Int->Int->Option R}{t:Sl J6}{i:Nat}(c:i<1000){b:Bool}(hb:b=true↔At0 t i)(h:∃r,a (F7 t (i+1)) ((i+1:Nat):Int)=some r/\Q r) :∃r,(if b then
  if (((F7 t i).n+(Sl.of [(i:Int)]:Sl Int).n)*8<=140737488355328/\(F7 t i).n+(Sl.of [(i:Int)]:Sl Int).n<=140737488355328)then
   a ((F7 t i).push (i:Int)) (wrap .i64 ((i:Int)+1))
  else none
  else a (F7 t i) (wrap .i64 ((i:Int)+1)))=some r/\Q r:=by
 have hn:=At2 t i;rw[Cl];by_cases hk:At0 t i
 .rw[WF hk]at h;exact ifT (hb.2 hk) (ifT ⟨by show ((F7 t i).n+1)*8<=_;omega,by show (F7 t i).n+1<=_;omega⟩ h)
 rw[At1 hk]at h;exact ifF (fun g=>hk (hb.1 g)) h
def AS3 (c:3000000<=N){t:Sl J6}(ht:Af t):∃r,Dz N t=some r/\r=F7 t t.n:=by
 have d:=ht.2.1;unfold Dz;obtain⟨X,e,a,hk⟩:=BI7 c ht;refine B4 e (N4 (fun i x1 x2=>x2=(i:Int)/\x1=F7 t i) t.n _ (by omega) ⟨rfl,rfl⟩ ?_);rintro b i x1 x2 hle ⟨rfl,rfl⟩ hs;by_cases hl:i<t.n
 .refine ifT (by rw[a];simpa using hl) (Ab ?_);rw[Cl2];exact Cj2 (by omega) (by rw[<- hk i hl];simp) (hs hl _ _ ⟨rfl,rfl⟩)
 obtain rfl:i=t.n:=by omega
 exact ifF (by rw[a];simp) ⟨_,rfl,rfl⟩
def BI8 (l:3000000<=N){t:Sl J6}(ht:Af t){v:Nat}(m:v<t.n):∃r,Q2 N t (v:Int)=some r/\(r.n=0↔At0 t v):=by
 have f:=ht.2.1;unfold Q2;refine N4 (fun i (x1:Sl Int) x2=>x2=(i:Int)/\x1.n<=i/\(x1.n=0 ↔ ∀u,0<u->u<i->(t.g u).Parent≠(v:Int))) t.n _ (by omega) ⟨rfl,Cl9 0,fun _ u h1 a=>Kh a (Cp7 u),fun _=>rfl⟩ ?_;rintro b i x1 x2 hle ⟨rfl,hn,c⟩ hs;by_cases hl:i<t.n
 .refine ifT (by simpa using hl) (Ab ?_);rw[Cl2,Cl];by_cases hp:(t.g i).Parent=(v:Int)
  .have d:0<i:=by
    rcases Z5 ht hl with⟨d,h1⟩ | ⟨p,hp,e⟩
    .rw[h1]at hp;omega
    omega
   refine ifT (by simpa using hp) (ifT ⟨by show (x1.n+1)*8<=_;omega,by show x1.n+1<=_;omega⟩ (hs hl _ _ ⟨rfl,by show x1.n+1<=i+1;omega,fun h=>Kh h (Nat.succ_ne_zero _),fun h=>Kh hp (h i d (by omega))⟩))
  refine ifF (by simpa using hp) (hs hl _ _ ⟨rfl,by omega,c.trans ⟨fun h u h1 a=>?_,fun h u h1 a=>h u h1 (by omega)⟩⟩);by_cases j:u=i
  .subst j;exact hp
  exact h u h1 (by omega)
 obtain rfl:i=t.n:=by omega
 exact Ci ⟨_,rfl,c⟩
def RF (a:3000000<=N){t:Sl J6}(c:Lb t):∃s e,U1 N t=some (s,e)/\K5 N t=some (s,e)/\((Af t/\e=0/\s=F7 t t.n) \/ (¬Af t/\e=16/\s=(Sl.nil:Sl Int))):=by
 obtain⟨e,e1,e2,d⟩:=MI a c;unfold U1 K5;rw[e1,e2,Cl3,Cl3];rcases d with⟨rfl,ht⟩ | ⟨rfl,ht⟩
 .have f:=ht.2.1;rw[Ix (by decide),Ix (by decide)];obtain⟨r,g1,rfl⟩:=AS3 a ht;refine⟨_,0,by rw[g1];rfl,eqR (N4 (fun i x1 x2=>x2=(i:Int)/\x1=F7 t i) t.n _ (by omega) ⟨rfl,rfl⟩ ?_),.inl ⟨ht,rfl,rfl⟩⟩;rintro b i x1 x2 hle ⟨rfl,rfl⟩ hs;by_cases hl:i<t.n
  .refine ifT (by simpa using hl) ?_;obtain⟨r,k1,k2⟩:=BI8 a ht hl;exact B4 k1 (Cj2 (by omega) (by rw[<- k2];simp) (hs hl _ _ ⟨rfl,rfl⟩))
  obtain rfl:i=t.n:=by omega
  exact Ci ⟨_,rfl,rfl⟩
 exact⟨_,16,Il (by decide),Il (by decide),.inr ⟨ht,rfl,rfl⟩⟩
end Go.AM
namespace Go.AM
open Go.Proofs
def outR (o:Option (Sl To))(y:Sl To)(e:Int):Prop:=(∃x,o=some x/\e=0/\SE y x/\wOk y) \/ (o=none/\e=11/\y.n=0)
end Go.AM
namespace Go.AM
variable {N:Nat}
open Go.Proofs
def AG1 {t:Sl J6}(ht:Af t):∀(M v:Nat),v+1<=M->v<t.n->∃s,Ei M t (v:Int)=some s/\s.toList=(Ku t v).map (fun (x:Nat)=>(x:Int))/\s.n<=v+1
 |0,v,hM,_=>by omega
 |M+1,v,hM,hv=>by
  have b:=ht.2.1;show ∃s,ES (Ei M) M t (v:Int)=some s/\_;unfold ES;by_cases a:v=0
  .subst a;refine ifT rfl ⟨_,rfl,?_,Cl9 1⟩;rw[HX (by have:=(ht.2.2 0 hv).1 rfl;omega)];rfl
  refine Bm (Ab ?_);rw[Cl2];rcases Z5 ht hv with⟨h1,_⟩ | ⟨p,hp,e⟩
  .exact Kh h1 a
  obtain⟨s,g1,g2,g3⟩:=AG1 ht M p (by omega) (by omega);rw[e];refine B4 g1 (ifT ⟨by show (s.n+1)*8<=_;omega,by show s.n+1<=_;omega⟩ ⟨_,rfl,?_,by show s.n+1<=_;omega⟩);rw[RC e hp,Cq9,<- g2,La];rfl
def Bw0 (a:3000000<=N){t:Sl J6}(b:Lb t)(ht:Af t){v:Nat}(c:v<t.n):∃s,BV N t (v:Int)=some (s,0)/\s.toList=(Ku t v).map (fun (x:Nat)=>(x:Int))/\s.n<=64:=by
 have d:=ht.2.1;obtain⟨e,_,e1,f⟩:=MI a b
 have:e=0:=by
  rcases f with⟨h,_⟩ | ⟨_,h⟩
  .exact h
  exact Kh ht h
 subst this;obtain⟨s,g1,g2,g3⟩:=AG1 ht N v (by omega) c;refine⟨s,?_,g2,by omega⟩;unfold BV Dd;rw[e1,Cl3,Fq,Cl3,Ic,g1];rfl
def BP0 {t:Sl J6}(ht:Af t):∀(M v:Nat),v+2<=M->v<t.n->T9 M (fun (a:Int->Option (List Int)) (x1:Int)=>
 if (decide (0<=x1)) then
  Be x1 (
   if ((0:Int)<=x1/\x1<(t.n:Int))then
    a (t.g x1.toNat).Parent
   else none
   )
 else
  some []) (v:Int)=some ((Ku t v).map (fun (x:Nat)=>(x:Int))).reverse
 |0,v,hM,_=>by omega
 |M+1,v,hM,hv=>by
  rw[V2,Il (by simp),Cw,Cl2];rcases Z5 ht hv with⟨_,e⟩ | ⟨p,hp,e⟩
  .obtain⟨M,rfl⟩:∃K,M=K+1:=⟨M-1,by omega⟩;rw[e,V2,Ix (by decide),HX (by omega)];rfl
  rw[e,BP0 ht M p (by omega) (by omega),RC e hp,Cq9,Cx4];rfl
def Ba5:∀(L:List Int) (z:Sl Int),z.n+L.length<=100000->∃s,Q5 L (fun (a:Sl Int->Option (Sl Int)) (x1:Int) (z1:Sl Int)=>
 if ((z1.n+(Sl.of [x1]:Sl Int).n)*8<=140737488355328/\z1.n+(Sl.of [x1]:Sl Int).n<=140737488355328)then
  a (z1.push x1)
 else none
 ) (fun (z1:Sl Int)=>some z1) z=some s/\s.toList=z.toList++L
 |[],z,_=>⟨z,rfl,by simp⟩
 |x::L,z,h=>by obtain⟨s,s1,s2⟩:=Ba5 L (z.push x) (by show z.n+1+L.length<=_;simp at h;omega);refine⟨s,?_,by rw[s2,La];simp⟩;show (if _ then _ else _)=_;rw[Il (by show (z.n+1)*8<=_/\z.n+1<=_;simp at h;omega)];exact s1
def BZ4 {x:Sl Int}(hn:x.n<100000)(d:x.n<N):∃s,J5 N x=some s/\(s.n=x.n/\∀j,j<x.n->s.g j=x.g (x.n-1-j)):=by
 unfold J5;refine KU (fun i (x1:Sl Int) x2 x3=>x2=(i:Int)/\x3=(x.n:Int)-1-(i:Int)/\x1.n=x.n/\i<=x.n-i/\∀j,j<x.n->x1.g j=if j<i \/ x.n<=j+i then x.g (x.n-1-j)else x.g j) x.n _ d ⟨rfl,(E8 (by omega) (by omega)).trans (by omega),rfl,by omega,fun j b=>by rw[Fp]⟩ ?_;rintro c i x1 x2 x3 f ⟨rfl,rfl,hx,hle,b⟩ hs;by_cases hl:(i:Int)<(x.n:Int)-1-(i:Int)
 .have e3:((x.n:Int)-1-(i:Int)).toNat=x.n-1-i:=by omega
  refine ifT (by simpa using hl) (ifT (by rw[Sl.upd];dsimp only;omega) ?_);rw[Cl2,e3];refine hs (by omega) _ _ _ ⟨Cl,by rw[E8 (by omega) (by omega)];omega,hx,by omega,fun j a=>?_⟩;show (if j=x.n-1-i then x1.g i else if j=i then x1.g (x.n-1-i)else x1.g j)=_;by_cases e1:j=x.n-1-i
  .rw[Il e1,b i (by omega),Fp,Cw];congr 1;omega
  rw[Ix e1];by_cases e2:j=i
  .rw[Il e2,b _ (by omega),Fp,Cw];congr 1;omega
  rw[Ix e2,b j a];by_cases e4:j<i \/ x.n<=j+i
  .rw[Il e4,Cw]
  rw[Ix e4,Fp]
 refine ifF (by simpa using hl) ⟨_,rfl,hx,fun j a=>?_⟩;rw[b j a];by_cases e4:j<i \/ x.n<=j+i
 .rw[Il e4]
 rw[Ix e4];congr 1;omega
def Cj3 {x s:Sl Int}(hn:s.n=x.n)(h:∀j,j<x.n->s.g j=x.g (x.n-1-j)):s.toList=x.toList.reverse:=by refine List.ext_getElem (by rw[W2,List.length_reverse,W2,hn]) fun i h1 a=>?_;rw[W2]at h1;rw[List.getElem_reverse];simp only[Sl.toList,List.getElem_map,CM4,Cp3,CH7];exact h i (by omega)
def Bw1 (f:3000000<=N){t:Sl J6}(a:Lb t)(ht:Af t){v:Nat}(b:v<t.n):∃s,Gi N t (v:Int)=some (s,0)/\s.toList=(Ku t v).map (fun (x:Nat)=>(x:Int))/\s.n<=64:=by
 have g:=ht.2.1;have c:=Ba3 ht v v (Cl9 _) b;obtain⟨e,e1,_,j⟩:=MI f a
 have:e=0:=by
  rcases j with⟨h,_⟩ | ⟨_,h⟩
  .exact h
  exact Kh ht h
 subst this;have hc:ET N t (Sl.of [(v:Int)]:Sl Int)=some 0:=by
  unfold ET;rw[e1,Cl3,Ix (by decide)];refine eqR ?_;refine Aq (fun i x=>x=(i:Int)) 1 _ (by omega) rfl ?_;rintro d i x a rfl hs;by_cases hl:i<1
  .obtain rfl:i=0:=by omega
   exact Ay (Ay (Bm (hs hl _ (Cl))))
  exact Bm ⟨_,rfl,rfl⟩
 have l:Ej N (v:Int) t=some ((Ku t v).map (fun (x:Nat)=>(x:Int))).reverse:=by unfold Ej;exact BP0 ht N v (by omega) b
 obtain⟨z,z1,z2⟩:=Ba5 ((Ku t v).map (fun (x:Nat)=>(x:Int))).reverse (Sl.nil:Sl Int) (by simp;omega);have zn:z.n=(Ku t v).length:=by
  have:=congrArg List.length z2
  rw[W2]at this;simpa[Sl.toList]using this
 obtain⟨s,s1,s2,s3⟩:=BZ4 (N:=N) (x:=z) (by omega) (by omega);refine⟨s,?_,?_,by omega⟩
 .unfold Gi;rw[hc,Cl3,Ix (by decide),Qa,Cl3];show (Ej N (v:Int) t).bind _=_;rw[l,Cl3];unfold X5 K6;rw[z1,Cl3,Cl3,s1];rfl
 rw[Cj3 s2 s3,z2];simp[Sl.toList]
end Go.AM
namespace Go.AM
open Go.Proofs
def AS4 (h:A5)(l:Sl Int)(x:Int):List Law:=(l.toList.filter fun i=>i != x).map fun i=>h.Laws.g i.toNat
def Fx (h:A5)(L:List Nat)(x:Int):List Law:=L.flatMap fun v=>AS4 h (h.On.g v) x
def At3 (h:A5)(s:Sl Int)(x:Int):List Law:=s.toList.flatMap fun v=>AS4 h (h.On.g v.toNat) x
def Jo {α : Type}(s:Sl α)(q:Nat):(s.take (q+1)).toList=(s.take q).toList++[s.g q]:=by show (List.range (q+1)).map s.g=(List.range q).map s.g++[s.g q];rw[Cw9,Cq9];rfl
def BP1 (h:A5)(l:Sl Int)(x:Int)(q:Nat):AS4 h (l.take (q+1)) x=AS4 h (l.take q) x++(if (l.g q != x) then [h.Laws.g (l.g q).toNat]else []):=by
 unfold AS4;rw[Jo,Cr0,Cq9];by_cases e:(l.g q != x)=true
 .rw[Il e];simp[e]
 rw[Ix e];simp[e]
def Bw2 (h:A5)(s:Sl Int)(x:Int)(m:Nat):At3 h (s.take (m+1)) x=At3 h (s.take m) x++AS4 h (h.On.g (s.g m).toNat) x:=by unfold At3;rw[Jo,CG5];simp
def Bw3 {h:A5}{s:Sl Int}{W:List Nat}{x:Int}(e:s.toList=W.map fun (v:Nat)=>(v:Int)):At3 h s x=Fx h W x:=by unfold At3 Fx;rw[e,List.flatMap_map];rfl
structure wayE (t:Sl J6) (v:Nat) (s:Sl Int):Prop where
 tl:s.toList=(Ku t v).map fun (x:Nat)=>(x:Int)
 n:s.n<=64
 lt:∀m,m<s.n->∃u:Nat,u<t.n/\s.g m=(u:Int)
def Bw4 {t:Sl J6}(ht:Af t){v:Nat}(b:v<t.n){s:Sl Int}(h1:s.toList=(Ku t v).map fun (x:Nat)=>(x:Int))(c:s.n<=64):wayE t v s:=⟨h1,c,fun m hm=>by have a:s.g m∈s.toList:=Cp2.2 ⟨m,Cn2.2 hm,rfl⟩;rw[h1]at a;obtain⟨u,u1,u2⟩:=Cp2.1 a;exact⟨u,by have:=RD ht v v (Cl9 _) b u u1;omega,u2.symm⟩⟩
def AS5 {N:Nat}(hN:3000000<=N){h:A5}(hi:I6 h)(b:U7 N h)(x:Int) :∃X,M8 N h x=some X/\(X.n=(F7 h.Tree h.Tree.n).n/\∀k,k<X.n->(X.g k).toList=Fx h (Ku h.Tree ((F7 h.Tree h.Tree.n).g k).toNat) x/\(X.g k).n<=4096):=by
 have h63:=b.tree.2.1;have hon:=b.on;obtain⟨s,e,l1,_,l3⟩:=RF hN hi.tree;rcases l3 with⟨_,rfl,rfl⟩ | ⟨l3,_⟩
 case inr=>exact Kh b.tree l3
 have a6:=At2 h.Tree h.Tree.n;have r:∀k,k<(F7 h.Tree h.Tree.n).n->∃u:Nat,u<h.Tree.n/\(F7 h.Tree h.Tree.n).g k=(u:Int):=fun k hk=>Lc h.Tree h.Tree.n k hk;generalize F7 h.Tree h.Tree.n=s at l1 a6 r;unfold M8;refine B4 l1 (ifT (by dsimp only;omega) (ifT (by dsimp only;omega) ?_));dsimp only;refine KU (fun i (K:Nat) (X:Sl (Sl Law)) y=>i=K/\y=(i:Int)/\X.n=s.n/\(∀k,k<i->(X.g k).toList=Fx h (Ku h.Tree (s.g k).toNat) x/\(X.g k).n<=4096)/\∀k,i<=k->(X.g k).n=0) s.n _ (by omega) ⟨rfl,rfl,rfl,fun k hk=>Kh hk (by omega),fun k _=>rfl⟩ ?_;rintro self i K X y hle ⟨rfl,rfl,hX,t,j⟩ hs;by_cases hl:i<s.n
 case neg=>
  obtain rfl:i=s.n:=by omega
  exact Ci (ifT ⟨rfl,hX⟩ ⟨_,rfl,hX,fun k hk=>t k (by omega)⟩)
 obtain⟨u,hu,a0⟩:=r i hl;obtain⟨w,w1,w2,w3⟩:=Bw1 hN hi.tree b.tree hu;have hw:=Bw4 b.tree hu w2 w3;refine Ax (Ab ?_);rw[Cl2,a0];refine B4 w1 ?_;dsimp only;refine N4 (fun m (X' : Sl (Sl Law)) z=>z=(m:Int)/\X'.n=s.n/\(∀k,k≠i->X'.g k=X.g k)/\(X'.g i).toList=At3 h (w.take m) x/\(X'.g i).n<=m*64) w.n _ (by omega) ⟨rfl,hX,fun _ _=>rfl,by
  have:=j i (Cl9 _)
  unfold Sl.toList;rw[this];rfl,by rw[j i (Cl9 _)];omega⟩ ?_
 rintro self2 m X' z hm ⟨rfl,a1,l,a2,hlen⟩ hs2;by_cases a3:m<w.n
 case neg=>
  obtain rfl:m=w.n:=by omega
  refine Ci (ifT ⟨rfl,hl⟩ (hs hl _ _ _ ⟨rfl,Cl,a1,fun k hk=>?_,fun k hk=>by rw[l k (by omega)];exact j k (by omega)⟩));by_cases e:k=i
  .subst e;refine⟨?_,by omega⟩;rw[a2,a0,Cl2,<- Bw3 hw.tl]
  rw[l k e];exact t k (by omega)
 obtain⟨v,hv,a4⟩:=hw.lt m a3;obtain⟨o1,o2⟩:=AG0 b hv;refine Ax ?_;rw[Cl2,a4,Cl2];refine Ab ?_;refine N4 (fun q (X'' : Sl (Sl Law)) z=>z=(q:Int)/\X''.n=s.n/\(∀k,k≠i->X''.g k=X.g k)/\(X''.g i).toList=At3 h (w.take m) x++AS4 h ((h.On.g v).take q) x/\(X''.g i).n<=m*64+q) (h.On.g v).n _ (by omega) ⟨rfl,a1,l,by rw[a2];simp[AS4,Sl.toList],by omega⟩ ?_;rintro self3 q X'' z hq ⟨rfl,c,d,f,hlen'⟩ a5;by_cases o:q<(h.On.g v).n
 case neg=>
  obtain rfl:q=(h.On.g v).n:=by omega
  refine Ci (hs2 a3 _ _ ⟨Cl,c,d, ?_,by omega⟩);rw[f,Bw2,a4,Cl2]
 have hvq:=o2 q o;refine Ax (Ab ?_);rw[Cl2];have a:=BP1 h (h.On.g v) x q;by_cases e:((h.On.g v).g q != x)=true
 .rw[Il e]at a;refine ifT e (Ab (Ab (Ab (a5 o _ _ ⟨Cl,c,fun k hk=>?_,?_,?_⟩))))
  .show (if k=i then _ else X''.g k)=_;rw[Ix hk];exact d k hk
  .show (if i=i then _ else X''.g i).toList=_;rw[Il rfl,La,f,a,Cn9]
  show (if i=i then _ else X''.g i).n<=_;rw[Il rfl];show (X''.g i).n+1<=_;omega
 rw[Ix e,Cn0]at a;exact ifF e (a5 o _ _ ⟨Cl,c,d,by rw[f,a],by omega⟩)
def Bw5 {N:Nat}(hN:3000000<=N){h:A5}(hi:I6 h)(b:U7 N h){u:Nat}(hu:u<h.Tree.n)(x:Int) :∃s,BX N h (u:Int) x=some s/\(s.toList=Fx h (Ku h.Tree u) x/\s.n<=4096):=by
 have h63:=b.tree.2.1;have hon:=b.on;obtain⟨w,w1,w2,w3⟩:=Bw0 hN hi.tree b.tree hu;have hw:=Bw4 b.tree hu w2 w3;unfold BX;refine B4 w1 ?_;dsimp only;refine N4 (fun m (s:Sl Law) z=>z=(m:Int)/\s.toList=At3 h (w.take m) x/\s.n<=m*64) w.n _ (by omega) ⟨rfl,rfl,by show 0<=_;omega⟩ ?_;rintro o m s z hm ⟨rfl,f,hlen⟩ r;by_cases i:m<w.n
 case neg=>
  obtain rfl:m=w.n:=by omega
  exact Ci ⟨_,rfl,by rw[f,<- Bw3 hw.tl];first|done|rfl,by omega⟩
 obtain⟨v,hv,j⟩:=hw.lt m i;obtain⟨o1,o2⟩:=AG0 b hv;refine Ax ?_;rw[Cl2,j,Cl2];refine Ab ?_;refine N4 (fun q (s:Sl Law) z=>z=(q:Int)/\s.toList=At3 h (w.take m) x++AS4 h ((h.On.g v).take q) x/\s.n<=m*64+q) (h.On.g v).n _ (by omega) ⟨rfl,by rw[f];simp[AS4,Sl.toList],by omega⟩ ?_;rintro t q s' z hq ⟨rfl,c,y⟩ l;by_cases d:q<(h.On.g v).n
 case neg=>
  obtain rfl:q=(h.On.g v).n:=by omega
  refine Ci (r i _ _ ⟨Cl,?_,by omega⟩);rw[c,Bw2,j,Cl2]
 have hvq:=o2 q d;refine Ax (Ab ?_);rw[Cl2];have a:=BP1 h (h.On.g v) x q;by_cases e:((h.On.g v).g q != x)=true
 .rw[Il e]at a;refine ifT e (Ab (ifT (by show (s'.n+1)*200<=_/\s'.n+1<=_;omega) (l d _ _ ⟨Cl,?_,by show s'.n+1<=_;omega⟩)));rw[La,c,a,Cn9]
 rw[Ix e,Cn0]at a;exact ifF e (l d _ _ ⟨Cl,by rw[c,a],by omega⟩)
end Go.AM
namespace Go.AM
open IntKind (wrap)
open Go.Proofs
def Bw6 (n:Nat):IntKind.u8.wrap (n:Int)=((n % 256:Nat):Int):=by
 have h1:((n:Int) % (2 ^ 8:Int))=((n % 256:Nat):Int):=by omega
 unfold wrap;simp only[IntKind.bits,IntKind.signed,h1,CB1,Cm2,Rn]
def AS6 (p k:Nat):UInt8:=UInt8.ofNat (p / 2 ^ k % 256)
def Bi6 (p:Int):List UInt8:=[AS6 p.toNat 0,AS6 p.toNat 8,AS6 p.toNat 16]
def Bz3 (s:To):List UInt8:=Bi6 s.Plus++Bi6 s.Minus
def Cc5 (w:Sl To):Str:=w.toList.flatMap Bz3
def At4 {p q k:Nat}(h:AS6 p k=AS6 q k):p / 2 ^ k % 256=q / 2 ^ k % 256:=by
 have:=congrArg UInt8.toNat h
 unfold AS6 at this;rw[CM6,CM6]at this;omega
def Ba6 {p q:Nat}(hp:p<16777216)(c:q<16777216)(h:Bi6 (p:Int)=Bi6 (q:Int)):p=q:=by simp only[Bi6,Cw8,and_true,Cl2]at h;obtain⟨a,h1,b⟩:=h;have a:=At4 a;have h1:=At4 h1;have b:=At4 b;simp only[Nat.reducePow]at a h1 b;omega
def BI9 {s t:To}(hs:vS s)(ht:vS t)(h:Bz3 s=Bz3 t):s=t:=by obtain⟨p,m,rfl,b⟩:=hs;obtain⟨p',m',rfl,a⟩:=ht;obtain⟨_,a1,a2⟩:=(Bs3 p m).1 b;obtain⟨_,b1,b2⟩:=(Bs3 p' m').1 a;have hl:(Bi6 (sOf p m).Plus).length=(Bi6 (sOf p' m').Plus).length:=rfl;obtain⟨h1,c⟩:=List.append_inj h hl;have e1:=Ba6 a1 b1 h1;have e2:=Ba6 a2 b2 c;rw[Cp4 e1,Cp4 e2]
def Ba7:∀(L M:List To),(∀s∈L,vS s)->(∀s∈M,vS s)->L.flatMap Bz3=M.flatMap Bz3->L=M
 |[],[],_,_,_=>rfl
 |[],b::M,_,_,h=>by
  have:=congrArg List.length h
  simp[Cq2,Bz3,Bi6]at this
 |a::L,[],_,_,h=>by
  have:=congrArg List.length h
  simp[Cq2,Bz3,Bi6]at this
 |a::L,b::M,hL,hM,h=>by rw[Cq2,Cq2]at h;obtain⟨h1,c⟩:=List.append_inj h rfl;rw[BI9 (hL a (by simp)) (hM b (by simp)) h1,Ba7 L M (fun s hs=>hL s (by simp[hs])) (fun s hs=>hM s (by simp[hs])) c]
def BZ5 {w w' : Sl To}(hw:wOk w)(a : wOk w')(h:Cc5 w=Cc5 w'):SE w w':=by
 have hm:∀{w:Sl To},wOk w->∀s∈w.toList,vS s:=fun hw s hs=>by obtain⟨i,b,rfl⟩:=Cp2.1 hs;exact hw.2 i (Cn2.1 b)
 exact tl_eq.1 (Ba7 _ _ (hm hw) (hm a) h)
def Bw7 (p:BitVec 32)(k:Nat)(hk:k<=32):wrap .u8 (shI .shr .u32 (p.toNat:Int) (k:Int))=((p.toNat / 2 ^ k % 256:Nat):Int):=by rw[Bp2,Bw6,CB7,CB2]
def At5 (s:Sl Int):AM3 s=s.toList.map fun i=>UInt8.ofNat i.toNat:=by show _=((List.range s.n).map s.g).map _;rw[Cw2];rfl
def AG2 (s t:Sl Int):AM3 (s.app t)=AM3 s++AM3 t:=by rw[At5,At5,At5,Ba4,Cq9]
def str3 (p:BitVec 32):AM3 (Sl.of [wrap .u8 (p.toNat:Int),wrap .u8 (shI .shr .u32 (p.toNat:Int) 8),wrap .u8 (shI .shr .u32 (p.toNat:Int) 16)]:Sl Int)=Bi6 (p.toNat:Int):=by have e8:=Bw7 p 8 (by omega);have e16:=Bw7 p 16 (by omega);have e0:=Bw6 p.toNat;show [UInt8.ofNat (wrap .u8 (p.toNat:Int)).toNat,UInt8.ofNat (wrap .u8 (shI .shr .u32 (p.toNat:Int) 8)).toNat,UInt8.ofNat (wrap .u8 (shI .shr .u32 (p.toNat:Int) 16)).toNat]=_;rw[e0,show wrap .u8 (shI .shr .u32 (p.toNat:Int) 8)=_ from e8,show wrap .u8 (shI .shr .u32 (p.toNat:Int) 16)=_ from e16];simp only[Cl2,Bi6,AS6,Nat.pow_zero,CG3]
def BZ6 {N:Nat}(c:3000000<=N){w:Sl To}(hw:wOk w):EV N w=some (Cc5 w):=by
 have b:=hw.1;refine eqR ?_;unfold EV;refine N4 (fun m (x1:Sl Int) x2=>x2=(m:Int)/\AM3 x1=(w.take m).toList.flatMap Bz3/\x1.n=6*m) w.n _ (by omega) ⟨rfl,rfl,rfl⟩ ?_;rintro a m x1 x2 hm ⟨rfl,h1,d⟩ hs;by_cases hl:m<w.n
 .refine Ax (Ab ?_);rw[Cl2];obtain⟨p,q,e,_⟩:=hw.2 m hl;have e1:(w.g m).Plus=(p.toNat:Int):=congrArg To.Plus e;have e2:(w.g m).Minus=(q.toNat:Int):=congrArg To.Minus e;rw[e1,e2];refine ifT (by show (x1.n+3)*1<=_/\x1.n+3<=_;omega) (ifT (by show (x1.n+3+3)*1<=_/\x1.n+3+3<=_;omega) (hs hl _ _ ⟨Cl,?_,by show x1.n+3+3=_;omega⟩));rw[AG2,AG2,str3,str3,h1,Jo,CG5,Cn9];congr 1;show Bi6 _++Bi6 _=[w.g m].flatMap Bz3;rw[Cq2,List.flatMap_nil,Cn0,Bz3,e1,e2]
 obtain rfl:m=w.n:=by omega
 exact Ci ⟨_,rfl,h1⟩
end Go.AM
namespace Go.AM
variable {N:Nat}
open Go.Proofs
def DX (N:Nat)(h:A5)(u:Nat)(x:Int)(w:Sl To):Option (Sl To):=Ff N (Fx h (Ku h.Tree u) x) w
def AG3 {h:A5}{N:Nat}(a:U7 N h){u:Nat}(d:u<h.Tree.n){x:Int}{l:Law}(hl:l∈Fx h (Ku h.Tree u) x):∃i,i<h.Laws.n/\l=h.Laws.g i:=by
 obtain⟨v,f,b⟩:=CF1.1 hl;obtain⟨i,c,rfl⟩:=Cp2.1 b;have c:=(Cy8.1 c).1;obtain⟨j,m,rfl⟩:=Cp2.1 c;have o:=RD a.tree u u (Cl9 _) d v f
 have:=(AG0 a (x:=v) (by omega)).2 j (Cn2.1 m)
 exact⟨((h.On.g v).g j).toNat,by omega,rfl⟩
def Ba8 (h:A5)(x:Int):∀L:List Nat,(Fx h L x).length<=(RE h L).length
 |[]=>Cl9 _
 |v::L=>by
  have ih:=Ba8 h x L;have h1:(AS4 h (h.On.g v) x).length<=(As9 h (h.On.g v)).toList.length:=by unfold AS4;rw[Cp3,W2];exact Cp0 (Cr4 _ _) (by rw[W2];exact Cl9 _)
  unfold Fx RE at ih⊢;rw[Cq2,Cq2,Cm0,Cm0];omega
def Bw8 {h:A5}{N:Nat}(a:U7 N h){u:Nat}(b:u<h.Tree.n){x:Int}:(Fx h (Ku h.Tree u) x).length<=64:=by have h1:=Ba8 h x (Ku h.Tree u);rw[AF9 a.tree u u (Cl9 _) b,W2]at h1;have c:(Fe h u).n<=64:=CF0 fun f=>a.long ⟨u,by rw[a.on];exact b,f⟩;exact Cp0 h1 c
def Ak6 {h:A5}{N:Nat}(c:I6 h)(a:U7 N h){u:Nat}(f:u<h.Tree.n){x:Int}{s:Sl Law}(hs:s.toList=Fx h (Ku h.Tree u) x):HU s/\HV N s:=by
 have hn:s.n<=64:=by
  have:=Bw8 (N:=N) a f (x:=x)
  rw[<- hs,W2]at this;exact this
 have key:∀i,i<s.n->∃j,j<h.Laws.n/\s.g i=h.Laws.g j:=fun i c=>by refine AG3 (N:=N) a f (x:=x) ?_;rw[<- hs];exact Cp2.2 ⟨i,Cn2.2 c,rfl⟩
 refine⟨fun i b=>?_,hn,fun i b=>?_⟩
 .obtain⟨j,d,e⟩:=key i b;rw[e];exact c.laws j d
 obtain⟨j,d,e⟩:=key i b;rw[e];exact a.laws.2 j d
def Ba9:∀L:List Law,LEs L L
 |[]=>trivial
 |l::L=>⟨LE.refl l,Ba9 L⟩
def DX_S (d:3000000<=N){h:A5}(f:I6 h)(a:U7 N h){u:Nat}(g:u<h.Tree.n){x:Int}{w w' : Sl To}(hw:wOk w)(b:SE w w'):OR (DX N h u x w) (DX N h u x w'):=by refine Bv9 d _ _ w w' (fun l hl=>?_) (Ba9 _) hw b;obtain⟨j,c,e⟩:=AG3 (N:=N) a g hl;rw[e];exact⟨f.laws j c,a.laws.2 j c⟩
def BP2 (b:3000000<=N){h:A5}(c:I6 h)(a:U7 N h){u:Nat}(d:u<h.Tree.n){x:Int}{s:Sl Law}(hs:s.toList=Fx h (Ku h.Tree u) x){w:Sl To}(hw:wOk w) :∃r,J4 N s w=some r/\outR (DX N h u x w) r.1 r.2:=by
 obtain⟨g1,g2⟩:=Ak6 c a d hs;rcases WE b g1 g2 hw with⟨v,d1,d2,d3⟩ | ⟨d1,d2⟩
 .rw[hs]at d1;exact⟨_,d2,.inl ⟨v,d1,rfl,SE.refl _,d3⟩⟩
 rw[hs]at d1;exact⟨_,d2,.inr ⟨d1,rfl,rfl⟩⟩
def BZ7 (c:3000000<=N){h:A5}(b:I6 h)(a:U7 N h){u:Nat}(d:u<h.Tree.n){x:Int}{s:Sl Law}(hs:s.toList=Fx h (Ku h.Tree u) x){w:Sl To}(hw:wOk w) :∃r,U5 N s w=some r/\outR (DX N h u x w) r.1 r.2:=by
 obtain⟨g1,g2⟩:=Ak6 b a d hs;obtain⟨r,r1,r2⟩:=BP2 c b a d hs hw;obtain⟨q,q',a1,a2,a3,a4,_⟩:=Bi2 c g1 (LS.refl s) (SE.refl w) fun i b=>(hw.2 i b).ok;obtain rfl:=Cm3 (r1.symm.trans a1);refine⟨q',a2,?_⟩;rcases r2 with⟨y,b1,b2,b3,b4⟩ | ⟨b1,b2,b3⟩
 .exact .inl ⟨y,b1,a4.symm.trans b2,a3.symm.trans b3,a3.wOk b4⟩
 exact .inr ⟨b1,a4.symm.trans b2,by rw[<- a3.1];exact b3⟩
def outF (o:Option (Sl To))(f:E6):Prop:=(∃y,o=some y/\f.Has=true/\SE f.W y/\wOk f.W) \/ (o=none/\f.Has=false)
def Cj4 {o o' : Option (Sl To)}(h:OR o o'){f:E6}(b:outF o f):outF o' f:=by
 rcases b with⟨y,h1,a,c,d⟩ | ⟨h1,a⟩
 .rcases h with⟨g1,_⟩ | ⟨v,v',g1,g2,g3,_⟩
  .rw[g1]at h1;cases h1
  rw[g1]at h1;obtain rfl:=Cm3 h1;exact .inl ⟨v',g2,a,c.trans g3,d⟩
 rcases h with⟨_,g1⟩ | ⟨v,v',g1,_⟩
 .exact .inr ⟨g1,a⟩
 rw[g1]at h1;cases h1
def DF (N:Nat)(h:A5)(u:Nat)(x:Int)(p:E6):Option (Sl To):=if p.Has then DX N h u x p.W else none
structure Df (N:Nat) (h:A5) (x:Int) (s:Sl Int) (M:Sl (List (Str×E6))):Prop where
 n:M.n=s.n
 ok:∀k,k<s.n->∀a f,(a,f)∈M.g k->∃w,wOk w/\Cc5 w=a/\outF (DX N h (s.g k).toNat x w) f
def Bi7 (N:Nat)(h:A5)(x:Int)(s:Sl Int):Df N h x s ⟨s.n,fun _=>[]⟩:=⟨rfl,fun k _ a f hm=>by cases hm⟩
def AG4 {k:Str}{v:E6}:∀{es:List (Str×E6)},DW eqS k es=some v->(k,v)∈es
 |[],h=>by cases h
 |(a,x)::es,h=>by
  unfold DW at h;by_cases e:eqS k a=true
  .rw[Il e]at h;obtain rfl:=Cm3 h
   have:k=a:=by simpa[eqS]using e
   subst this;simp
  rw[Ix e]at h;exact Cn4 _ (AG4 h)
def Bb0 {k a:Str}{v f:E6}:∀{es:List (Str×E6)},(a,f)∈Rk eqS k v es->(a,f)∈es \/ (a=k/\f=v)
 |[],h=>by simp only[Rk,Cy0,Cm7]at h;exact .inr h
 |(b,x)::es,h=>by
  unfold Rk at h;by_cases e:eqS k b=true
  .rw[Il e]at h;rcases Co1.1 h with h|h
   .simp only[Cm7]at h;exact .inr h
   exact .inl (Cn4 _ h)
  rw[Ix e]at h;rcases Co1.1 h with h|h
  .exact .inl (by rw[h];simp)
  rcases Bb0 h with h|h
  .exact .inl (Cn4 _ h)
  exact .inr h
structure derX (N:Nat) (h:A5) (x:Int) (s:Sl Int) (X:Sl (Sl Law)):Prop where
 leaf:s=F7 h.Tree h.Tree.n
 n:X.n=s.n
 g:∀k,k<s.n->(X.g k).toList=Fx h (Ku h.Tree (s.g k).toNat) x
def BZ8 {h:A5}{k:Nat}(hk:k<(F7 h.Tree h.Tree.n).n):((F7 h.Tree h.Tree.n).g k).toNat<h.Tree.n:=by obtain⟨u,u1,u2⟩:=Lc h.Tree h.Tree.n k hk;rw[u2,Cl2];exact u1
def MJ (i:3000000<=N){h:A5}(o:I6 h)(c:U7 N h){x:Int}{s:Sl Int}{X:Sl (Sl Law)}(j:derX N h x s X){p:E6}(hp:p.Has=true->wOk p.W){k:Nat}(hk:k<s.n){M:Sl (List (Str×E6))}(b:Df N h x s M) :∃r,E7 N p (k:Int) M X=some r/\Df N h x s r.2.2/\outF (DF N h (s.g k).toNat x p) ⟨r.2.1,r.1⟩:=by
 have z:=j.n;have l:=b.n;have t:(s.g k).toNat<h.Tree.n:=by
  have:=j.leaf;subst this;exact BZ8 hk
 unfold E7;by_cases d:p.Has=true
 case neg=>refine ifT (by simpa using d) ⟨_,rfl,b,.inr ⟨by unfold DF;rw[Ix d],rfl⟩⟩
 have hw:=hp d;have m:DF N h (s.g k).toNat x p=DX N h (s.g k).toNat x p.W:=by unfold DF;rw[Il d]
 rw[m];refine ifF (by simp[d]) ?_;rw[Cl2];refine Ab (Ab (B4 (BZ6 i hw) ?_));cases ha:DW eqS (Cc5 p.W) (M.g k)with
 |some v=>refine⟨_,rfl,b,?_⟩;obtain⟨w0,b1,b2,b3⟩:=b.ok k hk _ _ (AG4 ha);exact Cj4 (DX_S i o c t b1 (BZ5 b1 hw b2)) b3
 |none=>
  obtain⟨r,r1,r2⟩:=BP2 i o c t (j.g k hk) hw;rw[Vz];refine Ab (B4 r1 ⟨_,rfl,?_⟩);have u:outF (DX N h (s.g k).toNat x p.W) ⟨r.2==0,r.1⟩:=by
   rcases r2 with⟨y,b1,b2,b3,b4⟩ | ⟨b1,b2,b3⟩
   .exact .inl ⟨y,b1,by simp[b2],b3,b4⟩
   exact .inr ⟨b1,by simp[b2]⟩
  refine⟨⟨l,fun q w a f hm=>?_⟩,u⟩;replace hm:(a,f)∈(if q=k then Rk eqS (Cc5 p.W) (⟨r.2==0,r.1⟩:E6) (M.g k)else M.g q):=hm;by_cases e:q=k
  .subst e;rw[Il rfl]at hm;rcases Bb0 hm with hm|⟨rfl,rfl⟩
   .exact b.ok q w a f hm
   exact⟨p.W,hw,rfl,u⟩
  rw[Ix e]at hm;exact b.ok q w a f hm
def Ld (d:3000000<=N){h:A5}(i:I6 h)(a:U7 N h){x:Int}{p:E6}(hp:p.Has=true->wOk p.W){k:Nat}(hk:k<(F7 h.Tree h.Tree.n).n) :∃f,O2 N h p (k:Int) x=some f/\outF (DF N h ((F7 h.Tree h.Tree.n).g k).toNat x p) f:=by
 obtain⟨u,l,b⟩:=Lc h.Tree h.Tree.n k hk;obtain⟨s,e,_,l2,l3⟩:=RF d i.tree;rcases l3 with⟨_,rfl,rfl⟩ | ⟨l3,_⟩
 case inr=>exact Kh a.tree l3
 unfold O2;by_cases c:p.Has=true
 case neg=>exact ifT (by simpa using c) ⟨_,rfl,.inr ⟨by unfold DF;rw[Ix c],rfl⟩⟩
 have hw:=hp c;have j:DF N h ((F7 h.Tree h.Tree.n).g k).toNat x p=DX N h u x p.W:=by unfold DF;rw[Il c,b,Cl2]
 rw[j];obtain⟨z,z1,z2,_⟩:=Bw5 d i a l x;obtain⟨r,r1,r2⟩:=BZ7 d i a l z2 hw;refine ifF (by simp[c]) (B4 l2 (ifT (by dsimp only;omega) ?_));dsimp only;rw[Cl2,b];refine B4 z1 (B4 r1 ?_);rcases r2 with⟨y,b1,b2,b3,b4⟩ | ⟨b1,b2,b3⟩
 .exact ifF (by simp[b2]) ⟨_,rfl,.inl ⟨y,b1,rfl,b3,b4⟩⟩
 exact ifT (by simp[b2]) ⟨_,rfl,.inr ⟨b1,rfl⟩⟩
def RG (N:Nat)(h:A5)(u:Nat)(x:Int)(p f:E6):Prop:=∃y,DF N h u x p=some y/\SE y f.W
def EW (i:3000000<=N){h:A5}(j:I6 h)(a:U7 N h){x:Int}{p f:E6}(hp:p.Has=true->wOk p.W){k:Nat}(hk:k<(F7 h.Tree h.Tree.n).n) :∃b,I8 N h p (k:Int) f x=some b/\(b=true↔RG N h ((F7 h.Tree h.Tree.n).g k).toNat x p f):=by
 obtain⟨d,d1,d2⟩:=Ld i j a (x:=x) hp hk;unfold I8;refine B4 d1 (ltX ?_);rcases d2 with⟨y,b1,b2,b3,b4⟩ | ⟨b1,b2⟩
 .obtain⟨e,e1,e2⟩:=BZ1 (N:=N) (x:=d.W) (y:=f.W) (by have:=b4.1;omega) (by have:=b4.1;omega);refine ifT b2 (B4 e1 ⟨_,rfl,e2.trans ⟨fun c=>⟨y,b1,b3.symm.trans c⟩,?_⟩⟩);rintro⟨z,z1,z2⟩;rw[b1]at z1;obtain rfl:=Cm3 z1;exact b3.trans z2
 refine ifF (by simp[b2]) ⟨_,rfl,fun h=>(by cases h),?_⟩;rintro⟨z,z1,_⟩;rw[b1]at z1;cases z1
end Go.AM
namespace Go.AM
variable {N:Nat}
open Go.Proofs
def GV (f:Nat->Int):Nat->Int
 |0=>0
 |k+1=>if GV f k≠0 then GV f k else f k
def Ht {f:Nat->Int}{k:Nat}(h:GV f k=0):GV f (k+1)=f k:=Ix (fun g=>g h)
def EX {f:Nat->Int}{i:Nat}(h:GV f i≠0):∀n,i<=n->GV f n=GV f i
 |0,hn=>by rw[show i=0 by omega]
 |n+1,hn=>by
  by_cases e:i=n+1
  .rw[e]
  have hp:=EX h n (by omega);show (if GV f n≠0 then GV f n else f n)=_;rw[hp,Il h]
def AD {f:Nat->Int}:∀{n:Nat},GV f n=0->∀i,i<n->f i=0
 |0,_,i,hi=>Kh hi (Cp7 i)
 |n+1,h,i,hi=>by
  have hp:GV f n=0:=Cn1 fun g=>g (by rw[<- EX g (n+1) (by omega)];exact h);by_cases e:i=n
  .subst e;rw[<- Ht hp];exact h
  exact AD hp i (by omega)
def orE (a b:Int):Int:=if a≠0 then a else b
def HY {a b:Int}(h:a≠0):orE a b=a:=Il h
def DC {a b:Int}(h:a=0):orE a b=b:=Ix (fun g=>g h)
def UT {a b:Int}(h:orE a b=0):a=0/\b=0:=by
 by_cases g:a=0
 .exact⟨g,by rw[<- h,DC g]⟩
 rw[HY g]at h;exact Kh h g
def BJ0 {N n:Nat}{f:Nat->Int}{body:(Int->Option Int)->Int->Option Int}{re:Int}(m:n<N)(b:∀a i,i<n->f i≠0->body a (i:Int)=some (f i))
 (l:∀a i,i<n->f i=0->body a (i:Int)=a ((i+1:Nat):Int)) (c:∀a,GV f n=0->body a (n:Int)=some re):T9 N body 0=some (orE (GV f n) re):=by
 refine eqR (Aq (fun i x=>x=(i:Int)/\GV f i=0) n _ m ⟨rfl,rfl⟩ ?_);rintro a i x hle ⟨rfl,g⟩ hs;by_cases hl:i<n
 .by_cases j:f i=0
  .rw[l a i hl j];exact hs hl _ ⟨rfl,by rw[Ht g];exact j⟩
  rw[b a i hl j];have e:GV f (i+1)=f i:=Ht g;have d:GV f (i+1)≠0:=by rw[e];exact j
  exact⟨_,rfl,by rw[EX d n hl,HY d,e]⟩
 obtain rfl:i=n:=by omega
 exact⟨_,c a g,(DC g).symm⟩
def AS7 {N n:Nat}{f:Nat->Int}{body:(Int->Option Int)->Int->Option Int}{re:Int}(g:n<N)(b:∀a i,i<n->f i≠0->body a (i:Int)=some (f i))
 (d:∀a i,i<n->f i=0->body a (i:Int)=a ((i+1:Nat):Int)) (c:∀a,body a (n:Int)=some re):T9 N body 0=some (orE (GV f n) re):=BJ0 g b d fun a _=>c a
def K0 (s:Sl E6):Prop:=∀i,i<s.n->okA (s.g i).W
def S3 (l:Sl Entry):Prop:=∀i,i<l.n->K0 (l.g i).Forms/\(l.g i).Gloss.length<1100000
def emp (s:Sl E6):Prop:=∃i,i<s.n/\(s.g i).Has=false/\0<(s.g i).W.n
noncomputable def BZ9 (s:Sl E6):Bool:=@decide (¬emp s) (Classical.propDecidable _)
def Tb {s:Sl E6}(h:¬emp s):BZ9 s=true:=@decide_eq_true _ (Classical.propDecidable _) h
def Tc {s:Sl E6}(h:emp s):BZ9 s=false:=@decide_eq_false _ (Classical.propDecidable _) (fun g=>g h)
def BJ1 (f:E6):((!f.Has)&&(decide (0<(f.W.n:Int))))=true↔f.Has=false/\0<f.W.n:=by simp
def AG5 (f:1000<=N){s:Sl E6}(hs:s.n<900):AR N s=some (BZ9 s):=by
 have h1:∃r,F6 N s (fun (u1:E6)=>CL N u1)=some r/\(0<=r↔emp s):=by
  unfold F6;refine Aq (fun i x=>x=(i:Int)/\∀j,j<i->¬((s.g j).Has=false/\0<(s.g j).W.n)) s.n _ (by omega) ⟨rfl,fun j a=>Kh a (Cp7 j)⟩ ?_;rintro c i x hle ⟨rfl,h⟩ b;by_cases hl:i<s.n
  .refine ifT (by simpa using hl) (Ab (B4 rfl ?_));rw[Cl2,Cl];by_cases hb:(s.g i).Has=false/\0<(s.g i).W.n
   .exact ifT ((BJ1 _).2 hb) ⟨_,rfl,fun _=>⟨i,hl,hb⟩,fun _=>by omega⟩
   refine ifF (fun g=>hb ((BJ1 _).1 g)) (b hl _ ⟨rfl,fun j a=>?_⟩);by_cases e:j=i
   .subst e;exact hb
   exact h j (by omega)
  exact ifF (by simpa using hl) ⟨_,rfl,fun g=>Kh g (by decide),fun⟨j,a,hb⟩=>Kh hb (h j (by omega))⟩
 obtain⟨r,e,d⟩:=h1;unfold AR G3;rw[e,Cl3,Cl3];congr 1;by_cases h:emp s
 .rw[Tc h];simp[d.2 h]
 rw[Tb h];simp;exact Int.not_le.1 fun g=>h (d.1 g)
def Dg (d:1000<=N){s:Sl E6}(hs:s.n<900):I7 N s=some (BZ9 s):=by
 unfold I7;refine eqR (Aq (fun i x=>x=(i:Int)/\∀j,j<i->¬((s.g j).Has=false/\0<(s.g j).W.n)) s.n _ (by omega) ⟨rfl,fun j a=>Kh a (Cp7 j)⟩ ?_);rintro c i x hle ⟨rfl,h⟩ b;by_cases hl:i<s.n
 .refine ifT (by simpa using hl) (Ab (ifT (fun _=>by omega) ?_));rw[Cl2,Cl];by_cases hb:(s.g i).Has=false/\0<(s.g i).W.n
  .exact ifT ((BJ1 _).2 hb) ⟨_,rfl,(Tc ⟨i,hl,hb⟩).symm⟩
  refine ifF (fun g=>hb ((BJ1 _).1 g)) (b hl _ ⟨rfl,fun j a=>?_⟩);by_cases e:j=i
  .subst e;exact hb
  exact h j (by omega)
 exact ifF (by simpa using hl) ⟨_,rfl,(Tb (fun⟨j,a,hb⟩=>h j (by omega) hb)).symm⟩
def wE (N:Nat)(w:Sl To):Int:=(Q7 N w).getD 0
def Ak7 (a:1000<=N){w:Sl To}(hw:okA w):Q7 N w=some (wE N w)/\P5 N w=some (wE N w):=by
 obtain⟨e,h1,b⟩:=KX a hw;obtain⟨e',g1,g2⟩:=MG a hw;obtain rfl:=WA b g2
 have:wE N w=e:=by unfold wE;rw[h1];rfl
 rw[this];exact⟨h1,g1⟩
def wsE (N:Nat)(s:Sl E6):Int:=GV (fun i=>wE N (s.g i).W) s.n
def BA (c:1000<=N){s:Sl E6}(hs:s.n<900)(d:K0 s):Q3 N s=some (wsE N s)/\H2 N s=some (wsE N s):=by
 have e0:wsE N s=orE (wsE N s) 0:=by
  by_cases h:wsE N s=0
  .rw[DC h,h]
  rw[HY h]
 rw[e0];unfold Q3 H2;constructor<;>refine AS7 (f:=fun i=>wE N (s.g i).W) (by omega) ?_ ?_ ?_
 .intro a i hl b;rw[Il (by simpa using hl),Cw,Cl2,(Ak7 c (d i hl)).1,Cl3,Il (by simpa using b)]
 .intro a i hl b;rw[Il (by simpa using hl),Cw,Cl2,(Ak7 c (d i hl)).1,Cl3,Ix (by simpa using b),Cl]
 .intro a;rw[Ic]
 .intro a i hl b;rw[Il (by simpa using hl),Cw,Cl2,(Ak7 c (d i hl)).2,Cl3,Il (by simpa using b)]
 .intro a i hl b;rw[Il (by simpa using hl),Cw,Cl2,(Ak7 c (d i hl)).2,Cl3,Ix (by simpa using b),Cl]
 intro a;rw[Ic]
def Ak8 (b:3000000<=N){s:Str}(hs:s.length<1100000):CH N s=some (Fd s):=by
 obtain⟨e,e1,_,c⟩:=MI (t:=(Sl.of [(⟨-1,s⟩:J6)]:Sl J6)) b (fun v a=>by
  have a:v<1:=a;obtain rfl:v=0:=by omega
  exact hs)
 unfold CH;rw[e1,Cl3];have key:Af (Sl.of [(⟨-1,s⟩:J6)]:Sl J6)↔Fd s=true:=by
  constructor
  .intro h;exact (h.2.2 0 (by show 0<1;omega)).2.2.1
  intro h;refine⟨by show 1<=1;omega,by show 1<=63;omega,fun v a=>?_⟩;have a:v<1:=a;obtain rfl:v=0:=by omega
  exact⟨fun _=>rfl,fun h=>Kh h (Nat.lt_irrefl 0),h,fun u d=>Kh d (Cp7 u)⟩
 congr 1;rcases c with⟨rfl,h⟩ | ⟨rfl,h⟩
 .rw[key.1 h];rfl
 cases hb:Fd s
 .rfl
 exact Kh (key.2 hb) h
open Classical in
noncomputable def e2 (l:Sl Entry) (k:Nat) (i:Nat):Int:=if (l.g i).Forms.n≠k \/ emp (l.g i).Forms then 2 else 0
def e15 (l:Sl Entry)(i:Nat):Int:=if Fd (l.g i).Gloss then 0 else 15
def WG {l:Sl Entry}{k i:Nat}(h:e2 l k i=0):(l.g i).Forms.n=k/\¬emp (l.g i).Forms:=by
 unfold e2 at h;split at h
 .cases h
 rename_i g;exact⟨Cn1 fun e=>g (.inl e),fun e=>g (.inr e)⟩
def Bw9 {l:Sl Entry}{k i:Nat}(h:(l.g i).Forms.n≠k \/ emp (l.g i).Forms):e2 l k i=2:=Il h
def Bb1 {l:Sl Entry}{k i:Nat}(h:¬((l.g i).Forms.n≠k \/ emp (l.g i).Forms)):e2 l k i=0:=Ix h
def UU {l:Sl Entry}{k i:Nat}{E:Option Bool}(hk:k<900)(b:(l.g i).Forms.n=k->E=some (BZ9 (l.g i).Forms))(a:Option Int) :(lt (fun (z3:Bool)=>if z3 then some 2 else a) fun k3=>
  if (((l.g i).Forms.n:Int) != (k:Int)) then
   k3 true
  else
   E.bind fun y6=>
   k3 (!y6))=if e2 l k i≠0 then some (e2 l k i)else a:=by
 by_cases h:(l.g i).Forms.n=k
 .rw[b h];have hc:¬(((l.g i).Forms.n:Int) != (k:Int))=true:=by simp[h]
  by_cases hp:emp (l.g i).Forms
  .rw[Bw9 (.inr hp)];show (if (((l.g i).Forms.n:Int) != (k:Int)) then _ else if (!(BZ9 (l.g i).Forms)) then some (2:Int)else a)=some 2;rw[Ix hc,Il (by rw[Tc hp];rfl)]
  rw[Bb1 (fun g=>g.elim (fun e=>e h) hp)];show (if (((l.g i).Forms.n:Int) != (k:Int)) then _ else if (!(BZ9 (l.g i).Forms)) then some (2:Int)else a)=a;rw[Ix hc,Ix (by rw[Tb hp];decide)]
 rw[Bw9 (.inl h)];exact Cx
def WH (c:3000000<=N){l:Sl Entry}{k:Nat}(hk:k<900)(hn:l.n<900)(d:S3 l):O7 N l (k:Int)=some (orE (GV (e2 l k) l.n) (orE (GV (e15 l) l.n) 0)):=by
 unfold O7;have step:=fun (a:Option Int) (i:Nat)=>UU (l:=l) (i:=i) hk (fun h=>AG5 (N:=N) (s:=(l.g i).Forms) (by omega) (by omega)) a;refine AS7 (by omega) ?_ ?_ ?_
 .intro a i hl b;rw[Il (by simpa using hl),Cw,Cl2,step,Il b]
 .intro a i hl b;rw[Il (by simpa using hl),Cw,Cl2,step,Ix (fun g=>g b),Cl]
 intro a;rw[Ic];refine AS7 (by omega) ?_ ?_ ?_
 .intro a i hl b;rw[Il (by simpa using hl),Cw,Cl2,Ak8 c (d i hl).2,Cl3];unfold e15 at b⊢;by_cases h:Fd (l.g i).Gloss=true
  .exact Kh (Il h) b
  rw[Il (by simpa using h),Ix h]
 .intro a i hl b;rw[Il (by simpa using hl),Cw,Cl2,Ak8 c (d i hl).2,Cl3];unfold e15 at b;by_cases h:Fd (l.g i).Gloss=true
  .rw[Ix (by simp[h]),Cl]
  rw[Ix h]at b;cases b
 intro a;rw[Ic]
noncomputable def Ca0 (N:Nat) (p:Sl E6) (l:Sl Entry) (k:Nat):Int:= orE (GV (e2 l k) l.n) (orE (GV (e15 l) l.n) (orE (wsE N p) (GV (fun i=>wsE N (l.g i).Forms) l.n)))
end Go.AM
namespace Go.AM
variable {N:Nat}
open IntKind (wrap)
open Go.Proofs
def Cq {t:Sl J6}(ht:Af t):(F7 t t.n).n<=63:=by have:=At2 t t.n;have:=ht.2.1;omega
def Gk (a:3000000<=N){t:Sl J6}(b:Lb t)(ht:Af t):U1 N t=some (F7 t t.n,0)/\K5 N t=some (F7 t t.n,0):=by
 obtain⟨s,e,h1,c,d⟩:=RF a b;rcases d with⟨_,rfl,rfl⟩ | ⟨g,_⟩
 .exact⟨h1,c⟩
 exact Kh ht g
open Classical in
noncomputable def UV (N:Nat) (h:A5) (p:Sl E6) (l:Sl Entry):Int:= if hres N h≠0 then hres N h else if 256<l.n then 12 else if p.n≠l.n \/ emp p then 2 else Ca0 N p l (F7 h.Tree h.Tree.n).n
def W7 (r:3000000<=N){h:A5}(t:I6 h){p:Sl E6}{l:Sl Entry}(hp:K0 p)(hl:S3 l):N8 N h p l=some (UV N h p l):=by
 unfold N8 UV;rw[RB r t,Cl3];by_cases m:hres N h=0
 case neg=>rw[Il (show (hres N h != 0)=true by simpa using m),Il m]
 rw[Ix (show ¬(hres N h != 0)=true by simp[m]),Ix (show ¬hres N h≠0 from fun g=>g m)];have o:=hres_zero.1 m;have u:=Cq o.tree;rw[(Gk r t.tree o.tree).1,Cl3];by_cases d:256<l.n
 .rw[Il (show (decide (256<(l.n:Int)))=true by simp;omega),Il d]
 rw[Ix (show ¬(decide (256<(l.n:Int)))=true by simp;omega),Ix d];have rest:(lt (fun (z1:Bool)=>
  if z1 then
   some (2:Int)
  else
   (O7 N l (((F7 h.Tree h.Tree.n).n:Nat):Int)).bind fun y5=>
   if (y5 != 0) then
    some y5
   else
    (Q3 N p).bind fun y6=>
    if (y6 != 0) then
     some y6
    else
     T9 N (fun j (x2:Int)=>
      if (decide (x2<(l.n:Int))) then
       if ((0:Int)<=x2/\x2<(l.n:Int))then
        (Q3 N (l.g x2.toNat).Forms).bind fun y9=>
        if (y9 != 0) then
         some y9
        else
         j (wrap .i64 (x2+1))
       else none
      else
       some 0
      ) 0
  ) fun k1=>k1 false)=(if p.n=l.n then some (Ca0 N p l (F7 h.Tree h.Tree.n).n)else some 0) \/ p.n≠l.n:=by
  by_cases c:p.n=l.n
  case neg=>exact .inr c
  refine .inl ?_;rw[Il c];show (O7 N l (((F7 h.Tree h.Tree.n).n:Nat):Int)).bind _=_;rw[WH r (by omega) (by omega) hl,Cl3];unfold Ca0;by_cases g1:GV (e2 l (F7 h.Tree h.Tree.n).n) l.n=0
  case neg=>rw[HY g1,HY g1,Il (by simpa using g1)]
  rw[DC g1,DC g1];by_cases g2:GV (e15 l) l.n=0
  case neg=>rw[HY g2,HY g2,Il (by simpa using g2)]
  rw[DC g2,DC g2,Ix (by decide),(BA (by omega) (by omega) hp).1,Cl3];by_cases g3:wsE N p=0
  case neg=>rw[HY g3,Il (by simpa using g3)]
  rw[DC g3,Ix (by simp[g3])];have e0:∀a:Int,a=orE a 0:=fun a=>by
   by_cases h:a=0
   .rw[DC h,h]
   rw[HY h]
  rw[e0 (GV (fun i=>wsE N (l.g i).Forms) l.n)];have hk:∀i,i<l.n->(l.g i).Forms.n<900:=fun i b=>by
   have:=(WG (AD g1 i b)).1;omega
  refine AS7 (by omega) ?_ ?_ ?_
  .intro f i b s;rw[Il (by simpa using b),Cw,Cl2,(BA (by omega) (hk i b) (hl i b).1).1,Cl3,Il (by simpa using s)]
  .intro f i b s;rw[Il (by simpa using b),Cw,Cl2,(BA (by omega) (hk i b) (hl i b).1).1,Cl3,Ix (by simpa using s),Cl]
  intro f;rw[Ic]
 by_cases c:p.n=l.n
 case neg=>rw[Il (.inl c)];exact Cx
 have hc:¬((p.n:Int) != (l.n:Int))=true:=by simp[c]
 rw[AG5 (by omega) (by omega)];by_cases q:emp p
 .rw[Il (.inr q),Tc q];exact Ix hc
 rw[Ix (fun g=>g.elim (fun e=>e c) q),Tb q];rcases rest with g|g
 .rw[Il c]at g;exact (Ix hc).trans g
 exact Kh c g
def Cj5 {h:A5}{p:Sl E6}{l:Sl Entry}(g:UV N h p l=0):U7 N h/\l.n<=256/\p.n=l.n/\∀i,i<l.n->(l.g i).Forms.n=(F7 h.Tree h.Tree.n).n:=by
 unfold UV at g;by_cases a:hres N h≠0
 .rw[Il a]at g;exact Kh g a
 rw[Ix a]at g;by_cases h1:256<l.n
 .rw[Il h1]at g;cases g
 rw[Ix h1]at g;by_cases b:p.n≠l.n \/ emp p
 .rw[Il b]at g;cases g
 rw[Ix b]at g;exact⟨hres_zero.1 (CI1.1 a),by omega,Cn1 fun e=>b (.inl e),fun i c=>(WG (AD (UT g).1 i c)).1⟩
structure attOk (N:Nat) (h:A5) (p:Sl E6) (l:Sl Entry):Prop where
 hist:U7 N h
 n:l.n<=256
 pn:p.n=l.n
 pe:¬emp p
 fn:∀i,i<l.n->(l.g i).Forms.n=(F7 h.Tree h.Tree.n).n
 fe:∀i,i<l.n->¬emp (l.g i).Forms
 nm:∀i,i<l.n->Fd (l.g i).Gloss=true
 pw:∀i,i<p.n->wOk (p.g i).W
 fw:∀i,i<l.n->∀k,k<(l.g i).Forms.n->wOk ((l.g i).Forms.g k).W
def WI (a:1000<=N){w:Sl To}(hw:okA w):wE N w=0↔wOk w:=by
 obtain⟨e,h1,b⟩:=KX a hw
 have:wE N w=e:=by unfold wE;rw[h1];rfl
 rw[this];exact DB b
def MK {f:Nat->Int}:∀{n:Nat},(∀i,i<n->f i=0)->GV f n=0
 |0,_=>rfl
 |n+1,h=>by rw[Ht (MK fun i a=>h i (by omega))];exact h n (by omega)
def Cr (b:1000<=N){h:A5}{p:Sl E6}{l:Sl Entry}(hp:K0 p)(hl:S3 l):UV N h p l=0↔attOk N h p l:=by
 unfold UV;constructor
 .intro g;split at g
  .rename_i g1;exact Kh g g1
  rename_i g1;split at g
  .cases g
  rename_i g2;split at g
  .cases g
  rename_i g3;obtain⟨d1,g⟩:=UT g;obtain⟨d2,g⟩:=UT g;obtain⟨d3,d4⟩:=UT g;have d1:=AD d1;have d2:=AD d2;have d3:=AD d3;have d4:=AD d4;refine⟨hres_zero.1 (Cn1 g1),by omega,Cn1 fun e=>g3 (.inl e),fun e=>g3 (.inr e),fun i a=>(WG (d1 i a)).1,fun i a=>(WG (d1 i a)).2,fun i a=>?_,fun i a=>(WI b (hp i a)).1 (d3 i a),fun i a k hk=>(WI b ((hl i a).1 k hk)).1 (AD (d4 i a) k hk)⟩
  have:=d2 i a
  unfold e15 at this;by_cases e:Fd (l.g i).Gloss=true
  .exact e
  rw[Ix e]at this;cases this
 rintro⟨a1,a2,a3,a4,a5,a6,a7,a8,a9⟩;rw[Ix (fun g=>g (hres_zero.2 a1)),Fp,Ix (fun g=>g.elim (fun e=>e a3) a4)];unfold Ca0;have b1:GV (e2 l (F7 h.Tree h.Tree.n).n) l.n=0:=MK fun i a=>Bb1 fun g=>g.elim (fun e=>e (a5 i a)) (a6 i a);have b2:GV (e15 l) l.n=0:=MK fun i a=>Il (a7 i a);have b3:wsE N p=0:=MK fun i a=>(WI b (hp i a)).2 (a8 i a);rw[DC b1,DC b2,DC b3];exact MK fun i a=>MK fun k hk=>(WI b ((hl i a).1 k hk)).2 (a9 i a k hk)
end Go.AM
namespace Go.AM
open IntKind (wrap)
open Go.Proofs
def attR (l:Sl Entry)(i k:Nat):List (Nat×Nat):=((List.range k).filter fun k=>((l.g i).Forms.g k).Has).map fun k=>(i,k)
def CN (l:Sl Entry)(i:Nat):List (Nat×Nat):=(List.range i).flatMap fun i=>attR l i (l.g i).Forms.n
def DT (l:Sl Entry):List (Nat×Nat):=CN l l.n
def Qk (l:Sl Entry)(i k:Nat):attR l i (k+1)=attR l i k++(if ((l.g i).Forms.g k).Has then [(i,k)]else []):=by
 unfold attR;rw[Cw9,Cr0,Cq9];by_cases h:((l.g i).Forms.g k).Has=true
 .rw[Il h];simp[h]
 rw[Ix h];simp[h]
def Gl (l:Sl Entry)(i:Nat):CN l (i+1)=CN l i++attR l i (l.g i).Forms.n:=by unfold CN;rw[Cw9,CG5];simp
def Fy (l:Sl Entry)(i k:Nat):(attR l i k).length<=k:=by unfold attR;rw[Cp3];exact Cp0 (Cr4 _ _) (by rw[CH7];exact Cl9 _)
def GW {l:Sl Entry}{m:Nat}:∀i,(∀j,j<i->(l.g j).Forms.n<=m)->(CN l i).length<=i*m
 |0,_=>Cx3 _
 |i+1,h=>by
  have:=GW i (fun j a=>h j (by omega))
  have h1:=Fy l i (l.g i).Forms.n;have b:=h i (by omega);rw[Gl,Cm0,CD8];omega
def Jp {l:Sl Entry}{q:Nat×Nat}(a:q∈DT l):q.1<l.n/\q.2<(l.g q.1).Forms.n/\((l.g q.1).Forms.g q.2).Has=true:=by obtain⟨i,b,c⟩:=CF1.1 a;obtain⟨k,hk,rfl⟩:=Cp2.1 c;obtain⟨h1,d⟩:=Cy8.1 hk;exact⟨Cn2.1 b,Cn2.1 h1,d⟩
def Bk8 (l:Sl Entry)(q:Nat×Nat):Bd×Sl To:=(⟨(q.1:Int),(q.2:Int)⟩,((l.g q.1).Forms.g q.2).W)
def Cj6 (l:Sl Entry)(i k m:Nat):List (Nat×Nat):=((List.range' k m).filter fun k=>((l.g i).Forms.g k).Has).map fun k=>(i,k)
def Ck9 (l:Sl Entry)(i m:Nat):List (Nat×Nat):=(List.range' i m).flatMap fun i=>Cj6 l i 0 (l.g i).Forms.n
def Ca1 (l:Sl Entry)(i m:Nat):Cj6 l i 0 m=attR l i m:=by unfold Cj6 attR;rw[CF6]
def Ca2 (l:Sl Entry):Ck9 l 0 l.n=DT l:=by unfold Ck9 DT CN;rw[CF6];congr 1;funext i;exact Ca1 l i _
def BP3 {l:Sl Entry}{i:Nat}{R:List (Bd×Sl To)}{rest:Option (List (Bd×Sl To))}(b:rest=some R)(hn:(l.g i).Forms.n<100000):∀(m M k:Nat),k+m=(l.g i).Forms.n->m<M->T9 M (fun (a:Int->Option (List (Bd×Sl To))) (x4:Int)=>
 if (decide (x4<((l.g i).Forms.n:Int))) then
  if ((0:Int)<=x4/\x4<((l.g i).Forms.n:Int))then
   if ((l.g i).Forms.g x4.toNat).Has then
    Be ((⟨(i:Int),x4⟩:Bd),((l.g i).Forms.g x4.toNat).W) (
     a (wrap .i64 (x4+1))
     )
   else
    a (wrap .i64 (x4+1))
  else none
 else
  rest) (k:Int)=some ((Cj6 l i k m).map (Bk8 l)++R)
 |0,M,k,hk,hM=>by obtain⟨M,rfl⟩:∃K,M=K+1:=⟨M-1,by omega⟩;rw[V2,Fq,b];rfl
 |m+1,M,k,hk,hM=>by
  obtain⟨M,rfl⟩:∃K,M=K+1:=⟨M-1,by omega⟩;have ih:=BP3 b hn m M (k+1) (by omega) (by omega);rw[V2,Cx,Cw,Cl2,Cl,ih];unfold Cj6;rw[Cz4];by_cases h:((l.g i).Forms.g k).Has=true
  .rw[Il h];simp only[CJ3,h,Rm];rfl
  rw[Ix h];simp only[CJ3,h,Rn,Cm2]
def Bx0 {N:Nat}{l:Sl Entry}(o:1000000<=N)(hn:l.n<100000)(d:∀i,i<l.n->(l.g i).Forms.n<100000):F2 N l=some ((DT l).map (Bk8 l)):=by
 have key:∀(m M i:Nat),i+m=l.n->m<M->T9 M (fun (b:Int->Option (List (Bd×Sl To))) (x2:Int)=>
  if (decide (x2<(l.n:Int))) then
   if ((0:Int)<=x2/\x2<(l.n:Int))then
    T9 N (fun a (x4:Int)=>
     if (decide (x4<((l.g x2.toNat).Forms.n:Int))) then
      if ((0:Int)<=x4/\x4<((l.g x2.toNat).Forms.n:Int))then
       if ((l.g x2.toNat).Forms.g x4.toNat).Has then
        Be ((⟨x2,x4⟩:Bd),((l.g x2.toNat).Forms.g x4.toNat).W) (
         a (wrap .i64 (x4+1))
         )
       else
        a (wrap .i64 (x4+1))
      else none
     else
      b (wrap .i64 (x2+1))
     ) 0
   else none
  else
   some []) (i:Int)=some ((Ck9 l i m).map (Bk8 l)):=by
  intro m
  induction m with
  |zero=>intro M i f j;obtain⟨M,rfl⟩:∃K,M=K+1:=⟨M-1,by omega⟩;rw[V2,Fq];rfl
  |succ m ih=>
   intro M i f j;obtain⟨M,rfl⟩:∃K,M=K+1:=⟨M-1,by omega⟩;have c:=d i (by omega);rw[V2,Cx,Cw,Cl2,Cl]
   have:=BP3 (l:=l) (i:=i) (ih M (i+1) (by omega) (by omega)) c (l.g i).Forms.n N 0 (by omega) (by omega)
   refine this.trans ?_;unfold Ck9;rw[Cz4,Cq2,Cq9]
 unfold F2;rw[<- Ca2];exact key l.n N 0 (by omega) (by omega)
end Go.AM
namespace Go.AM
variable {N:Nat}
open Go.Proofs
noncomputable def Y5 (h:A5) (k:Nat):Nat:=((F7 h.Tree h.Tree.n).g k).toNat
open Classical in
noncomputable def exc (N:Nat) (h:A5) (p:Sl E6) (l:Sl Entry) (c:Int) (q:Nat×Nat):Option A3:= if RG N h (Y5 h q.2) (-1) (p.g q.1) ((l.g q.1).Forms.g q.2)then none else some ⟨(q.1:Int),(q.2:Int),if DF N h (Y5 h q.2) (-1) (p.g q.1)=none then 2 else 1,c⟩
def Hu {h:A5}{p:Sl E6}{l:Sl Entry}{c:Int}{q:Nat×Nat}(a:RG N h (Y5 h q.2) (-1) (p.g q.1) ((l.g q.1).Forms.g q.2)):exc N h p l c q=none:=Il a
def Nt {h:A5}{p:Sl E6}{l:Sl Entry}{c:Int}{q:Nat×Nat}(a:¬RG N h (Y5 h q.2) (-1) (p.g q.1) ((l.g q.1).Forms.g q.2))(b:DF N h (Y5 h q.2) (-1) (p.g q.1)≠none):exc N h p l c q=some ⟨(q.1:Int),(q.2:Int),1,c⟩:=by unfold exc;rw[Ix a,Ix b]
def DD {h:A5}{p:Sl E6}{l:Sl Entry}{c:Int}{q:Nat×Nat}(a:DF N h (Y5 h q.2) (-1) (p.g q.1)=none):exc N h p l c q=some ⟨(q.1:Int),(q.2:Int),2,c⟩:=by
 have b:¬RG N h (Y5 h q.2) (-1) (p.g q.1) ((l.g q.1).Forms.g q.2):=by rintro⟨y,y1,_⟩;rw[a]at y1;cases y1
 unfold exc;rw[Ix b,Il a]
noncomputable def GX (N:Nat) (h:A5) (p:Sl E6) (l:Sl Entry) (c:Int):List A3:=(DT l).filterMap (exc N h p l c)
def attOk.len {N:Nat}{h:A5}{p:Sl E6}{l:Sl Entry}(ha:attOk N h p l):(DT l).length<=16128:=by
 have a:=Cq ha.hist.tree
 have:=GW (l:=l) (m:=63) l.n fun j b=>by rw[ha.fn j b];exact a
 have:=ha.n
 show (CN l l.n).length<=_;omega
def Ak9 (b:3000000<=N){h:A5}(c:I6 h)(a:U7 N h)(x:Int):∃X,M8 N h x=some X/\derX N h x (F7 h.Tree h.Tree.n) X:=by obtain⟨X,x1,x2,x3⟩:=AS5 b c a x;exact⟨X,x1,rfl,x2,fun k hk=>(x3 k (by omega)).1⟩
def AG6 (c:3000000<=N){h:A5}{p:Sl E6}{l:Sl Entry}(ha:attOk N h p l):F2 N l=some ((DT l).map (Bk8 l)):=by have a:=Cq ha.hist.tree;exact Bx0 (by omega) (by have:=ha.n;omega) fun i b=>by rw[ha.fn i b];omega
def Cl0 (d:3000000<=N){o:Option (Sl To)}{w:Sl To}{b:Bool}(c:outF o ⟨b,w⟩)(W:Sl To)(hb:b=true):∃e,N2 N w W=some e/\(e=true ↔ ∃y,o=some y/\SE y W):=by
 rcases c with⟨y,b1,b2,b3,b4⟩ | ⟨b1,b2⟩
 .obtain⟨e,e1,e2⟩:=Bv3 (N:=N) (x:=w) (y:=W) (by have:w.n<=32:=b4.1;omega) (by have:w.n<=32:=b4.1;omega);refine⟨e,e1,e2.trans ⟨fun a=>⟨y,b1,b3.symm.trans a⟩,?_⟩⟩;rintro⟨z,z1,z2⟩;rw[b1]at z1;obtain rfl:=Cm3 z1;exact b3.trans z2
 rw[hb]at b2;cases b2
def outF.yes {o:Option (Sl To)}{w:Sl To}(a:outF o ⟨true,w⟩):o≠none:=by
 rcases a with⟨y,b1,_⟩ | ⟨_,b2⟩
 .rw[b1];exact fun e=>by cases e
 cases b2
def outF.no {o:Option (Sl To)}{w:Sl To}(a:outF o ⟨false,w⟩):o=none:=by
 rcases a with⟨y,_,b2,_⟩ | ⟨b1,_⟩
 .cases b2
 exact b1
def At6 {h:A5}{p:Sl E6}{l:Sl Entry}{c:Int}{done:List (Nat×Nat)}{q:Nat×Nat}{z:Sl A3}{e:A3}(a:z.toList=done.filterMap (exc N h p l c))(b:exc N h p l c q=some e):(z.push e).toList=(done++[q]).filterMap (exc N h p l c):=by rw[La,a,Cx7];simp[b]
def AS8 {h:A5}{p:Sl E6}{l:Sl Entry}{c:Int}{done:List (Nat×Nat)}{q:Nat×Nat}{z:Sl A3}(a:z.toList=done.filterMap (exc N h p l c))(b:exc N h p l c q=none):z.toList=(done++[q]).filterMap (exc N h p l c):=by rw[a,Cx7];simp[b]
def GY (f:3000000<=N){h:A5}(u:I6 h){p:Sl E6}{l:Sl Entry}(hp:K0 p)(hl:S3 l)(ha:attOk N h p l){c:Int}(hc:0<=c/\c<=1073741824) :∃b,G2 N h p l c=some (b,0)/\b.toList=GX N h p l c:=by
 suffices ∃r,G2 N h p l c=some r/\(r.2=0/\r.1.toList=GX N h p l c) by obtain⟨⟨b,e⟩,r1,r2,r3⟩:=this;obtain rfl:e=0:=r2;exact⟨b,r1,r3⟩
 have w:=ha.len;obtain⟨X,x1,x2⟩:=Ak9 f u ha.hist (-1);unfold G2;refine B4 (W7 f u hp hl) ?_;rw[(Cr (by omega) hp hl).2 ha];refine Ck (Bm (B4 x1 (B4 rfl (B4 (AG6 f ha) ?_))));have v:Df N h (-1) (F7 h.Tree h.Tree.n) (⟨X.n,fun _=>[]⟩:Sl (List (Str×E6))):=by rw[x2.n];exact Bi7 N h (-1) _
 refine AE2 (fun L a=>∃done todo,DT l=done++todo/\L=todo.map (Bk8 l)/\Df N h (-1) (F7 h.Tree h.Tree.n) a.1/\a.2.toList=done.filterMap (exc N h p l c)/\a.2.n<=done.length) ?_ ?_ _ _ ⟨[],DT l,rfl,rfl,v,rfl,Cl9 _⟩
 .rintro a ⟨done,todo,h1,o,x,i,s⟩
  have:todo=[]:=by simpa using o.symm
  subst this;rw[Cn0]at h1;exact⟨_,rfl,rfl,by rw[i,GX,h1]⟩
 rintro t L ⟨M,z⟩ j ⟨done,todo,h1,o,x,i,s⟩ hs;cases todo with
 |nil=>cases o
 |cons q todo=>
  obtain⟨rfl,rfl⟩:=CF9 o;have m:q∈DT l:=by rw[h1];simp
  obtain⟨q1,q2,q3⟩:=Jp m;have a0:=ha.pn;have hk:q.2<(F7 h.Tree h.Tree.n).n:=by rw[<- ha.fn q.1 q1];exact q2
  have hd:done.length<=16128:=by
   have:=congrArg List.length h1
   rw[Cm0]at this;omega
  obtain⟨r,r1,r2,r3⟩:=MJ f u ha.hist x2 (p:=p.g q.1) (fun _=>ha.pw q.1 (by omega)) hk x;replace s:z.n<=done.length:=s;have hz:z.n<=16128:=Cp0 s hd;have d:∀z' : Sl A3,z'.toList=(done++[q]).filterMap (exc N h p l c)->z'.n<=(done++[q]).length->∃y,j (r.2.2,z')=some y/\(y.2=0/\y.1.toList=GX N h p l c):=fun z' e1 e2=>
   hs _ ⟨done++[q],todo,by rw[h1,Cn9];rfl,rfl,r2,e1,e2⟩
  have hl1:(done++[q]).length=done.length+1:=by simp
  refine ifT (by show (0:Int)<=(q.1:Int)/\(q.1:Int)<(p.n:Int);omega) ?_;show ∃y,(E7 N (p.g (q.1:Int).toNat) (q.2:Int) M X).bind _=some y/\_;rw[Cl2];refine B4 r1 ?_;cases hb:r.2.1 with
  |false=>rw[hb]at r3;refine Bf (ifT (by show (z.n+1)*32<=_/\z.n+1<=_;omega) (d _ (At6 i (DD r3.no)) (by show z.n+1<=_;omega)))
  |true=>
   obtain⟨e,e1,e2⟩:=Cl0 f r3 ((l.g q.1).Forms.g q.2).W hb;rw[hb]at r3;refine Ck (B4 e1 ?_);cases e with
   |false=>exact ifT rfl (ifT (by show (z.n+1)*32<=_/\z.n+1<=_;omega) (d _ (At6 i (Nt (fun hr=>by have:=e2.2 hr;cases this) r3.yes)) (by show z.n+1<=_;omega)))
   |true=>exact Ck (d _ (AS8 i (Hu (e2.1 rfl))) (by show z.n<=_;omega))
end Go.AM
namespace Go.AM
open Go.Proofs
def Fz {N:Nat}{h:A5}{p:Sl E6}{l:Sl Entry}{c:Int}:(GX N h p l c).length<=(DT l).length:=CI2 _ _
end Go.AM
namespace Go.AM
open Go.Proofs
def HZ {N:Nat}(o:3000000<=N)(h:A5):∃b,S8 N h=some b/\True:=by
 unfold S8;by_cases hb:((decide (63<(h.Tree.n:Int)))||(decide (64<(h.Laws.n:Int))))=true
 .exact ifT hb ⟨_,rfl,trivial⟩
 refine ifF hb ?_;have hl:h.Laws.n<=64:=by simp at hb;omega
 refine N4 (fun i x1 x2=>x2=(i:Int)) h.Laws.n _ (by omega) rfl ?_;rintro l i x1 x2 q rfl hs;by_cases c:i<h.Laws.n/\i<=6
 .refine Ax (Ab ?_);rw[Cl2];obtain⟨a,ha,_⟩:=Ba0 (N:=N) (by omega) (h.Laws.g i).Left;obtain⟨b,d,_⟩:=Ba0 (N:=N) (by omega) (h.Laws.g i).Right;exact B4 ha (Ab (B4 d (hs c.1 _ _ (Cl))))
 refine Bm ?_;refine N4 (fun i x3 x4=>x4=(i:Int)) 201 _ (by omega) rfl ?_;rintro f k x3 x4 hk rfl j;by_cases m:k<h.On.n/\k<=200
 .exact Ax (Ab (j (by omega) _ _ (Cl)))
 exact Bm ⟨_,rfl,trivial⟩
def Ia {N:Nat}(y:3000000<=N)(p:Sl E6)(l:Sl Entry):∃b,S9 N p l=some b/\True:=by
 unfold S9;by_cases hb:((((decide (6<(l.n:Int)))&&(decide ((l.n:Int)<=256)))||(decide (400<(l.n:Int))))||(decide (400<(p.n:Int))))=true
 .exact ifT hb ⟨_,rfl,trivial⟩
 refine ifF hb ?_;have v:l.n<=400/\p.n<=400:=by simp at hb;omega
 refine Aq (fun i x=>x=(i:Int)) p.n _ (by omega) rfl ?_;rintro s i x z rfl hs;by_cases a:i<p.n
 .refine Ax (Ab ?_);by_cases t:(decide (100<((p.g (i:Int).toNat).W.n:Int)))=true
  .exact ifT t ⟨_,rfl,trivial⟩
  exact ifF t (hs a _ (Cl))
 refine Bm ?_;refine Aq (fun i x=>x=(i:Int)) l.n _ (by omega) rfl ?_;rintro c k x hk rfl d;by_cases f:k<l.n
 .refine Ax (Ab ?_);rw[Cl2];by_cases m:(decide (20<((l.g k).Forms.n:Int)))=true
  .exact ifT m ⟨_,rfl,trivial⟩
  have w:(l.g k).Forms.n<=20:=by simp at m;omega
  refine ifF m (Aq (fun i x=>x=(i:Int)) (l.g k).Forms.n _ (by omega) rfl ?_);rintro o j x hj rfl q;refine Ab ?_;by_cases r:j<(l.g k).Forms.n
  .refine Ax (Ab ?_);by_cases u:(decide (100<(((l.g k).Forms.g (j:Int).toNat).W.n:Int)))=true
   .exact ifT u ⟨_,rfl,trivial⟩
   exact ifF u (q r _ (Cl))
  exact Bm (d f _ (Cl))
 exact Bm ⟨_,rfl,trivial⟩
end Go.AM
namespace Go.AM
open Go.Proofs
end Go.AM
namespace Go.AM
open Go.Proofs
end Go.AM
namespace Go.AM
open Go.Proofs
end Go.AM
namespace Go.AM
open Go.Proofs
end Go.AM
namespace Go.AM
open Go.Proofs
end Go.AM
