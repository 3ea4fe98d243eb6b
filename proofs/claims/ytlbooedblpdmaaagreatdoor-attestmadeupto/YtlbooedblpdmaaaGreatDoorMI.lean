/- Part 9. -/
import Derived.Test.YtlbooedblpdmaaaGreatDoorMH
import Derived.Test.YtlbooedblpdmaaaGreatDoorMG
set_option linter.defProp false
set_option linter.unusedSimpArgs false
set_option linter.unusedVariables false
set_option linter.unusedSectionVars false
namespace Go.AM
variable {N:Nat}
open IntKind (wrap)
def Bm8:=@Nat.lt_one_iff
def Bs1:=@List.filter_eq_self
open Go.Proofs
abbrev Hn (e:Entry):Sl Entry:=(Sl.of [e]:Sl Entry)
def Aw5 (e:Entry):IC (Hn e)=attR (Hn e) 0 e.Forms.n:=by show Uh (Hn e) 1=_;rw[Ui];rfl
def Zn (N:Nat)(h:A3)(e:Entry)(w:Sl Oh)(q:Nat×Nat):Prop:=AN4 N h (FI h q.2) (-1) ⟨true,w⟩ (e.Forms.g q.2)
noncomputable def KD (N:Nat) (h:A3) (e:Entry) (w:Sl Oh):Nat:=Ak0 (Zn N h e w) (IC (Hn e))
noncomputable def Dz (N:Nat) (h:A3) (e:Entry) (c:Sl (Sl Oh)):Nat->Int×Int
 |0=>(0,-1)
 |i+1=>if (Dz N h e c i).2<(KD N h e (c.g i):Int)then ((i:Int),(KD N h e (c.g i):Int))else Dz N h e c i
def NO {h:A3}{e:Entry}{c:Sl (Sl Oh)}{i:Nat}(g:(Dz N h e c i).2<(KD N h e (c.g i):Int)):Dz N h e c (i+1)=((i:Int),(KD N h e (c.g i):Int)):=Kc g
def RF {h:A3}{e:Entry}{c:Sl (Sl Oh)}{i:Nat}(g:¬(Dz N h e c i).2<(KD N h e (c.g i):Int)):Dz N h e c (i+1)=Dz N h e c i:=Ke g
structure AC5 (N:Nat) (h:A3) (e:Entry) (c:Sl (Sl Oh)):Prop where
 hist:T2 N h
 n:c.n<=256
 fn:e.Forms.n=(F1 h.Tree h.Tree.n).n
 cw:∀i,i<c.n->wOk (c.g i)
def Aw6 (hN:3000000<=N){h:A3}(hi:Q2 h){e:Entry}{c:Sl (Sl Oh)}(hb:AC5 N h e c){X:Sl (Sl Law)}(hX:derX N h (-1) (F1 h.Tree h.Tree.n) X) :∃r,WM N (fun o (x17:Sl (List (Str×C9))) (x18:Int) (v:Int) (l:Int)=>
  if (decide (l<(c.n:Int))) then
   if ((0:Int)<=l/\l<(c.n:Int))then
    (K7 N (Sl.of [e]:Sl Entry)).bind fun y39=>
    (D5 N y39).bind fun L4=>
    N8 L4 (fun d (x27:I3×(Sl Oh)) (j:(Sl (List (Str×C9)))×Int)=>
     (F0 N (⟨true,c.g l.toNat⟩:C9) x27.1.leaf j.1 X).bind fun s=>
     lt (fun (z16:Bool)=>
      if z16 then
       d (s.2.2,wrap .i64 (j.2+1))
      else
       d (s.2.2,j.2)
      ) fun k12=>
      if s.2.1 then
       (P1 N s.1 x27.2).bind fun y48=>
       k12 y48
      else
       k12 false
     ) (fun (j:(Sl (List (Str×C9)))×Int)=>
      if (decide (v<j.2)) then
       o j.1 l j.2 (wrap .i64 (l+1))
      else
       o j.1 x18 v (wrap .i64 (l+1))
     ) (x17,0)
   else none
  else
   some (x18,v,(0:Int))
  ) (⟨X.n,fun _=>[]⟩:Sl (List (Str×C9))) 0 (-1) 0=some r/\r=((Dz N h e c c.n).1,(Dz N h e c c.n).2,0):=by
 have h63:=FH hb.hist.tree;have hcn:=hb.n;have hfn:=hb.fn;have hm0:Ll N h (-1) (F1 h.Tree h.Tree.n) (⟨X.n,fun _=>[]⟩:Sl (List (Str×C9))):=by rw[hX.n];exact AX2 N h (-1) _
 have hat:D5 N (Sl.of [e]:Sl Entry)=some ((IC (Hn e)).map (Av9 (Hn e))):=Aj4 (by omega) (by show 1<_;omega) fun i hi=>by
  have hi:i<1:=hi;obtain rfl:i=0:=by omega
  show e.Forms.n<_;omega
 have hlen:(IC (Hn e)).length<=63:=by rw[Aw5];have:=LU (Hn e) 0 e.Forms.n;omega
 refine AV9 (fun i (M:Sl (List (Str×C9))) b m x=>x=(i:Int)/\Ll N h (-1) (F1 h.Tree h.Tree.n) M/\b=(Dz N h e c i).1/\m=(Dz N h e c i).2) c.n _ (by omega) ⟨rfl,hm0,rfl,rfl⟩ ?_;rintro self i M b m x hle ⟨rfl,hM,rfl,rfl⟩ hs;by_cases w:i<c.n
 case neg=>
  obtain rfl:i=c.n:=by omega
  exact Dg ⟨_,rfl,rfl⟩
 refine Ao (Am (B0 rfl (B0 hat ?_)));rw[AZ2];refine YU (fun L a=>∃done todo,IC (Hn e)=done++todo/\L=todo.map (Av9 (Hn e))/\Ll N h (-1) (F1 h.Tree h.Tree.n) a.1/\a.2=((Ak0 (Zn N h e (c.g i)) done:Nat):Int)) ?_ ?_ _ _ ⟨[],IC (Hn e),rfl,rfl,hM,rfl⟩
 .rintro a ⟨done,todo,h1,h2,h3,h4⟩
  have:todo=[]:=by simpa using h2.symm
  subst this;rw[Be8]at h1;have e4:a.2=(KD N h e (c.g i):Int):=by rw[h4,<- h1];rfl
  rw[e4];by_cases g:(Dz N h e c i).2<(KD N h e (c.g i):Int)
  .exact ifT (by simpa using g) (hs w _ _ _ _ ⟨Gx,h3,by rw[NO g],by rw[NO g]⟩)
  exact ifF (by simpa using g) (hs w _ _ _ _ ⟨Gx,h3,by rw[RF g],by rw[RF g]⟩)
 rintro t L ⟨M1,z⟩ d ⟨done,todo,h1,h2,h3,h4⟩ hs6;cases todo with
 |nil=>cases h2
 |cons q todo=>
  obtain⟨rfl,rfl⟩:=Bt1 h2;have hmem:q∈IC (Hn e):=by rw[h1];simp
  obtain⟨q1,q2,q3⟩:=LX hmem;have hq0:q.1=0:=by have q1:q.1<1:=q1;omega
  have hge:(Hn e).g q.1=e:=by rw[hq0];rfl
  rw[hge]at q2;have hk:q.2<(F1 h.Tree h.Tree.n).n:=by omega
  have hd:done.length<=63:=by
   have:=congrArg List.length h1
   rw[Ba7]at this;omega
  have hcl:=Ak1 (Zn N h e (c.g i)) done;replace h4:z=((Ak0 (Zn N h e (c.g i)) done:Nat):Int):=h4;have u:IC (Hn e)=(done++[q])++todo:=by rw[h1,Bf5];rfl
  obtain⟨r,r1,r2,r3⟩:=XL hN hi hb.hist hX (p:=⟨true,c.g i⟩) (fun _=>hb.cw i w) hk h3;have hW:(Av9 (Hn e) q).2=(e.Forms.g q.2).W:=by show (((Hn e).g q.1).Forms.g q.2).W=_;rw[hge]
  have hyes:Zn N h e (c.g i) q->∃y,d (r.2.2,wrap .i64 (z+1))=some y/\y=((Dz N h e c c.n).1,(Dz N h e c c.n).2,0):=fun hq=>
   hs6 _ ⟨done++[q],todo,u,rfl,r2,by show wrap .i64 (z+1)=_;rw[h4,Gx,Aw4 hq]⟩
  have hno:¬Zn N h e (c.g i) q->∃y,d (r.2.2,z)=some y/\y=((Dz N h e c c.n).1,(Dz N h e c c.n).2,0):=fun hq=>
   hs6 _ ⟨done++[q],todo,u,rfl,r2,by show z=_;rw[h4,AN9 hq]⟩
  show ∃y,(F0 N (⟨true,c.g i⟩:C9) (q.2:Int) M1 X).bind _=some y/\_;refine B0 r1 (ltX ?_);rw[hW];cases hb2:r.2.1 with
  |false=>
   rw[hb2]at r3;refine Gv (Gv (hno ?_));rintro⟨y,z1,_⟩
   have:DF N h (FI h q.2) (-1) ⟨true,c.g i⟩=none:=r3.no
   rw[this]at z1;cases z1
  |true=>
   obtain⟨f,f1,f2⟩:=cmpF hN r3 (e.Forms.g q.2).W hb2;refine ifT rfl (B0 f1 ?_);cases f with
   |true=>exact ifT rfl (hyes (f2.1 rfl))
   |false=>exact Gv (hno fun g=>by have:=f2.2 g;cases this)
noncomputable def csE (N:Nat) (c:Sl (Sl Oh)):Int:=Ge (fun i=>wE N (c.g i)) c.n
noncomputable def Uk (N:Nat) (h:A3) (e:Entry) (c:Sl (Sl Oh)):Int:= if hres N h≠0 then hres N h else if 256<c.n then 12 else orE (e2 (Hn e) (F1 h.Tree h.Tree.n).n 0) (orE (e15 (Hn e) 0) (orE (wsE N e.Forms) (orE (csE N c) (if c.n=0 then 5 else 0))))
noncomputable def Ak2 (N:Nat) (h:A3) (e:Entry) (c:Sl (Sl Oh)):Int×Int×Int:=if Uk N h e c=0 then ((Dz N h e c c.n).1,(Dz N h e c c.n).2,0)else (0,0,Uk N h e c)
def fst1_one {f:Nat->Int}:Ge f 1=f 0:=GO (k:=0) rfl
def Aw7 (b:1000<=N){h:A3}{e:Entry}{c:Sl (Sl Oh)}(hc:∀i,i<c.n->okA (c.g i))(g1:hres N h=0)(g2:¬ 256<c.n)(g3:e2 (Hn e) (F1 h.Tree h.Tree.n).n 0=0)(g4:csE N c=0):AC5 N h e c:=
 ⟨hres_zero.1 g1,by omega,(We g3).1,fun i a=>(GR b (hc i a)).1 (AL g4 i a)⟩
def Dw {h:A3}{e:Entry}{c:Sl (Sl Oh)}{x:Int}(hx:Uk N h e c=x)(a:x≠0):Ak2 N h e c=(0,0,x):=by unfold Ak2;rw[hx,Ke a]
def Ak3 (j:3000000<=N){h:A3}(m:Q2 h){e:Entry}(q:Gb (Hn e)){c:Sl (Sl Oh)}(hc:∀i,i<c.n->okA (c.g i)):U2 N h e c=some (Ak2 N h e c):=by
 refine eqR ?_;unfold U2;rw[Hl j m];by_cases g1:hres N h=0
 case neg=>exact B0 rfl (ifT (by simpa using g1) ⟨_,rfl,(Dw (Kc g1) g1).symm⟩)
 have b:=hres_zero.1 g1;have u:=FH b.tree;refine B0 rfl (ifF (by simp[g1]) ?_);by_cases g2:256<c.n
 .exact Ao ⟨_,rfl,(Dw (by unfold Uk;rw[Ke (fun f=>f g1),Kc g2]) (by decide)).symm⟩
 refine Df (B0 (GQ j m.tree b.tree).1 ?_);have eX:Uk N h e c=orE (e2 (Hn e) (F1 h.Tree h.Tree.n).n 0) (orE (e15 (Hn e) 0) (orE (wsE N e.Forms) (orE (csE N c) (if c.n=0 then 5 else 0)))):=by unfold Uk;rw[Ke (fun f=>f g1),Ke g2]
 have a:=NN j (l:=Hn e) (k:=(F1 h.Tree h.Tree.n).n) (by omega) (by show 1<900;omega) q;rw[show (Hn e).n=1 from rfl,fst1_one,fst1_one]at a;refine B0 a ?_;by_cases g3:e2 (Hn e) (F1 h.Tree h.Tree.n).n 0=0
 case neg=>rw[JH g3]at eX⊢;exact ifT (by simpa using g3) ⟨_,rfl,(Dw eX g3).symm⟩
 by_cases g4:e15 (Hn e) 0=0
 case neg=>rw[Ei g3,JH g4]at eX⊢;exact ifT (by simpa using g4) ⟨_,rfl,(Dw eX g4).symm⟩
 rw[Ei g3,Ei g4];rw[Ei g3,Ei g4]at eX;have v:e.Forms.n=(F1 h.Tree h.Tree.n).n:=(We g3).1;have o:BS e.Forms:=(q 0 (by show 0<1;omega)).1;refine Gv (B0 (ES (by omega) (by omega) o).1 ?_);by_cases g5:wsE N e.Forms=0
 case neg=>rw[JH g5]at eX;exact ifT (by simpa using g5) ⟨_,rfl,(Dw eX g5).symm⟩
 rw[Ei g5]at eX;refine ifF (by simp[g5]) ?_;refine Av (fun i x=>x=(i:Int)/\Ge (fun i=>wE N (c.g i)) i=0) c.n _ (by omega) ⟨rfl,rfl⟩ ?_;rintro s i x hle ⟨rfl,t⟩ hs;by_cases d:i<c.n
 .refine Ao (Am ?_);rw[AZ2];refine B0 (PO (by omega) (hc i d)).1 ?_;have eS:Ge (fun i=>wE N (c.g i)) (i+1)=wE N (c.g i):=GO t;by_cases g6:wE N (c.g i)=0
  .exact ifF (by simp[g6]) (hs d _ ⟨Gx,by rw[eS];exact g6⟩)
  have e7:csE N c=wE N (c.g i):=by unfold csE;rw[GP (i:=i+1) (by rw[eS];exact g6) c.n d,eS]
  rw[JH (by rw[e7];exact g6),e7]at eX;exact ifT (by simpa using g6) ⟨_,rfl,(Dw eX g6).symm⟩
 obtain rfl:i=c.n:=by omega
 refine Dg ?_;have g7:csE N c=0:=t;rw[Ei g7]at eX;by_cases g8:c.n=0
 .rw[Kc g8]at eX;exact ifT (by simp[g8]) ⟨_,rfl,(Dw eX (by decide)).symm⟩
 rw[Ke g8]at eX;obtain⟨X,x1,x2⟩:=AC3 j m b (-1);refine Df (B0 x1 ?_);obtain⟨r,r1,r2⟩:=Aw6 j m (Aw7 (by omega) hc g1 g2 g3 g7) x2;exact⟨r,r1,by rw[r2];unfold Ak2;rw[Kc eX]⟩
end Go.AM
namespace Go.AM
open Go.Proofs
def Ak4 {h:A3}{N:Nat}(a:T2 N h){u:Nat}(b:u<h.Tree.n):GN h (GM h.Tree u) (-1)=Kz h (GM h.Tree u):=by
 have key:∀L:List Nat,(∀v∈L,v<h.Tree.n)->GN h L (-1)=Kz h L:=by
  intro L
  induction L with
  |nil=>intro _;rfl
  |cons v L ih=>
   intro hL;unfold GN Kz at ih⊢;rw[Bg2,Bg2,ih fun w hw=>hL w (by simp[hw])];congr 1;unfold Zk;rw[LT];congr 1;refine Bs1.2 fun i c=>?_;obtain⟨j,d,rfl⟩:=Bd5.1 c
   have:=(Ai2 a (hL v (by simp))).2 j (Bc3.1 d)
   simp;omega
 exact key _ fun v f=>by have:=NK a.tree u u (Ba0 _) b v f;omega
def DX_DV {h:A3}{N:Nat}(a:T2 N h){u:Nat}(b:u<h.Tree.n)(w:Sl Oh):DX N h u (-1) w=DV N h w u:=by unfold DX DV;rw[Ak4 a b]
end Go.AM
namespace Go.AM
open Go.Proofs
end Go.AM
namespace Go.AM
open Go.Proofs
end Go.AM
namespace Go.AM
variable {N:Nat}
open Go.Proofs
def Ul (l:Sl Entry)(n:Nat)(x:A2):Prop:=x.Entry<0 \/ (l.n:Int)<=x.Entry \/ x.Leaf<0 \/ (n:Int)<=x.Leaf
def ET (bad:Sl A2)(i:Nat)(x:A2):Prop:=∃t,t<i/\(bad.g t).Entry=x.Entry/\(bad.g t).Leaf=x.Leaf
def AX6 (l:Sl Entry)(n:Nat)(bad:Sl A2)(L:List A2)(r:Bool×Int):Prop:= (r.2=3/\r.1=false/\∃i,i<bad.n/\Ul l n (bad.g i)) \/ (r.2=0/\(∀i,i<bad.n->¬Ul l n (bad.g i))/\(r.1=true ↔ ∀x∈L,ET bad bad.n x))
def Ak5 {l:Sl Entry}{n:Nat}{bad:Sl A2}{L:List A2}{r r' : Bool×Int}(h:AX6 l n bad L r)(h' : AX6 l n bad L r'):r.1=r'.1/\r.2=r'.2:=by
 rcases h with⟨a1,a2,i,i1,i2⟩ | ⟨a1,a2,a3⟩<;>rcases h' with⟨c1,c2,j,j1,j2⟩ | ⟨c1,c2,c3⟩
 .exact⟨by rw[a2,c2],by rw[a1,c1]⟩
 .exact Lq i2 (c2 i i1)
 .exact Lq j2 (a2 j j1)
 exact⟨Bd2.2 (a3.trans c3.symm),by rw[a1,c1]⟩
def exOut_dec {l:Sl Entry}{n:Nat}{x:A2}:((((decide (x.Entry<0))||(decide ((l.n:Int)<=x.Entry)))||(decide (x.Leaf<0)))||(decide ((n:Int)<=x.Leaf)))=true↔Ul l n x:=by simp[Ul,or_assoc]
def pl_eq {a b:I3}:U3 a b=true↔a=b:=by cases a;cases b;simp[U3]
def RG {ν : Type}{k s:I3}{v : ν}:∀es:List (I3 × ν),W7 U3 s (Hq U3 k v es)=if s=k then some v else W7 U3 s es
 |[]=>by
  simp only[Hq,W7];by_cases h:s=k
  .subst h;rw[Kc (pl_eq.2 rfl),Kc rfl]
  rw[Ke (fun g=>h (pl_eq.1 g)),Ke h]
 |(a,x)::es=>by
  simp only[Hq];by_cases h:k=a
  .subst h;rw[Kc (pl_eq.2 rfl)];simp only[W7];by_cases b:s=k
   .subst b;rw[Kc (pl_eq.2 rfl),Kc rfl]
   rw[Ke (fun g=>b (pl_eq.1 g)),Ke b,Ke (fun g=>b (pl_eq.1 g))]
  rw[Ke (fun g=>h (pl_eq.1 g))];simp only[W7];rw[RG es];by_cases b:s=k
  .subst b;rw[Ke (fun g=>h (pl_eq.1 g)),Kc rfl,Kc rfl]
  rw[Ke b,Ke b]
structure Ak6 (bad:Sl A2) (i:Nat) (es:List (I3×Bool)):Prop where
 yes:∀x:A2,ET bad i x->W7 U3 (⟨x.Entry,x.Leaf⟩:I3) es=some true
 no:∀x:A2,¬ET bad i x->W7 U3 (⟨x.Entry,x.Leaf⟩:I3) es=none
def exSame_S {bad:Sl A2}{i:Nat}{x:A2}:ET bad (i+1) x↔ET bad i x \/ ((bad.g i).Entry=x.Entry/\(bad.g i).Leaf=x.Leaf):=by
 constructor
 .rintro⟨t,t1,t2⟩;by_cases e:t=i
  .subst e;exact .inr t2
  exact .inl ⟨t,by omega,t2⟩
 rintro (⟨t,t1,t2⟩ | g)
 .exact⟨t,by omega,t2⟩
 exact⟨i,by omega,g⟩
def AO0 {bad:Sl A2}{i:Nat}{es:List (I3×Bool)}(h:Ak6 bad i es):Ak6 bad (i+1) (Hq U3 (⟨(bad.g i).Entry,(bad.g i).Leaf⟩:I3) true es) where
 yes:=fun x hx=>by
  rw[RG];by_cases e:(⟨x.Entry,x.Leaf⟩:I3)=⟨(bad.g i).Entry,(bad.g i).Leaf⟩
  .rw[Kc e]
  rw[Ke e];rcases exSame_S.1 hx with g|⟨g1,g2⟩
  .exact h.yes x g
  exact Lq (by rw[g1,g2]) e
 no:=fun x hx=>by
  rw[RG,Ke]
  .exact h.no x fun g=>hx (exSame_S.2 (.inl g))
  intro e;injection e with e1 e2;exact hx (exSame_S.2 (.inr ⟨e1.symm,e2.symm⟩))
def Aw8 {bad:Sl A2}{i:Nat}{es:List (I3×Bool)}(h:Ak6 bad i es)(x:A2):∃b,I6 N x es=some b/\(b=true ↔ ¬ET bad i x):=by
 unfold I6;by_cases g:ET bad i x
 .exact⟨false,by rw[h.yes x g];rfl,⟨fun f=>(by cases f),fun f=>Lq g f⟩⟩
 exact⟨true,by rw[h.no x g];rfl,⟨fun _=>g,fun _=>rfl⟩⟩
def Aw9 {s:Sl A2}(f:s.n<N)(hs:s.n<1000000000){bad:Sl A2}{i:Nat}{es:List (I3×Bool)}(h:Ak6 bad i es):∃b,V6 N s es=some b/\(b=true ↔ ∃j,j<s.n/\¬ET bad i (s.g j)):=by
 have key:∃r,B8 N s (fun x=>I6 N x es)=some r/\(0<=r ↔ ∃j,j<s.n/\¬ET bad i (s.g j)):=by
  unfold B8;refine Av (fun j y=>y=(j:Int)/\∀t,t<j->ET bad i (s.g t)) s.n _ f ⟨rfl,fun t ht=>Lq ht (Bb5 _)⟩ ?_;rintro d j y l ⟨rfl,a⟩ hk;by_cases c:j<s.n
  .obtain⟨b,b1,b2⟩:=Aw8 (N:=N) h (s.g j);refine Ao (Am ?_);rw[AZ2];refine B0 b1 ?_;cases b with
   |true=>exact ifT rfl ⟨_,rfl,⟨fun _=>⟨j,c,b2.1 rfl⟩,fun _=>by omega⟩⟩
   |false=>
    refine Gv (hk c _ ⟨Gx,fun t ht=>?_⟩);by_cases e:t=j
    .subst e;exact Ba9 fun g=>by cases b2.2 g
    exact a t (by omega)
  obtain rfl:j=s.n:=by omega
  refine Dg ⟨_,rfl,⟨fun g=>Lq g (by decide),?_⟩⟩;rintro⟨t,t1,t2⟩;exact Lq (a t t1) t2
 obtain⟨r,r1,r2⟩:=key;unfold V6;rw[r1];exact⟨_,rfl,by rw[Lt];exact r2⟩
def Um (hN:3000000<=N){h:A3}(hi:Q2 h){p:Sl C9}{l:Sl Entry}(hp:BS p)(hl:Gb l){bad:Sl A2}(hb:bad.n<2000000) :∃r r',K8 N h p l bad=some r/\Cb N h p l bad=some r' /\ r.1=r'.1/\r.2=r'.2/\(attOk N h p l->AX6 l (F1 h.Tree h.Tree.n).n bad (RD N h p l 0) r)/\(¬attOk N h p l->r.1=false/\r.2≠0):=by
 obtain⟨b,b',b1,b1',b2,b3,b4,b5,b6⟩:=Aj7 hN hi hp hl 0;by_cases m:b.2=0
 case neg=>
  have hna:¬attOk N h p l:=fun g=>m (b4.2 ⟨g,by omega,by omega⟩);refine⟨(false,b.2),(false,b'.2),?_,?_,rfl,b2,fun g=>Lq g hna,fun _=>⟨rfl,m⟩⟩
  .unfold K8;rw[b1,AZ6,Kc (by simpa using m)]
  unfold Cb;rw[b1',AZ6,Kc (by rw[<- b2];simpa using m)]
 have ha:=(b4.1 m).1;have hok:=ha.hist;have o:=ha.len;have h0' : b'.2=0:=by rw[<- b2];exact m
 have hn:b.1.n<=16128:=by rw[<- EN b.1,b5 m];exact Bd7 RE o
 have hn' : b'.1.n<=16128:=by rw[<- EN b'.1,<- b3,b5 m];exact Bd7 RE o
 obtain⟨v1,v2⟩:=GQ hN hi.tree hok.tree;have w1:∃r,K8 N h p l bad=some r/\AX6 l (F1 h.Tree h.Tree.n).n bad b.1.toList r:=by
  unfold K8;refine B0 b1 (ifF (by simp[m]) (B0 v1 ?_));refine O8 (fun i es y=>y=(i:Int)/\Ak6 bad i es/\∀t,t<i->¬Ul l (F1 h.Tree h.Tree.n).n (bad.g t)) bad.n _ (by omega) ⟨rfl,⟨fun x ⟨t,t1,_⟩=>Lq t1 (Bb5 _),fun x _=>rfl⟩,fun t ht=>Lq ht (Bb5 _)⟩ ?_;rintro z i es y hle ⟨rfl,hm,a⟩ hk;by_cases d:i<bad.n
  .refine Ao (Am ?_);rw[AZ2];by_cases e:Ul l (F1 h.Tree h.Tree.n).n (bad.g i)
   .exact ifT (exOut_dec.2 e) ⟨_,rfl,.inl ⟨rfl,rfl,i,d,e⟩⟩
   refine ifF (fun g=>e (exOut_dec.1 g)) (hk d _ _ ⟨Gx,AO0 hm,fun t ht=>?_⟩);by_cases et:t=i
   .subst et;exact e
   exact a t (by omega)
  obtain rfl:i=bad.n:=by omega
  obtain⟨c,c1,c2⟩:=Aw9 (N:=N) (s:=b.1) (by omega) (by omega) hm;refine Dg (B0 c1 ⟨_,rfl,.inr ⟨rfl,a,?_⟩⟩);show (!c)=true↔_;constructor
  .intro g x hx;obtain⟨t,t1,rfl⟩:=Bd5.1 hx;exact Ba9 fun q=>by
    have:=c2.2 ⟨t,Bc3.1 t1,q⟩
    subst this;cases g
  intro g;cases c with
  |false=>rfl
  |true=>obtain⟨t,t1,t2⟩:=c2.1 rfl;exact Lq (g _ (Bd5.2 ⟨t,Bc3.2 t1,rfl⟩)) t2
 have w2:∃r,Cb N h p l bad=some r/\AX6 l (F1 h.Tree h.Tree.n).n bad b'.1.toList r:=by
  unfold Cb;refine B0 b1' (ifF (by simp[h0']) (B0 v2 ?_));refine Av (fun i y=>y=(i:Int)/\∀t,t<i->¬Ul l (F1 h.Tree h.Tree.n).n (bad.g t)) bad.n _ (by omega) ⟨rfl,fun t ht=>Lq ht (Bb5 _)⟩ ?_;rintro z i y hle ⟨rfl,a⟩ hk;by_cases d:i<bad.n
  .refine Ao (Am (ifT ⟨⟨fun _=>by omega,fun _ _=>by omega⟩,fun _ _ _=>by omega⟩ ?_));rw[AZ2];by_cases e:Ul l (F1 h.Tree h.Tree.n).n (bad.g i)
   .exact ifT (exOut_dec.2 e) ⟨_,rfl,.inl ⟨rfl,rfl,i,d,e⟩⟩
   refine ifF (fun g=>e (exOut_dec.1 g)) (hk d _ ⟨Gx,fun t ht=>?_⟩);by_cases et:t=i
   .subst et;exact e
   exact a t (by omega)
  obtain rfl:i=bad.n:=by omega
  refine Dg ?_;refine Av (fun j y=>y=(j:Int)/\∀t,t<j->ET bad bad.n (b'.1.g t)) b'.1.n _ (by omega) ⟨rfl,fun t ht=>Lq ht (Bb5 _)⟩ ?_;rintro self4 j y hj ⟨rfl,a0⟩ hk4;by_cases a1:j<b'.1.n
  .refine Ao ?_;refine O8 (fun t f y=>y=(t:Int)/\(f=true↔ET bad t (b'.1.g j))) bad.n _ (by omega) ⟨rfl,⟨fun f=>(by cases f),fun⟨q,q1,_⟩=>Lq q1 (Bb5 _)⟩⟩ ?_;rintro self5 t f y ht ⟨rfl,hf⟩ v;by_cases w:t<bad.n
   .refine Ao ?_;cases f with
    |true=>exact ifT rfl (v w _ _ ⟨Gx,⟨fun _=>exSame_S.2 (.inl (hf.1 rfl)),fun _=>rfl⟩⟩)
    |false=>
     have u:¬ET bad t (b'.1.g j):=fun g=>by cases hf.2 g
     refine Gv (Am ?_);rw[AZ2,AZ2];by_cases e:(bad.g t).Entry=(b'.1.g j).Entry
     .refine ifT (by simp[e]) (Am (v w _ _ ⟨Gx,?_⟩));rw[beq_iff_eq,exSame_S];exact⟨fun q=>.inr ⟨e,q⟩,fun q=>q.elim (fun q=>Lq q u) (fun q=>q.2)⟩
     refine ifF (by simpa using e) (v w _ _ ⟨Gx,⟨fun q=>(by cases q),fun q=>?_⟩⟩);rcases exSame_S.1 q with q|q
     .exact Lq q u
     exact Lq q.1 e
   obtain rfl:t=bad.n:=by omega
   refine Dg ?_;cases f with
   |false=>exact ifT rfl ⟨_,rfl,.inr ⟨rfl,a,⟨fun g=>(by cases g),fun g=>by cases hf.2 (g _ (Bd5.2 ⟨j,Bc3.2 a1,rfl⟩))⟩⟩⟩
   |true=>
    refine Gv (hk4 a1 _ ⟨Gx,fun q hq=>?_⟩);by_cases eq:q=j
    .subst eq;exact hf.1 rfl
    exact a0 q (by omega)
  obtain rfl:j=b'.1.n:=by omega
  refine Dg ⟨_,rfl,.inr ⟨rfl,a,⟨fun _ x hx=>?_,fun _=>rfl⟩⟩⟩;obtain⟨t,t1,rfl⟩:=Bd5.1 hx;exact a0 t (Bc3.1 t1)
 obtain⟨r,r1,r2⟩:=w1;obtain⟨r',r1',r2'⟩:=w2;rw[<- b3]at r2';obtain⟨u1,u2⟩:=Ak5 r2 r2';rw[b5 m]at r2;exact⟨r,r',r1,r1',u1,u2,fun _=>r2,fun g=>Lq ha g⟩
end Go.AM
namespace Go.AM
open Go.Proofs
end Go.AM
namespace Go.AM
variable {N:Nat}
open Go.Proofs
def Un (L:List C9):Nat:=(L.filter fun f=>f.Has).length
def Wh (L:List Entry):Nat:=(L.map fun e=>Un e.Forms.toList).sum
def Cv (L:List C9)(f:C9):Un (L++[f])=Un L+(if f.Has then 1 else 0):=by
 unfold Un;rw[Bk1,Ba7];by_cases h:f.Has=true
 .rw[Kc h,Bm1 (p:=fun f:C9=>f.Has) h];rfl
 rw[Ke h,Bm2 (p:=fun f:C9=>f.Has) h];rfl
def Ak7 (L:List Entry)(e:Entry):Wh (L++[e])=Wh L+Un e.Forms.toList:=by unfold Wh;rw[Be6,List.sum_append];simp
def Ax0 (l:Sl Entry)(i:Nat):(attR l i (l.g i).Forms.n).length=Un (l.g i).Forms.toList:=by unfold attR Un Sl.toList;rw[Bc9,List.filter_map,Bc9];rfl
def XQ (l:Sl Entry):(IC l).length=Wh l.toList:=by unfold IC Uh Wh Sl.toList;rw[List.length_flatMap,Bg7];congr 1;exact Bc4 fun i _=>Ax0 l i
def Wi (N:Nat)(h:A3)(w:Sl Oh)(k:Nat)(f:C9):Prop:= (f.Has=true/\wOk f.W/\∃v,DV N h w (FI h k)=some v/\SE f.W v) \/ (f.Has=false/\f.W.n=0/\DV N h w (FI h k)=none)
structure OH (N:Nat) (h:A3) (w:Sl Oh) (e:Entry):Prop where
 gl:e.Gloss=[103]
 n:e.Forms.n=(F1 h.Tree h.Tree.n).n
 f:∀k,k<(F1 h.Tree h.Tree.n).n->Wi N h w k (e.Forms.g k)
def Iz {w:Sl Oh}(h:wOk w):okA w:=fun i a=>by obtain⟨p,m,e,_⟩:=h.2 i a;exact⟨p,m,e⟩
def Ak8 {h:A3}{w:Sl Oh}{e:Entry}(a:OH N h w e):¬emp e.Forms:=fun⟨k,k1,k2,k3⟩=>by
 rcases a.f k (by rw[<- a.n];exact k1)with g|g
 .rw[g.1]at k2;cases k2
 omega
def Wj {h:A3}{w:Sl Oh}{e:Entry}(a:OH N h w e){k:Nat}(hk:k<e.Forms.n):wOk (e.Forms.g k).W:=by
 rcases a.f k (by rw[<- a.n];exact hk)with g|g
 .exact g.2.1
 exact⟨by omega,fun i b=>Lq b (by omega)⟩
def Ak9 {h:A3}(b:T2 N h){p:Sl C9}{l:Sl Entry}{ws:Sl (Sl Oh)}(d:l.n<=256)(c:p.n=l.n)(hp:∀i,i<l.n->p.g i=⟨true,ws.g i⟩)(hw:∀i,i<l.n->wOk (ws.g i))(hl:∀i,i<l.n->OH N h (ws.g i) (l.g i)):attOk N h p l where
 hist:=b
 n:=d
 pn:=c
 pe:=fun⟨i,i1,i2,_⟩=>by rw[hp i (by omega)]at i2;cases i2
 fn:=fun i a=>(hl i a).n
 fe:=fun i a=>Ak8 (hl i a)
 nm:=fun i a=>by rw[(hl i a).gl];decide
 pw:=fun i a=>by rw[hp i (by omega)];exact hw i (by omega)
 fw:=fun i a k hk=>Wj (hl i a) hk
def XR {h:A3}(c:T2 N h){w:Sl Oh}{e:Entry}(i:OH N h w e){k:Nat}(hk:k<e.Forms.n)(j:(e.Forms.g k).Has=true):AN4 N h (FI h k) (-1) ⟨true,w⟩ (e.Forms.g k):=by
 have a:k<(F1 h.Tree h.Tree.n).n:=by rw[<- i.n];exact hk
 obtain⟨u,l,d⟩:=Ix h.Tree h.Tree.n k a;have b:FI h k=u:=by unfold FI;rw[d,AZ2]
 rcases i.f k a with⟨_,_,v,v1,v2⟩ | g
 .refine⟨v,?_,v2.symm⟩;show (if true then DX N h (FI h k) (-1) w else none)=some v;rw[Kc rfl,b,DX_DV c l,<- b];exact v1
 rw[g.1]at j;cases j
def Ax1 {h:A3}(a:T2 N h){p:Sl C9}{l:Sl Entry}{ws:Sl (Sl Oh)}(hp:∀i,i<l.n->p.g i=⟨true,ws.g i⟩)(hl:∀i,i<l.n->OH N h (ws.g i) (l.g i))(c:Int):RD N h p l c=[]:=by unfold RD;rw[List.filterMap_eq_nil_iff];intro q b;obtain⟨q1,q2,q3⟩:=LX b;refine Wf ?_;rw[hp q.1 q1];exact XR a (hl q.1 q1) q2 q3
def Ax2 {A:Nat}(a:0<A):Uj A 0=⟨1,1⟩:=by unfold Uj;rw[Jo,Nat.sub_zero,Nat.gcd_self,Nat.div_self a];rfl
def Al0 (u:3000000<=N){h:A3}(a:Q2 h)(b:T2 N h){w w0:Sl Oh}(hw:wOk w)(c:wOk w0){e:Entry}(o:OH N h w e):U2 N h e (Sl.of [w,w0]:Sl (Sl Oh))=some (0,(Un e.Forms.toList:Int),0):=by
 have r:∀i,i<(Hn e).n->OH N h w ((Hn e).g i):=fun i a=>by obtain rfl:i=0:=Bm8.1 a;exact o
 have d:attOk N h (Sl.of [(⟨true,w⟩:C9)]:Sl C9) (Hn e):=Ak9 (ws:=(⟨1,fun _=>w⟩:Sl (Sl Oh))) b (by show 1<=256;omega) rfl (fun i a=>by obtain rfl:i=0:=Bm8.1 a;rfl) (fun i a=>hw) r
 have j:Gb (Hn e):=fun i a=>by obtain rfl:i=0:=Bm8.1 a;refine⟨fun k hk=>Iz (Wj o hk),?_⟩;show e.Gloss.length<1100000;rw[o.gl];decide
 have l:BS (Sl.of [(⟨true,w⟩:C9)]:Sl C9):=fun i a=>by obtain rfl:i=0:=Bm8.1 a;exact Iz hw
 have s:∀i,i<(Sl.of [w,w0]:Sl (Sl Oh)).n->okA ((Sl.of [w,w0]:Sl (Sl Oh)).g i):=fun i a=>by
  have a:i<2:=a;rcases Nat.lt_or_ge i 1 with g|g
  .obtain rfl:i=0:=by omega
   exact Iz hw
  obtain rfl:i=1:=by omega
  exact Iz c
 have v:Uk N h e (Sl.of [w,w0]:Sl (Sl Oh))=0:=by
  have hc:=(KC (by omega) l j).2 d;have g0:hres N h=0:=hres_zero.2 b;unfold Zm at hc;rw[Ke (fun f=>f g0),Ke (by show ¬ 256<1;omega),Ke]at hc
  .unfold AP5 at hc;obtain⟨d1,hc⟩:=FG hc;obtain⟨d2,hc⟩:=FG hc;obtain⟨_,d4⟩:=FG hc;rw[show (Hn e).n=1 from rfl,fst1_one]at d1 d2 d4;have d4:wsE N e.Forms=0:=d4;have d5:csE N (Sl.of [w,w0]:Sl (Sl Oh))=0:=by have z0:wE N w=0:=(GR (by omega) (Iz hw)).2 hw;have z1:wE N w0=0:=(GR (by omega) (Iz c)).2 c;unfold csE;show Ge _ 2=0;rw[GO (k:=1) (fst1_one.trans z0)];exact z1
   unfold Uk;rw[Ke (fun f=>f g0),Ke (by show ¬ 256<2;omega),d1,d2,d4,d5];rfl
  rintro (g|g)
  .exact g rfl
  exact d.pe g
 have m:KD N h e w=(IC (Hn e)).length:=by unfold KD Ak0;congr 1;refine Bs1.2 fun q x=>?_;obtain⟨q1,q2,q3⟩:=LX x;have q0:q.1=0:=Bm8.1 q1;rw[q0]at q2 q3;exact @decide_eq_true _ (Classical.propDecidable _) (XR b o q2 q3)
 have t:(IC (Hn e)).length=Un e.Forms.toList:=by rw[XQ];show Wh [e]=_;unfold Wh;simp
 have y:KD N h e w0<=(IC (Hn e)).length:=Ak1 _ _;have hR:Dz N h e (Sl.of [w,w0]:Sl (Sl Oh)) 2=(0,(Un e.Forms.toList:Int)):=by
  have r1:Dz N h e (Sl.of [w,w0]:Sl (Sl Oh)) 1=(0,(Un e.Forms.toList:Int)):=by rw[NO (by show (-1:Int)<(KD N h e w:Int);omega)];show (((0:Nat):Int),(KD N h e w:Int))=_;rw[m,t];rfl
  rw[RF,r1];rw[r1];show ¬((Un e.Forms.toList:Int)<(KD N h e w0:Int));omega
 rw[Ak3 u a j s];unfold Ak2;rw[Kc v];show some ((Dz N h e _ 2).1,(Dz N h e _ 2).2,(0:Int))=_;rw[hR]
def NS (hN:3000000<=N)(hw:Z3 N=some true){h:A3}(hi:Q2 h){ws:Sl (Sl Oh)}(t:∀i,i<ws.n->okA (ws.g i)):AQ N h ws=some true:=by
 refine eqR ?_;unfold AQ;obtain⟨b,b1,_⟩:=Aj9 hN h;refine B0 b1 (ltX ?_);have hT:∀{K:Option Bool},∃r,(if true then (Z3 N ).bind fun y4=>some y4 else K)=some r/\r=true:=ifT rfl (B0 hw ⟨_,rfl,rfl⟩);by_cases g1:(!b)=true
 .exact ifT g1 hT
 refine ifF g1 (B0 (Hl hN hi) ?_);by_cases g2:hres N h=0
 case neg=>exact ifT (by simpa using g2) hT
 refine ifF (by simp[g2]) ?_;have d:=hres_zero.1 g2;have h63:=FH d.tree;by_cases g3:6<ws.n
 .rw[show decide (6<(ws.n:Int))=true from by simp;omega];exact hT
 rw[show decide (6<(ws.n:Int))=false from by simp;omega];refine Gv (B0 (GQ hN hi.tree d.tree).1 (Dg ?_));refine AV9 (fun i (P:Sl C9) (L:Sl Entry) c x=>x=(i:Int)/\P.n=i/\L.n=i/\(∀j,j<i->P.g j=⟨true,ws.g j⟩)/\(∀j,j<i->OH N h (ws.g j) (L.g j))/\(∀j,j<i->wOk (ws.g j))/\c=((Wh L.toList:Nat):Int)/\Wh L.toList<=63*i) ws.n _ (by omega) ⟨rfl,rfl,rfl,fun j a=>Lq a (Bb5 _),fun j a=>Lq a (Bb5 _),fun j a=>Lq a (Bb5 _),rfl,Ba0 _⟩ ?_;rintro self i P L c x hle ⟨rfl,hPn,hLn,hP,hL,hW,rfl,hT1⟩ hs;by_cases w:i<ws.n
 .refine Ao (Am (ltX ?_));rw[AZ2];by_cases g4:100<(ws.g i).n
  .exact Ao hT
  refine Df (Am (B0 (PO (by omega) (t i w)).1 ?_));by_cases g5:wE N (ws.g i)=0
  case neg=>rw[show (wE N (ws.g i) != 0)=true from by simpa using g5];exact hT
  rw[show (wE N (ws.g i) != 0)=false from by simp[g5]];refine Gv ?_;have hwi:wOk (ws.g i):=(GR (by omega) (t i w)).1 g5;refine Ro (fun k c (F:Sl C9) x=>x=(k:Int)/\F.n=k/\(∀j,j<k->Wi N h (ws.g i) j (F.g j))/\c=((Wh L.toList+Un F.toList:Nat):Int)/\Un F.toList<=k) (F1 h.Tree h.Tree.n).n _ (by omega) ⟨rfl,rfl,fun j a=>Lq a (Bb5 _),rfl,Ba0 _⟩ ?_;rintro self2 k c F x hk ⟨rfl,hFn,hF,rfl,hc⟩ hs2;by_cases m:k<(F1 h.Tree h.Tree.n).n
  .obtain⟨u,hu,hsu⟩:=Ix h.Tree h.Tree.n k m;have hnl:FI h k=u:=by unfold FI;rw[hsu,AZ2]
   obtain⟨q,q1,q2,q3⟩:=AM8 hN hi d hwi (t i w) hu;refine Ao ?_;dsimp only;refine Am ?_;rw[AZ2,hsu];refine B0 q1 ?_;have hnew:∀f:C9,Wi N h (ws.g i) k f->∀j,j<k+1->Wi N h (ws.g i) j (if j<F.n then F.g j else f):=fun f hf j a=>by
    by_cases e:j<k
    .rw[Ig];exact hF j e
    obtain rfl:j=k:=by omega
    rw[Jo];exact hf
   rcases q2 with⟨v,v1,v2,v3,v4⟩ | ⟨v1,v2,v3⟩
   .have hm:Wi N h (ws.g i) k ⟨true,q.1⟩:=.inl ⟨rfl,v4,v,by rw[hnl];exact v1,v3⟩;refine ifT (by simp[v2]) (Ao (hs2 m _ _ _ ⟨Gx,by show F.n+1=_;omega,hnew _ hm,?_,?_⟩))
    .rw[Eg,Cv,Kc rfl,Gx];rfl
    rw[Eg,Cv,Kc rfl];omega
   have hm:Wi N h (ws.g i) k ⟨false,Od⟩:=.inr ⟨rfl,rfl,by rw[hnl];exact v1⟩;have htl:(F.app (Sl.of [(⟨false,Od⟩:C9)]:Sl C9)).toList=F.toList++[⟨false,Od⟩]:=by rw[Ai1];rfl
   refine ifF (by simp[v2]) (Ao (hs2 m _ _ _ ⟨Gx,by show F.n+1=_;omega,fun j a=>?_,?_,?_⟩))
   .have:=hnew _ hm j a
    show Wi N h (ws.g i) j (if j<F.n then F.g j else [(⟨false,Od⟩:C9)].getD (j-F.n) default);by_cases e:j<F.n
    .rw[Kc e];rw[Kc e]at this;exact this
    rw[Ke e];rw[Ke e]at this;rw[show j-F.n=0 by omega];exact this
   .rw[htl,Cv,Kb];rfl
   rw[htl,Cv,Kb];omega
  obtain rfl:k=(F1 h.Tree h.Tree.n).n:=by omega
  have hmade:OH N h (ws.g i) ⟨[103],F⟩:=⟨rfl,hFn,hF⟩;have hsum:Wh (L.push (⟨[103],F⟩:Entry)).toList=Wh L.toList+Un F.toList:=by rw[Eg,Ak7]
  refine Dg (ifT ⟨by omega,by simp;omega⟩ (Ao (hs w _ _ _ _ ⟨Gx,by show P.n+1=_;omega,by show L.n+1=_;omega,?_,?_,?_,by rw[hsum],by rw[hsum];omega⟩)))
  .intro j a;show (if j<P.n then P.g j else _)=_;by_cases e:j<i
   .rw[Ig];exact hP j e
   obtain rfl:j=i:=by omega
   rw[Jo]
  .intro j a;show OH N h (ws.g j) (if j<L.n then L.g j else _);by_cases e:j<i
   .rw[Ig];exact hL j e
   obtain rfl:j=i:=by omega
   rw[Jo];exact hmade
  intro j a;by_cases e:j<i
  .exact hW j e
  obtain rfl:j=i:=by omega
  exact hwi
 obtain rfl:i=ws.n:=by omega
 have ha:attOk N h P L:=Ak9 (ws:=ws) d (by omega) (by omega) (fun j a=>hP j (by omega)) (fun j a=>hW j (by omega)) (fun j a=>hL j (by omega));have o:=fun c=>Ax1 d (p:=P) (l:=L) (ws:=ws) (N:=N) (fun j a=>hP j (by omega)) (fun j a=>hL j (by omega)) c;have hp:BS P:=fun j a=>by rw[hP j (by omega)];exact t j (by omega)
 have hl:Gb L:=fun j a=>by
  have a:j<ws.n:=by omega
  refine⟨fun k hk=>Iz (Wj (hL j a) hk),?_⟩;rw[(hL j a).gl];decide
 obtain⟨y,y1,y2⟩:=XO hN hi hp hl ha (c:=1) (by omega);have yn:y.n=0:=by rw[<- EN y,y2,o];rfl
 obtain⟨r,r1,_,r3,r4⟩:=Aw3 hN hi hp hl;have r0:=r3.2 ha;have hr:=r4 r0;rw[o]at hr;obtain⟨s,_,s1,_,_,_,s2,_⟩:=Um hN hi hp hl (bad:=(Sl.nil:Sl A2)) (by show (0:Nat)<_;omega);have s3:s=(true,0):=by
  rcases s2 ha with⟨_,_,j,j1,_⟩ | ⟨e1,_,e3⟩
  .exact Lq j1 (Bb5 _)
  refine Prod.ext (e3.2 fun z hz=>?_) e1;rw[o]at hz;cases hz
 refine Dg (B0 y1 (B0 r1 (B0 s1 (ifF ?_ ?_))))
 .have e1:((decide (0<((Wh L.toList:Nat):Int)))&&(((r.1.N==1)&&(r.1.D==1)) != true))=false:=by
   by_cases e:0<Wh L.toList
   .rw[hr,XQ];show (_&&(((Uj _ 0).N==1&&(Uj _ 0).D==1) != true))=false;rw[Ax2 e];simp
   rw[show decide (0<((Wh L.toList:Nat):Int))=false from by simp;omega];rfl
  rw[e1,r0,s3,yn];simp
 refine Av (fun j x=>x=(j:Int)) L.n _ (by omega) rfl ?_;rintro self7 j x a rfl hs7;by_cases hjl:j<L.n
 case neg=>exact Df (B0 hw ⟨_,rfl,rfl⟩)
 have hjw:j<ws.n:=by omega
 have hej:=hL j hjw;refine Ao ?_;refine O8 (fun k c x=>x=(k:Int)/\c=((Un ((L.g j).Forms.take k).toList:Nat):Int)/\Un ((L.g j).Forms.take k).toList<=k) (F1 h.Tree h.Tree.n).n _ (by omega) ⟨rfl,rfl,Ba0 _⟩ ?_;rintro self8 k c x hk ⟨rfl,rfl,hc⟩ hs8;by_cases m:k<(F1 h.Tree h.Tree.n).n
 .have:=hej.n
  refine Ao (ifT ⟨⟨by omega,by rw[AZ2];exact hjl⟩,by rw[AZ2];omega⟩ ?_);rw[AZ2,AZ2];by_cases e:((L.g j).Forms.g k).Has=true
  .exact ifT e (hs8 m _ _ ⟨Gx,by rw[FF,Cv,Kc e];exact Gx,by rw[FF,Cv,Kc e];omega⟩)
  exact ifF e (hs8 m _ _ ⟨Gx,by rw[FF,Cv,Ke e];rfl,by rw[FF,Cv,Ke e];omega⟩)
 obtain rfl:k=(F1 h.Tree h.Tree.n).n:=by omega
 refine Dg (ifT ⟨⟨⟨by omega,by rw[AZ2];exact hjl⟩,by omega⟩,by omega⟩ ?_);rw[AZ2];refine B0 (Al0 hN hi d (hW j hjw) (hW 0 (by omega)) hej) (ifF ?_ (hs7 hjl _ (Gx)));have e:(L.g j).Forms.take (F1 h.Tree h.Tree.n).n=(L.g j).Forms:=by rw[<- hej.n]
 rw[e];simp
end Go.AM
