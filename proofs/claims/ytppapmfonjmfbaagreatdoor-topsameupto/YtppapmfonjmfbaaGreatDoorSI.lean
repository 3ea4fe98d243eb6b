/- Part 9. -/
import Derived.Test.YtppapmfonjmfbaaGreatDoorSH
import Derived.Test.YtppapmfonjmfbaaGreatDoorSG
set_option linter.defProp false
set_option linter.unusedSimpArgs false
set_option linter.unusedVariables false
set_option linter.unusedSectionVars false
namespace Go.AM
variable {N:Nat}
open IntKind (wrap)
open Go.Proofs
def Oq (t:Sl T0)(v:Nat):List Nat:= if hp:0<=(t.g v).Parent/\(t.g v).Parent<v then Oq t (t.g v).Parent.toNat++[v]else [v]
termination_by v
decreasing_by omega
def EV {t:Sl T0}{v:Nat}(a:(t.g v).Parent<0):Oq t v=[v]:=by rw[Oq,dif_neg (by omega)]
def Kl {t:Sl T0}{v p:Nat}(a:(t.g v).Parent=(p:Int))(hp:p<v):Oq t v=Oq t p++[v]:=by rw[Oq,dif_pos (by omega),a,AM9]
def Ro {t:Sl T0}(ht:AW t):∀(m v:Nat),v<=m->v<t.n->∀x∈Oq t v,x<=v
 |m,v,hm,hv,x,hx=>by
  rcases S1 ht hv with⟨_,e⟩ | ⟨p,hp,e⟩
  .rw[EV (by omega)]at hx;simp at hx;omega
  rw[Kl e hp]at hx;rcases List.mem_append.1 hx with hx|hx
  .match m with
   |0=>omega
   |m+1=>have:=Ro ht m p (by omega) (by omega) x hx;omega
  simp at hx;omega
def An9 {α : Type}{x:Sl α}{m:Nat}(h:x.n=m+1):x.toList.reverse=x.g m::(x.take m).toList.reverse:=by unfold Sl.toList;rw[h,AX3,AX4,AV8];rfl
def WQ {x2:Sl Int}(hx:x2.n<100000):∀(k M:Nat),k<=x2.n->k<M->S9 M (fun (a:Int->Option (List Int)) (x3:Int)=>
 if (decide (0<=x3)) then
  if (((0:Int)<=x3/\x3<(x2.n:Int))/\x3.toNat<x2.n)then
   Aq (x2.g x3.toNat) (
    a (wrap .i64 (x3-1))
    )
  else none
 else
  some []
 ) ((k:Int)-1)=some (x2.take k).toList.reverse
 |0,M,hk,hM=>by obtain⟨M,rfl⟩:∃K,M=K+1:=⟨M-1,by omega⟩;rw[Bt,Hf (by simp)];rfl
 |k+1,M,hk,hM=>by obtain⟨M,rfl⟩:∃K,M=K+1:=⟨M-1,by omega⟩;rw[show ((k+1:Nat):Int)-1=(k:Int) by omega,Bt,He (by simp),He ⟨by omega,by omega⟩,D7 (by omega) (by omega),WQ hx k M (by omega) (by omega),AM9,An9 (x:=x2.take (k+1)) (m:=k) rfl];rfl
def Ac7 (j:3000000<=N){t:Sl T0}(ht:AW t){v:Nat}(f:v<t.n):P4 N (v:Int) t=some ((Oq t v).map fun (x:Nat)=>(x:Int)):=by
 have i:=ht.2.1;have key:∀(m c:Nat) (x2:Sl Int) (M:Nat),c<m->c<t.n->m+1<M->x2.n+c<=1000->∃y:Sl Int,y.n<=1001/\y.toList.reverse=((Oq t c).map fun (x:Nat)=>(x:Int))++x2.toList.reverse /\
  X4 M (fun (a:Int->Sl Int->Option (List Int)) (x1:Int) (x2:Sl Int)=>
  if (decide (0<=x1)) then
   if (((x2.n+(Sl.of [x1]:Sl Int).n)*8<=140737488355328/\x2.n+(Sl.of [x1]:Sl Int).n<=140737488355328)/\((0:Int)<=x1/\x1<(t.n:Int)))then
    a (t.g x1.toNat).Parent (x2.push x1)
   else none
  else
   S9 N (fun b (x3:Int)=>
    if (decide (0<=x3)) then
     if (((0:Int)<=x3/\x3<(x2.n:Int))/\x3.toNat<x2.n)then
      Aq (x2.g x3.toNat) (
       b (wrap .i64 (x3-1))
       )
     else none
    else
     some []
    ) (wrap .i64 ((x2.n:Int)-1))
  ) (c:Int) x2=some y.toList.reverse:=by
  intro m
  induction m with
  |zero=>exact fun c _ _ h=>Ia h (by omega)
  |succ m ih=>
   intro c x2 M hc d l hx;obtain⟨M,rfl⟩:∃K,M=K+1:=⟨M-1,by omega⟩;rw[K7,He (by simp),He ⟨by show (x2.n+1)*8<=_/\x2.n+1<=_;omega,by omega⟩,AM9];rcases S1 ht d with⟨_,e⟩ | ⟨p,hp,e⟩
   .obtain⟨M,rfl⟩:∃K,M=K+1:=⟨M-1,by omega⟩;refine⟨x2.push (c:Int),by show x2.n+1<=_;omega,by rw[Vp,AV8,EV (by omega)];rfl,?_⟩;rw[e,K7,Hf (by decide)];have hb:=WQ (x2:=x2.push (c:Int)) (by show x2.n+1<_;omega) (x2.n+1) N (AN3 _) (by omega);rw[D7 (by show _<=((x2.n+1:Nat):Int)-1;omega) (by show ((x2.n+1:Nat):Int)-1<=_;omega)];exact hb
   obtain⟨y,y1,y2,y3⟩:=ih p (x2.push (c:Int)) M (by omega) (by omega) (by omega) (by show x2.n+1+p<=_;omega);refine⟨y,y1,?_,by rw[e];exact y3⟩;rw[y2,Vp,AV8,Kl e hp,AX4,Ba3];rfl
 obtain⟨y,_,y2,y3⟩:=key (v+1) v Mv N (by omega) f (by omega) (by show 0+v<=_;omega);unfold P4;rw[y3,y2];show some (_++[])=_;rw[AW8]
def AC9 (h:A9)(L:List Nat)(z:Sl Int):Sl Int:=L.foldl (fun z x=>z.app (h.On.g x)) z
def TI {h:A9}(ht:AW h.Tree):∀(m v:Nat),v<=m->v<h.Tree.n->AC9 h (Oq h.Tree v) Mv=S3 h v
 |m,v,hm,hv=>by
  rcases S1 ht hv with⟨_,e⟩ | ⟨p,hp,e⟩
  .rw[EV (by omega),Cd (by omega)];rfl
  rw[Kl e hp,FE e hp]
  match m with
  |0=>omega
  |m+1=>
   have:=TI ht m p (by omega) (by omega)
   unfold AC9 at this⊢;rw[List.foldl_append,this];rfl
def Nt {h:A9}(c:Cz h):∀(L:List Nat) (z:Sl Int),(∀x∈L,x<h.On.n)->z.n+L.length*1100000<=10000000000 ->
 O6 (L.map fun (x:Nat)=>(x:Int)) (fun (a:Sl Int->Option ((Sl Int)×Int)) (x1:Int) (z1:Sl Int)=>
  if (((0:Int)<=x1/\x1<(h.On.n:Int))/\((z1.n+(h.On.g x1.toNat).n)*8<=140737488355328/\z1.n+(h.On.g x1.toNat).n<=140737488355328))then
   a (z1.app (h.On.g x1.toNat))
  else none
  ) (fun (z1:Sl Int)=>
   some (z1,0)
  ) z=some (AC9 h L z,0)
 |[],z,_,_=>rfl
 |x::L,z,hx,hz=>by have b:=hx x (by simp);have hl:=c.len x b;simp only[AP8,AZ3]at hz;rw[AO4,O6,AM9,He ⟨by omega,by omega⟩];exact Nt c L _ (fun y hy=>hx y (by simp[hy])) (by show z.n+(h.On.g x).n+_<=_;omega)
def Ju {t:Sl T0}(ht:AW t):∀(m v:Nat),v<=m->v<t.n->(Oq t v).length<=v+1
 |m,v,hm,hv=>by
  rcases S1 ht hv with⟨_,e⟩ | ⟨p,hp,e⟩
  .rw[EV (by omega)];simp
  rw[Kl e hp]
  match m with
  |0=>omega
  |m+1=>have:=Ju ht m p (by omega) (by omega);simp;omega
def WR (g:3000000<=N){h:A9}(d:Cz h)(v:Int) :∃s e,U7 N h v=some (s,e)/\JZ N h v=some (s,e)/\((e=0/\ET N h/\0<=v/\v<h.Tree.n/\s=S3 h v.toNat) \/ (e≠0/\s=Mv)):=by
 unfold U7 JZ;rw[Kk g d,Ac6 g d,AN2,AN2];by_cases f:hres N h=0
 case neg=>
  have b:(hres N h != 0)=true:=by simpa using f
  rw[He b,He b];exact⟨_,_,rfl,rfl,.inr ⟨f,rfl⟩⟩
 have a:=hres_zero.1 f;have c:¬(hres N h != 0)=true:=by simp[f]
 rw[Hf c,Hf c,AU,Po,AN2,AN2];by_cases m:0<=v/\v<(h.Tree.n:Int)
 case neg=>
  have hb:(!((decide (0<=v))&&(decide (v<(h.Tree.n:Int)))))=true:=by simp;omega
  rw[He hb,He hb];exact⟨_,_,rfl,rfl,.inr ⟨by decide,rfl⟩⟩
 have hb:¬(!((decide (0<=v))&&(decide (v<(h.Tree.n:Int)))))=true:=by simp;omega
 rw[Hf hb,Hf hb,BD,AN2];obtain⟨u,rfl⟩:∃u:Nat,v=(u:Int):=⟨v.toNat,by omega⟩;have l:=a.tree.2.1;have hw:=Ac7 g a.tree (v:=u) (by omega);have j:=Ju a.tree u u (AN3 _) (by omega);have i:=Nt d (Oq h.Tree u) Mv (fun x hx=>by have:=Ro a.tree u u (AN3 _) (by omega) x hx;have:=a.on;omega) (by show 0+_<=_;omega);rw[Ns d a.tree a.on N u (by omega) (by omega),AN2];refine⟨S3 h u,0,?_,rfl,.inl ⟨rfl,a,by omega,by omega,by rw[AM9]⟩⟩;show (P4 N (u:Int) h.Tree).bind _=_;rw[hw,AN2,i,TI a.tree u u (AN3 _) (by omega)]
def Vt {N:Nat}{h:A9}(a:ET N h):∀(m v:Nat),v<=m->v<h.Tree.n->∀i,i<(S3 h v).n->0<=(S3 h v).g i/\(S3 h v).g i<h.Laws.n
 |m,v,hm,hv,i,b=>by
  have AD3:∀j,j<(h.On.g v).n->0<=(h.On.g v).g j/\(h.On.g v).g j<h.Laws.n:=fun j hj=>by
   have:=a.bad v (by have:=a.on;omega)
   constructor
   .exact Int.not_lt.1 fun g=>this ⟨j,hj,.inl g⟩
   exact Int.not_le.1 fun g=>this ⟨j,hj,.inr g⟩
  rcases S1 a.tree hv with⟨_,e⟩ | ⟨p,hp,e⟩
  .rw[Cd (by omega)]at b⊢;have b:i<0+(h.On.g v).n:=b
   have:(Mv.app (h.On.g v)).g i=(h.On.g v).g i:=by show (if i<0 then (default:Int)else (h.On.g v).g (i-0))=_;rw[Gt];rfl
   rw[this];exact AD3 i (by omega)
  rw[FE e hp]at b⊢;have b:i<(S3 h p).n+(h.On.g v).n:=b;show 0<=(if i<(S3 h p).n then (S3 h p).g i else (h.On.g v).g (i-(S3 h p).n))/\(if i<(S3 h p).n then (S3 h p).g i else (h.On.g v).g (i-(S3 h p).n))<_;split
  .match m with
   |0=>omega
   |m+1=>exact Vt a m p (by omega) (by omega) i (by assumption)
  exact AD3 _ (by omega)
def Il:∀(d:Nat) (p:Pat),okP d p->∀M,100+d<=M->∃q,O8 M p=some q/\PE p q
 |0,p,h,M,_=>h.elim
 |d+1,p,h,0,hM=>by omega
 |d+1,p,h,M+1,hM=>by
  show ∃q,P5 (O8 M) M p=some q/\_;unfold P5;have hn:=h.1;refine U2 (fun i (x1:Sl Pat) x2=>x2=(i:Int)/\x1.n=i/\∀j,j<i->PE (p.L.g j) (x1.g j)) p.L.n _ (by omega) ⟨rfl,rfl,fun j hj=>Ia hj (by omega)⟩ ?_;rintro b i x1 x2 c ⟨rfl,hx,hj⟩ hs;by_cases hl:i<p.L.n
  .obtain⟨q,q1,q2⟩:=Il d (p.L.g i) (h.2.2 i hl) M (by omega);refine Ar (Ab (B0 (by rw[AM9];exact q1) (ifT (by show (x1.n+1)*64<=_/\x1.n+1<=_;omega) (hs hl _ _ ⟨Dn,by show x1.n+1=_;omega,fun j a=>?_⟩))));show PE _ (if j<x1.n then x1.g j else q);by_cases e:j=i
   .subst e;rw[Gt];exact q2
   rw[Dp];exact hj j (by omega)
  exact Bv ⟨_,rfl,PE_of.2 ⟨rfl,rfl,rfl,rfl,rfl,by show x1.n=_;omega,fun j a=>hj j (by omega)⟩⟩
def Yh (d:3000000<=N){l:Law}(hl:Lp l)(hc:chkAll N l):∃l',T9 N l=some l' /\ LE l l':=by have a:=hc.f hl;obtain⟨_,h1,b,g,c,_⟩:=a;have i:=c.1;obtain⟨q1,e1,g1⟩:=Il 40 l.Left (Nl 40 _ (by omega) h1 _ (by simp)) N (by omega);obtain⟨q2,e2,g2⟩:=Il 40 l.Right (Nl 40 _ (by omega) b _ (by simp)) N (by omega);unfold T9 A5 F2;rw[e1,e2,AN2,AN2,Dp,AN2,Dp];exact⟨_,rfl,rfl,g1,g2,SE.refl _,SE.refl _,rfl⟩
def Ao0 (f:3000000<=N){h:A9}(m:Cz h)(b:ET N h){l:Sl Int}(hn:l.n<1000000)(hl:∀i,i<l.n->0<=l.g i/\l.g i<h.Laws.n) :∃s,Q5 N h l=some s/\s.n=l.n/\∀i,i<l.n->LE (h.Laws.g (l.g i).toNat) (s.g i):=by
 unfold Q5;refine U2 (fun i (x1:Sl Law) x2=>x2=(i:Int)/\x1.n=i/\∀j,j<i->LE (h.Laws.g (l.g j).toNat) (x1.g j)) l.n _ (by omega) ⟨rfl,rfl,fun j hj=>Ia hj (by omega)⟩ ?_;rintro d i x1 x2 hle ⟨rfl,hx,hj⟩ hs;by_cases a:i<l.n
 .have o:=hl i a;obtain⟨q,q1,q2⟩:=Yh f (m.laws (l.g i).toNat (by omega)) (b.laws.2 (l.g i).toNat (by omega));refine Ar ?_;rw[AM9];refine ifT ⟨by omega,o⟩ (B0 q1 (ifT (by show (x1.n+1)*200<=_/\x1.n+1<=_;omega) (hs a _ _ ⟨Dn,by show x1.n+1=_;omega,fun j c=>?_⟩)));show LE _ (if j<x1.n then x1.g j else q);by_cases e:j=i
  .subst e;rw[Gt];exact q2
  rw[Dp];exact hj j (by omega)
 exact Bv ⟨_,rfl,by omega,fun j c=>hj j (by omega)⟩
def FV (h:A9)(l:Sl Int):Sl Law:=⟨l.n,fun i=>h.Laws.g (l.g i).toNat⟩
def Ao1 (o:3000000<=N){h:A9}(b:Cz h)(v:Int) :∃s s' e,Q6 N h v=some (s,e)/\Pp N h v=some (s',e)/\LS s' s/\((e=0/\ET N h/\0<=v/\v<h.Tree.n/\SE s' (FV h (S3 h v.toNat))) \/ (e≠0/\s.n=0)):=by
 obtain⟨l,e,h1,u,q⟩:=WR o b v;unfold Q6 Pp;rw[h1,u,AN2,AN2];have hl:l.n<1000000/\(∀i,i<l.n->0<=l.g i/\l.g i<h.Laws.n)/\∃s,Q5 N h l=some s/\s.n=l.n/\∀i,i<l.n->LE (h.Laws.g (l.g i).toNat) (s.g i):=by
  rcases q with⟨_,a,g1,g2,rfl⟩ | ⟨_,rfl⟩
  .have w:(S3 h v.toNat).n<=64:=AY9 fun g=>a.long ⟨v.toNat,by have:=a.on;omega,g⟩;have f:=Vt a v.toNat v.toNat (AN3 _) (by omega);exact⟨by omega,f,Ao0 o b a (by omega) f⟩
  refine⟨by show 0<_;omega,fun i b=>Ia b (AQ3 i),(Sl.nil:Sl Law),?_,rfl,fun i b=>Ia b (AQ3 i)⟩;unfold Q5;obtain⟨M,rfl⟩:∃K,N=K+1:=⟨N-1,by omega⟩;rw[K7,Hf (by show ¬decide ((0:Int)<((0:Nat):Int))=true;decide)]
 obtain⟨hn,x,s,s1,s2,s3⟩:=hl;have y:∃r,(X4 N (fun (c:Sl Law->Int->Option ((Sl Law)×Int)) (x1:Sl Law) (x2:Int)=>
  if (decide (x2<(l.n:Int))) then
   if ((((0:Int)<=x2/\x2<(l.n:Int))/\x2.toNat<l.n)/\((0:Int)<=(l.g x2.toNat)/\(l.g x2.toNat)<(h.Laws.n:Int)))then
    if ((x1.n+(Sl.of [h.Laws.g (l.g x2.toNat).toNat]:Sl Law).n)*200<=140737488355328/\x1.n+(Sl.of [h.Laws.g (l.g x2.toNat).toNat]:Sl Law).n<=140737488355328)then
     c (x1.push (h.Laws.g (l.g x2.toNat).toNat)) (wrap .i64 (x2+1))
    else none
   else none
  else
   some (x1,e)
  ) (Sl.nil:Sl Law) 0)=some r/\r.2=e/\r.1.n=l.n/\∀i,i<l.n->r.1.g i=h.Laws.g (l.g i).toNat:=by
  refine U2 (fun i (x1:Sl Law) x2=>x2=(i:Int)/\x1.n=i/\∀j,j<i->x1.g j=h.Laws.g (l.g j).toNat) l.n _ (by omega) ⟨rfl,rfl,fun j hj=>Ia hj (by omega)⟩ ?_;rintro t i x1 x2 hle ⟨rfl,hx,hj⟩ hs;by_cases d:i<l.n
  .refine Ar ?_;rw[AM9];refine ifT ⟨⟨by omega,d⟩,x i d⟩ (ifT (by show (x1.n+1)*200<=_/\x1.n+1<=_;omega) (hs d _ _ ⟨Dn,by show x1.n+1=_;omega,fun j m=>?_⟩));show (if j<x1.n then x1.g j else _)=_;by_cases e:j=i
   .subst e;rw[Gt]
   rw[Dp];exact hj j (by omega)
  exact Bv ⟨_,rfl,rfl,by show x1.n=_;omega,fun j m=>hj j (by omega)⟩
 obtain⟨⟨s',e'⟩,d1,d2,d3,d4⟩:=y;dsimp only at d2 d3 d4;subst d2;rw[s1,AN2];refine⟨s,s',_,rfl,d1,⟨by omega,fun i b=>by rw[d4 i (by omega)];exact s3 i (by omega)⟩,?_⟩;rcases q with⟨g0,a,g1,g2,rfl⟩ | ⟨g0,rfl⟩
 .exact .inl ⟨g0,a,g1,g2,d3,fun i b=>d4 i (by omega)⟩
 exact .inr ⟨g0,s2⟩
end Go.AM
namespace Go.AM
variable {N:Nat}
open Go.Proofs
def Or (N:Nat)(l:Law)(w:Sl Qz):Option (Sl Qz):=(P2 N l w).bind fun y=>if y.2=0 then some y.1 else none
def BM (N:Nat):List Law->Sl Qz->Option (Sl Qz)
 |[],w=>some w
 |l::L,w=>(Or N l w).bind (BM N L)
def TJ {N:Nat}:∀(A B:List Law) (w:Sl Qz),BM N (A++B) w=(BM N A w).bind (BM N B)
 |[],B,w=>rfl
 |l::A,B,w=>by
  show (Or N l w).bind (BM N (A++B))=((Or N l w).bind (BM N A)).bind (BM N B);cases Or N l w with
  |none=>rfl
  |some v=>exact TJ A B v
def Vu (N:Nat)(l:Law):Prop:=Lp l/\chkAll N l
def Ao2 {l l' : Law}(h:LE l l')(g:Vu N l):Vu N l':=⟨LG h g.1,(Jt h).1 g.2⟩
def OR (o o' : Option (Sl Qz)):Prop:=(o=none/\o' = none) \/ ∃v v',o=some v/\o' = some v' /\ SE v v' /\ wOk v
def Rp (a:3000000<=N){l:Law}(hl:Vu N l){w:Sl Qz}(hw:wOk w):(∃v,P2 N l w=some (v,0)/\Or N l w=some v/\wOk v) \/ (∃v,P2 N l w=some (v,11)/\Or N l w=none):=by
 obtain⟨⟨v,e⟩,_,h1,_,_,_,b⟩:=Nr a hl.1 (LE.refl l) (SE.refl w) fun i c=>(hw.2 i c).ok;rcases b with⟨_,h⟩ | ⟨_,h,h'⟩ | ⟨_,_,h|⟨h,h'⟩⟩
 .exact Ia hl.2 h
 .exact Ia ((GK h).2 hw) h'
 .dsimp only at h;subst h;exact .inr ⟨v,h1,by unfold Or;rw[h1];rfl⟩
 dsimp only at h h';subst h;exact .inl ⟨v,h1,by unfold Or;rw[h1];rfl,h'⟩
def AL3 (c:3000000<=N){l l' : Law}(hl:Vu N l)(hle:LE l l'){w w' : Sl Qz}(hw:wOk w)(a:SE w w'):OR (Or N l w) (Or N l' w'):=by
 have b:=a.wOk hw;obtain⟨r,r',h1,g,j,f,_⟩:=Nr c hl.1 hle a fun i d=>(hw.2 i d).ok;obtain⟨q,q',k1,k2,k3,k4,_⟩:=Nr c (LG hle hl.1) (LE.refl l') (SE.refl w') fun i d=>(b.2 i d).ok;obtain rfl:=AP9 (g.symm.trans k2);rcases Rp c hl hw with⟨v,g1,g2,g3⟩ | ⟨v,g1,g2⟩<;>rcases Rp c (Ao2 hle hl) b with⟨u,p1,p2,p3⟩ | ⟨u,p1,p2⟩
 .obtain rfl:=AP9 (g1.symm.trans h1);obtain rfl:=AP9 (p1.symm.trans k1);exact .inr ⟨v,u,g2,p2,j.trans k3.symm,g3⟩
 .obtain rfl:=AP9 (g1.symm.trans h1);obtain rfl:=AP9 (p1.symm.trans k1);exact Ia (f.trans k4.symm) (by show ¬((0:Int)=11);decide)
 .obtain rfl:=AP9 (g1.symm.trans h1);obtain rfl:=AP9 (p1.symm.trans k1);exact Ia (f.trans k4.symm) (by show ¬((11:Int)=0);decide)
 exact .inl ⟨g2,p2⟩
def LEs:List Law->List Law->Prop
 |[],[]=>True
 |p::l,q::m=>LE p q/\LEs l m
 |_,_=>False
def At8 {N:Nat}(a:3000000<=N):∀(L L' : List Law) (w w' : Sl Qz),(∀l∈L,Vu N l)->LEs L L' -> wOk w->SE w w' -> OR (BM N L w) (BM N L' w')
 |[],[],w,w',_,_,hw,hse=>.inr ⟨w,w',rfl,rfl,hse,hw⟩
 |l::L,l' :: L',w,w',hg,⟨h1,h2⟩,hw,hse=>by
  unfold BM;rcases AL3 a (hg l (by simp)) h1 hw hse with⟨e1,e2⟩ | ⟨v,v',e1,e2,e3,e4⟩
  .rw[e1,e2];exact .inl ⟨rfl,rfl⟩
  rw[e1,e2];exact At8 a L L' v v' (fun x hx=>hg x (by simp[hx])) h2 e4 e3
 |[],_::_,_,_,_,h,_,_=>h.elim
 |_::_,[],_,_,_,h,_,_=>h.elim
def TL {f g:Nat->Law}:∀(l:List Nat),(∀i∈l,LE (f i) (g i))->LEs (l.map f) (l.map g)
 |[],_=>trivial
 |i::l,h=>⟨h i (by simp),TL l fun j hj=>h j (by simp[hj])⟩
def LS.s {s t:Sl Law}(h:LS s t):LEs s.toList t.toList:=by unfold Sl.toList;rw[<- h.1];exact TL _ fun i a=>h.2 i (AT1.1 a)
def AD0 {laws:Sl Law}(hl:GM laws)(b:HI N laws):∀l∈laws.toList,Vu N l:=by intro l h;obtain⟨i,a,rfl⟩:=AT6.1 h;have a:=AT1.1 a;exact⟨hl i a,b.2 i a⟩
def Vv (f:3000000<=N){laws:Sl Law}(hl:GM laws)(c:HI N laws):∀(m i:Nat) (w:Sl Qz),wOk w->i<=laws.n->laws.n<=i+m ->
 (∃L,(∀M,m<M->X4 M (Ei N 0 laws) w i=some L)/\BM N (laws.toList.drop i) w=some (Rl w L)/\wOk (Rl w L)) \/
 ((∃L,∀M,m<M->X4 M (Ei N 0 laws) w i=none/\X4 M (Ei N 11 laws) w i=some L)/\BM N (laws.toList.drop i) w=none):=by
 have b:=c.1;have fin:∀(m i:Nat) (w:Sl Qz),wOk w->i=laws.n->∃L,(∀M,m<M->X4 M (Ei N 0 laws) w i=some L)/\BM N (laws.toList.drop i) w=some (Rl w L)/\wOk (Rl w L):=by rintro m i w hw rfl;refine⟨[],fun M d=>?_,by rw[BL];rfl,hw⟩;obtain⟨M,rfl⟩:∃K,M=K+1:=⟨M-1,by omega⟩;rw[K7,Ei,Hf (by simp),He rfl]
 intro m
 induction m with
 |zero=>exact fun i w hw g hm=>.inl (fin 0 i w hw (by omega))
 |succ m ih=>
  intro i w hw g hm;by_cases a:i<laws.n
  case neg=>exact .inl (fin _ i w hw (by omega))
  rw[DK _ a];rcases Rp f ⟨hl i a,c.2 i a⟩ hw with⟨v,g1,g2,g3⟩ | ⟨v,g1,g2⟩
  .rcases ih (i+1) v g3 (by omega) (by omega)with⟨L,a1,a2,a3⟩ | ⟨⟨L,a1⟩,a2⟩
   .refine .inl ⟨((i+1:Nat),v)::L,fun M d=>?_,by unfold BM;rw[g2];exact a2,a3⟩;obtain⟨M,rfl⟩:∃K,M=K+1:=⟨M-1,by omega⟩;rw[K7,DL a b g1,Hf (by simp)];show Aq _ (X4 M (Ei N 0 laws) v _)=_;rw[a1 M (by omega)];rfl
   refine .inr ⟨⟨((i+1:Nat),v)::L,fun M d=>?_⟩,by unfold BM;rw[g2];exact a2⟩;obtain⟨M,rfl⟩:∃K,M=K+1:=⟨M-1,by omega⟩;obtain⟨b1,b2⟩:=a1 M (by omega);rw[K7,K7,DL a b g1,DL a b g1,Hf (by simp),Hf (by simp)];refine⟨?_,?_⟩
   .show Aq _ (X4 M (Ei N 0 laws) v _)=_;rw[b1];rfl
   show Aq _ (X4 M (Ei N 11 laws) v _)=_;rw[b2];rfl
  refine .inr ⟨⟨[],fun M d=>?_⟩,by unfold BM;rw[g2];rfl⟩;obtain⟨M,rfl⟩:∃K,M=K+1:=⟨M-1,by omega⟩;rw[K7,K7,DL a b g1,DL a b g1];exact⟨rfl,rfl⟩
def Vw (g:3000000<=N){laws:Sl Law}(hl:GM laws)(d:HI N laws){w:Sl Qz}(hw:wOk w) :(∃v,BM N laws.toList w=some v/\I7 N laws w=some (v,0)/\wOk v) \/ (BM N laws.toList w=none/\I7 N laws w=some (Mw,11)):=by
 have j:=d.1;have l:=hw.1;obtain⟨e,e1,m⟩:=Vo g hl (w:=w) fun i o=>(hw.2 i o).ok
 have:e=0:=by
  rcases m with⟨h,h'⟩ | ⟨_,h⟩
  .exact Py h (lawsE_zero.2 d)
  exact (GK h).2 hw
 subst this;have b:A5 N w=some w:=by unfold A5;rw[Dp]
 have a:∀c,E5 N c laws w=(Aq (0,w) (X4 N (Ei N c laws) w 0)).bind fun L1=>O6 L1 (fun (f:Sl Qz->Option (Sl Qz)) (x1:Int×(Sl Qz)) (z1:Sl Qz)=>f x1.2) (fun (z1:Sl Qz)=>some z1) Mw:=by intro c;unfold E5 Cj AY;rw[AN2,b,AN2];rfl
 unfold I7;rw[e1,AN2,Hf (by decide)];rcases Vv g hl d laws.n 0 w hw (by omega) (by omega)with⟨L,g1,g2,g3⟩ | ⟨⟨L,g1⟩,g2⟩
 .have g1:X4 N (Ei N 0 laws) w 0=some L:=g1 N (by omega)
  have:N3 N laws w=some (Rl w L,true):=by
   have e0:E5 N 0 laws w=some (Rl w L):=by rw[a,g1];exact Rm _ _
   unfold N3;rw[e0]
  rw[this];exact .inl ⟨_,g2,rfl,g3⟩
 obtain⟨g3,g4⟩:=g1 N (by omega);have g3:X4 N (Ei N 0 laws) w 0=none:=g3;have g4:X4 N (Ei N 11 laws) w 0=some L:=g4
 have:N3 N laws w=some (Mw,false):=by
  have e0:E5 N 0 laws w=none:=by rw[a,g3];rfl
  have e11:E5 N 11 laws w=some (Rl w L):=by rw[a,g4];exact Rm _ _
  unfold N3;rw[e0,e11];rfl
 rw[this];exact .inr ⟨g2,rfl⟩
def AL4 {α : Type}(s t:Sl α):(s.app t).toList=s.toList++t.toList:=by
 show (List.range (s.n+t.n)).map (fun i=>if i<s.n then s.g i else t.g (i-s.n))=_;rw[List.range_add,AX4,AV0];congr 1
 .exact AP4 fun i a=>He (AT1.1 a)
 refine AP4 fun i a=>?_;show (if s.n+i<s.n then _ else t.g (s.n+i-s.n))=_;rw[Gt];congr 1;omega
def Rq (h:A9)(l:Sl Int):(FV h l).toList=l.toList.map fun (i:Int)=>h.Laws.g i.toNat:=by unfold FV Sl.toList;rw[AV0];rfl
def Ot (h:A9)(L:List Nat):List Law:=L.flatMap fun x=>(FV h (h.On.g x)).toList
def TM {h:A9}(ht:AW h.Tree):∀(m v:Nat),v<=m->v<h.Tree.n->Ot h (Oq h.Tree v)=(FV h (S3 h v)).toList
 |m,v,hm,hv=>by
  rcases S1 ht hv with⟨_,e⟩ | ⟨p,hp,e⟩
  .rw[EV (by omega),Cd (by omega),AB8 rfl];simp[Ot]
  rw[Kl e hp,FE e hp,Rq,AL4,AX4,<- Rq,<- Rq]
  match m with
  |0=>omega
  |m+1=>rw[<- TM ht m p (by omega) (by omega)];simp[Ot]
def Ao3 {h:A9}(b:Cz h){l:Sl Int}(hl:∀i,i<l.n->0<=l.g i/\l.g i<h.Laws.n):GM (FV h l):=fun i a=>b.laws _ (by have:=hl i a;omega)
def Ao4 {h:A9}(a:ET N h){l:Sl Int}(hn:l.n<=64)(hl:∀i,i<l.n->0<=l.g i/\l.g i<h.Laws.n):HI N (FV h l):=⟨hn,fun i b=>a.laws.2 _ (by have:=hl i b;omega)⟩
def on_ok {h:A9}(a:ET N h){x:Nat}(hx:x<h.Tree.n):(h.On.g x).n<=64/\∀i,i<(h.On.g x).n->0<=(h.On.g x).g i/\(h.On.g x).g i<h.Laws.n:=by
 have b:=a.on;refine⟨?_,fun j hj=>?_⟩
 .have hl:(S3 h x).n<=64:=AY9 fun g=>a.long ⟨x,by omega,g⟩;rcases S1 a.tree hx with⟨_,e⟩ | ⟨p,hp,e⟩
  .rw[Cd (by omega)]at hl;have hl:0+(h.On.g x).n<=64:=hl;omega
  rw[FE e hp]at hl;have hl:(S3 h p).n+(h.On.g x).n<=64:=hl;omega
 have:=a.bad x (by omega)
 constructor
 .exact Int.not_lt.1 fun g=>this ⟨j,hj,.inl g⟩
 exact Int.not_le.1 fun g=>this ⟨j,hj,.inr g⟩
end Go.AM
namespace Go.AM
variable {N:Nat}
open IntKind (wrap)
open Go.Proofs
def eqR {R:Type}{x:Option R}{y:R}(h:∃r,x=some r/\r=y):x=some y:=by obtain⟨r,h,rfl⟩:=h;exact h
def Rr (t:Sl T0)(v:Nat):Prop:=∀u,0<u->u<t.n->(t.g u).Parent≠(v:Int)
open Classical in
noncomputable def P7 (t:Sl T0):Nat->Sl Int
 |0=>Mv
 |i+1=>if Rr t i then (P7 t i).push (i:Int)else P7 t i
def Nu {t:Sl T0}{i:Nat}(h:Rr t i):P7 t (i+1)=(P7 t i).push (i:Int):=He h
def Rs {t:Sl T0}{i:Nat}(h:¬Rr t i):P7 t (i+1)=P7 t i:=Hf h
def Nv (t:Sl T0):∀i,(P7 t i).n<=i
 |0=>AN3 0
 |i+1=>by
  have:=Nv t i
  by_cases h:Rr t i
  .rw[Nu h];show (P7 t i).n+1<=i+1;omega
  rw[Rs h];omega
def Vx (t:Sl T0):∀i k,k<(P7 t i).n->∃v:Nat,v<i/\(P7 t i).g k=(v:Int)
 |0,k,hk=>Ia hk (AQ3 k)
 |i+1,k,hk=>by
  by_cases h:Rr t i
  .rw[Nu h]at hk⊢;have hk:k<(P7 t i).n+1:=hk;show ∃v:Nat,v<i+1/\(if k<(P7 t i).n then (P7 t i).g k else (i:Int))=(v:Int);by_cases a:k<(P7 t i).n
   .rw[He a];obtain⟨v,h1,b⟩:=Vx t i k a;exact⟨v,by omega,b⟩
   rw[Hf a];exact⟨i,by omega,rfl⟩
  rw[Rs h]at hk⊢;obtain⟨v,h1,b⟩:=Vx t i k hk;exact⟨v,by omega,b⟩
def Ao5 (s:3000000<=N){t:Sl T0}(ht:AW t):∃X,Y5 N t=some X/\(X.n=t.n/\∀v,v<t.n->((X.g v).n=0↔Rr t v)):=by
 have o:=ht.2.1;unfold Y5;refine Ab (U2 (fun i x (X:Sl (Sl Int))=>x=(i:Int)/\X.n=t.n/\∀v,v<t.n->(((X.g v).n=0 ↔ ∀u,0<u->u<i->(t.g u).Parent≠(v:Int))/\(X.g v).n<=i)) t.n _ (by omega)
  ⟨rfl,rfl,fun v b=>⟨⟨fun _ u h1 a=>Ia a (AQ3 u),fun _=>rfl⟩,AN3 0⟩⟩ ?_)
 rintro l i x X hle ⟨rfl,c,f⟩ hs;by_cases hl:i<t.n
 case neg=>
  obtain rfl:i=t.n:=by omega
  exact Bx ⟨X,rfl,c,fun v b=>(f v b).1⟩
 refine ifT (by simpa using hl) (Ab ?_);rw[AM9,Dn];rcases S1 ht hl with⟨q,h1⟩ | ⟨p,hp,e⟩
 .subst q;rw[h1];refine ifT (by show Int.toNat (-1)<X.n;rw[c];exact hl) (ltX (Bx (hs hl _ _ ⟨rfl,c,fun v b=>?_⟩)));have e:(X.upd (Int.toNat (-1)) (X.g (Int.toNat (-1)))).g v=X.g v:=by
   show (if v=_ then X.g (Int.toNat (-1))else X.g v)=X.g v;split
   .rename_i e;rw[e]
   rfl
  rw[e];obtain⟨g1,g2⟩:=f v b;exact⟨g1.trans ⟨fun _ u h1 a=>Ia a (by omega),fun _ u h1 a=>Ia a (by omega)⟩,by omega⟩
 rw[e,AM9];have j:p<t.n:=by omega
 have m:=(f p j).2;refine Ab (ltX (Ar (ifT ⟨⟨by omega,by rw[c];omega⟩,by omega,by omega⟩ (hs hl _ _ ⟨rfl,c,fun v b=>?_⟩))));show ((if v=p then (X.g p).push (i:Int)else X.g v).n=0↔_)/\(if v=p then (X.g p).push (i:Int)else X.g v).n<=i+1;by_cases d:v=p
 .subst d;rw[He rfl];refine⟨⟨fun h=>Ia h (Nat.succ_ne_zero _),fun h=>Ia e (h i (by omega) (by omega))⟩,?_⟩;show (X.g v).n+1<=i+1;omega
 rw[Hf d];obtain⟨g1,g2⟩:=f v b;refine⟨g1.trans ⟨fun h u h1 a=>?_,fun h u h1 a=>h u h1 (by omega)⟩,by omega⟩;by_cases r:u=i
 .subst r;rw[e];omega
 exact h u h1 (by omega)
def AL5 {R:Type}{Q:R->Prop}{a:Sl Int->Int->Option R}{t:Sl T0}{i:Nat}(c:i<1000){b:Bool}(hb:b=true↔Rr t i)(h:∃r,a (P7 t (i+1)) ((i+1:Nat):Int)=some r/\Q r) :∃r,(if b then
  if (((P7 t i).n+(Sl.of [(i:Int)]:Sl Int).n)*8<=140737488355328/\(P7 t i).n+(Sl.of [(i:Int)]:Sl Int).n<=140737488355328)then
   a ((P7 t i).push (i:Int)) (wrap .i64 ((i:Int)+1))
  else none
  else a (P7 t i) (wrap .i64 ((i:Int)+1)))=some r/\Q r:=by
 have hn:=Nv t i;rw[Dn];by_cases hk:Rr t i
 .rw[Nu hk]at h;exact ifT (hb.2 hk) (ifT ⟨by show ((P7 t i).n+1)*8<=_;omega,by show (P7 t i).n+1<=_;omega⟩ h)
 rw[Rs hk]at h;exact ifF (fun g=>hk (hb.1 g)) h
def Vy (c:3000000<=N){t:Sl T0}(ht:AW t):∃r,BF N t=some r/\r=P7 t t.n:=by
 have d:=ht.2.1;unfold BF;obtain⟨X,e,a,hk⟩:=Ao5 c ht;refine B0 e (U2 (fun i x1 x2=>x2=(i:Int)/\x1=P7 t i) t.n _ (by omega) ⟨rfl,rfl⟩ ?_);rintro b i x1 x2 hle ⟨rfl,rfl⟩ hs;by_cases hl:i<t.n
 .refine ifT (by rw[a];simpa using hl) (Ab ?_);rw[AM9];exact AL5 (by omega) (by rw[<- hk i hl];simp) (hs hl _ _ ⟨rfl,rfl⟩)
 obtain rfl:i=t.n:=by omega
 exact ifF (by rw[a];simp) ⟨_,rfl,rfl⟩
def Ao6 (l:3000000<=N){t:Sl T0}(ht:AW t){v:Nat}(m:v<t.n):∃r,Et N t (v:Int)=some r/\(r.n=0↔Rr t v):=by
 have f:=ht.2.1;unfold Et;refine U2 (fun i (x1:Sl Int) x2=>x2=(i:Int)/\x1.n<=i/\(x1.n=0 ↔ ∀u,0<u->u<i->(t.g u).Parent≠(v:Int))) t.n _ (by omega) ⟨rfl,AN3 0,fun _ u h1 a=>Ia a (AQ3 u),fun _=>rfl⟩ ?_;rintro b i x1 x2 hle ⟨rfl,hn,c⟩ hs;by_cases hl:i<t.n
 .refine ifT (by simpa using hl) (Ab ?_);rw[AM9,Dn];by_cases hp:(t.g i).Parent=(v:Int)
  .have d:0<i:=by
    rcases S1 ht hl with⟨d,h1⟩ | ⟨p,hp,e⟩
    .rw[h1]at hp;omega
    omega
   refine ifT (by simpa using hp) (ifT ⟨by show (x1.n+1)*8<=_;omega,by show x1.n+1<=_;omega⟩ (hs hl _ _ ⟨rfl,by show x1.n+1<=i+1;omega,fun h=>Ia h (Nat.succ_ne_zero _),fun h=>Ia hp (h i d (by omega))⟩))
  refine ifF (by simpa using hp) (hs hl _ _ ⟨rfl,by omega,c.trans ⟨fun h u h1 a=>?_,fun h u h1 a=>h u h1 (by omega)⟩⟩);by_cases j:u=i
  .subst j;exact hp
  exact h u h1 (by omega)
 obtain rfl:i=t.n:=by omega
 exact Bx ⟨_,rfl,c⟩
def PA (a:3000000<=N){t:Sl T0}(c:Ki t):∃s e,Ai N t=some (s,e)/\KU N t=some (s,e)/\((AW t/\e=0/\s=P7 t t.n) \/ (¬AW t/\e=16/\s=Mv)):=by
 obtain⟨e,e1,e2,d⟩:=Rn a c;unfold Ai KU;rw[e1,e2,AN2,AN2];rcases d with⟨rfl,ht⟩ | ⟨rfl,ht⟩
 .have f:=ht.2.1;rw[Hf (by decide),Hf (by decide)];obtain⟨r,g1,rfl⟩:=Vy a ht;refine⟨_,0,by rw[g1];rfl,eqR (U2 (fun i x1 x2=>x2=(i:Int)/\x1=P7 t i) t.n _ (by omega) ⟨rfl,rfl⟩ ?_),.inl ⟨ht,rfl,rfl⟩⟩;rintro b i x1 x2 hle ⟨rfl,rfl⟩ hs;by_cases hl:i<t.n
  .refine ifT (by simpa using hl) ?_;obtain⟨r,k1,k2⟩:=Ao6 a ht hl;exact B0 k1 (AL5 (by omega) (by rw[<- k2];simp) (hs hl _ _ ⟨rfl,rfl⟩))
  obtain rfl:i=t.n:=by omega
  exact Bx ⟨_,rfl,rfl⟩
 exact⟨_,16,He (by decide),He (by decide),.inr ⟨ht,rfl,rfl⟩⟩
end Go.AM
namespace Go.AM
open Go.Proofs
def upB (t:Sl T0)(a:Int->Option (List Int))(x1:Int):Option (List Int):= if (decide (0<=x1)) then Aq x1 (if ((0:Int)<=x1/\x1<(t.n:Int))then a (t.g x1.toNat).Parent else none) else some []
def Ac8 {t:Sl T0}(ht:AW t):∀(m c M:Nat),c<m->c<t.n->m+1<M->S9 M (upB t) (c:Int)=some ((Oq t c).reverse.map fun (x:Nat)=>(x:Int))
 |0,c,M,hc,_,_=>Ia hc (AQ3 c)
 |m+1,c,0,_,_,hM=>by omega
 |m+1,c,1,_,_,hM=>by omega
 |m+1,c,M+2,hc,hn,hM=>by
  show upB t (S9 (M+1) (upB t)) (c:Int)=_;unfold upB;rw[He (by simp),Dp,AM9];rcases S1 ht hn with⟨_,e⟩ | ⟨p,hp,e⟩
  .rw[e,EV (by omega)];rfl
  show Aq (c:Int) (S9 (M+1) (upB t) (t.g c).Parent)=_;rw[e,Kl e hp,Ac8 ht m p (M+1) (by omega) (by omega) (by omega)];simp[Aq]
def Nw:∀(L:List Int) (z:Sl Int),z.n+L.length<=1000->∃s,O6 L (fun (a:Sl Int->Option (Sl Int)) (x1:Int) (z1:Sl Int)=>
 if ((z1.n+(Sl.of [x1]:Sl Int).n)*8<=140737488355328/\z1.n+(Sl.of [x1]:Sl Int).n<=140737488355328)then
  a (z1.push x1)
 else none
 ) (fun (z1:Sl Int)=>
  some z1
 ) z=some s/\s.toList=z.toList++L
 |[],z,_=>⟨z,rfl,by simp⟩
 |x::L,z,b=>by have b:z.n+(L.length+1)<=1000:=b;obtain⟨s,h1,c⟩:=Nw L (z.push x) (by show z.n+1+L.length<=1000;omega);refine⟨s,?_,by rw[c,Vp];simp⟩;show (if _ then _ else _)=_;rw[He (by show (z.n+1)*8<=_/\z.n+1<=_;omega)];exact h1
def AD1 {N:Nat}{s:Sl Int}(hs:s.n<=1000)(l:2000<N):∃r,G1 N s=some r/\r.toList=s.toList.reverse:=by
 unfold G1;have last:∀x:Sl Int,x.n=s.n->(∀j,j<s.n->x.g j=s.g (s.n-1-j))->x.toList=s.toList.reverse:=by
  intro x hx h;refine List.ext_getElem (by simp[Sl.toList,hx]) fun i h1 m=>?_;have h1:i<s.n:=by simpa[Sl.toList,hx]using h1
  rw[List.getElem_reverse];simp only[Sl.toList,List.getElem_map,Bf8,AS1,List.length_range];exact h i h1
 refine XR (fun i (x1:Sl Int) x2 x3=>x2=(i:Int)/\x3=(s.n:Int)-1-i/\x1.n=s.n/\∀j,j<s.n->x1.g j=if j<i \/ s.n-1-j<i then s.g (s.n-1-j)else s.g j) s.n _ (by omega) ⟨rfl,by rw[D7 (by omega) (by omega)];omega,rfl,fun j hj=>by rw[Gt]⟩ ?_;rintro f i x1 x2 x3 o ⟨rfl,rfl,hn,c⟩ d;by_cases hl:(i:Int)<(s.n:Int)-1-i
 .obtain⟨k,hk⟩:∃k:Nat,(s.n:Int)-1-i=(k:Int):=⟨s.n-1-i,by omega⟩;rw[hk];refine Ar (ifT ?_ ?_)
  .simp only[AM9]
   have:((x1.upd i (x1.g k)).n:Int)=x1.n:=rfl
   have:(x1.upd i (x1.g k)).n=x1.n:=rfl
   omega
  simp only[AM9];refine d (by omega) _ _ _ ⟨Dn,by rw[D7 (by omega) (by omega)];omega,hn,fun j hj=>?_⟩;show (if j=k then x1.g i else if j=i then x1.g k else x1.g j)=_;have a:=c i (by omega);have b:=c k (by omega);rw[Gt]at a b;by_cases g1:j=k
  .rw[He g1,Dp,a];congr 1;omega
  rw[Hf g1];by_cases g2:j=i
  .rw[He g2,Dp,b];congr 1;omega
  rw[Hf g2,c j hj];by_cases g3:j<i \/ s.n-1-j<i
  .rw[He g3,Dp]
  rw[Hf g3,Gt]
 refine Bv ⟨_,rfl,last _ hn fun j hj=>?_⟩;rw[c j hj];by_cases g:j<i \/ s.n-1-j<i
 .rw[He g]
 rw[Hf g];congr 1;omega
def Ao7 {N:Nat}(d:3000000<=N){t:Sl T0}(f:Ki t)(ht:AW t){v:Nat}(a:v<t.n):∃y,DE N t (v:Int)=some (y,0)/\y.toList=(Oq t v).map fun (x:Nat)=>(x:Int):=by
 have g:=ht.2.1;have b:=Ju ht v v (AN3 _) a;obtain⟨e,e1,j⟩:=TH d f;have e0:e=0:=by
  rcases j with⟨h,_⟩ | ⟨_,h⟩
  .exact h
  exact Ia ht h
 subst e0;have hc:Cx N t (Sl.of [(v:Int)]:Sl Int)=some 0:=by
  refine eqR ?_;unfold Cx;refine B0 e1 (Da ?_);refine BN (fun i x=>x=(i:Int)) 1 _ (by omega) rfl ?_;rintro c i _ l rfl hs;by_cases hl:i<1
  .obtain rfl:i=0:=by omega
   refine ifT rfl (ifT ⟨Int.le_refl _,by show ((0:Nat):Int)<((1:Nat):Int);decide⟩ (ifF ?_ ?_))
   .show ¬((decide ((v:Int)<0))||(decide ((t.n:Int)<=(v:Int))))=true;simp;omega
   exact hs hl _ (Dn)
  exact ifF (by show ¬decide ((i:Int)<1)=true;simp;omega) ⟨_,rfl,rfl⟩
 obtain⟨s,s1,s2⟩:=Nw ((Oq t v).reverse.map fun (x:Nat)=>(x:Int)) Mv (by show 0+_<=_;simp;omega);have s3:s.toList=(Oq t v).reverse.map fun (x:Nat)=>(x:Int):=s2;have sn:s.n<=1000:=by
  have:=congrArg List.length s3
  rw[Bl]at this;simp at this;omega
 obtain⟨r,r1,r2⟩:=AD1 sn (N:=N) (by omega);refine⟨r,?_,by rw[r2,s3,<- List.map_reverse,List.reverse_reverse]⟩;unfold DE Jo Q4 H4;rw[hc,AN2,Hf (by decide),AN2];have m:Fz N (v:Int) t=some ((Oq t v).reverse.map fun (x:Nat)=>(x:Int)):=Ac8 ht (v+1) v N (by omega) a (by omega);rw[m,AN2,s1,AN2,AN2,r1];rfl
end Go.AM
namespace Go.AM
open Go.Proofs
def beO (o:Option (Sl Qz))(r:Sl Qz×Bool):Prop:=(∃x,o=some x/\r=(x,true)/\wOk x) \/ (o=none/\r=(Mw,false))
def TN (N:Nat)(h:A9)(v:Nat)(w:Sl Qz):Option (Sl Qz):=BM N (Ot h (Oq h.Tree v)) w
def PB {N:Nat}(s:3000000<=N){h:A9}(t:Cz h)(a:ET N h){v:Nat}(d:v<h.Tree.n){w:Sl Qz}(hw:wOk w) :∃r,N1 N h w (v:Int)=some r/\beO (TN N h v w) r:=by
 obtain⟨y,y1,y2⟩:=Ao7 s t.tree a.tree d;have h63:=a.tree.2.1;have hon:=a.on;have b:=Ju a.tree v v (AN3 _) d;have hle:=Ro a.tree v v (AN3 _) d;unfold N1 TN;generalize Oq h.Tree v=A at y2 b hle;have yn:y.n=A.length:=by
  have:=congrArg List.length y2
  rw[Bl]at this;simpa using this
 have yg:∀i (hl:i<A.length),y.g i=((A[i]:Nat):Int):=by
  intro i hl;have h1:y.toList[i]? = (A.map fun (x:Nat)=>(x:Int))[i]?:=by rw[y2]
  simp only[Sl.toList,AN4]at h1;rw[Bb3 (by omega),AN0 hl]at h1;simpa using h1
 refine B0 y1 (Bx ?_);refine U2 (fun i x3 x4=>x4=(i:Int)/\wOk x3/\BM N (Ot h A) w=BM N (Ot h (A.drop i)) x3) A.length _ (by omega) ⟨rfl,hw,rfl⟩ ?_;rintro z i x3 _ hii ⟨rfl,h3,hT⟩ hs;by_cases hl:i<A.length
 .have hx:=hle A[i] (AZ0 hl);have hd:A.drop i=A[i]::A.drop (i+1):=AW4 hl;simp only[AM9,yg i hl,yn];obtain⟨o1,o2⟩:=on_ok a (x:=A[i]) (by omega);refine Ar (Ab (Bx (Ab (Bv (Ab ?_)))));have f:BM N (Ot h A) w=(BM N ((FV h (h.On.g A[i])).toList) x3).bind (BM N (Ot h (A.drop (i+1)))):=by rw[hT,hd,<- TJ];rfl
  refine U2 (fun j x7 x8=>x8=(j:Int)/\wOk x7/\BM N (Ot h A) w=(BM N ((FV h (h.On.g A[i])).toList.drop j) x7).bind (BM N (Ot h (A.drop (i+1))))) (h.On.g A[i]).n _ (by omega) ⟨rfl,h3,f⟩ ?_;rintro l j x7 _ hjj ⟨rfl,h7,m⟩ o;by_cases hj:j<(h.On.g A[i]).n
  .obtain⟨q1,q2⟩:=o2 j hj;simp only[AM9];refine Ar (Ab (Bv (Ab (Bv (Ab ?_)))));have hg:Vu N (h.Laws.g ((h.On.g A[i]).g j).toNat):=⟨t.laws _ (by omega),a.laws.2 _ (by omega)⟩;have c:(FV h (h.On.g A[i])).toList.drop j=h.Laws.g ((h.On.g A[i]).g j).toNat::(FV h (h.On.g A[i])).toList.drop (j+1):=DK (FV h (h.On.g A[i])) hj;rcases Rp s hg h7 with⟨u,k1,k2,k3⟩ | ⟨u,k1,k2⟩
   .refine B0 k1 (Bx (o hj _ _ ⟨Dn,k3,?_⟩));rw[m,c,BM,k2];rfl
   refine B0 k1 (Au ⟨_,rfl,.inr ⟨?_,rfl⟩⟩);rw[m,c,BM,k2];rfl
  have hj:j=(h.On.g A[i]).n:=by omega
  refine Bv (hs hl _ _ ⟨Dn,h7,?_⟩);rw[m,show (FV h (h.On.g A[i])).toList.drop j=[] from by rw[hj];exact BL (FV h (h.On.g A[i]))];rfl
 have q:i=A.length:=by omega
 refine Bv ⟨_,rfl,.inl ⟨x3,?_,rfl,h3⟩⟩;rw[hT,q,List.drop_length];rfl
end Go.AM
namespace Go.AM
variable {N:Nat}
open IntKind (wrap)
open Go.Proofs
noncomputable def lf (t:Sl T0) (k:Nat):Nat:=((P7 t t.n).g k).toNat
def Ac9 {t:Sl T0}{k:Nat}(hk:k<(P7 t t.n).n):lf t k<t.n/\(P7 t t.n).g k=(lf t k:Int):=by obtain⟨v,h1,a⟩:=Vx t t.n k hk;unfold lf;rw[a];exact⟨by simpa using h1,by simp⟩
def Yi (c:3000000<=N){h:A9}(b:Cz h)(a:ET N h){u:Nat}(d:u<h.Tree.n) :∃s,Q6 N h (u:Int)=some (s,0)/\LS (FV h (S3 h u)) s:=by
 have l:=hres_zero.2 a;have hb:¬(!((decide (0<=(u:Int)))&&(decide ((u:Int)<(h.Tree.n:Int)))))=true:=by simp;omega
 obtain⟨s,s',e,l1,l2,l3,l4⟩:=Ao1 c b (u:Int);rcases l4 with⟨rfl,_,_,_,l5⟩ | ⟨l5,_⟩
 .rw[AM9]at l5;exact⟨s,l1,⟨l5.1.symm.trans l3.1,fun i b=>by rw[<- l5.2 i (by rw[l5.1];exact b)];exact l3.2 i (by rw[l5.1];exact b)⟩⟩
 exfalso;obtain⟨s0,e0,k1,k2,k3⟩:=WR c b (u:Int);unfold Q6 at l1;rw[k1,AN2]at l1;rcases k3 with⟨rfl,_⟩ | ⟨k3,_⟩
 .obtain⟨y,_,hy⟩:=AV5.1 l1;exact l5 (congrArg Prod.snd (AP9 hy)).symm
 unfold U7 at k1;rw[Kk c b,AN2,Hf (show ¬(hres N h != 0)=true by simp[l]),AU,AN2,Hf hb,BD,AN2]at k1;have f:=Ac7 c a.tree d;have m:=a.tree.2.1;have j:=Ju a.tree u u (AN3 _) d;have g:=Nt b (Oq h.Tree u) Mv (fun x hx=>by have:=Ro a.tree u u (AN3 _) d x hx;have:=a.on;omega) (by show 0+_<=_;omega);have k1:(P4 N (u:Int) h.Tree).bind _=_:=k1;rw[f,AN2,g]at k1;exact k3 (congrArg Prod.snd (AP9 k1)).symm
def rowsP (N:Nat)(h:A9)(y:Sl (Sl Law)):Prop:=y.n=(P7 h.Tree h.Tree.n).n/\∀k,k<y.n->LS (FV h (S3 h (lf h.Tree k))) (y.g k)
def Ad0 (c:3000000<=N){h:A9}(d:Cz h) :∃r,Ak N h=some r/\((r.2≠0/\¬ET N h) \/ (r.2=0/\ET N h/\rowsP N h r.1)):=by
 unfold Ak;refine B0 (Kk c d) ?_;by_cases b:hres N h=0
 case neg=>exact ifT (by simpa using b) ⟨_,rfl,.inl ⟨b,fun g=>b (hres_zero.2 g)⟩⟩
 have a:=hres_zero.1 b;have l:=a.tree.2.1;refine ifF (by simp[b]) ?_;obtain⟨s,e,e1,_,e2⟩:=PA c d.tree;rcases e2 with⟨_,rfl,rfl⟩ | ⟨g,_⟩
 case inr=>exact Ia a.tree g
 have hn:=Nv h.Tree h.Tree.n;refine B0 e1 ?_;dsimp only;refine Bx (Ab ?_);refine U2 (fun i (x1:Sl (Sl Law)) x2=>x2=(i:Int)/\x1.n=(P7 h.Tree h.Tree.n).n/\∀k,k<i->LS (FV h (S3 h (lf h.Tree k))) (x1.g k)) (P7 h.Tree h.Tree.n).n _ (by omega) ⟨rfl,AM9 _,fun k hk=>Ia hk (AQ3 k)⟩ ?_;rintro f i x1 _ m ⟨rfl,hx,j⟩ hs;by_cases hl:i<(P7 h.Tree h.Tree.n).n
 .obtain⟨l1,l2⟩:=Ac9 hl;obtain⟨q,q1,q2⟩:=Yi c d a l1;simp only[AM9,l2];refine Ar (Ab (B0 q1 (Ab (Bx (hs hl _ _ ⟨Dn,hx,fun k hk=>?_⟩)))));show LS _ (if k=i then q else x1.g k);by_cases g:k=i
  .rw[He g,g];exact q2
  rw[Hf g];exact j k (by omega)
 exact Bv ⟨_,rfl,.inr ⟨rfl,a,hx,fun k hk=>j k (by have hk:k<x1.n:=hk;omega)⟩⟩
def Ad1 (o:3000000<=N){h:A9}(m:Cz h)(a:ET N h){v:Nat}(q:v<h.Tree.n){s:Sl Law}(hs:LS (FV h (S3 h v)) s){w:Sl Qz}(hw:wOk w) :∃r,I7 N s w=some r/\((∃x,TN N h v w=some x/\r.2=0/\SE x r.1/\wOk r.1) \/ (TN N h v w=none/\r=(Mw,11))):=by
 have b:(S3 h v).n<=64:=AY9 fun g=>a.long ⟨v,by have:=a.on;omega,g⟩;have c:=Vt a v v (AN3 _) q;have d:=Ao3 m c;have f:=Ao4 a b c;have j : GM s:=An7 hs d;have l : HI N s:=⟨by rw[<- hs.1];exact b,fun i m=>(Jt (hs.2 i (by rw[hs.1];exact m))).1 (f.2 i (by rw[hs.1];exact m))⟩;have t:=At8 o _ _ w w (AD0 d f) hs.s hw (SE.refl w);unfold TN;rw[TM a.tree v v (AN3 _) q];rcases Vw o j l hw with⟨x,d1,d2,d3⟩ | ⟨d1,d2⟩
 .rcases t with⟨_,f2⟩ | ⟨u,u',f1,f2,f3,f4⟩
  .rw[d1]at f2;cases f2
  rw[d1]at f2;obtain rfl:=AP9 f2;exact⟨_,d2,.inl ⟨u,f1,rfl,f3,d3⟩⟩
 rcases t with⟨f1,_⟩ | ⟨u,u',_,f2,_⟩
 .exact⟨_,d2,.inr ⟨f1,rfl⟩⟩
 rw[d1]at f2;cases f2
def Ao8 (o o' : Option (Sl Qz)):Prop:=(o=none/\o' = none) \/ ∃x x',o=some x/\o' = some x' /\ SE x x'
def Vz (d:3000000<=N){a b:Sl Qz}(ha:∀i,i<a.n->okS (a.g i))(hb:∀i,i<b.n->okS (b.g i)) :∃e,BH N (Sl.of [a,b]:Sl (Sl Qz))=some e/\(e=0->wOk a/\wOk b):=by
 obtain⟨e,e1,e2⟩:=Pz d (l:=(Sl.of [a,b]:Sl (Sl Qz))) (by show 2<_;omega) (fun i c=>match i,c with
  |0,_=>ha
  |1,_=>hb
  |_+2,c=>Ia c (by show ¬_<2;omega))
 refine⟨e,e1,fun f=>?_⟩;rcases e2 with⟨_,h⟩ | ⟨_,_,_,_,h⟩
 .exact⟨h 0 (by show 0<2;omega),h 1 (by show 1<2;omega)⟩
 exact Ia f h
def Yj (m:3000000<=N){h:A9}(o:Cz h){a b:Sl Qz}(ha:∀i,i<a.n->okS (a.g i))(hb:∀i,i<b.n->okS (b.g i)) :∃r,U8 N h a b=some r/\((r.1=0/\r.2.1=false/\r.2.2≠0) \/ (ET N h/\wOk a/\wOk b /\
  ((r=(0,false,0)/\∀k,k<(P7 h.Tree h.Tree.n).n->Ao8 (TN N h (lf h.Tree k) a) (TN N h (lf h.Tree k) b)) \/
   ∃k:Nat,r=((k:Int),true,0)/\k<(P7 h.Tree h.Tree.n).n/\¬Ao8 (TN N h (lf h.Tree k) a) (TN N h (lf h.Tree k) b)/\∀j,j<k->Ao8 (TN N h (lf h.Tree j) a) (TN N h (lf h.Tree j) b)))):=by
 unfold U8;obtain⟨⟨y,e⟩,y1,y2⟩:=Ad0 m o;refine B0 y1 ?_;rcases y2 with⟨y2,_⟩ | ⟨rfl,d,yn,yl⟩
 .exact ifT (by simpa using y2) ⟨_,rfl,.inl ⟨rfl,rfl,y2⟩⟩
 refine Bx ?_;obtain⟨c,c1,c2⟩:=Vz m ha hb;refine B0 c1 ?_;by_cases c0:c=0
 case neg=>exact ifT (by simpa using c0) ⟨_,rfl,.inl ⟨rfl,rfl,c0⟩⟩
 obtain⟨wa,wb⟩:=c2 c0;refine ifF (by simp[c0]) ?_;have s:=d.tree.2.1;have hn:=Nv h.Tree h.Tree.n;simp only at yn yl;refine BN (fun i x=>x=(i:Int)/\∀k,k<i->Ao8 (TN N h (lf h.Tree k) a) (TN N h (lf h.Tree k) b)) y.n _ (by omega) ⟨rfl,fun k hk=>Ia hk (AQ3 k)⟩ ?_;rintro f i _ v ⟨rfl,l⟩ hs;by_cases hl:i<y.n
 .obtain⟨l1,l2⟩:=Ac9 (t:=h.Tree) (k:=i) (by omega);obtain⟨⟨p,pe⟩,p1,p2⟩:=Ad1 m o d l1 (yl i hl) wa;obtain⟨⟨q,qe⟩,q1,q2⟩:=Ad1 m o d l1 (yl i hl) wb;simp only[AM9];refine Ar (Ab (B0 p1 (B0 q1 (ltX ?_))));have no:Ao8 (TN N h (lf h.Tree i) a) (TN N h (lf h.Tree i) b)->∃r,f (wrap .i64 ((i:Int)+1))=some r/\_:=fun g=>hs hl _ ⟨Dn,fun k hk=>by
   by_cases e:k=i
   .rw[e];exact g
   exact l k (by omega)⟩
  rcases p2 with⟨x,px,pe,ps,pw⟩ | ⟨px,pe⟩<;>rcases q2 with⟨z,qx,qe',qs,qw⟩ | ⟨qx,qe'⟩
  .simp only at pe qe' ps qs pw qw;subst pe qe';refine Bx ?_;obtain⟨bb,b1,b2⟩:=Vq (N:=N) (x:=p) (y:=q) (by have:=pw.1;omega) (by have:=pw.1;omega);refine B0 b1 ?_;cases bb
   .refine ifT rfl ⟨_,rfl,.inr ⟨d,wa,wb,.inr ⟨i,rfl,by omega,?_,l⟩⟩⟩;rw[px,qx];rintro (⟨g,_⟩ | ⟨u,u',g1,g2,g3⟩)
    .cases g
    cases g1;cases g2;exact Bool.noConfusion (b2.2 ((ps.symm.trans g3).trans qs))
   refine Bx (no ?_);rw[px,qx];exact .inr ⟨_,_,rfl,rfl,(ps.trans (b2.1 rfl)).trans qs.symm⟩
  .cases qe';simp only at pe;subst pe;refine Au ?_;refine ifT rfl (⟨_,rfl,.inr ⟨d,wa,wb,.inr ⟨i,rfl,by omega,?_,l⟩⟩⟩);rw[px,qx];rintro (⟨g,_⟩ | ⟨u,u',g1,g2,g3⟩)
   .cases g
   cases g2
  .cases pe;simp only at qe';subst qe';refine Au ?_;refine ifT rfl (⟨_,rfl,.inr ⟨d,wa,wb,.inr ⟨i,rfl,by omega,?_,l⟩⟩⟩);rw[px,qx];rintro (⟨_,g⟩ | ⟨u,u',g1,g2,g3⟩)
   .cases g
   cases g1
  cases pe;cases qe';refine Bx ?_;obtain⟨bb,b1,b2⟩:=Vq (N:=N) (x:=Mw) (y:=Mw) (by show 0<N;omega) (by show 0<10000000;omega);refine B0 b1 ?_;obtain rfl:=b2.2 (SE.refl _);exact Bx (no (.inl ⟨px,qx⟩))
 exact Bv ⟨_,rfl,.inr ⟨d,wa,wb,.inl ⟨rfl,fun k hk=>l k (by omega)⟩⟩⟩
end Go.AM
namespace Go.AM
open IntKind (wrap)
open Go.Proofs
def Yk {N:Nat}(r:3000000<=N)(h:A9):∃b,S0 N h=some b/\True:=by
 unfold S0;by_cases hb:(((decide (8<(h.Tree.n:Int)))||(decide (6<(h.Laws.n:Int))))||(decide (8<(h.On.n:Int))))=true
 .exact ifT hb ⟨_,rfl,trivial⟩
 refine ifF hb ?_;have o : h.Laws.n<=6/\h.On.n<=8:=by simp at hb;omega
 refine BN (fun i x=>x=(i:Int)) h.Laws.n _ (by omega) rfl ?_;rintro m i x q rfl hs;by_cases d:i<h.Laws.n
 .refine Ar (Ab ?_);have f:∃b,R9 N (h.Laws.g (i:Int).toNat)=some b/\True:=by
   unfold R9;obtain⟨a,ha,_⟩:=WM (N:=N) (by omega) (h.Laws.g (i:Int).toNat).Left;obtain⟨c,hc,_⟩:=WM (N:=N) (by omega) (h.Laws.g (i:Int).toNat).Right;refine B0 ha (B0 hc ?_);split
   .split
    .exact⟨_,rfl,trivial⟩
    exact⟨_,rfl,trivial⟩
   exact⟨_,rfl,trivial⟩
  obtain⟨b,b1,_⟩:=f;refine B0 b1 ?_;cases b
  .exact ifT rfl ⟨_,rfl,trivial⟩
  exact Bx (hs d _ (Dn))
 refine Bv ?_;refine BN (fun i x=>x=(i:Int)) h.On.n _ (by omega) rfl ?_;rintro j i x q rfl l;by_cases d:i<h.On.n
 .refine Ar (Ab ?_);by_cases g1:(decide (4<((h.On.g (i:Int).toNat).n:Int)))=true
  .exact ifT g1 ⟨_,rfl,trivial⟩
  exact ifF g1 (l d _ (Dn))
 exact Bv ⟨_,rfl,trivial⟩
def WS (P:Nat->Prop)(n m:Nat)(x:Int):Prop:=(x = -1/\∀k,m<=k->k<n->¬P k) \/ ∃k:Nat,x=(k:Int)/\m<=k/\k<n/\P k/\∀j,m<=j->j<k->¬P j
def Yl {P:Nat->Prop}{n m:Nat}{x:Int}(hm:m<n)(h:P m):WS P n m (m:Int):=.inr ⟨m,rfl,AN3 _,hm,h,fun j h1 a=>by omega⟩
def Ad2 {P:Nat->Prop}{n m:Nat}{x:Int}(h:¬P m)(hx:WS P n (m+1) x):WS P n m x:=by
 rcases hx with⟨h1,a⟩ | ⟨k,h1,a,b,c,d⟩
 .refine .inl ⟨h1,fun k hk hn=>?_⟩;by_cases e:k=m
  .rw[e];exact h
  exact a k (by omega) hn
 refine .inr ⟨k,h1,by omega,b,c,fun j hj hk=>?_⟩;by_cases e:j=m
 .rw[e];exact h
 exact d j (by omega) hk
def TU {N:Nat}(l:3000000<=N)(hw:I1 N=some true){h:A9}(hi:Cz h){v w:Sl Qz}(hv:okA v)(hwa:okA w):T1 N h v w=some true:=by
 refine eqR ?_;unfold T1;obtain⟨s,e,e1,_,e2⟩:=PA l hi.tree;obtain⟨b,b1,_⟩:=Yk l h;refine B0 e1 (B0 b1 ?_);by_cases hb:((((!b)||(decide (100<(v.n:Int))))||(decide (100<(w.n:Int))))||(e != 0))=true
 .exact ifT hb (B0 hw ⟨_,rfl,rfl⟩)
 refine ifF hb ?_;have e0:e=0:=by simp only[AO9,not_or]at hb;simpa using hb.2
 subst e0;rcases e2 with⟨ht,_,rfl⟩ | ⟨_,g,_⟩
 case inr=>exact Ia g (by decide)
 have h63:=ht.2.1;have hn:=Nv h.Tree h.Tree.n;obtain⟨⟨at_,d,c⟩,r1,r2⟩:=Yj l hi hv hwa;have a:Cw N h v w=some (if (c != 0) then (false,c)else (!d,0)):=by
  unfold Cw;rw[r1,AN2];by_cases g:(c != 0)=true
  .rw[He g,He g]
  rw[Hf g,Hf g]
 rcases r2 with⟨q1,q2,q3⟩ | ⟨m,wv,ww,q⟩
 .simp only at q1 q2 q3;subst q1 q2;have hc:(c != 0)=true:=by simpa using q3
  rw[He hc]at a;refine B0 a (B0 r1 (ifT ?_ (ltX (Au (ifT rfl (ifT rfl (B0 hw ⟨_,rfl,rfl⟩)))))));dsimp only;rw[hc];rfl
 have hc0:c=0:=by
  rcases q with⟨g,_⟩ | ⟨k,g,_⟩
  .exact congrArg (fun z=>z.2.2) g
  exact congrArg (fun z=>z.2.2) g
 subst hc0;rw[Hf (by decide)]at a;refine B0 a (B0 r1 (Bx ?_));dsimp only
 let P:Nat->Prop:=fun k=>¬Ao8 (TN N h (lf h.Tree k) v) (TN N h (lf h.Tree k) w)
 refine U2 (fun i x3 x4=>x4=((P7 h.Tree h.Tree.n).n:Int)-1-i/\WS P (P7 h.Tree h.Tree.n).n ((P7 h.Tree h.Tree.n).n-i) x3) (P7 h.Tree h.Tree.n).n _ (by omega) ⟨by rw[D7 (by omega) (by omega)];omega,.inl ⟨rfl,fun k h1 h2=>by omega⟩⟩ ?_;rintro f i x3 _ hii ⟨rfl,o⟩ hs;by_cases hl:i<(P7 h.Tree h.Tree.n).n
 .obtain⟨k,hk⟩:∃k:Nat,((P7 h.Tree h.Tree.n).n:Int)-1-i=(k:Int):=⟨(P7 h.Tree h.Tree.n).n-1-i,by omega⟩;have hk1:(P7 h.Tree h.Tree.n).n-i=k+1:=by omega
  have hk2:(P7 h.Tree h.Tree.n).n-(i+1)=k:=by omega
  rw[hk1]at o;obtain⟨l1,l2⟩:=Ac9 (t:=h.Tree) (k:=k) (by omega);have hs:=hs hl;rw[hk2]at hs;have a0:wrap .i64 ((k:Int)-1)=((P7 h.Tree h.Tree.n).n:Int)-1-((i+1:Nat):Int):=by rw[D7 (by omega) (by omega)];omega
  rw[hk,AM9,l2];obtain⟨⟨p,pe⟩,p1,p2⟩:=PB l hi m l1 wv;obtain⟨⟨q',qe⟩,q1,q2⟩:=PB l hi m l1 ww;refine Au (Ab (B0 p1 (Ab (B0 q1 (ltX ?_)))));have yes:P k->∃r,(if true then f (k:Int) (wrap .i64 ((k:Int)-1))else f x3 (wrap .i64 ((k:Int)-1)))=some r/\r=true:=fun g=>
   ifT rfl (hs _ _ ⟨a0,Yl (x:=x3) (by omega) g⟩)
  have no:¬P k->∃r,(if false then f (k:Int) (wrap .i64 ((k:Int)-1))else f x3 (wrap .i64 ((k:Int)-1)))=some r/\r=true:=fun g=>
   Bx (hs _ _ ⟨a0,Ad2 g o⟩)
  rcases p2 with⟨x,px,hp,pw⟩ | ⟨px,hp⟩<;>rcases q2 with⟨z,qx,hq,qw⟩ | ⟨qx,hq⟩<;>cases hp<;>cases hq
  .refine Bx (ifT rfl ?_);obtain⟨bb,b1,b2⟩:=Vq (N:=N) (x:=p) (y:=q') (by have:=pw.1;omega) (by have:=pw.1;omega);refine B0 b1 ?_;cases bb
   .refine yes ?_;show ¬Ao8 _ _;rw[px,qx];rintro (⟨g,_⟩ | ⟨u,u',g1,g2,g3⟩)
    .cases g
    cases g1;cases g2;exact Bool.noConfusion (b2.2 g3)
   refine no fun g=>g ?_;rw[px,qx];exact .inr ⟨_,_,rfl,rfl,b2.1 rfl⟩
  .refine Au (yes ?_);show ¬Ao8 _ _;rw[px,qx];rintro (⟨g,_⟩ | ⟨u,u',g1,g2,g3⟩)
   .cases g
   cases g2
  .refine Au (yes ?_);show ¬Ao8 _ _;rw[px,qx];rintro (⟨_,g⟩ | ⟨u,u',g1,g2,g3⟩)
   .cases g
   cases g1
  refine Bx (Bx (no fun g=>g (.inl ⟨px,qx⟩)))
 have hie:i=(P7 h.Tree h.Tree.n).n:=by omega
 refine Bv (ltX ?_);rw[show (P7 h.Tree h.Tree.n).n-i=0 by omega]at o;rcases q with⟨g,q⟩ | ⟨k,g,q1,q2,q3⟩
 .cases g;rcases o with⟨rfl,_⟩ | ⟨k,_,_,k1,k2,_⟩
  .exact Av (Av (Av (B0 hw ⟨_,rfl,rfl⟩)))
  exact Ia (q k k1) k2
 cases g;rcases o with⟨_,k2⟩ | ⟨j,rfl,_,k1,k2,k3⟩
 .exact Ia q2 (k2 k (AV7 _) q1)
 obtain rfl:j=k:=by
  by_cases g1:j<k
  .exact Ia (q3 j g1) k2
  by_cases g2:k<j
  .exact Ia q2 (k3 k (AV7 _) g2)
  omega
 exact ifT (by simp;try omega) (Au (ifT (by simp;try omega) (B0 hw ⟨_,rfl,rfl⟩)))
end Go.AM
