/- Part 9. -/
import Derived.Test.YtppapmfonjmfbaaGreatDoorRH
import Derived.Test.YtppapmfonjmfbaaGreatDoorRG
set_option linter.defProp false
set_option linter.unusedSimpArgs false
set_option linter.unusedVariables false
set_option linter.unusedSectionVars false
namespace Go.AM
variable {N:Nat}
open IntKind (wrap)
def Bb9:=@Classical.choose_spec
open Go.Proofs
def Oy (t:Sl U1)(v:Nat):List Nat:= if hp:0<=(t.g v).Parent/\(t.g v).Parent<v then Oy t (t.g v).Parent.toNat++[v]else [v]
termination_by v
decreasing_by omega
def Fb {t:Sl U1}{v:Nat}(a:(t.g v).Parent<0):Oy t v=[v]:=by rw[Oy,dif_neg (by omega)]
def Ks {t:Sl U1}{v p:Nat}(a:(t.g v).Parent=(p:Int))(hp:p<v):Oy t v=Oy t p++[v]:=by rw[Oy,dif_pos (by omega),a,AQ4]
def RC {t:Sl U1}(ht:Bj t):∀(m v:Nat),v<=m->v<t.n->∀x∈Oy t v,x<=v
 |m,v,hm,hv,x,hx=>by
  rcases T3 ht hv with⟨_,e⟩ | ⟨p,hp,e⟩
  .rw[Fb (by omega)]at hx;simp at hx;omega
  rw[Ks e hp]at hx;rcases Bi1.1 hx with hx|hx
  .match m with
   |0=>omega
   |m+1=>have:=RC ht m p (by omega) (by omega) x hx;omega
  simp at hx;omega
def Aq4 {α : Type}{x:Sl α}{m:Nat}(h:x.n=m+1):x.toList.reverse=x.g m::(x.take m).toList.reverse:=by unfold Sl.toList;rw[h,Ba7,Ba8,AZ2];rfl
def Xd {x2:Sl Int}(hx:x2.n<100000):∀(k M:Nat),k<=x2.n->k<M->S3 M (fun (a:Int->Option (List Int)) (x3:Int)=>
 if (decide (0<=x3)) then
  if (((0:Int)<=x3/\x3<(x2.n:Int))/\x3.toNat<x2.n)then
   Y4 (x2.g x3.toNat) (
    a (wrap .i64 (x3-1))
    )
  else none
 else
  some []
 ) ((k:Int)-1)=some (x2.take k).toList.reverse
 |0,M,hk,hM=>by obtain⟨M,rfl⟩:∃K,M=K+1:=⟨M-1,by omega⟩;rw[BD,Lm (by simp)];rfl
 |k+1,M,hk,hM=>by obtain⟨M,rfl⟩:∃K,M=K+1:=⟨M-1,by omega⟩;rw[show ((k+1:Nat):Int)-1=(k:Int) by omega,BD,Ll (by simp),Ll ⟨by omega,by omega⟩,E6 (by omega) (by omega),Xd hx k M (by omega) (by omega),AQ4,Aq4 (x:=x2.take (k+1)) (m:=k) rfl];rfl
def Ae3 (j:3000000<=N){t:Sl U1}(ht:Bj t){v:Nat}(f:v<t.n):Q2 N (v:Int) t=some ((Oy t v).map fun (x:Nat)=>(x:Int)):=by
 have i:=ht.2.1;have key:∀(m c:Nat) (x2:Sl Int) (M:Nat),c<m->c<t.n->m+1<M->x2.n+c<=1000->∃y:Sl Int,y.n<=1001/\y.toList.reverse=((Oy t c).map fun (x:Nat)=>(x:Int))++x2.toList.reverse /\
  W9 M (fun (a:Int->Sl Int->Option (List Int)) (x1:Int) (x2:Sl Int)=>
  if (decide (0<=x1)) then
   if (((x2.n+(Sl.of [x1]:Sl Int).n)*8<=140737488355328/\x2.n+(Sl.of [x1]:Sl Int).n<=140737488355328)/\((0:Int)<=x1/\x1<(t.n:Int)))then
    a (t.g x1.toNat).Parent (x2.push x1)
   else none
  else
   S3 N (fun b (x3:Int)=>
    if (decide (0<=x3)) then
     if (((0:Int)<=x3/\x3<(x2.n:Int))/\x3.toNat<x2.n)then
      Y4 (x2.g x3.toNat) (
       b (wrap .i64 (x3-1))
       )
     else none
    else
     some []
    ) (wrap .i64 ((x2.n:Int)-1))
  ) (c:Int) x2=some y.toList.reverse:=by
  intro m
  induction m with
  |zero=>exact fun c _ _ h=>Ln h (by omega)
  |succ m ih=>
   intro c x2 M hc d l hx;obtain⟨M,rfl⟩:∃K,M=K+1:=⟨M-1,by omega⟩;rw[M4,Ll (by simp),Ll ⟨by show (x2.n+1)*8<=_/\x2.n+1<=_;omega,by omega⟩,AQ4];rcases T3 ht d with⟨_,e⟩ | ⟨p,hp,e⟩
   .obtain⟨M,rfl⟩:∃K,M=K+1:=⟨M-1,by omega⟩;refine⟨x2.push (c:Int),by show x2.n+1<=_;omega,by rw[Vz,AZ2,Fb (by omega)];rfl,?_⟩;rw[e,M4,Lm (by decide)];have hb:=Xd (x2:=x2.push (c:Int)) (by show x2.n+1<_;omega) (x2.n+1) N (AQ8 _) (by omega);rw[E6 (by show _<=((x2.n+1:Nat):Int)-1;omega) (by show ((x2.n+1:Nat):Int)-1<=_;omega)];exact hb
   obtain⟨y,y1,y2,y3⟩:=ih p (x2.push (c:Int)) M (by omega) (by omega) (by omega) (by show x2.n+1+p<=_;omega);refine⟨y,y1,?_,by rw[e];exact y3⟩;rw[y2,Vz,AZ2,Ks e hp,Ba8,Bd9];rfl
 obtain⟨y,_,y2,y3⟩:=key (v+1) v Ra N (by omega) f (by omega) (by show 0+v<=_;omega);unfold Q2;rw[y3,y2];show some (_++[])=_;rw[Ba3]
def AF2 (h:A7)(L:List Nat)(z:Sl Int):Sl Int:=L.foldl (fun z x=>z.app (h.On.g x)) z
def TU {h:A7}(ht:Bj h.Tree):∀(m v:Nat),v<=m->v<h.Tree.n->AF2 h (Oy h.Tree v) Ra=T2 h v
 |m,v,hm,hv=>by
  rcases T3 ht hv with⟨_,e⟩ | ⟨p,hp,e⟩
  .rw[Fb (by omega),Ct (by omega)];rfl
  rw[Ks e hp,FH e hp]
  match m with
  |0=>omega
  |m+1=>
   have:=TU ht m p (by omega) (by omega)
   unfold AF2 at this⊢;rw[List.foldl_append,this];rfl
def NA {h:A7}(c:Ag h):∀(L:List Nat) (z:Sl Int),(∀x∈L,x<h.On.n)->z.n+L.length*1100000<=10000000000 ->
 O1 (L.map fun (x:Nat)=>(x:Int)) (fun (a:Sl Int->Option ((Sl Int)×Int)) (x1:Int) (z1:Sl Int)=>
  if (((0:Int)<=x1/\x1<(h.On.n:Int))/\((z1.n+(h.On.g x1.toNat).n)*8<=140737488355328/\z1.n+(h.On.g x1.toNat).n<=140737488355328))then
   a (z1.app (h.On.g x1.toNat))
  else none
  ) (fun (z1:Sl Int)=>
   some (z1,0)
  ) z=some (AF2 h L z,0)
 |[],z,_,_=>rfl
 |x::L,z,hx,hz=>by have b:=hx x (by simp);have hl:=c.len x b;simp only[AT5,Bc9]at hz;rw[AR9,O1,AQ4,Ll ⟨by omega,by omega⟩];exact NA c L _ (fun y hy=>hx y (by simp[hy])) (by show z.n+(h.On.g x).n+_<=_;omega)
def Jv {t:Sl U1}(ht:Bj t):∀(m v:Nat),v<=m->v<t.n->(Oy t v).length<=v+1
 |m,v,hm,hv=>by
  rcases T3 ht hv with⟨_,e⟩ | ⟨p,hp,e⟩
  .rw[Fb (by omega)];simp
  rw[Ks e hp]
  match m with
  |0=>omega
  |m+1=>have:=Jv ht m p (by omega) (by omega);simp;omega
def Xe (g:3000000<=N){h:A7}(d:Ag h)(v:Int) :∃s e,W0 N h v=some (s,e)/\Kd N h v=some (s,e)/\((e=0/\BY N h/\0<=v/\v<h.Tree.n/\s=T2 h v.toNat) \/ (e≠0/\s=Ra)):=by
 unfold W0 Kd;rw[Kr g d,Ae2 g d,AQ6,AQ6];by_cases f:hres N h=0
 case neg=>
  have b:(hres N h != 0)=true:=by simpa using f
  rw[Ll b,Ll b];exact⟨_,_,rfl,rfl,.inr ⟨f,rfl⟩⟩
 have a:=hres_zero.1 f;have c:¬(hres N h != 0)=true:=by simp[f]
 rw[Lm c,Lm c,Bi,Py,AQ6,AQ6];by_cases m:0<=v/\v<(h.Tree.n:Int)
 case neg=>
  have hb:(!((decide (0<=v))&&(decide (v<(h.Tree.n:Int)))))=true:=by simp;omega
  rw[Ll hb,Ll hb];exact⟨_,_,rfl,rfl,.inr ⟨by decide,rfl⟩⟩
 have hb:¬(!((decide (0<=v))&&(decide (v<(h.Tree.n:Int)))))=true:=by simp;omega
 rw[Lm hb,Lm hb,BO,AQ6];obtain⟨u,rfl⟩:∃u:Nat,v=(u:Int):=⟨v.toNat,by omega⟩;have l:=a.tree.2.1;have hw:=Ae3 g a.tree (v:=u) (by omega);have j:=Jv a.tree u u (AQ8 _) (by omega);have i:=NA d (Oy h.Tree u) Ra (fun x hx=>by have:=RC a.tree u u (AQ8 _) (by omega) x hx;have:=a.on;omega) (by show 0+_<=_;omega);rw[Nz d a.tree a.on N u (by omega) (by omega),AQ6];refine⟨T2 h u,0,?_,rfl,.inl ⟨rfl,a,by omega,by omega,by rw[AQ4]⟩⟩;show (Q2 N (u:Int) h.Tree).bind _=_;rw[hw,AQ6,i,TU a.tree u u (AQ8 _) (by omega)]
def RD {N:Nat}{h:A7}(a:BY N h):∀(m v:Nat),v<=m->v<h.Tree.n->∀i,i<(T2 h v).n->0<=(T2 h v).g i/\(T2 h v).g i<h.Laws.n
 |m,v,hm,hv,i,b=>by
  have AF8:∀j,j<(h.On.g v).n->0<=(h.On.g v).g j/\(h.On.g v).g j<h.Laws.n:=fun j hj=>by
   have:=a.bad v (by have:=a.on;omega)
   constructor
   .exact Int.not_lt.1 fun g=>this ⟨j,hj,.inl g⟩
   exact Int.not_le.1 fun g=>this ⟨j,hj,.inr g⟩
  rcases T3 a.tree hv with⟨_,e⟩ | ⟨p,hp,e⟩
  .rw[Ct (by omega)]at b⊢;have b:i<0+(h.On.g v).n:=b
   have:(Ra.app (h.On.g v)).g i=(h.On.g v).g i:=by show (if i<0 then (default:Int)else (h.On.g v).g (i-0))=_;rw[Jd];rfl
   rw[this];exact AF8 i (by omega)
  rw[FH e hp]at b⊢;have b:i<(T2 h p).n+(h.On.g v).n:=b;show 0<=(if i<(T2 h p).n then (T2 h p).g i else (h.On.g v).g (i-(T2 h p).n))/\(if i<(T2 h p).n then (T2 h p).g i else (h.On.g v).g (i-(T2 h p).n))<_;split
  .match m with
   |0=>omega
   |m+1=>exact RD a m p (by omega) (by omega) i (by assumption)
  exact AF8 _ (by omega)
def Ik:∀(d:Nat) (p:Pat),okP d p->∀M,100+d<=M->∃q,P3 M p=some q/\PE p q
 |0,p,h,M,_=>h.elim
 |d+1,p,h,0,hM=>by omega
 |d+1,p,h,M+1,hM=>by
  show ∃q,Q3 (P3 M) M p=some q/\_;unfold Q3;have hn:=h.1;refine T1 (fun i (x1:Sl Pat) x2=>x2=(i:Int)/\x1.n=i/\∀j,j<i->PE (p.L.g j) (x1.g j)) p.L.n _ (by omega) ⟨rfl,rfl,fun j hj=>Ln hj (by omega)⟩ ?_;rintro b i x1 x2 c ⟨rfl,hx,hj⟩ hs;by_cases hl:i<p.L.n
  .obtain⟨q,q1,q2⟩:=Ik d (p.L.g i) (h.2.2 i hl) M (by omega);refine Ao (An (B1 (by rw[AQ4];exact q1) (ifT (by show (x1.n+1)*64<=_/\x1.n+1<=_;omega) (hs hl _ _ ⟨Hi,by show x1.n+1=_;omega,fun j a=>?_⟩))));show PE _ (if j<x1.n then x1.g j else q);by_cases e:j=i
   .subst e;rw[Jd];exact q2
   rw[Hj];exact hj j (by omega)
  exact Ec ⟨_,rfl,PE_of.2 ⟨rfl,rfl,rfl,rfl,rfl,by show x1.n=_;omega,fun j a=>hj j (by omega)⟩⟩
def Yy (d:3000000<=N){l:Law}(hl:Lx l)(hc:chkAll N l):∃l',U9 N l=some l' /\ LE l l':=by have a:=hc.f hl;obtain⟨_,h1,b,g,c,_⟩:=a;have i:=c.1;obtain⟨q1,e1,g1⟩:=Ik 40 l.Left (Nr 40 _ (by omega) h1 _ (by simp)) N (by omega);obtain⟨q2,e2,g2⟩:=Ik 40 l.Right (Nr 40 _ (by omega) b _ (by simp)) N (by omega);unfold U9 A5 G1;rw[e1,e2,AQ6,AQ6,Hj,AQ6,Hj];exact⟨_,rfl,rfl,g1,g2,SE.refl _,SE.refl _,rfl⟩
def Aq5 (f:3000000<=N){h:A7}(m:Ag h)(b:BY N h){l:Sl Int}(hn:l.n<1000000)(hl:∀i,i<l.n->0<=l.g i/\l.g i<h.Laws.n) :∃s,S1 N h l=some s/\s.n=l.n/\∀i,i<l.n->LE (h.Laws.g (l.g i).toNat) (s.g i):=by
 unfold S1;refine T1 (fun i (x1:Sl Law) x2=>x2=(i:Int)/\x1.n=i/\∀j,j<i->LE (h.Laws.g (l.g j).toNat) (x1.g j)) l.n _ (by omega) ⟨rfl,rfl,fun j hj=>Ln hj (by omega)⟩ ?_;rintro d i x1 x2 hle ⟨rfl,hx,hj⟩ hs;by_cases a:i<l.n
 .have o:=hl i a;obtain⟨q,q1,q2⟩:=Yy f (m.laws (l.g i).toNat (by omega)) (b.laws.2 (l.g i).toNat (by omega));refine Ao ?_;rw[AQ4];refine ifT ⟨by omega,o⟩ (B1 q1 (ifT (by show (x1.n+1)*200<=_/\x1.n+1<=_;omega) (hs a _ _ ⟨Hi,by show x1.n+1=_;omega,fun j c=>?_⟩)));show LE _ (if j<x1.n then x1.g j else q);by_cases e:j=i
  .subst e;rw[Jd];exact q2
  rw[Hj];exact hj j (by omega)
 exact Ec ⟨_,rfl,by omega,fun j c=>hj j (by omega)⟩
def FY (h:A7)(l:Sl Int):Sl Law:=⟨l.n,fun i=>h.Laws.g (l.g i).toNat⟩
def Aq6 (o:3000000<=N){h:A7}(b:Ag h)(v:Int) :∃s s' e,S2 N h v=some (s,e)/\Pz N h v=some (s',e)/\LS s' s/\((e=0/\BY N h/\0<=v/\v<h.Tree.n/\SE s' (FY h (T2 h v.toNat))) \/ (e≠0/\s.n=0)):=by
 obtain⟨l,e,h1,u,q⟩:=Xe o b v;unfold S2 Pz;rw[h1,u,AQ6,AQ6];have hl:l.n<1000000/\(∀i,i<l.n->0<=l.g i/\l.g i<h.Laws.n)/\∃s,S1 N h l=some s/\s.n=l.n/\∀i,i<l.n->LE (h.Laws.g (l.g i).toNat) (s.g i):=by
  rcases q with⟨_,a,g1,g2,rfl⟩ | ⟨_,rfl⟩
  .have w:(T2 h v.toNat).n<=64:=Bb2 fun g=>a.long ⟨v.toNat,by have:=a.on;omega,g⟩;have f:=RD a v.toNat v.toNat (AQ8 _) (by omega);exact⟨by omega,f,Aq5 o b a (by omega) f⟩
  refine⟨by show 0<_;omega,fun i b=>Ln b (AT4 i),(Sl.nil:Sl Law),?_,rfl,fun i b=>Ln b (AT4 i)⟩;unfold S1;obtain⟨M,rfl⟩:∃K,N=K+1:=⟨N-1,by omega⟩;rw[M4,Lm (by show ¬decide ((0:Int)<((0:Nat):Int))=true;decide)]
 obtain⟨hn,x,s,s1,s2,s3⟩:=hl;have y:∃r,(W9 N (fun (c:Sl Law->Int->Option ((Sl Law)×Int)) (x1:Sl Law) (x2:Int)=>
  if (decide (x2<(l.n:Int))) then
   if ((((0:Int)<=x2/\x2<(l.n:Int))/\x2.toNat<l.n)/\((0:Int)<=(l.g x2.toNat)/\(l.g x2.toNat)<(h.Laws.n:Int)))then
    if ((x1.n+(Sl.of [h.Laws.g (l.g x2.toNat).toNat]:Sl Law).n)*200<=140737488355328/\x1.n+(Sl.of [h.Laws.g (l.g x2.toNat).toNat]:Sl Law).n<=140737488355328)then
     c (x1.push (h.Laws.g (l.g x2.toNat).toNat)) (wrap .i64 (x2+1))
    else none
   else none
  else
   some (x1,e)
  ) (Sl.nil:Sl Law) 0)=some r/\r.2=e/\r.1.n=l.n/\∀i,i<l.n->r.1.g i=h.Laws.g (l.g i).toNat:=by
  refine T1 (fun i (x1:Sl Law) x2=>x2=(i:Int)/\x1.n=i/\∀j,j<i->x1.g j=h.Laws.g (l.g j).toNat) l.n _ (by omega) ⟨rfl,rfl,fun j hj=>Ln hj (by omega)⟩ ?_;rintro t i x1 x2 hle ⟨rfl,hx,hj⟩ hs;by_cases d:i<l.n
  .refine Ao ?_;rw[AQ4];refine ifT ⟨⟨by omega,d⟩,x i d⟩ (ifT (by show (x1.n+1)*200<=_/\x1.n+1<=_;omega) (hs d _ _ ⟨Hi,by show x1.n+1=_;omega,fun j m=>?_⟩));show (if j<x1.n then x1.g j else _)=_;by_cases e:j=i
   .subst e;rw[Jd]
   rw[Hj];exact hj j (by omega)
  exact Ec ⟨_,rfl,rfl,by show x1.n=_;omega,fun j m=>hj j (by omega)⟩
 obtain⟨⟨s',e'⟩,d1,d2,d3,d4⟩:=y;dsimp only at d2 d3 d4;subst d2;rw[s1,AQ6];refine⟨s,s',_,rfl,d1,⟨by omega,fun i b=>by rw[d4 i (by omega)];exact s3 i (by omega)⟩,?_⟩;rcases q with⟨g0,a,g1,g2,rfl⟩ | ⟨g0,rfl⟩
 .exact .inl ⟨g0,a,g1,g2,d3,fun i b=>d4 i (by omega)⟩
 exact .inr ⟨g0,s2⟩
end Go.AM
namespace Go.AM
variable {N:Nat}
open Go.Proofs
def Oz (N:Nat)(l:Law)(w:Sl Tb):Option (Sl Tb):=(P9 N l w).bind fun y=>if y.2=0 then some y.1 else none
def BZ (N:Nat):List Law->Sl Tb->Option (Sl Tb)
 |[],w=>some w
 |l::L,w=>(Oz N l w).bind (BZ N L)
def TV {N:Nat}:∀(A B:List Law) (w:Sl Tb),BZ N (A++B) w=(BZ N A w).bind (BZ N B)
 |[],B,w=>rfl
 |l::A,B,w=>by
  show (Oz N l w).bind (BZ N (A++B))=((Oz N l w).bind (BZ N A)).bind (BZ N B);cases Oz N l w with
  |none=>rfl
  |some v=>exact TV A B v
def VD (N:Nat)(l:Law):Prop:=Lx l/\chkAll N l
def Aq7 {l l' : Law}(h:LE l l')(g:VD N l):VD N l':=⟨LN h g.1,(Ju h).1 g.2⟩
def OR (o o' : Option (Sl Tb)):Prop:=(o=none/\o' = none) \/ ∃v v',o=some v/\o' = some v' /\ SE v v' /\ wOk v
def RE (a:3000000<=N){l:Law}(hl:VD N l){w:Sl Tb}(hw:wOk w):(∃v,P9 N l w=some (v,0)/\Oz N l w=some v/\wOk v) \/ (∃v,P9 N l w=some (v,11)/\Oz N l w=none):=by
 obtain⟨⟨v,e⟩,_,h1,_,_,_,b⟩:=Ny a hl.1 (LE.refl l) (SE.refl w) fun i c=>(hw.2 i c).ok;rcases b with⟨_,h⟩ | ⟨_,h,h'⟩ | ⟨_,_,h|⟨h,h'⟩⟩
 .exact Ln hl.2 h
 .exact Ln ((GO h).2 hw) h'
 .dsimp only at h;subst h;exact .inr ⟨v,h1,by unfold Oz;rw[h1];rfl⟩
 dsimp only at h h';subst h;exact .inl ⟨v,h1,by unfold Oz;rw[h1];rfl,h'⟩
def AN9 (c:3000000<=N){l l' : Law}(hl:VD N l)(hle:LE l l'){w w' : Sl Tb}(hw:wOk w)(a:SE w w'):OR (Oz N l w) (Oz N l' w'):=by
 have b:=a.wOk hw;obtain⟨r,r',h1,g,j,f,_⟩:=Ny c hl.1 hle a fun i d=>(hw.2 i d).ok;obtain⟨q,q',k1,k2,k3,k4,_⟩:=Ny c (LN hle hl.1) (LE.refl l') (SE.refl w') fun i d=>(b.2 i d).ok;obtain rfl:=AS8 (g.symm.trans k2);rcases RE c hl hw with⟨v,g1,g2,g3⟩ | ⟨v,g1,g2⟩<;>rcases RE c (Aq7 hle hl) b with⟨u,p1,p2,p3⟩ | ⟨u,p1,p2⟩
 .obtain rfl:=AS8 (g1.symm.trans h1);obtain rfl:=AS8 (p1.symm.trans k1);exact .inr ⟨v,u,g2,p2,j.trans k3.symm,g3⟩
 .obtain rfl:=AS8 (g1.symm.trans h1);obtain rfl:=AS8 (p1.symm.trans k1);exact Ln (f.trans k4.symm) (by show ¬((0:Int)=11);decide)
 .obtain rfl:=AS8 (g1.symm.trans h1);obtain rfl:=AS8 (p1.symm.trans k1);exact Ln (f.trans k4.symm) (by show ¬((11:Int)=0);decide)
 exact .inl ⟨g2,p2⟩
def LEs:List Law->List Law->Prop
 |[],[]=>True
 |p::l,q::m=>LE p q/\LEs l m
 |_,_=>False
def Ae4 {N:Nat}(a:3000000<=N):∀(L L' : List Law) (w w' : Sl Tb),(∀l∈L,VD N l)->LEs L L' -> wOk w->SE w w' -> OR (BZ N L w) (BZ N L' w')
 |[],[],w,w',_,_,hw,hse=>.inr ⟨w,w',rfl,rfl,hse,hw⟩
 |l::L,l' :: L',w,w',hg,⟨h1,h2⟩,hw,hse=>by
  unfold BZ;rcases AN9 a (hg l (by simp)) h1 hw hse with⟨e1,e2⟩ | ⟨v,v',e1,e2,e3,e4⟩
  .rw[e1,e2];exact .inl ⟨rfl,rfl⟩
  rw[e1,e2];exact Ae4 a L L' v v' (fun x hx=>hg x (by simp[hx])) h2 e4 e3
 |[],_::_,_,_,_,h,_,_=>h.elim
 |_::_,[],_,_,_,h,_,_=>h.elim
def TW {f g:Nat->Law}:∀(l:List Nat),(∀i∈l,LE (f i) (g i))->LEs (l.map f) (l.map g)
 |[],_=>trivial
 |i::l,h=>⟨h i (by simp),TW l fun j hj=>h j (by simp[hj])⟩
def LS.s {s t:Sl Law}(h:LS s t):LEs s.toList t.toList:=by unfold Sl.toList;rw[<- h.1];exact TW _ fun i a=>h.2 i (AU9.1 a)
def Ae5 {laws:Sl Law}(hl:GQ laws)(b:HJ N laws):∀l∈laws.toList,VD N l:=by intro l h;obtain⟨i,a,rfl⟩:=AU2.1 h;have a:=AU9.1 a;exact⟨hl i a,b.2 i a⟩
def VE (f:3000000<=N){laws:Sl Law}(hl:GQ laws)(c:HJ N laws):∀(m i:Nat) (w:Sl Tb),wOk w->i<=laws.n->laws.n<=i+m ->
 (∃L,(∀M,m<M->W9 M (Em N 0 laws) w i=some L)/\BZ N (laws.toList.drop i) w=some (Rx w L)/\wOk (Rx w L)) \/
 ((∃L,∀M,m<M->W9 M (Em N 0 laws) w i=none/\W9 M (Em N 11 laws) w i=some L)/\BZ N (laws.toList.drop i) w=none):=by
 have b:=c.1;have fin:∀(m i:Nat) (w:Sl Tb),wOk w->i=laws.n->∃L,(∀M,m<M->W9 M (Em N 0 laws) w i=some L)/\BZ N (laws.toList.drop i) w=some (Rx w L)/\wOk (Rx w L):=by rintro m i w hw rfl;refine⟨[],fun M d=>?_,by rw[Ae];rfl,hw⟩;obtain⟨M,rfl⟩:∃K,M=K+1:=⟨M-1,by omega⟩;rw[M4,Em,Lm (by simp),Ll rfl]
 intro m
 induction m with
 |zero=>exact fun i w hw g hm=>.inl (fin 0 i w hw (by omega))
 |succ m ih=>
  intro i w hw g hm;by_cases a:i<laws.n
  case neg=>exact .inl (fin _ i w hw (by omega))
  rw[Cs _ a];rcases RE f ⟨hl i a,c.2 i a⟩ hw with⟨v,g1,g2,g3⟩ | ⟨v,g1,g2⟩
  .rcases ih (i+1) v g3 (by omega) (by omega)with⟨L,a1,a2,a3⟩ | ⟨⟨L,a1⟩,a2⟩
   .refine .inl ⟨((i+1:Nat),v)::L,fun M d=>?_,by unfold BZ;rw[g2];exact a2,a3⟩;obtain⟨M,rfl⟩:∃K,M=K+1:=⟨M-1,by omega⟩;rw[M4,DR a b g1,Lm (by simp)];show Y4 _ (W9 M (Em N 0 laws) v _)=_;rw[a1 M (by omega)];rfl
   refine .inr ⟨⟨((i+1:Nat),v)::L,fun M d=>?_⟩,by unfold BZ;rw[g2];exact a2⟩;obtain⟨M,rfl⟩:∃K,M=K+1:=⟨M-1,by omega⟩;obtain⟨b1,b2⟩:=a1 M (by omega);rw[M4,M4,DR a b g1,DR a b g1,Lm (by simp),Lm (by simp)];refine⟨?_,?_⟩
   .show Y4 _ (W9 M (Em N 0 laws) v _)=_;rw[b1];rfl
   show Y4 _ (W9 M (Em N 11 laws) v _)=_;rw[b2];rfl
  refine .inr ⟨⟨[],fun M d=>?_⟩,by unfold BZ;rw[g2];rfl⟩;obtain⟨M,rfl⟩:∃K,M=K+1:=⟨M-1,by omega⟩;rw[M4,M4,DR a b g1,DR a b g1];exact⟨rfl,rfl⟩
def VF (g:3000000<=N){laws:Sl Law}(hl:GQ laws)(d:HJ N laws){w:Sl Tb}(hw:wOk w) :(∃v,BZ N laws.toList w=some v/\Q0 N laws w=some (v,0)/\wOk v) \/ (BZ N laws.toList w=none/\Q0 N laws w=some (Rb,11)):=by
 have j:=d.1;have l:=hw.1;obtain⟨e,e1,m⟩:=Vy g hl (w:=w) fun i o=>(hw.2 i o).ok
 have:e=0:=by
  rcases m with⟨h,h'⟩ | ⟨_,h⟩
  .exact PJ h (lawsE_zero.2 d)
  exact (GO h).2 hw
 subst this;have b:A5 N w=some w:=by unfold A5;rw[Hj]
 have a:∀c,F6 N c laws w=(Y4 (0,w) (W9 N (Em N c laws) w 0)).bind fun L1=>O1 L1 (fun (f:Sl Tb->Option (Sl Tb)) (x1:Int×(Sl Tb)) (z1:Sl Tb)=>f x1.2) (fun (z1:Sl Tb)=>some z1) Rb:=by intro c;unfold F6 Cy Bm;rw[AQ6,b,AQ6];rfl
 unfold Q0;rw[e1,AQ6,Lm (by decide)];rcases VE g hl d laws.n 0 w hw (by omega) (by omega)with⟨L,g1,g2,g3⟩ | ⟨⟨L,g1⟩,g2⟩
 .have g1:W9 N (Em N 0 laws) w 0=some L:=g1 N (by omega)
  have:O0 N laws w=some (Rx w L,true):=by
   have e0:F6 N 0 laws w=some (Rx w L):=by rw[a,g1];exact RA _ _
   unfold O0;rw[e0]
  rw[this];exact .inl ⟨_,g2,rfl,g3⟩
 obtain⟨g3,g4⟩:=g1 N (by omega);have g3:W9 N (Em N 0 laws) w 0=none:=g3;have g4:W9 N (Em N 11 laws) w 0=some L:=g4
 have:O0 N laws w=some (Rb,false):=by
  have e0:F6 N 0 laws w=none:=by rw[a,g3];rfl
  have e11:F6 N 11 laws w=some (Rx w L):=by rw[a,g4];exact RA _ _
  unfold O0;rw[e0,e11];rfl
 rw[this];exact .inr ⟨g2,rfl⟩
def AO0 {α : Type}(s t:Sl α):(s.app t).toList=s.toList++t.toList:=by
 show (List.range (s.n+t.n)).map (fun i=>if i<s.n then s.g i else t.g (i-s.n))=_;rw[List.range_add,Ba8,AX8];congr 1
 .exact AS5 fun i a=>Ll (AU9.1 a)
 refine AS5 fun i a=>?_;show (if s.n+i<s.n then _ else t.g (s.n+i-s.n))=_;rw[Jd];congr 1;omega
def RF (h:A7)(l:Sl Int):(FY h l).toList=l.toList.map fun (i:Int)=>h.Laws.g i.toNat:=by unfold FY Sl.toList;rw[AX8];rfl
def OA (h:A7)(L:List Nat):List Law:=L.flatMap fun x=>(FY h (h.On.g x)).toList
def NB {h:A7}(ht:Bj h.Tree):∀(m v:Nat),v<=m->v<h.Tree.n->OA h (Oy h.Tree v)=(FY h (T2 h v)).toList
 |m,v,hm,hv=>by
  rcases T3 ht hv with⟨_,e⟩ | ⟨p,hp,e⟩
  .rw[Fb (by omega),Ct (by omega),AE1 rfl];simp[OA]
  rw[Ks e hp,FH e hp,RF,AO0,Ba8,<- RF,<- RF]
  match m with
  |0=>omega
  |m+1=>rw[<- NB ht m p (by omega) (by omega)];simp[OA]
def Xf {h:A7}(b:Ag h){l:Sl Int}(hl:∀i,i<l.n->0<=l.g i/\l.g i<h.Laws.n):GQ (FY h l):=fun i a=>b.laws _ (by have:=hl i a;omega)
def Xg {h:A7}(a:BY N h){l:Sl Int}(hn:l.n<=64)(hl:∀i,i<l.n->0<=l.g i/\l.g i<h.Laws.n):HJ N (FY h l):=⟨hn,fun i b=>a.laws.2 _ (by have:=hl i b;omega)⟩
def on_ok {h:A7}(a:BY N h){x:Nat}(hx:x<h.Tree.n):(h.On.g x).n<=64/\∀i,i<(h.On.g x).n->0<=(h.On.g x).g i/\(h.On.g x).g i<h.Laws.n:=by
 have b:=a.on;refine⟨?_,fun j hj=>?_⟩
 .have hl:(T2 h x).n<=64:=Bb2 fun g=>a.long ⟨x,by omega,g⟩;rcases T3 a.tree hx with⟨_,e⟩ | ⟨p,hp,e⟩
  .rw[Ct (by omega)]at hl;have hl:0+(h.On.g x).n<=64:=hl;omega
  rw[FH e hp]at hl;have hl:(T2 h p).n+(h.On.g x).n<=64:=hl;omega
 have:=a.bad x (by omega)
 constructor
 .exact Int.not_lt.1 fun g=>this ⟨j,hj,.inl g⟩
 exact Int.not_le.1 fun g=>this ⟨j,hj,.inr g⟩
end Go.AM
namespace Go.AM
variable {N:Nat}
open IntKind (wrap)
open Go.Proofs
def eqR {R:Type}{x:Option R}{y:R}(h:∃r,x=some r/\r=y):x=some y:=by obtain⟨r,h,rfl⟩:=h;exact h
def RG (t:Sl U1)(v:Nat):Prop:=∀u,0<u->u<t.n->(t.g u).Parent≠(v:Int)
open Classical in
noncomputable def X9 (t:Sl U1):Nat->Sl Int
 |0=>Ra
 |i+1=>if RG t i then (X9 t i).push (i:Int)else X9 t i
def NC {t:Sl U1}{i:Nat}(h:RG t i):X9 t (i+1)=(X9 t i).push (i:Int):=Ll h
def RH {t:Sl U1}{i:Nat}(h:¬RG t i):X9 t (i+1)=X9 t i:=Lm h
def Kt (t:Sl U1):∀i,(X9 t i).n<=i
 |0=>AQ8 0
 |i+1=>by
  have:=Kt t i
  by_cases h:RG t i
  .rw[NC h];show (X9 t i).n+1<=i+1;omega
  rw[RH h];omega
def VG (t:Sl U1):∀i k,k<(X9 t i).n->∃v:Nat,v<i/\(X9 t i).g k=(v:Int)
 |0,k,hk=>Ln hk (AT4 k)
 |i+1,k,hk=>by
  by_cases h:RG t i
  .rw[NC h]at hk⊢;have hk:k<(X9 t i).n+1:=hk;show ∃v:Nat,v<i+1/\(if k<(X9 t i).n then (X9 t i).g k else (i:Int))=(v:Int);by_cases a:k<(X9 t i).n
   .rw[Ll a];obtain⟨v,h1,b⟩:=VG t i k a;exact⟨v,by omega,b⟩
   rw[Lm a];exact⟨i,by omega,rfl⟩
  rw[RH h]at hk⊢;obtain⟨v,h1,b⟩:=VG t i k hk;exact⟨v,by omega,b⟩
def Aq8 (s:3000000<=N){t:Sl U1}(ht:Bj t):∃X,Z7 N t=some X/\(X.n=t.n/\∀v,v<t.n->((X.g v).n=0↔RG t v)):=by
 have o:=ht.2.1;unfold Z7;refine An (T1 (fun i x (X:Sl (Sl Int))=>x=(i:Int)/\X.n=t.n/\∀v,v<t.n->(((X.g v).n=0 ↔ ∀u,0<u->u<i->(t.g u).Parent≠(v:Int))/\(X.g v).n<=i)) t.n _ (by omega)
  ⟨rfl,rfl,fun v b=>⟨⟨fun _ u h1 a=>Ln a (AT4 u),fun _=>rfl⟩,AQ8 0⟩⟩ ?_)
 rintro l i x X hle ⟨rfl,c,f⟩ hs;by_cases hl:i<t.n
 case neg=>
  obtain rfl:i=t.n:=by omega
  exact Gx ⟨X,rfl,c,fun v b=>(f v b).1⟩
 refine ifT (by simpa using hl) (An ?_);rw[AQ4,Hi];rcases T3 ht hl with⟨q,h1⟩ | ⟨p,hp,e⟩
 .subst q;rw[h1];refine ifT (by show Int.toNat (-1)<X.n;rw[c];exact hl) (ltX (Gx (hs hl _ _ ⟨rfl,c,fun v b=>?_⟩)));have e:(X.upd (Int.toNat (-1)) (X.g (Int.toNat (-1)))).g v=X.g v:=by
   show (if v=_ then X.g (Int.toNat (-1))else X.g v)=X.g v;split
   .rename_i e;rw[e]
   rfl
  rw[e];obtain⟨g1,g2⟩:=f v b;exact⟨g1.trans ⟨fun _ u h1 a=>Ln a (by omega),fun _ u h1 a=>Ln a (by omega)⟩,by omega⟩
 rw[e,AQ4];have j:p<t.n:=by omega
 have m:=(f p j).2;refine An (ltX (Ao (ifT ⟨⟨by omega,by rw[c];omega⟩,by omega,by omega⟩ (hs hl _ _ ⟨rfl,c,fun v b=>?_⟩))));show ((if v=p then (X.g p).push (i:Int)else X.g v).n=0↔_)/\(if v=p then (X.g p).push (i:Int)else X.g v).n<=i+1;by_cases d:v=p
 .subst d;rw[Ll rfl];refine⟨⟨fun h=>Ln h (Nat.succ_ne_zero _),fun h=>Ln e (h i (by omega) (by omega))⟩,?_⟩;show (X.g v).n+1<=i+1;omega
 rw[Lm d];obtain⟨g1,g2⟩:=f v b;refine⟨g1.trans ⟨fun h u h1 a=>?_,fun h u h1 a=>h u h1 (by omega)⟩,by omega⟩;by_cases r:u=i
 .subst r;rw[e];omega
 exact h u h1 (by omega)
def AO1 {R:Type}{Q:R->Prop}{a:Sl Int->Int->Option R}{t:Sl U1}{i:Nat}(c:i<1000){b:Bool}(hb:b=true↔RG t i)(h:∃r,a (X9 t (i+1)) ((i+1:Nat):Int)=some r/\Q r) :∃r,(if b then
  if (((X9 t i).n+(Sl.of [(i:Int)]:Sl Int).n)*8<=140737488355328/\(X9 t i).n+(Sl.of [(i:Int)]:Sl Int).n<=140737488355328)then
   a ((X9 t i).push (i:Int)) (wrap .i64 ((i:Int)+1))
  else none
  else a (X9 t i) (wrap .i64 ((i:Int)+1)))=some r/\Q r:=by
 have hn:=Kt t i;rw[Hi];by_cases hk:RG t i
 .rw[NC hk]at h;exact ifT (hb.2 hk) (ifT ⟨by show ((X9 t i).n+1)*8<=_;omega,by show (X9 t i).n+1<=_;omega⟩ h)
 rw[RH hk]at h;exact ifF (fun g=>hk (hb.1 g)) h
def VH (c:3000000<=N){t:Sl U1}(ht:Bj t):∃r,BP N t=some r/\r=X9 t t.n:=by
 have d:=ht.2.1;unfold BP;obtain⟨X,e,a,hk⟩:=Aq8 c ht;refine B1 e (T1 (fun i x1 x2=>x2=(i:Int)/\x1=X9 t i) t.n _ (by omega) ⟨rfl,rfl⟩ ?_);rintro b i x1 x2 hle ⟨rfl,rfl⟩ hs;by_cases hl:i<t.n
 .refine ifT (by rw[a];simpa using hl) (An ?_);rw[AQ4];exact AO1 (by omega) (by rw[<- hk i hl];simp) (hs hl _ _ ⟨rfl,rfl⟩)
 obtain rfl:i=t.n:=by omega
 exact ifF (by rw[a];simp) ⟨_,rfl,rfl⟩
def Aq9 (l:3000000<=N){t:Sl U1}(ht:Bj t){v:Nat}(m:v<t.n):∃r,Ex N t (v:Int)=some r/\(r.n=0↔RG t v):=by
 have f:=ht.2.1;unfold Ex;refine T1 (fun i (x1:Sl Int) x2=>x2=(i:Int)/\x1.n<=i/\(x1.n=0 ↔ ∀u,0<u->u<i->(t.g u).Parent≠(v:Int))) t.n _ (by omega) ⟨rfl,AQ8 0,fun _ u h1 a=>Ln a (AT4 u),fun _=>rfl⟩ ?_;rintro b i x1 x2 hle ⟨rfl,hn,c⟩ hs;by_cases hl:i<t.n
 .refine ifT (by simpa using hl) (An ?_);rw[AQ4,Hi];by_cases hp:(t.g i).Parent=(v:Int)
  .have d:0<i:=by
    rcases T3 ht hl with⟨d,h1⟩ | ⟨p,hp,e⟩
    .rw[h1]at hp;omega
    omega
   refine ifT (by simpa using hp) (ifT ⟨by show (x1.n+1)*8<=_;omega,by show x1.n+1<=_;omega⟩ (hs hl _ _ ⟨rfl,by show x1.n+1<=i+1;omega,fun h=>Ln h (Nat.succ_ne_zero _),fun h=>Ln hp (h i d (by omega))⟩))
  refine ifF (by simpa using hp) (hs hl _ _ ⟨rfl,by omega,c.trans ⟨fun h u h1 a=>?_,fun h u h1 a=>h u h1 (by omega)⟩⟩);by_cases j:u=i
  .subst j;exact hp
  exact h u h1 (by omega)
 obtain rfl:i=t.n:=by omega
 exact Gx ⟨_,rfl,c⟩
def PK (a:3000000<=N){t:Sl U1}(c:Ko t):∃s e,Ay N t=some (s,e)/\Lb N t=some (s,e)/\((Bj t/\e=0/\s=X9 t t.n) \/ (¬Bj t/\e=16/\s=Ra)):=by
 obtain⟨e,e1,e2,d⟩:=RB a c;unfold Ay Lb;rw[e1,e2,AQ6,AQ6];rcases d with⟨rfl,ht⟩ | ⟨rfl,ht⟩
 .have f:=ht.2.1;rw[Lm (by decide),Lm (by decide)];obtain⟨r,g1,rfl⟩:=VH a ht;refine⟨_,0,by rw[g1];rfl,eqR (T1 (fun i x1 x2=>x2=(i:Int)/\x1=X9 t i) t.n _ (by omega) ⟨rfl,rfl⟩ ?_),.inl ⟨ht,rfl,rfl⟩⟩;rintro b i x1 x2 hle ⟨rfl,rfl⟩ hs;by_cases hl:i<t.n
  .refine ifT (by simpa using hl) ?_;obtain⟨r,k1,k2⟩:=Aq9 a ht hl;exact B1 k1 (AO1 (by omega) (by rw[<- k2];simp) (hs hl _ _ ⟨rfl,rfl⟩))
  obtain rfl:i=t.n:=by omega
  exact Gx ⟨_,rfl,rfl⟩
 exact⟨_,16,Ll (by decide),Ll (by decide),.inr ⟨ht,rfl,rfl⟩⟩
end Go.AM
namespace Go.AM
open Go.Proofs
def upB (t:Sl U1)(a:Int->Option (List Int))(x1:Int):Option (List Int):= if (decide (0<=x1)) then Y4 x1 (if ((0:Int)<=x1/\x1<(t.n:Int))then a (t.g x1.toNat).Parent else none) else some []
def Ae6 {t:Sl U1}(ht:Bj t):∀(m c M:Nat),c<m->c<t.n->m+1<M->S3 M (upB t) (c:Int)=some ((Oy t c).reverse.map fun (x:Nat)=>(x:Int))
 |0,c,M,hc,_,_=>Ln hc (AT4 c)
 |m+1,c,0,_,_,hM=>by omega
 |m+1,c,1,_,_,hM=>by omega
 |m+1,c,M+2,hc,hn,hM=>by
  show upB t (S3 (M+1) (upB t)) (c:Int)=_;unfold upB;rw[Ll (by simp),Hj,AQ4];rcases T3 ht hn with⟨_,e⟩ | ⟨p,hp,e⟩
  .rw[e,Fb (by omega)];rfl
  show Y4 (c:Int) (S3 (M+1) (upB t) (t.g c).Parent)=_;rw[e,Ks e hp,Ae6 ht m p (M+1) (by omega) (by omega) (by omega)];simp[Y4]
def Il {α : Type}[Inhabited α]:∀(L:List α) (z:Sl α),z.n+L.length<=1000->∃s,O1 L (fun (a:Sl α -> Option (Sl α)) (x1 : α) (z1:Sl α)=>
 if ((z1.n+(Sl.of [x1]:Sl α).n)*8<=140737488355328/\z1.n+(Sl.of [x1]:Sl α).n<=140737488355328)then
  a (z1.push x1)
 else none
 ) (fun (z1:Sl α)=>
  some z1
 ) z=some s/\s.toList=z.toList++L
 |[],z,_=>⟨z,rfl,by simp⟩
 |x::L,z,b=>by have b:z.n+(L.length+1)<=1000:=b;obtain⟨s,h1,c⟩:=Il L (z.push x) (by show z.n+1+L.length<=1000;omega);refine⟨s,?_,by rw[c,Vz];simp⟩;show (if _ then _ else _)=_;rw[Ll (by show (z.n+1)*8<=_/\z.n+1<=_;omega)];exact h1
def AF3 {N:Nat}{s:Sl Int}(hs:s.n<=1000)(l:2000<N):∃r,G6 N s=some r/\r.toList=s.toList.reverse:=by
 unfold G6;have last:∀x:Sl Int,x.n=s.n->(∀j,j<s.n->x.g j=s.g (s.n-1-j))->x.toList=s.toList.reverse:=by
  intro x hx h;refine List.ext_getElem (by simp[Sl.toList,hx]) fun i h1 m=>?_;have h1:i<s.n:=by simpa[Sl.toList,hx]using h1
  rw[List.getElem_reverse];simp only[Sl.toList,List.getElem_map,Bj6,AU1,List.length_range];exact h i h1
 refine Yi (fun i (x1:Sl Int) x2 x3=>x2=(i:Int)/\x3=(s.n:Int)-1-i/\x1.n=s.n/\∀j,j<s.n->x1.g j=if j<i \/ s.n-1-j<i then s.g (s.n-1-j)else s.g j) s.n _ (by omega) ⟨rfl,by rw[E6 (by omega) (by omega)];omega,rfl,fun j hj=>by rw[Jd]⟩ ?_;rintro f i x1 x2 x3 o ⟨rfl,rfl,hn,c⟩ d;by_cases hl:(i:Int)<(s.n:Int)-1-i
 .obtain⟨k,hk⟩:∃k:Nat,(s.n:Int)-1-i=(k:Int):=⟨s.n-1-i,by omega⟩;rw[hk];refine Ao (ifT ?_ ?_)
  .simp only[AQ4]
   have:((x1.upd i (x1.g k)).n:Int)=x1.n:=rfl
   have:(x1.upd i (x1.g k)).n=x1.n:=rfl
   omega
  simp only[AQ4];refine d (by omega) _ _ _ ⟨Hi,by rw[E6 (by omega) (by omega)];omega,hn,fun j hj=>?_⟩;show (if j=k then x1.g i else if j=i then x1.g k else x1.g j)=_;have a:=c i (by omega);have b:=c k (by omega);rw[Jd]at a b;by_cases g1:j=k
  .rw[Ll g1,Hj,a];congr 1;omega
  rw[Lm g1];by_cases g2:j=i
  .rw[Ll g2,Hj,b];congr 1;omega
  rw[Lm g2,c j hj];by_cases g3:j<i \/ s.n-1-j<i
  .rw[Ll g3,Hj]
  rw[Lm g3,Jd]
 refine Ec ⟨_,rfl,last _ hn fun j hj=>?_⟩;rw[c j hj];by_cases g:j<i \/ s.n-1-j<i
 .rw[Ll g]
 rw[Lm g];congr 1;omega
def Ar0 {N:Nat}(d:3000000<=N){t:Sl U1}(f:Ko t)(ht:Bj t){v:Nat}(a:v<t.n):∃y,DP N t (v:Int)=some (y,0)/\y.toList=(Oy t v).map fun (x:Nat)=>(x:Int):=by
 have g:=ht.2.1;have b:=Jv ht v v (AQ8 _) a;obtain⟨e,e1,j⟩:=TT d f;have e0:e=0:=by
  rcases j with⟨h,_⟩ | ⟨_,h⟩
  .exact h
  exact Ln ht h
 subst e0;have hc:CO N t (Sl.of [(v:Int)]:Sl Int)=some 0:=by
  refine eqR ?_;unfold CO;refine B1 e1 (H1 ?_);refine W5 (fun i x=>x=(i:Int)) 1 _ (by omega) rfl ?_;rintro c i _ l rfl hs;by_cases hl:i<1
  .obtain rfl:i=0:=by omega
   refine ifT rfl (ifT ⟨Int.le_refl _,by show ((0:Nat):Int)<((1:Nat):Int);decide⟩ (ifF ?_ ?_))
   .show ¬((decide ((v:Int)<0))||(decide ((t.n:Int)<=(v:Int))))=true;simp;omega
   exact hs hl _ (Hi)
  exact ifF (by show ¬decide ((i:Int)<1)=true;simp;omega) ⟨_,rfl,rfl⟩
 obtain⟨s,s1,s2⟩:=Il ((Oy t v).reverse.map fun (x:Nat)=>(x:Int)) Ra (by show 0+_<=_;simp;omega);have s3:s.toList=(Oy t v).reverse.map fun (x:Nat)=>(x:Int):=s2;have sn:s.n<=1000:=by
  have:=congrArg List.length s3
  rw[N7]at this;simp at this;omega
 obtain⟨r,r1,r2⟩:=AF3 sn (N:=N) (by omega);refine⟨r,?_,by rw[r2,s3,<- List.map_reverse,List.reverse_reverse]⟩;unfold DP Jo R9 H5;rw[hc,AQ6,Lm (by decide),AQ6];have m:FE N (v:Int) t=some ((Oy t v).reverse.map fun (x:Nat)=>(x:Int)):=Ae6 ht (v+1) v N (by omega) a (by omega);rw[m,AQ6,s1,AQ6,AQ6,r1];rfl
end Go.AM
namespace Go.AM
open Go.Proofs
def beO (o:Option (Sl Tb))(r:Sl Tb×Bool):Prop:=(∃x,o=some x/\r=(x,true)/\wOk x) \/ (o=none/\r=(Rb,false))
def VJ (N:Nat)(h:A7)(v:Nat)(w:Sl Tb):Option (Sl Tb):=BZ N (OA h (Oy h.Tree v)) w
def Yz {N:Nat}(s:3000000<=N){h:A7}(t:Ag h)(a:BY N h){v:Nat}(d:v<h.Tree.n){w:Sl Tb}(hw:wOk w) :∃r,S0 N h w (v:Int)=some r/\beO (VJ N h v w) r:=by
 obtain⟨y,y1,y2⟩:=Ar0 s t.tree a.tree d;have h63:=a.tree.2.1;have hon:=a.on;have b:=Jv a.tree v v (AQ8 _) d;have hle:=RC a.tree v v (AQ8 _) d;unfold S0 VJ;generalize Oy h.Tree v=A at y2 b hle;have yn:y.n=A.length:=by
  have:=congrArg List.length y2
  rw[N7]at this;simpa using this
 have yg:∀i (hl:i<A.length),y.g i=((A[i]:Nat):Int):=by
  intro i hl;have h1:y.toList[i]? = (A.map fun (x:Nat)=>(x:Int))[i]?:=by rw[y2]
  simp only[Sl.toList,AQ9]at h1;rw[Bf0 (by omega),AQ5 hl]at h1;simpa using h1
 refine B1 y1 (Gx ?_);refine T1 (fun i x3 x4=>x4=(i:Int)/\wOk x3/\BZ N (OA h A) w=BZ N (OA h (A.drop i)) x3) A.length _ (by omega) ⟨rfl,hw,rfl⟩ ?_;rintro z i x3 _ hii ⟨rfl,h3,hT⟩ hs;by_cases hl:i<A.length
 .have hx:=hle A[i] (Bb3 hl);have hd:A.drop i=A[i]::A.drop (i+1):=AZ9 hl;simp only[AQ4,yg i hl,yn];obtain⟨o1,o2⟩:=on_ok a (x:=A[i]) (by omega);refine Ao (An (Gx (An (Ec (An ?_)))));have f:BZ N (OA h A) w=(BZ N ((FY h (h.On.g A[i])).toList) x3).bind (BZ N (OA h (A.drop (i+1)))):=by rw[hT,hd,<- TV];rfl
  refine T1 (fun j x7 x8=>x8=(j:Int)/\wOk x7/\BZ N (OA h A) w=(BZ N ((FY h (h.On.g A[i])).toList.drop j) x7).bind (BZ N (OA h (A.drop (i+1))))) (h.On.g A[i]).n _ (by omega) ⟨rfl,h3,f⟩ ?_;rintro l j x7 _ hjj ⟨rfl,h7,m⟩ o;by_cases hj:j<(h.On.g A[i]).n
  .obtain⟨q1,q2⟩:=o2 j hj;simp only[AQ4];refine Ao (An (Ec (An (Ec (An ?_)))));have hg:VD N (h.Laws.g ((h.On.g A[i]).g j).toNat):=⟨t.laws _ (by omega),a.laws.2 _ (by omega)⟩;have c:(FY h (h.On.g A[i])).toList.drop j=h.Laws.g ((h.On.g A[i]).g j).toNat::(FY h (h.On.g A[i])).toList.drop (j+1):=Cs (FY h (h.On.g A[i])) hj;rcases RE s hg h7 with⟨u,k1,k2,k3⟩ | ⟨u,k1,k2⟩
   .refine B1 k1 (Gx (o hj _ _ ⟨Hi,k3,?_⟩));rw[m,c,BZ,k2];rfl
   refine B1 k1 (Aq ⟨_,rfl,.inr ⟨?_,rfl⟩⟩);rw[m,c,BZ,k2];rfl
  have hj:j=(h.On.g A[i]).n:=by omega
  refine Ec (hs hl _ _ ⟨Hi,h7,?_⟩);rw[m,show (FY h (h.On.g A[i])).toList.drop j=[] from by rw[hj];exact Ae (FY h (h.On.g A[i]))];rfl
 have q:i=A.length:=by omega
 refine Ec ⟨_,rfl,.inl ⟨x3,?_,rfl,h3⟩⟩;rw[hT,q,List.drop_length];rfl
end Go.AM
namespace Go.AM
variable {N:Nat}
open Go.Proofs
noncomputable def lf (t:Sl U1) (k:Nat):Nat:=((X9 t t.n).g k).toNat
def Xh {t:Sl U1}{k:Nat}(hk:k<(X9 t t.n).n):lf t k<t.n/\(X9 t t.n).g k=(lf t k:Int):=by obtain⟨v,h1,a⟩:=VG t t.n k hk;unfold lf;rw[a];exact⟨by simpa using h1,by simp⟩
def YA (c:3000000<=N){h:A7}(b:Ag h)(a:BY N h){u:Nat}(d:u<h.Tree.n) :∃s,S2 N h (u:Int)=some (s,0)/\LS (FY h (T2 h u)) s:=by
 have l:=hres_zero.2 a;have hb:¬(!((decide (0<=(u:Int)))&&(decide ((u:Int)<(h.Tree.n:Int)))))=true:=by simp;omega
 obtain⟨s,s',e,l1,l2,l3,l4⟩:=Aq6 c b (u:Int);rcases l4 with⟨rfl,_,_,_,l5⟩ | ⟨l5,_⟩
 .rw[AQ4]at l5;exact⟨s,l1,⟨l5.1.symm.trans l3.1,fun i b=>by rw[<- l5.2 i (by rw[l5.1];exact b)];exact l3.2 i (by rw[l5.1];exact b)⟩⟩
 exfalso;obtain⟨s0,e0,k1,k2,k3⟩:=Xe c b (u:Int);unfold S2 at l1;rw[k1,AQ6]at l1;rcases k3 with⟨rfl,_⟩ | ⟨k3,_⟩
 .obtain⟨y,_,hy⟩:=AZ0.1 l1;exact l5 (congrArg Prod.snd (AS8 hy)).symm
 unfold W0 at k1;rw[Kr c b,AQ6,Lm (show ¬(hres N h != 0)=true by simp[l]),Bi,AQ6,Lm hb,BO,AQ6]at k1;have f:=Ae3 c a.tree d;have m:=a.tree.2.1;have j:=Jv a.tree u u (AQ8 _) d;have g:=NA b (Oy h.Tree u) Ra (fun x hx=>by have:=RC a.tree u u (AQ8 _) d x hx;have:=a.on;omega) (by show 0+_<=_;omega);have k1:(Q2 N (u:Int) h.Tree).bind _=_:=k1;rw[f,AQ6,g]at k1;exact k3 (congrArg Prod.snd (AS8 k1)).symm
def Ar1 (N:Nat)(h:A7)(y:Sl (Sl Law)):Prop:=y.n=(X9 h.Tree h.Tree.n).n/\∀k,k<y.n->LS (FY h (T2 h (lf h.Tree k))) (y.g k)
def Ae7 (c:3000000<=N){h:A7}(d:Ag h) :∃r,BR N h=some r/\((r.2≠0/\¬BY N h) \/ (r.2=0/\BY N h/\Ar1 N h r.1)):=by
 unfold BR;refine B1 (Kr c d) ?_;by_cases b:hres N h=0
 case neg=>exact ifT (by simpa using b) ⟨_,rfl,.inl ⟨b,fun g=>b (hres_zero.2 g)⟩⟩
 have a:=hres_zero.1 b;have l:=a.tree.2.1;refine ifF (by simp[b]) ?_;obtain⟨s,e,e1,_,e2⟩:=PK c d.tree;rcases e2 with⟨_,rfl,rfl⟩ | ⟨g,_⟩
 case inr=>exact Ln a.tree g
 have hn:=Kt h.Tree h.Tree.n;refine B1 e1 ?_;dsimp only;refine Gx (An ?_);refine T1 (fun i (x1:Sl (Sl Law)) x2=>x2=(i:Int)/\x1.n=(X9 h.Tree h.Tree.n).n/\∀k,k<i->LS (FY h (T2 h (lf h.Tree k))) (x1.g k)) (X9 h.Tree h.Tree.n).n _ (by omega) ⟨rfl,AQ4 _,fun k hk=>Ln hk (AT4 k)⟩ ?_;rintro f i x1 _ m ⟨rfl,hx,j⟩ hs;by_cases hl:i<(X9 h.Tree h.Tree.n).n
 .obtain⟨l1,l2⟩:=Xh hl;obtain⟨q,q1,q2⟩:=YA c d a l1;simp only[AQ4,l2];refine Ao (An (B1 q1 (An (Gx (hs hl _ _ ⟨Hi,hx,fun k hk=>?_⟩)))));show LS _ (if k=i then q else x1.g k);by_cases g:k=i
  .rw[Ll g,g];exact q2
  rw[Lm g];exact j k (by omega)
 exact Ec ⟨_,rfl,.inr ⟨rfl,a,hx,fun k hk=>j k (by have hk:k<x1.n:=hk;omega)⟩⟩
def AF4 (o:3000000<=N){h:A7}(m:Ag h)(a:BY N h){v:Nat}(q:v<h.Tree.n){s:Sl Law}(hs:LS (FY h (T2 h v)) s){w:Sl Tb}(hw:wOk w) :∃r,Q0 N s w=some r/\((∃x,VJ N h v w=some x/\r.2=0/\SE x r.1/\wOk r.1) \/ (VJ N h v w=none/\r=(Rb,11))):=by
 have b:(T2 h v).n<=64:=Bb2 fun g=>a.long ⟨v,by have:=a.on;omega,g⟩;have c:=RD a v v (AQ8 _) q;have d:=Xf m c;have f:=Xg a b c;have j : GQ s:=Aq2 hs d;have l : HJ N s:=⟨by rw[<- hs.1];exact b,fun i m=>(Ju (hs.2 i (by rw[hs.1];exact m))).1 (f.2 i (by rw[hs.1];exact m))⟩;have t:=Ae4 o _ _ w w (Ae5 d f) hs.s hw (SE.refl w);unfold VJ;rw[NB a.tree v v (AQ8 _) q];rcases VF o j l hw with⟨x,d1,d2,d3⟩ | ⟨d1,d2⟩
 .rcases t with⟨_,f2⟩ | ⟨u,u',f1,f2,f3,f4⟩
  .rw[d1]at f2;cases f2
  rw[d1]at f2;obtain rfl:=AS8 f2;exact⟨_,d2,.inl ⟨u,f1,rfl,f3,d3⟩⟩
 rcases t with⟨f1,_⟩ | ⟨u,u',_,f2,_⟩
 .exact⟨_,d2,.inr ⟨f1,rfl⟩⟩
 rw[d1]at f2;cases f2
end Go.AM
namespace Go.AM
open Go.Proofs
def YB {N:Nat}(r:3000000<=N)(h:A7):∃b,T0 N h=some b/\True:=by
 unfold T0;by_cases hb:(((decide (8<(h.Tree.n:Int)))||(decide (6<(h.Laws.n:Int))))||(decide (8<(h.On.n:Int))))=true
 .exact ifT hb ⟨_,rfl,trivial⟩
 refine ifF hb ?_;have o : h.Laws.n<=6/\h.On.n<=8:=by simp at hb;omega
 refine W5 (fun i x=>x=(i:Int)) h.Laws.n _ (by omega) rfl ?_;rintro m i x q rfl hs;by_cases d:i<h.Laws.n
 .refine Ao (An ?_);have f:∃b,S9 N (h.Laws.g (i:Int).toNat)=some b/\True:=by
   unfold S9;obtain⟨a,ha,_⟩:=Xa (N:=N) (by omega) (h.Laws.g (i:Int).toNat).Left;obtain⟨c,hc,_⟩:=Xa (N:=N) (by omega) (h.Laws.g (i:Int).toNat).Right;refine B1 ha (B1 hc ?_);split
   .split
    .exact⟨_,rfl,trivial⟩
    exact⟨_,rfl,trivial⟩
   exact⟨_,rfl,trivial⟩
  obtain⟨b,b1,_⟩:=f;refine B1 b1 ?_;cases b
  .exact ifT rfl ⟨_,rfl,trivial⟩
  exact Gx (hs d _ (Hi))
 refine Ec ?_;refine W5 (fun i x=>x=(i:Int)) h.On.n _ (by omega) rfl ?_;rintro j i x q rfl l;by_cases d:i<h.On.n
 .refine Ao (An ?_);by_cases g1:(decide (4<((h.On.g (i:Int).toNat).n:Int)))=true
  .exact ifT g1 ⟨_,rfl,trivial⟩
  exact ifF g1 (l d _ (Hi))
 exact Ec ⟨_,rfl,trivial⟩
end Go.AM
namespace Go.AM
variable {N:Nat}
open IntKind (wrap)
open Go.Proofs
def TX (s r:Sl Tb):Prop:=r.n=s.n/\(∀i,i<s.n->∃j,j<s.n/\r.g i=s.g j)/\∀j,j<s.n->∃i,i<s.n/\r.g i=s.g j
def YC {s x:Sl Tb}(h:TX s x){i k:Nat}(c:i<s.n)(hk:k<s.n):TX s ((x.upd i (x.g k)).upd k (x.g i)):=by
 obtain⟨h1,b,d⟩:=h;have g:∀j,((x.upd i (x.g k)).upd k (x.g i)).g j=if j=k then x.g i else if j=i then x.g k else x.g j:=fun j=>rfl
 refine⟨h1,fun j hj=>?_,fun j hj=>?_⟩
 .rw[g];split
  .exact b i c
  split
  .exact b k hk
  exact b j hj
 obtain⟨a,ha,e⟩:=d j hj;by_cases g1:a=k
 .refine⟨i,c,?_⟩;rw[g];by_cases g2:i=k
  .rw[Ll g2,<- e,g1,g2]
  rw[Lm g2,Ll rfl,<- e,g1]
 by_cases g2:a=i
 .refine⟨k,hk,?_⟩;rw[g,Ll rfl,<- e,g2]
 refine⟨a,ha,?_⟩;rw[g,Lm g1,Lm g2,e]
def YD (w:3000<=N){cmp:Tb->Tb->Option Int}(hc:∀a b,∃o,cmp a b=some o){s:Sl Tb}(hs:s.n<=12) :∃r,C7 N s 0 (s.n:Int) cmp=some r/\TX s r:=by
 unfold C7;refine T1 (fun i (x3:Sl Tb) x4=>x4=((i+1:Nat):Int)/\TX s x3) s.n _ (by omega) ⟨rfl,rfl,fun i f=>⟨i,f,rfl⟩,fun i f=>⟨i,f,rfl⟩⟩ ?_;rintro q i x3 _ t ⟨rfl,hp⟩ c;by_cases hl:i+1<s.n
 .refine Ao ?_;refine T1 (fun j (x7:Sl Tb) x8=>j<=i+1/\x8=((i+1-j:Nat):Int)/\TX s x7) (i+1) _ (by omega) ⟨AZ8 _,rfl,hp⟩ ?_;rintro l j x7 _ u ⟨_,rfl,d⟩ m;by_cases hj:j<i+1
  .obtain⟨k,hk⟩:∃k,i+1-j=k+1:=⟨i-j,by omega⟩;have hw:wrap .i64 (((k+1:Nat):Int)-1)=(k:Int):=by rw[E6 (by omega) (by omega)];omega
   rw[hk,hw];have hn:=d.1;refine ifT (decide_eq_true (by omega)) (An ?_);simp only[AQ4];obtain⟨o,v⟩:=hc (x7.g (k+1)) (x7.g k);refine B1 v ?_;by_cases g:o<0
   .refine ifT (by simpa using g) (ifT ?_ (m hj _ _ ⟨by omega,by omega,YC d (by omega) (by omega)⟩))
    have:((x7.upd (k+1) (x7.g k)).n:Int)=x7.n:=rfl
    have:(x7.upd (k+1) (x7.g k)).n=x7.n:=rfl
    omega
   exact ifF (by simpa using g) (c (by omega) _ _ ⟨Hi,d⟩)
  rw[show i+1-j=0 by omega];exact Gx (c (by omega) _ _ ⟨Hi,d⟩)
 exact Ec ⟨_,rfl,hp⟩
def Ae8 (n:3000<=N)(a b:Tb):∃o,AA N a b=some o:=by
 have c:∀x y:Int,∃o,J3 N x y=some o:=fun x y=>by
  unfold J3 R7;simp only[AQ6];split
  .split<;>exact⟨_,rfl⟩
  split
  .exact⟨_,rfl⟩
  split
  .exact⟨_,rfl⟩
  split<;>exact⟨_,rfl⟩
 obtain⟨u,g⟩:=c a.Plus b.Plus;obtain⟨v,j⟩:=c a.Minus b.Minus;have d:∃o,CM N (Sl.of [u,v]:Sl Int)=some o/\True:=by
  unfold CM;refine W5 (fun i x=>x=(i:Int)) 2 _ (by omega) rfl ?_;rintro f i _ l rfl hs;by_cases hl:i<2
  .refine ifT (by show decide ((i:Int)<((2:Nat):Int))=true;simp;omega) (ifT (by show (0:Int)<=(i:Int)/\(i:Int)<((2:Nat):Int);omega) ?_);split
   .exact⟨_,rfl,trivial⟩
   exact hs hl _ (Hi)
  exact ifF (by show ¬decide ((i:Int)<((2:Nat):Int))=true;simp;omega) ⟨_,rfl,trivial⟩
 obtain⟨o,m,_⟩:=d;unfold AA;rw[g,AQ6,j,AQ6,m];exact⟨o,rfl⟩
def AO2 (q0:Sl Tb)(a:Int->Option (List Tb))(x1:Int):Option (List Tb):= if (decide (x1<(q0.n:Int))) then if ((0:Int)<=x1/\x1<(q0.n:Int))then Y4 (q0.g x1.toNat) (a (wrap .i64 (x1+1))) else none else some []
def Xi {q:Sl Tb}(a:q.n<=1000):∀(m i M:Nat),i<=q.n->q.n<=i+m->m<M->S3 M (AO2 q) (i:Int)=some (q.toList.drop i)
 |m,i,0,_,_,hM=>by omega
 |m,i,M+1,hi,hm,hM=>by
  show AO2 q (S3 M (AO2 q)) (i:Int)=_;unfold AO2;by_cases hl:i<q.n
  .rw[Ia,Hj,AQ4,Hi]
   match m with
   |0=>omega
   |m+1=>show Y4 _ (S3 M (AO2 q) ((i+1:Nat):Int))=_;rw[Xi a m (i+1) M (by omega) (by omega) (by omega),Cs q hl];rfl
  have:i=q.n:=by omega
  rw[K6,this,Ae]
def AF5 :∀k:Nat,k<=2->∃y,BS N (wrap .u64 (k:Int))=some y
 |0,_=>⟨0,by kernel_rfl⟩
 |1,_=>⟨1,by kernel_rfl⟩
 |2,_=>⟨2,by kernel_rfl⟩
 |_+3,h=>by omega
def OB (g:3000000<=N){p:Sl Tb}(hp:p.n<=2):∃r,TX p r/\∀n,BV N p n=some (n,r):=by
 have h1:D8 N p=some p.toList:=by
  have:=Xi (q:=p) (by omega) p.n 0 N (by omega) (by omega) (by omega)
  exact this
 obtain⟨s,s1,s2⟩:=Il p.toList Rb (by show 0+_<=_;rw[N7];omega);obtain⟨sn,sg⟩:=AN8 (show s.toList=p.toList from s2);obtain⟨y,hy⟩:=AF5 (N:=N) s.n (by omega);obtain⟨r,r1,r2⟩:=YD (N:=N) (by omega) (fun a b=>Ae8 (N:=N) (by omega) a b) (s:=s) (by omega);refine⟨r,⟨r2.1.trans sn,fun i d=>?_,fun j hj=>?_⟩,fun n=>?_⟩
 .obtain⟨j,hj,e⟩:=r2.2.1 i (by omega);exact⟨j,by omega,by rw[e,sg j hj]⟩
 .obtain⟨i,d,e⟩:=r2.2.2 j (by omega);exact⟨i,by omega,by rw[e,sg j (by omega)]⟩
 have f:E5 N s 0 (s.n:Int) y (fun (u1:Tb) (u2:Tb)=>AA N u1 u2)=some r:=by refine eqR ?_;unfold E5;refine W5 (fun _ _=>True) 0 _ (by omega) Mz ?_;rintro c i _ _ _ _;exact ifT (by rw[E6 (by omega) (by omega)];simp;omega) (B1 r1 ⟨_,rfl,rfl⟩)
 unfold BV E9 I2 J2 D2 D9;rw[AQ6,h1,AQ6,s1];simp only[AQ6];rw[hy,AQ6,f];rfl
def tup (k:Nat):Nat->List (List Nat)
 |0=>[[]]
 |n+1=>(List.range k).flatMap fun a=>(tup k n).map (a :: ·)
def Ae9 {k:Nat}:∀{l:List Nat},(∀a∈l,a<k)->l∈tup k l.length
 |[],_=>by simp[tup]
 |a::l,h=>by show a::l∈(List.range k).flatMap fun a=>(tup k l.length).map (a :: ·);rw[Be2];exact⟨a,AU9.2 (h a (by simp)),AU2.2 ⟨l,Ae9 fun b hb=>h b (by simp[hb]),rfl⟩⟩
def Af0 {k:Nat}:∀{n:Nat}{l:List Nat},l∈tup k n->l.length=n/\∀a∈l,a<k
 |0,l,h=>by
  obtain rfl:l=[]:=by simpa[tup]using h
  exact⟨rfl,fun a ha=>by cases ha⟩
 |n+1,l,h=>by
  obtain⟨a,ha,h⟩:=Be2.1 (show l∈(List.range k).flatMap fun a=>(tup k n).map (a :: ·) from h);obtain⟨l',c,rfl⟩:=AU2.1 h;obtain⟨h1,d⟩:=Af0 c;exact⟨by simp[h1],fun b hb=>by
   rcases AT9.1 hb with rfl|hb
   .exact AU9.1 ha
   exact d b hb⟩
def AO3 (g:Nat->Tb):∀n:Nat,n<7->((N1 4194304 (n:Int) ⟨0,g⟩).map fun L=>L.map Sl.toList)=some ((tup 0 n).map fun l=>l.map g)
 |0,_|1,_|2,_|3,_|4,_|5,_|6,_=>by kernel_rfl
 |_+7,h=>by omega
def AO4 (g:Nat->Tb):∀n:Nat,n<7->((N1 4194304 (n:Int) ⟨1,g⟩).map fun L=>L.map Sl.toList)=some ((tup 1 n).map fun l=>l.map g)
 |0,_|1,_|2,_|3,_|4,_|5,_|6,_=>by kernel_rfl
 |_+7,h=>by omega
def AO5 (g:Nat->Tb):∀n:Nat,n<7->((N1 4194304 (n:Int) ⟨2,g⟩).map fun L=>L.map Sl.toList)=some ((tup 2 n).map fun l=>l.map g)
 |0,_|1,_|2,_|3,_|4,_|5,_|6,_=>by kernel_rfl
 |_+7,h=>by omega
def ND:∀k n:Nat,k<=2->n<7->(tup k n).length<=64:=by
 have:∀k:Fin 3,∀n:Fin 7,(tup k.1 n.1).length<=64:=by decide +kernel
 exact fun k n hk hn=>this ⟨k,by omega⟩ ⟨n,hn⟩
def ofS (p u:Sl Tb):Prop:=∀i,i<u.n->∃j,j<p.n/\u.g i=p.g j
def Ar2 {p u:Sl Tb}(h:ofS p u):∃l,l∈tup p.n u.n/\l.map p.g=u.toList:=by
 classical
 refine⟨(List.range u.n).map fun i=>if h' : i<u.n then Classical.choose (h i h')else 0,?_,?_⟩
 .have:=Ae9 (k:=p.n) (l:=(List.range u.n).map fun i=>if h' : i<u.n then Classical.choose (h i h')else 0) (by intro a ha;obtain⟨i,b,rfl⟩:=AU2.1 ha;have b:=AU9.1 b;rw[dif_pos b];exact (Bb9 (h i b)).1)
  simpa using this
 unfold Sl.toList;rw[AX8];refine AS5 fun i b=>?_;have b:=AU9.1 b;simp only[Function.comp];rw[dif_pos b];exact (Bb9 (h i b)).2.symm
def Jw {p u:Sl Tb}{l:List Nat}{n:Nat}(hl:l∈tup p.n n)(h:u.toList=l.map p.g):u.n=n/\ofS p u:=by
 obtain⟨h1,a⟩:=Af0 hl;have hn:u.n=n:=by rw[<- N7 u,h,AU1,h1]
 refine⟨hn,fun i b=>⟨l[i]'(by omega),a _ (Bb3 _),?_⟩⟩
 have:u.toList[i]'(by rw[N7];exact b)=(l.map p.g)[i]'(by rw[AU1];omega):=by simp only[h]
 simpa[Sl.toList]using this
def VK {q:Sl Tb}(a:q.n<=2){n:Nat}(hn:n<7) :∃L,N1 4194304 (n:Int) q=some L/\L.length<=64/\(∀x∈L,x.n=n/\ofS q x)/\∀u,u.n=n->ofS q u->∃x∈L,SE x u:=by
 have key:((N1 4194304 (n:Int) q).map fun L=>L.map Sl.toList)=some ((tup q.n n).map fun l=>l.map q.g):=by
  obtain⟨k,g⟩:=q
  match k,a with
  |0,_=>exact AO3 g n hn
  |1,_=>exact AO4 g n hn
  |2,_=>exact AO5 g n hn
  |_+3,h=>exact Ln h (by show ¬_+3<=2;omega)
 obtain⟨L,e,h⟩:=AS2.1 key;refine⟨L,e,?_,fun x hx=>?_,fun u b c=>?_⟩
 .have:=congrArg List.length h
  simp only[AU1]at this;rw[this];exact ND _ _ a hn
 .have:x.toList∈(tup q.n n).map fun l=>l.map q.g:=h ▸ AU2.2 ⟨x,hx,rfl⟩
  obtain⟨l,hl,e⟩:=AU2.1 this;exact Jw hl e.symm
 obtain⟨l,hl,e⟩:=Ar2 c
 have:u.toList∈L.map Sl.toList:=h ▸ AU2.2 ⟨l,b ▸ hl,e⟩
 obtain⟨x,hx,e⟩:=AU2.1 this;exact⟨x,hx,tl_eq.1 e⟩
def AO6 (g:Nat->Tb):((I7 4194304 ⟨0,g⟩ 3).map fun y=>y.toList.map Sl.toList)=some ((tup 0 0++tup 0 1++tup 0 2++tup 0 3).map fun l=>l.map g):=by kernel_rfl
def AO7 (g:Nat->Tb):((I7 4194304 ⟨1,g⟩ 3).map fun y=>y.toList.map Sl.toList)=some ((tup 1 0++tup 1 1++tup 1 2++tup 1 3).map fun l=>l.map g):=by kernel_rfl
def AO8 (g:Nat->Tb):((I7 4194304 ⟨2,g⟩ 3).map fun y=>y.toList.map Sl.toList)=some ((tup 2 0++tup 2 1++tup 2 2++tup 2 3).map fun l=>l.map g):=by kernel_rfl
def Af1 {p:Sl Tb}(hp:p.n<=2):∃y,I7 4194304 p 3=some y/\y.n<=256/\∀i,i<y.n->(y.g i).n<=3/\ofS p (y.g i):=by
 have key:((I7 4194304 p 3).map fun y=>y.toList.map Sl.toList)=some ((tup p.n 0++tup p.n 1++tup p.n 2++tup p.n 3).map fun l=>l.map p.g):=by
  obtain⟨k,g⟩:=p
  match k,hp with
  |0,_=>exact AO6 g
  |1,_=>exact AO7 g
  |2,_=>exact AO8 g
  |_+3,h=>exact Ln h (by show ¬_+3<=2;omega)
 obtain⟨y,e,h⟩:=AS2.1 key;refine⟨y,e,?_,fun i b=>?_⟩
 .have:=congrArg List.length h
  simp only[AU1,AU4,N7]at this;have c:=ND p.n 0 hp (by omega);have h1:=ND p.n 1 hp (by omega);have a:=ND p.n 2 hp (by omega);have d:=ND p.n 3 hp (by omega);omega
 have:(y.g i).toList∈(tup p.n 0++tup p.n 1++tup p.n 2++tup p.n 3).map fun l=>l.map p.g:=h ▸ AU2.2 ⟨y.g i,Kj b,rfl⟩
 obtain⟨l,hl,e⟩:=AU2.1 this;simp only[Bi1]at hl;rcases hl with ((hl|hl)|hl)|hl
 .obtain⟨h1,a⟩:=Jw hl e.symm;exact⟨by omega,a⟩
 .obtain⟨h1,a⟩:=Jw hl e.symm;exact⟨by omega,a⟩
 .obtain⟨h1,a⟩:=Jw hl e.symm;exact⟨by omega,a⟩
 obtain⟨h1,a⟩:=Jw hl e.symm;exact⟨by omega,a⟩
end Go.AM
namespace Go.AM
variable {N:Nat}
open IntKind (wrap)
open Go.Proofs
def Jx (N:Nat)(h:A7)(forms:Sl Ca)(w:Sl Tb):Prop:=∀k,k<forms.n->(forms.g k).Has=true->∃x,VJ N h (lf h.Tree k) w=some x/\SE x (forms.g k).W
def AO9 (l:3000000<=N){h:A7}(m:Ag h)(a:BY N h){v:Nat}(j:v<h.Tree.n){w w' : Sl Tb}(hw:wOk w)(c:SE w w'):OR (VJ N h v w) (VJ N h v w'):=by have d:(T2 h v).n<=64:=Bb2 fun g=>a.long ⟨v,by have:=a.on;omega,g⟩;have b:=RD a v v (AQ8 _) j;have f:=Xf m b;have i:=Xg a d b;unfold VJ;rw[NB a.tree v v (AQ8 _) j];exact Ae4 l _ _ w w' (Ae5 f i) (LS.refl _).s hw c
def Af2 (c:3000000<=N){h:A7}(d:Ag h)(a:BY N h){forms:Sl Ca}(i:forms.n<=(X9 h.Tree h.Tree.n).n){w w' : Sl Tb}(hw:wOk w)(b:SE w w')(hg:Jx N h forms w):Jx N h forms w':=by
 intro k hk f;obtain⟨x,x1,x2⟩:=hg k hk f;obtain⟨l1,_⟩:=Xh (t:=h.Tree) (k:=k) (by omega);rcases AO9 c d a l1 hw b with⟨g,_⟩ | ⟨u,u',g1,g2,g3,_⟩
 .rw[x1]at g;cases g
 rw[x1]at g1;obtain rfl:=AS8 g1;exact⟨u',g2,g3.symm.trans x2⟩
def Jy {P:Nat->Prop}{i:Nat}(h:∀k,k<i->P k)(a:P i):∀k,k<i+1->P k:=fun k hk=>by
 by_cases e:k=i
 .rw[e];exact a
 exact h k (by omega)
def Af3 (j:3000000<=N){h:A7}(l:Ag h)(c:BY N h){y:Sl (Sl Law)}(hy:Ar1 N h y){forms:Sl Ca}(v:forms.n=y.n){w:Sl Tb}(hw:wOk w) :∃b,CN N y w forms=some b/\(b=true↔Jx N h forms w):=by
 have m:=c.tree.2.1;have hn:=Kt h.Tree h.Tree.n;have o:=hy.1;unfold CN;refine W5 (fun i x=>x=(i:Int)/\∀k,k<i->((forms.g k).Has=true->∃x,VJ N h (lf h.Tree k) w=some x/\SE x (forms.g k).W)) forms.n _ (by omega) ⟨rfl,fun k hk=>Ln hk (AT4 k)⟩ ?_;rintro a i _ q ⟨rfl,f⟩ hs;by_cases hl:i<forms.n
 .simp only[AQ4];refine Ao (An ?_);by_cases d:(forms.g i).Has=true
  case neg=>exact ifT (by simpa using d) (hs hl _ ⟨Hi,Jy f fun g=>Ln g d⟩)
  refine ifF (by simp[d]) (An ?_);obtain⟨l1,l2⟩:=Xh (t:=h.Tree) (k:=i) (by omega);obtain⟨⟨p,pe⟩,p1,p2⟩:=AF4 j l c l1 (hy.2 i (by omega)) hw;refine B1 p1 (ltX ?_);have yes:(¬ ∃x,VJ N h (lf h.Tree i) w=some x/\SE x (forms.g i).W)->∃r,(if true then some false else a (wrap .i64 ((i:Int)+1)))=some r/\(r=true↔Jx N h forms w):=fun g=>
   ifT rfl ⟨_,rfl,fun e=>(by cases e),fun e=>Ln (e i hl d) g⟩
  have no:(∃x,VJ N h (lf h.Tree i) w=some x/\SE x (forms.g i).W)->∃r,(if false then some false else a (wrap .i64 ((i:Int)+1)))=some r/\(r=true↔Jx N h forms w):=fun g=>
   Gx (hs hl _ ⟨Hi,Jy f fun _=>g⟩)
  rcases p2 with⟨x,px,pe,ps,pw⟩ | ⟨px,pe⟩
  .simp only at pe ps pw;subst pe;refine Gx ?_;obtain⟨bb,b1,b2⟩:=VA (N:=N) (x:=p) (y:=(forms.g i).W) (by have:=pw.1;omega) (by have:=pw.1;omega);refine B1 b1 ?_;cases bb
   .refine yes ?_;rintro⟨u,g1,g2⟩;rw[px]at g1;obtain rfl:=AS8 g1;exact Bool.noConfusion (b2.2 (ps.symm.trans g2))
   exact no ⟨x,px,ps.trans (b2.1 rfl)⟩
  cases pe;refine Aq (yes ?_);rintro⟨u,g1,g2⟩;rw[px]at g1;cases g1
 have s:i=forms.n:=by omega
 exact Ec ⟨_,rfl,fun _=>fun k hk=>f k (by omega),fun _=>rfl⟩
def PL (j:3000000<=N){h:A7}(l:Ag h)(c:BY N h){forms:Sl Ca}(s:forms.n=(X9 h.Tree h.Tree.n).n){w:Sl Tb}(hw:wOk w) :∃b,P5 N h (X9 h.Tree h.Tree.n) w forms=some b/\(b=true↔Jx N h forms w):=by
 have m:=c.tree.2.1;have hn:=Kt h.Tree h.Tree.n;unfold P5;refine W5 (fun i x=>x=(i:Int)/\∀k,k<i->((forms.g k).Has=true->∃x,VJ N h (lf h.Tree k) w=some x/\SE x (forms.g k).W)) forms.n _ (by omega) ⟨rfl,fun k hk=>Ln hk (AT4 k)⟩ ?_;rintro a i _ o ⟨rfl,f⟩ hs;by_cases hl:i<forms.n
 .obtain⟨l1,l2⟩:=Xh (t:=h.Tree) (k:=i) (by omega);simp only[AQ4,l2];refine Ao (An ?_);by_cases d:(forms.g i).Has=true
  case neg=>exact ifT (by simpa using d) (hs hl _ ⟨Hi,Jy f fun g=>Ln g d⟩)
  refine ifF (by simp[d]) (An ?_);obtain⟨⟨p,pe⟩,p1,p2⟩:=Yz j l c l1 hw;refine B1 p1 (ltX ?_);have yes:(¬ ∃x,VJ N h (lf h.Tree i) w=some x/\SE x (forms.g i).W)->∃r,(if true then some false else a (wrap .i64 ((i:Int)+1)))=some r/\(r=true↔Jx N h forms w):=fun g=>
   ifT rfl ⟨_,rfl,fun e=>(by cases e),fun e=>Ln (e i hl d) g⟩
  have no:(∃x,VJ N h (lf h.Tree i) w=some x/\SE x (forms.g i).W)->∃r,(if false then some false else a (wrap .i64 ((i:Int)+1)))=some r/\(r=true↔Jx N h forms w):=fun g=>
   Gx (hs hl _ ⟨Hi,Jy f fun _=>g⟩)
  rcases p2 with⟨x,px,pe,pw⟩ | ⟨px,pe⟩<;>cases pe
  .refine Gx (An ?_);obtain⟨bb,b1,b2⟩:=VA (N:=N) (x:=p) (y:=(forms.g i).W) (by have:=pw.1;omega) (by have:=pw.1;omega);refine B1 b1 ?_;cases bb
   .refine yes ?_;rintro⟨u,g1,g2⟩;rw[px]at g1;obtain rfl:=AS8 g1;exact Bool.noConfusion (b2.2 g2)
   exact no ⟨p,px,b2.1 rfl⟩
  refine Aq (yes ?_);rintro⟨u,g1,g2⟩;rw[px]at g1;cases g1
 have q:i=forms.n:=by omega
 exact Ec ⟨_,rfl,fun _=>fun k hk=>f k (by omega),fun _=>rfl⟩
def NE (f:Sl Ca):Prop:=∀i,i<f.n->okA (f.g i).W
def TY (j:3000000<=N){forms:Sl Ca}(l:forms.n<=1000)(f:NE forms)(m:Int):∃e,V4 N forms m=some e/\(e=0->(forms.n:Int)=m):=by
 have hc:∃b,B7 N forms (fun (u2:Ca)=>R8 N u2)=some b/\True:=by
  unfold B7 E4
  have:∃y,S3 N (fun (a:Int->Option Int) (x1:Int)=>
   if (decide (x1<(forms.n:Int))) then
    if ((0:Int)<=x1/\x1<(forms.n:Int))then
     ((fun (u2:Ca)=>R8 N u2) (forms.g x1.toNat)).bind fun y3=>
     if y3 then
      some x1
     else
      a (wrap .i64 (x1+1))
    else none
   else
    some (-1)) 0=some y/\True:=by
   refine W5 (fun i x=>x=(i:Int)) forms.n _ (by omega) rfl ?_;rintro c i _ d rfl hs;by_cases hl:i<forms.n
   .refine Ao (An (B1 rfl ?_));split
    .exact⟨_,rfl,trivial⟩
    exact hs hl _ (Hi)
   exact Ec ⟨_,rfl,trivial⟩
  obtain⟨y,e,_⟩:=this;exact B1 e ⟨_,rfl,trivial⟩
 unfold V4;refine ltX ?_;by_cases g:(forms.n:Int)=m
 case neg=>exact ifT (by simpa using g) (ifT rfl ⟨_,rfl,fun e=>Ln e (by decide)⟩)
 refine ifF (by simpa using g) ?_;obtain⟨b,b1,_⟩:=hc;refine B1 b1 ?_;cases b
 case true=>exact ifT rfl ⟨_,rfl,fun e=>Ln e (by decide)⟩
 refine Gx ?_;refine W5 (fun i x=>x=(i:Int)) forms.n _ (by omega) rfl ?_;rintro c i _ d rfl hs;by_cases hl:i<forms.n
 .obtain⟨e,e1,_⟩:=Nu (N:=N) (by omega) (f i hl);simp only[AQ4];refine Ao (An (B1 e1 ?_));split
  .exact⟨_,rfl,fun _=>g⟩
  exact hs hl _ (Hi)
 exact Ec ⟨_,rfl,fun _=>g⟩
def VL (u:3000000<=N){p:Sl Tb}(hp:p.n<=2)(r:okA p):∃e,Ab N p=some e/\(e=0->∀i,i<p.n->vS (p.g i)):=by
 unfold Ab;refine Ec ?_;have l:∀i,∃b,i<p.n->P4 N (p.g i)=some b/\(b=true ↔ ¬vS (p.g i)):=fun i=>by
  by_cases hl:i<p.n
  .obtain⟨b,b1,b2⟩:=PH (N:=N) (r i hl);refine⟨!b,fun _=>⟨by unfold P4;rw[b1];rfl,?_⟩⟩;cases b
   .exact⟨fun _ g=>Bool.noConfusion (b2.2 g),fun _=>rfl⟩
   exact⟨fun e=>(by cases e),fun g=>Ln (b2.1 rfl) g⟩
  exact⟨true,fun g=>Ln g hl⟩
 obtain⟨c,c1,c2⟩:=GN (N:=N) (w:=p) (by omega) (by omega) (f:=fun (u1:Tb)=>P4 N u1) (b:=fun i=>Classical.choose (l i)) (fun i hl=>(Bb9 (l i) hl).1);refine B1 c1 ?_;cases c
 case true=>exact ifT rfl ⟨_,rfl,fun e=>Ln e (by decide)⟩
 have d:∀i,i<p.n->vS (p.g i):=fun i hl=>AU0 fun g=>
  Bool.noConfusion (c2.2 ⟨i,hl,((Bb9 (l i) hl).2).2 g⟩)
 refine Gx ?_;refine W5 (fun i x=>x=(i:Int)) p.n _ (by omega) rfl ?_;rintro q i _ s rfl hs;by_cases hl:i<p.n
 .refine Ao (An (An ?_));have hb:∃b,C5 N (p.take (i:Int).toNat) (p.g (i:Int).toNat)=some b/\True:=by
   simp only[AQ4];unfold C5 F5
   have:∃y,S3 N (fun (a:Int->Option Int) (x1:Int)=>
    if (decide (x1<((p.take i).n:Int))) then
     if ((0:Int)<=x1/\x1<((p.take i).n:Int))then
      if ((((p.g i).Plus==((p.take i).g x1.toNat).Plus)&&((p.g i).Minus==((p.take i).g x1.toNat).Minus)) != false) then
       some x1
      else
       a (wrap .i64 (x1+1))
     else none
    else
     some (-1)) 0=some y/\True:=by
    refine W5 (fun j x=>x=(j:Int)) i _ (by omega) rfl ?_;rintro m j _ t rfl o;by_cases hj:j<i
    .refine ifT (by show decide ((j:Int)<(i:Int))=true;simp;omega) (ifT (by show (0:Int)<=(j:Int)/\(j:Int)<(i:Int);omega) ?_);split
     .exact⟨_,rfl,trivial⟩
     exact o hj _ (Hi)
    exact ifF (by show ¬decide ((j:Int)<(i:Int))=true;simp;omega) ⟨_,rfl,trivial⟩
   obtain⟨y,e,_⟩:=this;exact B1 e ⟨_,rfl,trivial⟩
  obtain⟨b,b1,_⟩:=hb;refine B1 b1 ?_;cases b
  .exact Gx (hs hl _ (Hi))
  exact ifT rfl ⟨_,rfl,fun e=>Ln e (by decide)⟩
 exact Ec ⟨_,rfl,fun _=>d⟩
end Go.AM
namespace Go.AM
open IntKind (wrap)
open Go.Proofs
abbrev NN:Nat:=4194304
def Af4 {h:A7}(j:Ag h){forms:Sl Ca}(l:forms.n<=8)(a:NE forms){p:Sl Tb}(hp:p.n<=2)(b:okA p) :∃r,BW NN h forms p=some r/\((r.1=none/\r.2≠0) \/ ∃y,r=(some y,0)/\BY NN h/\Ar1 NN h y/\forms.n=y.n/\∀i,i<p.n->vS (p.g i)):=by
 unfold BW;obtain⟨⟨y,e⟩,y1,y2⟩:=Ae7 (N:=NN) (by decide) j;refine B1 y1 ?_;rcases y2 with⟨y2,_⟩ | ⟨rfl,f,hy⟩
 .exact ifT (by simpa using y2) ⟨_,rfl,.inl ⟨rfl,y2⟩⟩
 refine Gx ?_;obtain⟨c,c1,c2⟩:=TY (N:=NN) (by decide) (by omega) a (y.n:Int);refine B1 c1 ?_;by_cases c0:c=0
 case neg=>exact ifT (by simpa using c0) ⟨_,rfl,.inl ⟨rfl,c0⟩⟩
 refine ifF (by simp[c0]) ?_;obtain⟨d,d1,d2⟩:=VL (N:=NN) (by decide) hp b;refine B1 d1 ?_;by_cases d0:d=0
 case neg=>exact ifT (by simpa using d0) ⟨_,rfl,.inl ⟨rfl,d0⟩⟩
 exact ifF (by simp[d0]) ⟨_,rfl,.inr ⟨y,rfl,f,hy,by have:=c2 c0;omega,d2 d0⟩⟩
structure AP9 (h:A7) (forms:Sl Ca) (p:Sl Tb) (m:Nat) (z:Sl (Sl Tb)):Prop where
 ok:∀j,j<z.n->(z.g j).n<=6/\ofS p (z.g j)/\Jx NN h forms (z.g j)
 all:∀u:Sl Tb,u.n<m->ofS p u->Jx NN h forms u->∃j,j<z.n/\SE (z.g j) u
def TZ {p u:Sl Tb}(a:∀i,i<p.n->vS (p.g i))(d:u.n<=6)(b:ofS p u):wOk u:=⟨by omega,fun i c=>by obtain⟨j,hj,e⟩:=b i c;rw[e];exact a j hj⟩
def Xj {p q u:Sl Tb}(h:TX p q)(a:ofS q u):ofS p u:=fun i b=>by obtain⟨j,hj,e⟩:=a i b;obtain⟨k,hk,e2⟩:=h.2.1 j (by rw[<- h.1];exact hj);exact⟨k,hk,e.trans e2⟩
def Ar3 {p q u:Sl Tb}(h:TX p q)(a:ofS p u):ofS q u:=fun i b=>by obtain⟨j,hj,e⟩:=a i b;obtain⟨k,hk,e2⟩:=h.2.2 j hj;exact⟨k,by rw[h.1];exact hk,e.trans e2.symm⟩
def Ku {h:A7}{forms:Sl Ca}{y:Sl (Sl Law)}{k:Sl (Sl Tb)->Option (Sl (Sl Tb))}:∀(L:List (Sl Tb)) (z:Sl (Sl Tb)),z.n+L.length<1000 ->
 (∀x∈L,x.n<=6/\∃b,Q4 NN x y forms=some b/\(b=true↔Jx NN h forms x)) ->
 ∃z',O1 L (fun (c:Sl (Sl Tb)->Option (Sl (Sl Tb))) (x7:Sl Tb) (z3:Sl (Sl Tb))=>
  if (decide ((1000:Int)<=(z3.n:Int))) then
   some z3
  else
   (Q4 NN x7 y forms).bind fun m=>
   if m then
    (C9 NN x7).bind fun f=>
    if ((z3.n+(Sl.of [f]:Sl (Sl Tb)).n)*24<=140737488355328/\z3.n+(Sl.of [f]:Sl (Sl Tb)).n<=140737488355328)then
     c (z3.push f)
    else none
   else
    c z3
  ) k z=k z' /\ z'.n<=z.n+L.length/\(∀j,j<z.n->∃i,i<z'.n/\z'.g i=z.g j)/\(∀i,i<z'.n->(∃j,j<z.n/\z'.g i=z.g j) \/ ∃x∈L,z'.g i=x/\Jx NN h forms x)/\∀x∈L,Jx NN h forms x->∃i,i<z'.n/\z'.g i=x
 |[],z,_,_=>⟨z,rfl,AQ8 _,fun j hj=>⟨j,hj,rfl⟩,fun i d=>.inl ⟨i,d,rfl⟩,fun x hx=>by cases hx⟩
 |x::L,z,o,hL=>by
  have o:z.n+(L.length+1)<1000:=o;obtain⟨q,b,b1,b2⟩:=hL x (by simp);rw[O1,K6,b1,AQ6];cases b
  .rw[Lm (by simp)];obtain⟨z',e,q1,q2,q3,q4⟩:=Ku L z (by omega) fun u a=>hL u (by simp[a]);refine⟨z',e,by show _<=z.n+(L.length+1);omega,q2,fun i d=>?_,fun u a hg=>?_⟩
   .rcases q3 i d with g|⟨u,a,g⟩
    .exact .inl g
    exact .inr ⟨u,by simp[a],g⟩
   rcases AT9.1 a with rfl|a
   .exact Ln (b2.2 hg) (by simp)
   exact q4 u a hg
  rw[Ll rfl,C9,Hj,AQ6,Ll (by show (z.n+1)*24<=_/\z.n+1<=_;omega)];obtain⟨z',e,q1,q2,q3,q4⟩:=Ku L (z.push x) (by show z.n+1+_<_;omega) fun u a=>hL u (by simp[a]);have pn:(z.push x).n=z.n+1:=rfl;have pg:∀j,(z.push x).g j=if j<z.n then z.g j else x:=fun j=>rfl
  refine⟨z',e,by show _<=z.n+(L.length+1);omega,fun j hj=>?_,fun i d=>?_,fun u a hg=>?_⟩
  .obtain⟨i,d,g⟩:=q2 j (by omega);rw[pg,Ll hj]at g;exact⟨i,d,g⟩
  .rcases q3 i d with⟨j,hj,g⟩ | ⟨u,a,g⟩
   .rw[pg]at g;by_cases l:j<z.n
    .rw[Ll l]at g;exact .inl ⟨j,l,g⟩
    rw[Lm l]at g;exact .inr ⟨x,by simp,g,b2.1 rfl⟩
   exact .inr ⟨u,by simp[a],g⟩
  rcases AT9.1 a with rfl|a
  .obtain⟨i,d,g⟩:=q2 z.n (by omega);rw[pg,Jd]at g;exact⟨i,d,g⟩
  exact q4 u a hg
def Af5 {h:A7}(w:Ag h)(a:BY NN h){y:Sl (Sl Law)}(hy:Ar1 NN h y){forms:Sl Ca}(hf:forms.n=y.n){p:Sl Tb}(hp:p.n<=2)(hv:∀i,i<p.n->vS (p.g i)) :∃z,O8 NN p y forms 1000=some z/\z.n<=448/\AP9 h forms p 7 z:=by
 have h63:=a.tree.2.1;have hn:=Kt h.Tree h.Tree.n;have hyn:=hy.1;obtain⟨q,l,hw⟩:=OB (N:=NN) (by decide) hp;unfold O8;refine T1 (fun i (x3:Sl (Sl Tb)) x4=>x4=(i:Int)/\x3.n<=64*i/\AP9 h forms p i x3) 7 _ (by decide) ⟨rfl,AQ8 _,fun j hj=>Ln hj (AT4 j),fun u hu=>Ln hu (AT4 _)⟩ ?_;rintro d i x3 _ hii ⟨rfl,hx,m⟩ hs;by_cases hl:i<7
 .refine Ao (B1 (hw _) ?_);obtain⟨L,l1,l2,l3,l4⟩:=VK (q:=q) (by rw[l.1];exact hp) hl;refine B1 l1 ?_;have hL:∀x∈L,x.n<=6/\∃b,Q4 NN x y forms=some b/\(b=true↔Jx NN h forms x):=fun x hx=>by obtain⟨g1,g2⟩:=l3 x hx;obtain⟨b,b1,b2⟩:=Af3 (N:=NN) (by decide) w a hy hf (TZ hv (by omega) (Xj l g2));exact⟨by omega,b,by unfold Q4;rw[b1];rfl,b2⟩
  obtain⟨z',e,q1,q2,q3,q4⟩:=Ku (h:=h) (k:=fun (z3:Sl (Sl Tb))=>d z3 (wrap .i64 ((i:Int)+1))) L x3 (by omega) hL;have f:AP9 h forms p (i+1) z':=by
   refine⟨fun j hj=>?_,fun u hu o hg=>?_⟩
   .rcases q3 j hj with⟨j',s,g⟩ | ⟨x,hx,g,g'⟩
    .rw[g];exact m.ok j' s
    rw[g];obtain⟨g1,g2⟩:=l3 x hx;exact⟨by omega,Xj l g2,g'⟩
   by_cases t:u.n<i
   .obtain⟨j,hj,g⟩:=m.all u t o hg;obtain⟨i',c,g'⟩:=q2 j hj;exact⟨i',c,by rw[g'];exact g⟩
   obtain⟨x,hx,g⟩:=l4 u (by omega) (Ar3 l o);obtain⟨i',c,g'⟩:=q4 x hx (Af2 (N:=NN) (by decide) w a (by omega) (TZ hv (by omega) o) g.symm hg);exact⟨i',c,by rw[g'];exact g⟩
  obtain⟨r,r1,r2⟩:=hs hl z' _ ⟨Hi,by omega,f⟩;exact⟨r,e.trans r1,r2⟩
 have v:i=7:=by omega
 subst v;exact Gx ⟨_,rfl,by omega,m⟩
def AF6 {h:A7}(f:Ag h){forms:Sl Ca}(l:forms.n<=8)(c:NE forms){p:Sl Tb}(hp:p.n<=2)(d:okA p) :∃r,Cr NN h forms p 1000=some r/\((r.1.n=0/\r.2≠0) \/ (r.2=0/\BY NN h/\forms.n=(X9 h.Tree h.Tree.n).n/\(∀i,i<p.n->vS (p.g i))/\r.1.n<=448/\AP9 h forms p 7 r.1)):=by
 unfold Cr;obtain⟨⟨o,e⟩,o1,o2⟩:=Af4 f l c hp d;refine B1 o1 ?_;rcases o2 with⟨_,o2⟩ | ⟨y,m,a,hy,b,j⟩
 .exact ifT (by simpa using o2) ⟨_,rfl,.inl ⟨rfl,o2⟩⟩
 cases m;refine Gx (Gx ?_);obtain⟨z,z1,z2,z3⟩:=Af5 f a hy b hp j;exact B1 z1 ⟨_,rfl,.inr ⟨rfl,a,b.trans hy.1,j,z2,z3⟩⟩
def Gb (hw:I4 NN=some true){h:A7}(d:Ag h){forms:Sl Ca}(o:NE forms){p:Sl Tb}(q:okA p):I3 NN h forms p=some true:=by
 refine eqR ?_;unfold I3;obtain⟨s,e,e1,_,e2⟩:=PK (N:=NN) (by decide) d.tree;obtain⟨b,b1,_⟩:=YB (N:=NN) (by decide) h;refine B1 e1 (B1 b1 ?_);by_cases hb:((((!b)||(decide (2<(p.n:Int))))||(decide (8<(forms.n:Int))))||(e != 0))=true
 .exact ifT hb (B1 hw ⟨_,rfl,rfl⟩)
 refine ifF hb ?_;have r : (p.n<=2/\forms.n<=8)/\e=0:=by simp only[AS6,not_or,Mw]at hb;refine⟨⟨by omega,by omega⟩,by simpa using hb.2⟩
 obtain⟨⟨hp,hf⟩,rfl⟩:=r;rcases e2 with⟨ht,_,rfl⟩ | ⟨_,g,_⟩
 case inr=>exact Ln g (by decide)
 obtain⟨⟨z,c⟩,z1,z2⟩:=AF6 d hf o hp q;refine B1 z1 ?_;rcases z2 with⟨zn,zc⟩ | ⟨rfl,a,f,t,zn,l⟩
 .simp only at zn;exact ifT (by simpa using zc) (ltX (ifT (by simp[zn]) (B1 hw ⟨_,rfl,rfl⟩)))
 simp only at zn l;refine Gx (Ec ?_);dsimp only;refine W5 (fun i x=>x=(i:Int)) z.n _ (by show _<4194304;omega) rfl ?_;rintro self i _ u rfl hs;by_cases hl:i<z.n
 .simp only[AQ4];obtain⟨g1,g2,g3⟩:=l.ok i hl;obtain⟨b,b1,b2⟩:=PL (N:=NN) (by decide) d a f (TZ t g1 g2);obtain rfl:=b2.2 g3;exact Ao (An (B1 b1 (Gx (hs hl _ (Hi)))))
 refine Ec ?_;obtain⟨y,y1,y2,y3⟩:=Af1 hp;refine B1 y1 ?_;refine W5 (fun i x=>x=(i:Int)) y.n _ (by show _<4194304;omega) rfl ?_;rintro v i _ u rfl w;by_cases hl:i<y.n
 case neg=>exact Ec (B1 hw ⟨_,rfl,rfl⟩)
 refine Ao ?_;obtain⟨g1,g2⟩:=y3 i hl;have a0:=TZ t (by omega) g2;refine T1 (fun j (x8:Bool) x9=>x9=(j:Int)/\(x8=true ↔ ∃k,k<j/\SE (z.g k) (y.g i))) z.n _ (by show _<4194304;omega) ⟨rfl,fun e=>(by cases e),fun⟨k,hk,_⟩=>Ln hk (AT4 k)⟩ ?_;rintro a1 j x8 _ hjj ⟨rfl,hI⟩ m;by_cases hj:j<z.n
 .refine Ao ?_;cases x8
  .simp only[AQ4];refine Gx (An ?_);obtain⟨o1,o2,_⟩:=l.ok j hj;obtain⟨bb,b1,b2⟩:=VA (N:=NN) (x:=z.g j) (y:=y.g i) (by show _<4194304;omega) (by omega);refine B1 b1 (m hj _ _ ⟨Hi,b2.trans ⟨fun g=>⟨j,by omega,g⟩,fun⟨k,hk,g⟩=>?_⟩⟩);by_cases e:k=j
   .rw[<- e];exact g
   exact Bool.noConfusion (hI.2 ⟨k,by omega,g⟩)
  refine ifT rfl (m hj _ _ ⟨Hi,fun _=>?_,fun _=>rfl⟩);obtain⟨k,hk,g⟩:=hI.1 rfl;exact⟨k,by omega,g⟩
 refine Ec ?_;simp only[AQ4];obtain⟨b,b1,b2⟩:=PL (N:=NN) (by decide) d a f a0;refine An (B1 b1 ?_);have hiff:x8=true↔b=true:=by
  rw[hI,b2];constructor
  .rintro⟨k,hk,g⟩;obtain⟨o1,o2,o3⟩:=l.ok k (by omega);exact Af2 (N:=NN) (by decide) d a (by omega) (TZ t o1 o2) g o3
  intro g;obtain⟨k,hk,g'⟩:=l.all (y.g i) (by omega) g2 g;exact⟨k,by omega,g'⟩
 have:x8=b:=by cases x8<;>cases b<;>simp_all
 subst this;exact Gx (w hl _ (Hi))
end Go.AM
