/- Part 8. -/
import Derived.Test.YtlbooedblpdmaaaGreatDoorEG
import Derived.Test.YtlbooedblpdmaaaGreatDoorEF
set_option linter.defProp false
set_option linter.unusedSimpArgs false
set_option linter.unusedVariables false
set_option linter.unusedSectionVars false
namespace Go.AM
abbrev Sj:Sl Sm:=Sl.of []
variable {N:Nat}
def Pj{c:Prop}{i:Decidable c}{α:Sort _}{a b:α}(h:¬c:=by simp):(if c then a else b)=b:=Pl h
def Ph{c:Prop}{i:Decidable c}{α:Sort _}{a b:α}(h:¬c:=by simp;omega):(if c then a else b)=b:=Pl h
def Pf{c:Prop}{i:Decidable c}{α:Sort _}{a b:α}(h:c:=by simp;omega):(if c then a else b)=a:=Pk h
open IntKind (wrap)
def Bu0:=@List.flatMap_cons
def BB4:=@List.flatMap_append
def BC1:=@List.filter_append
def BC9:=@Classical.not_not
def BF1:=@List.filterMap_append
def BH0:=@UInt8.toNat_ofNat'
open Go.Proofs
def nf:(!false)=true:=rfl
def AY8 {α : Type}{s t:Sl α}(h:s.n=0):s.app t=t:=by cases t;simp[Sl.app,h]
def AO7 {α : Type}[Inhabited α](s:Sl (Sl α)):Nat->Sl α
 |0=>Sl.nil
 |k+1=>(AO7 s k).app (s.g k)
def AO8 {α : Type}[Inhabited α](s:Sl (Sl α)){B:Nat}:∀k,(∀i,i<k->(s.g i).n<=B)->(AO7 s k).n<=k*B
 |0,_=>by simp[AO7]
 |k+1,h=>by
  have:=AO8 s k fun i a=>h i (by omega)
  have:=h k (by omega)
  show (AO7 s k).n+(s.g k).n<=_;rw[By4];omega
def Yn {s:Sl (Sl Sm)}(hn:s.n<1000)(d:1000<=N)(hs:∀i,i<s.n->(s.g i).n<=3000000) :B6 N s=some (AO7 s s.n):=by
 suffices h:∃r,B6 N s=some r/\r=AO7 s s.n by obtain⟨r,h,rfl⟩:=h;exact h
 unfold B6;refine Q0 (fun (i:Nat) (x1 x2:Int)=>x2=(i:Int)/\0<=x1/\x1<=(i:Int)*3000000) s.n _ (by omega) ⟨rfl,Int.le_refl 0,by simp⟩ ?_;rintro b i x1 x2 c ⟨rfl,f,h1⟩ a;by_cases hl:i<s.n
 .have:=hs i hl
  refine An (Am ?_);rw[Bm2,F1 (by omega) (by omega)];exact Oi (a hl _ _ ⟨Pd,by omega,by omega⟩)
 refine Oi (B3 (x:=Sl.nil) ?_ ?_)
 .unfold I7;rw[Pe]
 refine Q0 (fun i x1 x2=>x2=(i:Int)/\x1=AO7 s i) s.n _ (by omega) ⟨rfl,rfl⟩ ?_;rintro b i x1 x2 c ⟨rfl,rfl⟩ a;by_cases hl:i<s.n
 .have g1:=hs i hl;have g2:=AO8 s i (B:=3000000) fun j l=>hs j (by omega);refine An (ifT ⟨by omega,?_⟩ (a hl _ _ ⟨Pd,?_⟩))
  .rw[Bm2];omega
  rw[Bm2];rfl
 exact Oi ⟨_,rfl,by congr 1;omega⟩
def Bc1 (w:Sl Sm)(i k:Nat)(y:Sl Sm):Sl Sm:=((w.take i).app y).app (w.drop (i+k))
def Aw5 {w y:Sl Sm}{i k:Nat}(b:i+k<=w.n)(hw:∀j,j<w.n->vS (w.g j))(hy:∀j,j<y.n->vS (y.g j)):(Bc1 w i k y).n=w.n-k+y.n/\∀j,j<(Bc1 w i k y).n->vS ((Bc1 w i k y).g j):=by
 have hn:(Bc1 w i k y).n=w.n-k+y.n:=by show i+y.n+(w.n-(i+k))=_;omega
 refine⟨hn,fun j a=>?_⟩;rw[hn]at a;show vS (if j<i+y.n then (if j<i then w.g j else y.g (j-i))else w.g (i+k+(j-(i+y.n))));split
 .split
  .exact hw _ (by omega)
  exact hy _ (by omega)
 exact hw _ (by omega)
def HH (N:Nat)(l:Law)(w:Sl Sm)(i:Nat):Sl Sm:=(O9 N l (w.sub i (i+l.If.n))).getD Sl.nil
def Ab (N:Nat)(l:Law)(w:Sl Sm)(i:Nat):Sl Sm:=Bc1 w i l.If.n (HH N l w i)
def vOk {w:Sl Sm}(h:wOk w):okW w:=⟨by have:=h.1;omega,fun i a=>(h.2 i a).ok⟩
def GX (a:1000<=N){l:Law}(b:Bb9 l){w:Sl Sm}(hw:∀j,j<w.n->vS (w.g j)){i:Nat}(o:i+l.If.n<=w.n) :O9 N l (w.sub i (i+l.If.n))=some (HH N l w i)/\Bv N l (w.sub i (i+l.If.n))=some (HH N l w i)/\(HH N l w i).n=l.Out.n/\∀j,j<(HH N l w i).n->vS ((HH N l w i).g j):=by
 obtain⟨s,h1,c,d,f⟩:=AY5 a b (cut:=w.sub i (i+l.If.n)) (by show i+l.If.n-i=_;omega) fun j m=>(hw (i+j) (by have:j<i+l.If.n-i:=m;omega)).ok;have e:HH N l w i=s:=by unfold HH;rw[h1];rfl
 rw[e];exact⟨h1,c,d,f⟩
def cat3 (a b c:Sl Sm):AO7 (Sl.of [a,b,c]:Sl (Sl Sm)) 3=(a.app b).app c:=by show ((Si.app a).app b).app c=_;rw[AY8 (s:=Si) rfl]
def Aw6 (d:1000<=N){a b c:Sl Sm}(ha:a.n<=3000000)(hb:b.n<=3000000)(hc:c.n<=3000000):B6 N (Sl.of [a,b,c]:Sl (Sl Sm))=some ((a.app b).app c):=by
 have h:=Yn (N:=N) (s:=(Sl.of [a,b,c]:Sl (Sl Sm))) (by show 3<1000;omega) d fun i f=>by
  match i,f with
  |0,_=>exact ha
  |1,_=>exact hb
  |2,_=>exact hc
 rw[h];exact congrArg some (cat3 a b c)
def FQ (a:1000<=N){l:Law}(b:Bb9 l){w:Sl Sm}(c:w.n<1000)(hw:∀j,j<w.n->vS (w.g j)){i:Nat}(d:i+l.If.n<=w.n) :S3 N l w i=some (Ab N l w i)/\R7 N l w i=some (Ab N l w i):=by
 obtain⟨h1,f,m,o⟩:=GX a b hw d;have q:=b.1;constructor
 .unfold S3;rw[DQ (by omega),Pe,Bm2,Bm2,h1,Bm6,Pe,
   Aw6 a (by show i<=_;omega) (by omega) (by show w.n-(i+l.If.n)<=_;omega)]
  rfl
 unfold R7;rw[DQ (by omega),Bm2,Bm2,AY8 (s:=Sj) rfl,Pk ⟨by omega,by show (0+i)*8<=_/\0+i<=_;omega⟩,Pe,f,Bm6,
  Pk (by show (i+(HH N l w i).n)*8<=_/\i+(HH N l w i).n<=_;omega),Pk ⟨by omega,by show (i+(HH N l w i).n+(w.n-(i+l.If.n)))*8<=_/\i+(HH N l w i).n+(w.n-(i+l.If.n))<=_;omega⟩]
 rfl
def SE {α : Type}(s t:Sl α):Prop:=s.n=t.n/\∀i,i<s.n->s.g i=t.g i
def SE.refl {α : Type}(s:Sl α):SE s s:=⟨rfl,fun _ _=>rfl⟩
def SE.symm {α : Type}{s t:Sl α}(h:SE s t):SE t s:=⟨h.1.symm,fun i a=>(h.2 i (by rw[h.1];exact a)).symm⟩
def SE.trans {α : Type}{s t u:Sl α}(h:SE s t)(h' : SE t u):SE s u:=⟨h.1.trans h'.1,fun i a=>(h.2 i a).trans (h'.2 i (by rw[<- h.1];exact a))⟩
def SE.app {α : Type}{s t u v:Sl α}(h:SE s t)(h' : SE u v):SE (s.app u) (t.app v):=⟨by show s.n+u.n=t.n+v.n;rw[h.1,h'.1],fun i a=>by
 show (if i<s.n then s.g i else u.g (i-s.n))=if i<t.n then t.g i else v.g (i-t.n)
 have a:i<s.n+u.n:=a;rw[<- h.1];split
 .exact h.2 i (by assumption)
 exact h'.2 _ (by omega)⟩
def SE.drop {α : Type}{s t:Sl α}(h:SE s t)(k:Nat):SE (s.drop k) (t.drop k):=⟨by show s.n-k=t.n-k;rw[h.1],fun i a=>by have a:i<s.n-k:=a;exact h.2 _ (by omega)⟩
def SE.take {α : Type}{s t:Sl α}(h:SE s t){k:Nat}(hk:k<=s.n):SE (s.take k) (t.take k):=⟨rfl,fun i a=>h.2 i (by have a:i<k:=a;omega)⟩
def SE.sub {α : Type}{s t:Sl α}(h:SE s t){a b:Nat}(hk:b<=s.n):SE (s.sub a b) (t.sub a b):=⟨rfl,fun i c=>h.2 _ (by have c:i<b-a:=c;omega)⟩
def SE.v {s t:Sl Sm}(h:SE s t)(b:∀j,j<s.n->vS (s.g j)):∀j,j<t.n->vS (t.g j):=fun j a=>by rw[<- h.2 j (by rw[h.1];exact a)];exact b j (by rw[h.1];exact a)
def SE.wOk {s t:Sl Sm}(h:SE s t)(a:wOk s):wOk t:=⟨by rw[<- h.1];exact a.1,h.v a.2⟩
def SX {w w' : Sl Sm}(h:SE w w'):∀p:Pat,PR w p=PR w' p
 |.nil=>rfl
 |.mk kind is no mn mx m g=>by
  have ih:(fun i=>PR w (g i))=fun i=>PR w' (g i):=funext fun i=>SX h (g i);have ih1:∀i,PR w (g i)=PR w' (g i):=fun i=>congrFun ih i;have e1:∀a,(a<w.n↔a<w'.n):=fun a=>by rw[h.1]
  funext a b;unfold PR;rw[ih];simp only[ih1,<- h.1];by_cases ha:a<w.n
  .rw[h.2 a ha]
  simp[ha]
def Aj9 {l:Law}{w w' : Sl Sm}(h:SE w w'){i:Nat}:QX l w i↔QX l w' i:=by
 suffices H:∀{w w' : Sl Sm},SE w w' -> QX l w i->QX l w' i by exact⟨H h,H h.symm⟩
 intro w w' h;rintro⟨h1,f,g,m,n,q,⟨a,ha,c⟩,b,hb,d⟩;have hn:=h.1;refine⟨by omega,fun j o=>?_,g,m,h.wOk n,by omega,⟨a,by omega,?_⟩,b,by omega,?_⟩
 .rw[<- h.2 (i+j) (by omega)];exact f j o
 .rw[<- SX h];exact c
 rw[<- SX h];exact d
structure LE (l l' : Law):Prop where
 name:l'.Name=l.Name
 left:PE l.Left l'.Left
 right:PE l.Right l'.Right
 cond:SE l.If l'.If
 out:SE l.Out l'.Out
 mode:l'.Mode=l.Mode
def LE.refl (l:Law):LE l l:=⟨rfl,Yl _,Yl _,SE.refl _,SE.refl _,rfl⟩
def LE.symm {l l' : Law}(h:LE l l'):LE l' l:=⟨h.name.symm,Ym h.left,Ym h.right,h.cond.symm,h.out.symm,h.mode.symm⟩
def AY9 {l l' : Law}(h:LE l l'){w:Sl Sm}{i:Nat}:QX l w i↔QX l' w i:=by
 suffices H:∀{l l' : Law},LE l l' -> QX l w i->QX l' w i by exact⟨H h,H h.symm⟩
 intro l l' h;rintro⟨h1,m,f,g,n,o,⟨a,ha,c⟩,b,hb,d⟩;have hn:=h.cond.1;refine⟨by omega,fun j q=>?_,(KU h.left).1 f,(KU h.right).1 g,n,by omega,⟨a,ha,?_⟩,b,hb,?_⟩
 .rw[<- h.cond.2 j (by omega)];exact m j (by omega)
 .rw[<- AY7 40 (Vu 40 _ (by omega) f _ (by simp)) h.left];exact c
 rw[<- hn,<- AY7 40 (Vu 40 _ (by omega) g _ (by simp)) h.right];exact d
def IL {l l' : Law}(e:LE l l'){w w' : Sl Sm}(h:SE w w'){i:Nat}:QX l w i↔QX l' w' i:=(AY9 e).trans (Aj9 h)
def Mo {l l' : Law}(h:LE l l')(hl:OF l):OF l':=by obtain⟨⟨h1,a,b⟩,c,g,j,d⟩:=hl;have m:=h.cond.1;have n:=h.out.1;exact⟨⟨OG h.left h1,OG h.right a,fun i f=>by rw[<- h.cond.2 i (by omega)];exact b i (by omega)⟩,by rw[h.name];exact c,by omega,by omega,fun i f=>by rw[<- h.out.2 i (by omega)];exact d i (by omega)⟩
def AZ0 {l l' : Law}(h:LE l l')(hl:Bb9 l):Bb9 l':=by have a:=h.cond.1;have b:=h.out.1;exact⟨by rw[<- b];exact hl.1,fun i c=>by rw[<- h.out.2 i (by omega),<- a];exact hl.2 i (by omega)⟩
def Yo {l l' : Law}(h:LE l l')(hl:Bc0 l):Bc0 l':=by obtain⟨⟨h1,a,b⟩,c,d,j,f,m,n,g⟩:=hl;have o:=h.cond.1;have q:=h.out.1;have hm:=h.mode;exact⟨⟨OG h.left h1,OG h.right a,fun i r=>by rw[<- h.cond.2 i (by omega)];exact b i (by omega)⟩,(KU h.left).1 c,(KU h.right).1 d,by omega,AZ0 h f,by omega,by omega,by omega⟩
def GY {l l' : Law}(h:LE l l'):chkAll N l↔chkAll N l':=by
 suffices H:∀{l l' : Law},LE l l' -> chkAll N l->chkAll N l' by exact⟨H h,H h.symm⟩
 rintro l l' h ⟨h1,b,c,j,m,n,o,q,d,a⟩;have f:=h.cond.1;have r:=h.out.1;have hm:=h.mode;exact⟨by rw[h.name];exact h1,(KU h.left).1 b,(KU h.right).1 c,by omega,by omega,by omega,by omega,by omega,
  fun i g=>by rw[<- h.cond.2 i (by omega)];exact d i (by omega),fun i g=>by rw[<- h.out.2 i (by omega),<- f];exact a i (by omega)⟩
def AZ1 {l l' : Law}(h:LE l l'){e:Int}(b:AY6 N l e):AY6 N l' e:=by
 rcases b with⟨h1,a⟩ | ⟨h1,a⟩
 .exact .inl ⟨h1,(GY h).1 a⟩
 exact .inr ⟨h1,fun g=>a ((GY h).2 g)⟩
def Aw7 {l:Law}{c c' : Sl Sm}(h:SE c c'):O9 N l c=O9 N l c':=by
 unfold O9;congr 1;funext self x1 x2;by_cases h1:(decide (x2<(l.Out.n:Int)))=true
 case neg=>rw[Pl h1,Pl h1]
 rw[Pk h1,Pk h1,<- h.1];have e1:∀y:Int,(0:Int)<=y->y<(c.n:Int)->c.g y.toNat=c'.g y.toNat:=fun y i h1=>h.2 _ (by omega);by_cases b:(0:Int)<=x2/\x2<(l.Out.n:Int)
 case neg=>rw[Pl b,Pl b]
 rw[Pk b,Pk b];split
 .rename_i f;have e2:(⟨(if (decide (0<=(l.Out.g x2.toNat).From)) then (c.g (l.Out.g x2.toNat).From.toNat).Plus else 0),(if (decide (0<=(l.Out.g x2.toNat).From)) then (c.g (l.Out.g x2.toNat).From.toNat).Minus else 0)⟩:Sm) =
   ⟨(if (decide (0<=(l.Out.g x2.toNat).From)) then (c'.g (l.Out.g x2.toNat).From.toNat).Plus else 0),(if (decide (0<=(l.Out.g x2.toNat).From)) then (c'.g (l.Out.g x2.toNat).From.toNat).Minus else 0)⟩:=by
   by_cases a:decide (0<=(l.Out.g x2.toNat).From)=true
   .have:=f a
    rw[Pk a,Pk a,Pk a,Pk a,e1 _ this.1 this.2]
   rw[Pl a,Pl a,Pl a,Pl a]
  rw[e2];congr 1;funext y5;split
  .split
   .rename_i d;rw[e1 _ d.1 d.2]
   rfl
  rfl
 rfl
def Ak0 {l l' : Law}(h:SE l.Out l'.Out)(c:Sl Sm):O9 N l c=O9 N l' c:=by
 unfold O9;congr 1;funext self x1 x2;rw[<- h.1];by_cases h1:(0:Int)<=x2/\x2<(l.Out.n:Int)
 .rw[h.2 x2.toNat (by omega)]
 by_cases a:(decide (x2<(l.Out.n:Int)))=true
 .rw[Pk a,Pk a,Pl h1,Pl h1]
 rw[Pl a,Pl a]
def OH {l l' : Law}(e:LE l l'){w w' : Sl Sm}(h:SE w w'){i:Nat}(a:i+l.If.n<=w.n):HH N l w i=HH N l' w' i:=by unfold HH;rw[Aw7 (h.sub a),Ak0 e.out,<- e.cond.1]
def LM {l l' : Law}(e:LE l l'){w w' : Sl Sm}(h:SE w w'){i:Nat}(a:i+l.If.n<=w.n):SE (Ab N l w i) (Ab N l' w' i):=by unfold Ab Bc1;rw[OH e h a,<- e.cond.1];exact ((h.take (by omega)).app (SE.refl _)).app (h.drop _)
def RL:List (Int×Sl Sm)->List (Int×Sl Sm)->Prop
 |[],[]=>True
 |(p,v)::L,(q,u)::M=>p=q/\SE v u/\RL L M
 |_,_=>False
def KV:Sl Int->Sl (Sl Sm)->List (Int×Sl Sm)->Sl Int×Sl (Sl Sm)×Int
 |x,y,[]=>(x,y,0)
 |x,y,(p,v)::L=>if 32<v.n then (Sl.nil,Sl.nil,11)else KV (x.push p) (y.push v) L
abbrev VC:=List (Int×Sl Sm)
def vL (L:VC):Prop:=∀x∈L,∀j,j<x.2.n->vS (x.2.g j)
def VD:vL []:=fun x hx=>Pm hx (by simp)
def Yp {x:Int×Sl Sm}{L:VC}(h:∀j,j<x.2.n->vS (x.2.g j))(hL:vL L):vL (x::L):=fun y hy=>by
 rcases Bp9.1 hy with rfl|hy
 .exact h
 exact hL y hy
def VE (N:Nat)(l:Law)(a:Sl Sm->Int->Option VC)(x5:Sl Sm)(x6:Int):Option VC:= if (decide ((wrap .i64 (x6+(l.If.n:Int)))<=(x5.n:Int))) then (CB N l x5 x6).bind fun c=>if (!c) then a x5 (wrap .i64 (x6+1)) else (S3 N l x5 x6).bind fun b=>Az (x6,b) (if ((l.If.n:Int)==0) then a b (wrap .i64 ((wrap .i64 (x6+(l.Out.n:Int)))+1)) else a b (wrap .i64 (x6+(l.Out.n:Int)))) else some []
abbrev AJ9:=(Sl Int)×(Sl (Sl Sm))×Int
def VF (N:Nat)(l:Law)(a:Sl Sm->Sl Int->Sl (Sl Sm)->Int->Option AJ9)(x1:Sl Sm)(x2:Sl Int)(x3:Sl (Sl Sm))(x4:Int):Option AJ9:= if (decide ((wrap .i64 (x4+(l.If.n:Int)))<=(x1.n:Int))) then (AK N l x1 x4).bind fun y5=>if (!y5) then a x1 x2 x3 (wrap .i64 (x4+1)) else (R7 N l x1 x4).bind fun y6=>if (decide (32<(y6.n:Int))) then some (Sh,Sk,11) else if (((x2.n+(Sl.of [x4]:Sl Int).n)*8<=140737488355328/\x2.n+(Sl.of [x4]:Sl Int).n<=140737488355328)/\((x3.n+(Sl.of [y6]:Sl (Sl Sm)).n)*24<=140737488355328/\x3.n+(Sl.of [y6]:Sl (Sl Sm)).n<=140737488355328))then if ((l.If.n:Int)==0) then a y6 (x2.push x4) (x3.push y6) (wrap .i64 ((wrap .i64 (x4+(l.Out.n:Int)))+1)) else a y6 (x2.push x4) (x3.push y6) (wrap .i64 (x4+(l.Out.n:Int))) else none else some (x2,x3,0)
def Aw8 (hN:3000<=N){l l' : Law}(hf:Bc0 l)(s:LE l l'):∀(m:Nat) (w w' : Sl Sm) (i:Nat),SE w w' -> w.n<=100->(∀j,j<w.n->vS (w.g j))->i<=200->w.n+1<=i+m ->
 ∃L L',(∀M,m<M->S0 M (VE N l) w i=some L)/\vL L/\L.length<=m/\RL L L' /\ ∀M x2 x3,m<M->x2.n+m<=1000->x3.n+m<=1000->Ar8 M (VF N l') w' x2 x3 i=some (KV x2 x3 L'):=by
 obtain⟨hl,_,_,hk,x,y,_,_⟩:=hf;have h6:=x.1;obtain⟨z,_,_,a0,a1,_,_,_⟩:=Yo s ⟨hl,‹_›, ‹_›,hk,x,y,‹_›, ‹_›⟩;have c:l'.If.n=l.If.n:=s.cond.1.symm;have d:l'.Out.n=l.Out.n:=s.out.1.symm;intro m
 induction m with
 |zero=>
  intro w w' i a hn o hi hm;have a2:=a.1;refine⟨[],[],fun M q=>?_,VD,Bm9 _,trivial,fun M x2 x3 q _ _=>?_⟩
  .obtain⟨M,rfl⟩:∃K,M=K+1:=⟨M-1,by omega⟩;rw[G0,VE,DQ (by omega),Ph]
  obtain⟨M,rfl⟩:∃K,M=K+1:=⟨M-1,by omega⟩;rw[V6,VF,c,d,DQ (by omega),Ph,KV]
 |succ m ih=>
  intro w w' i a hn o hi hm;have a2:=a.1;by_cases hle:i+l.If.n<=w.n
  case neg=>
   refine⟨[],[],fun M q=>?_,VD,by simp,trivial,fun M x2 x3 q _ _=>?_⟩
   .obtain⟨M,rfl⟩:∃K,M=K+1:=⟨M-1,by omega⟩;rw[G0,VE,DQ (by omega),Ph]
   obtain⟨M,rfl⟩:∃K,M=K+1:=⟨M-1,by omega⟩;rw[V6,VF,c,d,DQ (by omega),Ph,KV]
  have hw:okW w:=⟨by omega,fun j hj=>(o j hj).ok⟩;have t:=a.v o;have hw' : okW w':=⟨by omega,fun j hj=>(t j hj).ok⟩;obtain⟨b,e1,h1⟩:=Av9 hN hl hk hw i (by omega);obtain⟨b',e2,h2⟩:=SV hN z a0 hw' i (by omega);obtain rfl:b' = b:=by rw[Bq0,h1,h2,IL s a]
  cases b'
  .obtain⟨L,L',g1,g2,g3,g5,g4⟩:=ih w w' (i+1) a hn o (by omega) (by omega);refine⟨L,L',fun M q=>?_,g2,by omega,g5,fun M x2 x3 q hx hy=>?_⟩
   .obtain⟨M,rfl⟩:∃K,M=K+1:=⟨M-1,by omega⟩;rw[G0,VE,DQ (by omega),Pf,e1,Bm6,Pk nf,Pd];exact g1 M (by omega)
   obtain⟨M,rfl⟩:∃K,M=K+1:=⟨M-1,by omega⟩;rw[V6,VF,c,d,DQ (by omega),Pf,e2,Bm6,Pk nf,Pd];exact g4 M x2 x3 (by omega) (by omega) (by omega)
  have hit:=h1.1 rfl;have hw32:=hit.2.2.2.2.1.1;have r1:=(FQ (N:=N) (by omega) x (by omega) o hle).1;have r2:=(FQ (N:=N) (l:=l') (w:=w') (i:=i) (by omega) a1 (by omega) t (by omega)).2;have r:=LM (N:=N) s a hle;have hrn:=r.1;obtain⟨_,_,p3,p4⟩:=GX (N:=N) (by omega) x o hle;obtain⟨q1,q2⟩:=Aw5 hle o p4;have q1:(Ab N l w i).n=w.n-l.If.n+l.Out.n:=by rw[<- p3];exact q1
  have q2:∀j,j<(Ab N l w i).n->vS ((Ab N l w i).g j):=q2;obtain⟨L,L',g1,g2,g3,g5,g4⟩:=ih (Ab N l w i) (Ab N l' w' i) (if l.If.n=0 then i+l.Out.n+1 else i+l.Out.n) r (by omega) q2 (by split<;>omega) (by split<;>omega);refine⟨((i:Int),Ab N l w i)::L,((i:Int),Ab N l' w' i)::L',fun M q=>?_,Yp q2 g2,by simp;omega,⟨rfl,r,g5⟩,fun M x2 x3 q hx hy=>?_⟩
  .obtain⟨M,rfl⟩:∃K,M=K+1:=⟨M-1,by omega⟩;rw[G0,VE,DQ (by omega),Pf,e1,Bm6,Pj,r1,Bm6,DQ (by omega),Pd];have g1:=g1 M (by omega);by_cases f:l.If.n=0
   .rw[Pk f]at g1;rw[Pk (by simp[f]),g1];rfl
   rw[Pl f]at g1;rw[Pl (by simp[f]),g1];rfl
  obtain⟨M,rfl⟩:∃K,M=K+1:=⟨M-1,by omega⟩;rw[V6,VF,c,d,DQ (by omega),Pf,e2,Bm6,Pj,r2,Bm6,DQ (by omega),Pd,KV];by_cases u:32<(Ab N l' w' i).n
  .rw[Pf,Pk u]
  rw[Ph,Pl u,Pk (by show ((x2.n+1)*8<=_/\x2.n+1<=_)/\(x3.n+1)*24<=_/\x3.n+1<=_;omega)];have g4:=g4 M (x2.push (i:Int)) (x3.push (Ab N l' w' i)) (by omega) (by show x2.n+1+m<=_;omega) (by show x3.n+1+m<=_;omega);by_cases f:l.If.n=0
  .rw[Pk f]at g4;rw[Pk (by simp[f]),g4]
  rw[Pl f]at g4;rw[Pl (by simp[f]),g4]
def Aw9 (N:Nat)(l:Law)(a:Sl Sm->Int->Option VC)(x7:Sl Sm)(x8:Int):Option VC:= if (decide (0<=x8)) then (CB N l x7 x8).bind fun c=>if (!c) then a x7 (wrap .i64 (x8-1)) else (S3 N l x7 x8).bind fun b=>Az (x8,b) (a b (wrap .i64 (x8-(if (l.If.n:Int)<1 then 1 else (l.If.n:Int))))) else some []
def Ax0 (N:Nat)(l:Law)(a:Sl Sm->Sl Int->Sl (Sl Sm)->Int->Option AJ9)(x1:Sl Sm)(x2:Sl Int)(x3:Sl (Sl Sm))(x4:Int):Option AJ9:= if (decide (0<=x4)) then (AK N l x1 x4).bind fun y5=>if (!y5) then a x1 x2 x3 (wrap .i64 (x4-1)) else (R7 N l x1 x4).bind fun y6=>if (decide (32<(y6.n:Int))) then some (Sh,Sk,11) else if (((x2.n+(Sl.of [x4]:Sl Int).n)*8<=140737488355328/\x2.n+(Sl.of [x4]:Sl Int).n<=140737488355328)/\((x3.n+(Sl.of [y6]:Sl (Sl Sm)).n)*24<=140737488355328/\x3.n+(Sl.of [y6]:Sl (Sl Sm)).n<=140737488355328))then if ((l.If.n:Int)==0) then a y6 (x2.push x4) (x3.push y6) (wrap .i64 ((wrap .i64 (x4-(l.If.n:Int)))-1)) else a y6 (x2.push x4) (x3.push y6) (wrap .i64 (x4-(l.If.n:Int))) else none else some (x2,x3,0)
def AK0 (hN:3000<=N){l l' : Law}(hf:Bc0 l)(r:LE l l'):∀(m:Nat) (w w' : Sl Sm) (i:Int),SE w w' -> w.n<=100->(∀j,j<w.n->vS (w.g j)) -> -100<=i->i+1<=m->m<=200 ->
 ∃L L',(∀M,m<M->S0 M (Aw9 N l) w i=some L)/\vL L/\L.length<=m/\RL L L' /\ ∀M x2 x3,m<M->x2.n+m<=1000->x3.n+m<=1000->Ar8 M (Ax0 N l') w' x2 x3 i=some (KV x2 x3 L'):=by
 obtain⟨hl,_,_,hk,x,y,_,_⟩:=hf;have h6:=x.1;obtain⟨z,_,_,a0,a1,_,_,_⟩:=Yo r ⟨hl,‹_›, ‹_›,hk,x,y,‹_›, ‹_›⟩;have c:l'.If.n=l.If.n:=r.cond.1.symm;have hof:l'.Out.n=l.Out.n:=r.out.1.symm;intro m
 induction m with
 |zero=>
  intro w w' i a hn d hi hm a2;have a3:=a.1;refine⟨[],[],fun M f=>?_,VD,Bm9 _,trivial,fun M x2 x3 f _ _=>?_⟩
  .obtain⟨M,rfl⟩:∃K,M=K+1:=⟨M-1,by omega⟩;rw[G0,Aw9,Ph]
  obtain⟨M,rfl⟩:∃K,M=K+1:=⟨M-1,by omega⟩;rw[V6,Ax0,c,Ph,KV]
 |succ m ih=>
  intro w w' i a hn d hi hm a2;have a3:=a.1;by_cases hle:0<=i
  case neg=>
   refine⟨[],[],fun M f=>?_,VD,by simp,trivial,fun M x2 x3 f _ _=>?_⟩
   .obtain⟨M,rfl⟩:∃K,M=K+1:=⟨M-1,by omega⟩;rw[G0,Aw9,Ph]
   obtain⟨M,rfl⟩:∃K,M=K+1:=⟨M-1,by omega⟩;rw[V6,Ax0,c,Ph,KV]
  obtain⟨k,rfl⟩:∃k:Nat,i=(k:Int):=⟨i.toNat,by omega⟩;have hw:okW w:=⟨by omega,fun j hj=>(d j hj).ok⟩;have s:=a.v d;have hw' : okW w':=⟨by omega,fun j hj=>(s j hj).ok⟩;obtain⟨b,e1,h1⟩:=Av9 hN hl hk hw k (by omega);obtain⟨b',e2,h2⟩:=SV hN z a0 hw' k (by omega);obtain rfl:b' = b:=by rw[Bq0,h1,h2,IL r a]
  cases b'
  .obtain⟨L,L',g1,g2,g3,g5,g4⟩:=ih w w' ((k:Int)-1) a hn d (by omega) (by omega) (by omega);refine⟨L,L',fun M f=>?_,g2,by omega,g5,fun M x2 x3 f hx hy=>?_⟩
   .obtain⟨M,rfl⟩:∃K,M=K+1:=⟨M-1,by omega⟩;rw[G0,Aw9,Pk (by simp),e1,Bm6,Pk nf,F1 (by omega) (by omega)];exact g1 M (by omega)
   obtain⟨M,rfl⟩:∃K,M=K+1:=⟨M-1,by omega⟩;rw[V6,Ax0,c,Pk (by simp),e2,Bm6,Pk nf,F1 (by omega) (by omega)];exact g4 M x2 x3 (by omega) (by omega) (by omega)
  have t:=h1.1 rfl;have hle:=t.1;have hw32:=t.2.2.2.2.1.1;have r1:=(FQ (N:=N) (by omega) x (by omega) d hle).1;have r2:=(FQ (N:=N) (l:=l') (w:=w') (i:=k) (by omega) a1 (by omega) s (by omega)).2;have o:=LM (N:=N) r a hle;have hrn:=o.1;obtain⟨_,_,p3,p4⟩:=GX (N:=N) (by omega) x d hle;obtain⟨q1,q2⟩:=Aw5 hle d p4;have q1:(Ab N l w k).n=w.n-l.If.n+l.Out.n:=by rw[<- p3];exact q1
  have q2:∀j,j<(Ab N l w k).n->vS ((Ab N l w k).g j):=q2;obtain⟨L,L',g1,g2,g3,g5,g4⟩:=ih (Ab N l w k) (Ab N l' w' k) (if l.If.n=0 then (k:Int)-1 else (k:Int)-l.If.n) o (by omega) q2 (by split<;>omega) (by split<;>omega) (by omega);refine⟨((k:Int),Ab N l w k)::L,((k:Int),Ab N l' w' k)::L',fun M f=>?_,Yp q2 g2,by simp;omega,⟨rfl,o,g5⟩,fun M x2 x3 f hx hy=>?_⟩
  .obtain⟨M,rfl⟩:∃K,M=K+1:=⟨M-1,by omega⟩;rw[G0,Aw9,Pk (by simp),e1,Bm6,Pj,r1,Bm6];have g1:=g1 M (by omega);by_cases q:l.If.n=0
   .rw[Pk q]at g1;rw[Pe,F1 (by omega) (by omega),g1];rfl
   rw[Pl q]at g1;rw[Pg,F1 (by omega) (by omega),g1];rfl
  obtain⟨M,rfl⟩:∃K,M=K+1:=⟨M-1,by omega⟩;rw[V6,Ax0,c,Pk (by simp),e2,Bm6,Pj,r2,Bm6,KV];by_cases u:32<(Ab N l' w' k).n
  .rw[Pf,Pk u]
  rw[Ph,Pl u,Pk (by show ((x2.n+1)*8<=_/\x2.n+1<=_)/\(x3.n+1)*24<=_/\x3.n+1<=_;omega)];have g4:=g4 M (x2.push (k:Int)) (x3.push (Ab N l' w' k)) (by omega) (by show x2.n+1+m<=_;omega) (by show x3.n+1+m<=_;omega);rw[F1 (n:=(k:Int)-(l.If.n:Int)) (by omega) (by omega)];by_cases q:l.If.n=0
  .rw[Pk q]at g4;rw[Pk (by simp[q]),F1 (by omega) (by omega),show (k:Int)-(l.If.n:Int)-1=(k:Int)-1 by omega,g4]
  rw[Pl q]at g4;rw[Pl (by simp[q]),g4]
end Go.AM
namespace Go.AM
open IntKind (wrap)
open Go.Proofs
abbrev AllS:=Sl Sm×Int×Int
def Mf (N:Nat)(l:Law)(q0:Sl Sm)(a:AllS->Option VC)(x1:Int)(z1:AllS):Option VC:= if (decide (x1<z1.2.1)) then a (z1.1,z1.2.1,z1.2.2) else if (((0:Int)<=(wrap .i64 (x1+z1.2.2))/\(wrap .i64 (x1+z1.2.2))<=(z1.1.n:Int))/\((0:Int)<=x1/\x1<=(wrap .i64 (x1+(l.If.n:Int)))/\(wrap .i64 (x1+(l.If.n:Int)))<=(q0.n:Int)))then (O9 N l (q0.sub x1.toNat (wrap .i64 (x1+(l.If.n:Int))).toNat)).bind fun y6=>if ((0:Int)<=(wrap .i64 (x1+(l.If.n:Int)))/\(wrap .i64 (x1+(l.If.n:Int)))<=(q0.n:Int))then (B6 N (Sl.of [z1.1.take (wrap .i64 (x1+z1.2.2)).toNat,y6,q0.drop (wrap .i64 (x1+(l.If.n:Int))).toNat]:Sl (Sl Sm))).bind fun y7=>Az (x1,y7) (a (y7,wrap .i64 (x1+(if (l.If.n:Int)<1 then 1 else (l.If.n:Int))),wrap .i64 ((wrap .i64 (z1.2.2+(l.Out.n:Int)))-(l.If.n:Int)))) else none else none
def Bc2 (N:Nat)(a:Law)(b:Sl Sm)(c:Sl Int->Sl (Sl Sm)->Sl Sm->Int->Option AJ9)(x2:Sl Int)(x3:Sl (Sl Sm))(x4:Sl Sm)(x5:Int):Option AJ9:= if (decide (x5<=(b.n:Int))) then (AK N a b x5).bind fun y5=>if (!y5) then lt (fun (z3:Sl Sm)=>c x2 x3 z3 (wrap .i64 (x5+1))) fun k3=>if (decide (x5<(b.n:Int))) then if (((0:Int)<=x5/\x5<(b.n:Int))/\((x4.n+(Sl.of [b.g x5.toNat]:Sl Sm).n)*8<=140737488355328/\x4.n+(Sl.of [b.g x5.toNat]:Sl Sm).n<=140737488355328))then k3 (x4.push (b.g x5.toNat)) else none else k3 x4 else if ((0:Int)<=x5/\x5<=(wrap .i64 (x5+(a.If.n:Int)))/\(wrap .i64 (x5+(a.If.n:Int)))<=(b.n:Int))then (Bv N a (b.sub x5.toNat (wrap .i64 (x5+(a.If.n:Int))).toNat)).bind fun y6=>if ((x4.n+y6.n)*8<=140737488355328/\x4.n+y6.n<=140737488355328)then if ((x2.n+(Sl.of [x5]:Sl Int).n)*8<=140737488355328/\x2.n+(Sl.of [x5]:Sl Int).n<=140737488355328)then if ((((Sj.n+(x4.app y6).n)*8<=140737488355328/\Sj.n+(x4.app y6).n<=140737488355328)/\((0:Int)<=(wrap .i64 (x5+(a.If.n:Int)))/\(wrap .i64 (x5+(a.If.n:Int)))<=(b.n:Int)))/\(((Sj.app (x4.app y6)).n+(b.drop (wrap .i64 (x5+(a.If.n:Int))).toNat).n)*8<=140737488355328/\(Sj.app (x4.app y6)).n+(b.drop (wrap .i64 (x5+(a.If.n:Int))).toNat).n<=140737488355328))then if (decide (32<(((Sj.app (x4.app y6)).app (b.drop (wrap .i64 (x5+(a.If.n:Int))).toNat)).n:Int))) then some (Sh,Sk,11) else if ((x3.n+(Sl.of [(Sj.app (x4.app y6)).app (b.drop (wrap .i64 (x5+(a.If.n:Int))).toNat)]:Sl (Sl Sm)).n)*24<=140737488355328/\x3.n+(Sl.of [(Sj.app (x4.app y6)).app (b.drop (wrap .i64 (x5+(a.If.n:Int))).toNat)]:Sl (Sl Sm)).n<=140737488355328)then if ((a.If.n:Int)==0) then if (decide ((wrap .i64 (x5+(a.If.n:Int)))<(b.n:Int))) then if (((0:Int)<=(wrap .i64 (x5+(a.If.n:Int)))/\(wrap .i64 (x5+(a.If.n:Int)))<(b.n:Int))/\(((x4.app y6).n+(Sl.of [b.g (wrap .i64 (x5+(a.If.n:Int))).toNat]:Sl Sm).n)*8<=140737488355328/\(x4.app y6).n+(Sl.of [b.g (wrap .i64 (x5+(a.If.n:Int))).toNat]:Sl Sm).n<=140737488355328))then c (x2.push x5) (x3.push ((Sj.app (x4.app y6)).app (b.drop (wrap .i64 (x5+(a.If.n:Int))).toNat))) ((x4.app y6).push (b.g (wrap .i64 (x5+(a.If.n:Int))).toNat)) (wrap .i64 ((wrap .i64 (x5+(a.If.n:Int)))+1)) else none else c (x2.push x5) (x3.push ((Sj.app (x4.app y6)).app (b.drop (wrap .i64 (x5+(a.If.n:Int))).toNat))) (x4.app y6) (wrap .i64 ((wrap .i64 (x5+(a.If.n:Int)))+1)) else c (x2.push x5) (x3.push ((Sj.app (x4.app y6)).app (b.drop (wrap .i64 (x5+(a.If.n:Int))).toNat))) (x4.app y6) (wrap .i64 (x5+(a.If.n:Int))) else none else none else none else none else none else some (x2,x3,0)
abbrev vW (s:Sl Sm):Prop:=∀j,j<s.n->vS (s.g j)
def AO9 {s t:Sl Sm}(h:vW s)(h' : vW t):vW (s.app t):=fun j a=>by
 have a:j<s.n+t.n:=a;show vS (if j<s.n then s.g j else t.g (j-s.n));split
 .exact h j (by assumption)
 exact h' _ (by omega)
def AZ2 {s:Sl Sm}(h:vW s)(k:Nat):vW (s.drop k):=fun j a=>h _ (by have a:j<s.n-k:=a;omega)
def AZ3 {s:Sl Sm}(h:vW s){k:Nat}(hk:k<=s.n):vW (s.take k):=fun j a=>h _ (by have a:j<k:=a;omega)
def VG {x s:Sl Sm}{i:Nat}(b:i<s.n):SE (x.app (s.drop i)) ((x.push (s.g i)).app (s.drop (i+1))):=⟨by show x.n+(s.n-i)=x.n+1+(s.n-(i+1));omega,fun j _=>by
 show (if j<x.n then x.g j else s.g (i+(j-x.n)))=if j<x.n+1 then (if j<x.n then x.g j else s.g i)else s.g (i+1+(j-(x.n+1)))
 by_cases h1:j<x.n
 .rw[Pk h1,Pe,Pk h1]
 rw[Pl h1];by_cases a:j=x.n
 .rw[Pe,Pl h1,a];simp
 rw[Pg];congr 1;omega⟩
def AK1 {a x t:Sl Sm}(h:SE a (x.app t)):SE (a.take x.n) x:=⟨rfl,fun j b=>by
 have b:j<x.n:=b;have hn:a.n=x.n+t.n:=h.1;have e:a.g j=if j<x.n then x.g j else t.g (j-x.n):=h.2 j (by omega)
 rw[Pk b]at e;exact e⟩
def ZS {N:Nat}{l:Law}{w:Sl Sm}{K:AllS->Option VC}{acc:Sl Sm}{next sh:Int}:∀(d i:Nat),((i+d:Nat):Int)<=next->Q5 (Ey l w i) (Mf N l w) K (acc,next,sh)=Q5 (Ey l w (i+d)) (Mf N l w) K (acc,next,sh)
 |0,i,_=>rfl
 |d+1,i,h=>by
  have ih:=ZS (N:=N) (l:=l) (w:=w) (K:=K) (acc:=acc) (next:=next) (sh:=sh) d (i+1) (by omega);rw[show i+(d+1)=i+1+d by omega,<- ih];by_cases a:QX l w i
  .rw[JZ (by have:=a.1;omega) a];show Mf N l w (Q5 (Ey l w (i+1)) (Mf N l w) K) (i:Int) (acc,next,sh)=_;unfold Mf;rw[Pf]
  rw[Ka a]
def AZ4 {N:Nat}(hN:3000<=N){l l' : Law}(hf:Bc0 l)(he:LE l l'){w w' : Sl Sm}(b:SE w w')(hn:w.n<=32)(hv:vW w):∀(m i:Nat) (x4 acc:Sl Sm) (sh next:Int),i<=w.n+1->w.n+1<=i+m ->
 (i<=w.n->SE acc (x4.app (w'.drop i))/\(x4.n:Int)=i+sh)->next<=i->x4.n<=7*i->vW acc -> -1000<=sh->sh<=1000 ->
 ∃L L',Q5 (Ey l w i) (Mf N l w) (fun _=>some []) (acc,next,sh)=some L/\vL L/\L.length<=m/\RL L L' /\ ∀M x2 x3,m<M->x2.n+m<=1000->x3.n+m<=1000->Ar8 M (Bc2 N l' w') x2 x3 x4 i=some (KV x2 x3 L'):=by
 obtain⟨hl,_,_,hk,ho,hko,_,_⟩:=hf;have h6:=ho.1;obtain⟨hl',_,_,hk',ho',_,_,_⟩:=Yo he ⟨hl,‹_›, ‹_›,hk,ho,hko,‹_›, ‹_›⟩;have d:l'.If.n=l.If.n:=he.cond.1.symm;have hn':=b.1;have hw:okW w:=⟨by omega,fun j hj=>(hv j hj).ok⟩;have r : vW w':=b.v hv;have hw' : okW w':=⟨by omega,fun j hj=>(r j hj).ok⟩;have fin:∀(m i:Nat) (x4 acc:Sl Sm) (sh next:Int),w.n<i->∃L L',Q5 (Ey l w i) (Mf N l w) (fun _=>some []) (acc,next,sh)=some L/\vL L/\L.length<=m/\RL L L' /\ ∀M x2 x3,m<M->x2.n+m<=1000->x3.n+m<=1000->Ar8 M (Bc2 N l' w') x2 x3 x4 i=some (KV x2 x3 L'):=by
  intro m i x4 acc sh next hi
  refine⟨[],[],by rw[KT (by omega)];rfl,VD,by simp,trivial,fun M x2 x3 hM _ _=>?_⟩;obtain⟨M,rfl⟩:∃K,M=K+1:=⟨M-1,by omega⟩;rw[V6,Bc2,Ph,KV]
 intro m
 induction m with
 |zero=>exact fun i x4 acc sh next h1 t _ _ _ _ _ _=>fin 0 i x4 acc sh next (by omega)
 |succ m ih=>
  intro i x4 acc sh next hi hm hx hnx h7 f u x
  by_cases hle:i<=w.n
  case neg=>exact fin _ i x4 acc sh next (by omega)
  obtain⟨o,hnn⟩:=hx hle;have han:acc.n=x4.n+(w.n-i):=by rw[o.1];show x4.n+(w'.n-i)=_;omega
  obtain⟨b',e2,t⟩:=SV hN hl' hk' hw' i (by omega);have t:=t.trans (IL he b).symm;cases b'
  .have hno:¬QX l w i:=fun h=>by have:=t.2 h;cases this
   rw[Ka hno];by_cases y:i<w.n
   .obtain⟨L,L',g1,g2,g3,g5,g4⟩:=ih (i+1) (x4.push (w'.g i)) acc sh next (by omega) (by omega) (fun _=>⟨o.trans (VG (by omega)),by show ((x4.n+1:Nat):Int)=_;omega⟩) (by omega) (by show x4.n+1<=_;omega) f u x
    refine⟨L,L',g1,g2,by omega,g5,fun M x2 x3 hM hx hy=>?_⟩;obtain⟨M,rfl⟩:∃K,M=K+1:=⟨M-1,by omega⟩;rw[V6,Bc2,d,Pf,e2,Bm6,Pk nf,lt,Pf,Pk ⟨by omega,by show (x4.n+1)*8<=_/\x4.n+1<=_;omega⟩,Pd,Bm2];exact g4 M x2 x3 (by omega) (by omega) (by omega)
   obtain⟨L,L',g1,g2,g3,g5,g4⟩:=ih (i+1) x4 acc sh next (by omega) (by omega) (fun h=>by omega) (by omega) (by omega) f u x
   refine⟨L,L',g1,g2,by omega,g5,fun M x2 x3 hM hx hy=>?_⟩;obtain⟨M,rfl⟩:∃K,M=K+1:=⟨M-1,by omega⟩;rw[V6,Bc2,d,Pf,e2,Bm6,Pk nf,lt,Ph,Pd];exact g4 M x2 x3 (by omega) (by omega) (by omega)
  have z:=t.1 rfl;have a0:=z.1;rw[JZ hle z];obtain⟨p1,_,p3,p4⟩:=GX (N:=N) (by omega) ho hv a0;obtain⟨_,p2,_,_⟩:=GX (N:=N) (l:=l') (i:=i) (by omega) ho' r (by omega);rw[<- OH he b a0,d]at p2;generalize hY:HH N l w i=Y at p1 p2 p3 p4;have c:SE (((acc.take x4.n).app Y).app (w.drop (i+l.If.n))) ((x4.app Y).app (w'.drop (i+l.If.n))):=((AK1 o).app (SE.refl _)).app (b.drop _);have q:vW (((acc.take x4.n).app Y).app (w.drop (i+l.If.n))):=AO9 (AO9 (AZ3 f (by omega)) p4) (AZ2 hv _);generalize hZ:(((acc.take x4.n).app Y).app (w.drop (i+l.If.n)))=Z at c q;have hZn:Z.n=x4.n+Y.n+(w.n-(i+l.If.n)):=by rw[<- hZ]
  obtain⟨L,L',g1,g2,g3,g5,g4⟩:=ih (if l.If.n=0 then i+1 else i+l.If.n) (if l.If.n=0/\i<w.n then (x4.app Y).push (w'.g i)else x4.app Y) Z (sh+l.Out.n-l.If.n) (if l.If.n=0 then i+1 else i+l.If.n:Nat)
   (by split<;>omega) (by split<;>omega)
   (fun h=>by
    by_cases a:l.If.n=0
    .rw[Pk a]at h;rw[Pk a,Pk ⟨a,by omega⟩];rw[a]at c;exact⟨c.trans (VG (by omega)),by show ((x4.n+Y.n+1:Nat):Int)=_;omega⟩
    rw[Pl a,Pg];exact⟨c,by show ((x4.n+Y.n:Nat):Int)=_;omega⟩)
   (by omega)
   (by
    by_cases a:l.If.n=0
    .rw[Pk a];split
     .show x4.n+Y.n+1<=_;omega
     show x4.n+Y.n<=_;omega
    rw[Pl a,Pg];show x4.n+Y.n<=_;omega)
   q (by omega) (by omega)
  refine⟨((i:Int),Z)::L,((i:Int),(x4.app Y).app (w'.drop (i+l.If.n)))::L', ?_,Yp q g2,by simp;omega,⟨rfl,c,g5⟩,fun M x2 x3 hM hx hy=>?_⟩
  .show Mf N l w (Q5 (Ey l w (i+1)) (Mf N l w) fun _=>some []) (i:Int) (acc,next,sh)=_;unfold Mf;have es:wrap .i64 ((i:Int)+sh)=((x4.n:Nat):Int):=by rw[F1 (by omega) (by omega),hnn]
   simp only[es];rw[DQ (by omega),Ph,Pe];simp only[Bm2];rw[p1,Bm6,Pe,Aw6 (by omega) (by show x4.n<=_;omega) (by omega) (by show w.n-(i+l.If.n)<=_;omega),Bm6,hZ];have en:wrap .i64 ((i:Int)+(if (l.If.n:Int)<1 then 1 else (l.If.n:Int)))=((if l.If.n=0 then i+1 else i+l.If.n:Nat):Int):=by
    by_cases a:l.If.n=0
    .rw[Pe,Pk a,F1 (by omega) (by omega)];omega
    rw[Pg,Pl a,F1 (by omega) (by omega)];omega
   have eh:wrap .i64 ((wrap .i64 (sh+(l.Out.n:Int)))-(l.If.n:Int))=sh+l.Out.n-l.If.n:=by rw[F1 (n:=sh+(l.Out.n:Int)) (by omega) (by omega),F1 (by omega) (by omega)]
   rw[en,eh];have sk:=ZS (N:=N) (l:=l) (w:=w) (K:=fun _=>some []) (acc:=Z) (next:=((if l.If.n=0 then i+1 else i+l.If.n:Nat):Int)) (sh:=sh+l.Out.n-l.If.n) (if l.If.n=0 then 0 else l.If.n-1) (i+1) (by split<;>omega);rw[show i+1+(if l.If.n=0 then 0 else l.If.n-1)=(if l.If.n=0 then i+1 else i+l.If.n) by split<;>omega]at sk;show Az _ (Q5 (Ey l w (i+1)) (Mf N l w) (fun _=>some []) (Z,_,_))=_;rw[sk,g1];rfl
  obtain⟨M,rfl⟩:∃K,M=K+1:=⟨M-1,by omega⟩;have hdn:((x4.app Y).app (w'.drop (i+l.If.n))).n=x4.n+Y.n+(w'.n-(i+l.If.n)):=rfl;rw[V6,Bc2,d,Pf,e2,Bm6,Pj,DQ (by omega),Pe];simp only[Bm2];rw[p2,Bm6,Pe,Pk (by show (x2.n+1)*8<=_/\x2.n+1<=_;omega)];rw[Pk ⟨⟨by show (0+(x4.n+Y.n))*8<=_/\0+(x4.n+Y.n)<=_;omega,by omega⟩,by simp only[Bx3];omega⟩,KV];by_cases a1:32<((x4.app Y).app (w'.drop (i+l.If.n))).n
  .rw[Pk (by simp only[Pp,Bx3];omega),Pk a1]
  rw[Pl (by simp only[Pp,Bx3];omega),Pl a1,AY8 (s:=Sj) rfl,Pk (by show (x3.n+1)*24<=_/\x3.n+1<=_;omega)];have g4:=g4 M (x2.push (i:Int)) (x3.push ((x4.app Y).app (w'.drop (i+l.If.n)))) (by omega) (by show x2.n+1+m<=_;omega) (by show x3.n+1+m<=_;omega);by_cases a:l.If.n=0
  .rw[Pk (by simp[a])];rw[Pk a]at g4;by_cases y:i<w.n
   .rw[Pk ⟨a,y⟩]at g4;rw[Pk (by simp only[Pp];omega),Pk ⟨by omega,by show (x4.n+Y.n+1)*8<=_/\x4.n+Y.n+1<=_;omega⟩,Pd,show w'.g (i+l.If.n)=w'.g i by rw[a];rfl,show i+l.If.n+1=i+1 by omega];exact g4
   rw[Pg]at g4;rw[Pl (by simp only[Pp];omega),Pd,show i+l.If.n+1=i+1 by omega];exact g4
  rw[Pl (by simp[a])];rw[Pl a,Pg]at g4;exact g4
def trS (r r' : AJ9):Prop:=r.1=r'.1/\r.2.1.n=r'.2.1.n/\(∀i,i<r.2.1.n->SE (r.2.1.g i) (r'.2.1.g i))/\r.2.2=r'.2.2
def AP0:∀(L L' : VC) (x:Sl Int) (y y' : Sl (Sl Sm)),RL L L' -> y.n=y'.n->(∀i,i<y.n->SE (y.g i) (y'.g i))->trS (KV x y L) (KV x y' L')
 |[],[],x,y,y',_,h1,h2=>⟨rfl,h1,h2,rfl⟩
 |(p,v)::L,(q,u)::M,x,y,y',⟨h3,h4,h5⟩,h1,h2=>by
  subst h3;unfold KV;rw[<- h4.1];split
  .exact⟨rfl,rfl,fun i a=>Pm a (Bp1 i),rfl⟩
  refine AP0 L M _ _ _ h5 (by show y.n+1=y'.n+1;omega) fun i a=>?_;have a:i<y.n+1:=a;show SE (if i<y.n then y.g i else v) (if i<y'.n then y'.g i else u);rw[<- h1];split
  .exact h2 i (by assumption)
  exact h4
 |[],_::_,_,_,_,h,_,_=>h.elim
 |_::_,[],_,_,_,h,_,_=>h.elim
def Ax1:∀(L:VC) (x:Sl Int) (y:Sl (Sl Sm)),vL L->(∀i,i<y.n->wOk (y.g i))->(KV x y L).2.2=11 \/ ((KV x y L).2.2=0/\(KV x y L).2.1.n<=y.n+L.length/\∀i,i<(KV x y L).2.1.n->wOk ((KV x y L).2.1.g i))
 |[],x,y,_,h=>.inr ⟨rfl,Bm9 _,h⟩
 |(p,v)::L,x,y,hv,h=>by
  unfold KV;split
  .exact .inl rfl
  have:=Ax1 L (x.push p) (y.push v) (fun z b=>hv z (Bo0 _ b)) fun i d=>by
   show wOk (if i<y.n then y.g i else v);split
   .exact h i (by assumption)
   exact⟨by omega,hv (p,v) (by simp)⟩
  rcases this with h|⟨h1,a,c⟩
  .exact .inl h
  refine .inr ⟨h1,?_,c⟩;have a:_<=y.n+1+L.length:=a;simp only[Br0];omega
def VH:∀(L:VC) (x:Sl Int) (y:Sl (Sl Sm)),x.n+L.length<=100000->y.n+L.length<=100000 ->
 Q5 L (fun (a:Sl Int×Sl (Sl Sm)->Option AJ9) (x1:Int×(Sl Sm)) (z1:(Sl Int)×(Sl (Sl Sm)))=>
  if (decide (32<(x1.2.n:Int))) then
   some (Sh,Sk,11)
  else
   if ((z1.1.n+(Sl.of [x1.1]:Sl Int).n)*8<=140737488355328/\z1.1.n+(Sl.of [x1.1]:Sl Int).n<=140737488355328)then
    if ((z1.2.n+(Sl.of [x1.2]:Sl (Sl Sm)).n)*24<=140737488355328/\z1.2.n+(Sl.of [x1.2]:Sl (Sl Sm)).n<=140737488355328)then
     a (z1.1.push x1.1,z1.2.push x1.2)
    else none
   else none
  ) (fun (z1:(Sl Int)×(Sl (Sl Sm)))=>
   some (z1.1,z1.2,0)
  ) (x,y)=some (KV x y L)
 |[],x,y,_,_=>rfl
 |(p,v)::L,x,y,hx,hy=>by
  simp only[Br0]at hx hy;have ih:=VH L (x.push p) (y.push v) (by show x.n+1+_<=_;omega) (by show y.n+1+_<=_;omega);rw[Q5,KV];by_cases h:32<v.n
  .rw[Pf,Pk h]
  rw[Ph,Pl h,Pk (by show (x.n+1)*8<=_/\x.n+1<=_;omega),Pk (by show (y.n+1)*24<=_/\y.n+1<=_;omega)];exact ih
def trE (N:Nat)(l:Law)(w:Sl Sm)(r:AJ9):Prop:=(r.2.2=17/\¬chkAll N l) \/ (chkAll N l/\ZO w r.2.2/\r.2.2≠0) \/ (chkAll N l/\wOk w/\(r.2.2=11 \/ (r.2.2=0/\r.2.1.n<=1000/\∀i,i<r.2.1.n->wOk (r.2.1.g i))))
def Ax2 (e:Int):trS (Sh,Sk,e) (Sh,Sk,e):=⟨rfl,rfl,fun i a=>Pm a (Bp1 i),rfl⟩
def AP1 {w w' : Sl Sm}(h:SE w w'){e:Int}(hw:ZO w e):ZO w' e:=by
 rcases hw with⟨h1,a⟩ | ⟨h1,⟨i,b,a⟩,c⟩ | ⟨h1,a⟩
 .exact .inl ⟨by rw[<- h.1];exact h1,a⟩
 .exact .inr (.inl ⟨by rw[<- h.1];exact h1,⟨i,by rw[<- h.1];exact b,by rw[<- h.2 i b];exact a⟩,c⟩)
 exact .inr (.inr ⟨h.wOk h1,a⟩)
def Bj2 {w w' : Sl Sm}(h:SE w w')(hw:∀i,i<w.n->okS (w.g i)):∀i,i<w'.n->okS (w'.g i):=fun i a=>by rw[<- h.2 i (by rw[h.1];exact a)];exact hw i (by rw[h.1];exact a)
def Ax3 {N:Nat}(u:3000000<=N){l l' : Law}(hl:OF l)(hle:LE l l'){w w' : Sl Sm}(a:SE w w')(hw:∀i,i<w.n->okS (w.g i)) :∃r r',DL N l w=some r/\Dm N l' w' = some r' /\ trS r r' /\ trE N l w r:=by
 obtain⟨e,e1,_,v⟩:=Fe u hl;obtain⟨e0,_,e2,q⟩:=Fe u (Mo hle hl);obtain rfl:=VA (AZ1 hle v) q;unfold DL Dm FH Fl;rw[e1,e2,Bm6,Bm6];rcases v with⟨rfl,hc⟩ | ⟨rfl,hc⟩
 case inr=>rw[Pk (by decide),Pk (by decide)];exact⟨_,_,rfl,rfl,Ax2 17,.inl ⟨rfl,hc⟩⟩
 rw[Pl (by decide),Pl (by decide)];obtain⟨e',e3,c⟩:=JY (N:=N) (by omega) hw;obtain⟨e'',e4,j⟩:=Hw (N:=N) (by omega) (Bj2 a hw);obtain rfl:=OE (AP1 a c) j;rw[e3,e4];simp only[Bm6];by_cases d:e' = 0
 case neg=>rw[Pk (by simpa using d),Pk (by simpa using d)];exact⟨_,_,rfl,rfl,Ax2 e', .inr (.inl ⟨hc,c,d⟩)⟩
 rw[Pl (by simp[d]),Pl (by simp[d])];have b:wOk w:=(CH c).1 d;have o:=hc.f hl;obtain⟨s,_,_,hk,ho,y,z,a0⟩:=id o;have hn:=b.1;have t:=a.1;have key:∃L L',Cn N w l (l.If.n:Int) (l.Out.n:Int)=some L/\vL L/\L.length<=100/\RL L L' /\
  (if (l'.Mode==1) then (Gr N l' w').bind fun y2=>some (y2.1,y2.2.1,y2.2.2)
   else if (l'.Mode==2) then (Dl N l' w').bind fun y3=>some (y3.1,y3.2.1,y3.2.2)
   else (Dd N l' w').bind fun y4=>some (y4.1,y4.2.1,y4.2.2))=some (KV Sh Sk L'):=by
  unfold Cn;rw[hle.mode];by_cases c1:l.Mode=1
  .rw[Pk (show (l.Mode==1)=true by simp[c1]),Pk (show (l.Mode==1)=true by simp[c1])];obtain⟨L,L',g1,g2,g3,g5,g4⟩:=AZ4 (N:=N) (by omega) o hle a hn b.2 (w.n+1) 0 Si w 0 0 (by omega) (by omega) (fun _=>⟨by rw[AY8 rfl];exact⟨a.1,fun i m=>by rw[a.2 i m];show _=w'.g (0+i);rw[Br1]⟩,rfl⟩) (by omega) (by show 0<=_;omega) b.2 (by omega) (by omega);have hh:=ZQ (N:=N) (by omega) s hk (w:=w) (vOk b) 0 (by omega);refine⟨L,L', ?_,g2,by omega,g5,?_⟩
   .show ((Z7 N l w ((0:Nat):Int)).bind fun L1=>Q5 L1 (Mf N l w) (fun _=>some []) (w,0,0))=_;rw[hh,Bm6];exact g1
   have:Gr N l' w' = some _:=g4 N Sh Sk (by omega) (by show 0+_<=_;omega) (by show 0+_<=_;omega)
   rw[this];rfl
  rw[Pl (show ¬(l.Mode==1)=true by simp[c1]),Pl (show ¬(l.Mode==1)=true by simp[c1])];by_cases c2:l.Mode=2
  .rw[Pk (show (l.Mode==2)=true by simp[c2]),Pk (show (l.Mode==2)=true by simp[c2])];obtain⟨L,L',g1,g2,g3,g5,g4⟩:=Aw8 (N:=N) (by omega) o hle (w.n+1) w w' 0 a (by omega) b.2 (by omega) (by omega);refine⟨L,L',g1 N (by omega),g2,by omega,g5,?_⟩
   have:Dl N l' w' = some _:=g4 N Sh Sk (by omega) (by show 0+_<=_;omega) (by show 0+_<=_;omega)
   rw[this];rfl
  have c3:l.Mode=3:=by omega
  rw[Pl (show ¬(l.Mode==2)=true by simp[c2]),Pl (show ¬(l.Mode==2)=true by simp[c2]),Pk (show (l.Mode==3)=true by simp[c3])];obtain⟨L,L',g1,g2,g3,g5,g4⟩:=AK0 (N:=N) (by omega) o hle (w.n+1) w w' ((w.n:Int)-(l.If.n:Int)) a (by omega) b.2 (by omega) (by omega) (by omega);refine⟨L,L', ?_,g2,by omega,g5,?_⟩
  .rw[F1 (by omega) (by omega)];exact g1 N (by omega)
  have g4:=g4 N Sh Sk (by omega) (by show 0+_<=_;omega) (by show 0+_<=_;omega)
  have:Dd N l' w' = some (KV Sh Sk L'):=by unfold Dd;rw[show wrap .i64 ((w'.n:Int)-(l'.If.n:Int))=(w.n:Int)-(l.If.n:Int) by rw[<- t, <- hle.cond.1,F1 (by omega) (by omega)]];exact g4
  rw[this];rfl
 obtain⟨L,L',g1,g2,g3,g5,g4⟩:=key;refine⟨KV Sh Sk L,_,?_,g4,AP0 L L' _ _ _ g5 rfl fun i m=>Pm m (Bp1 i),.inr (.inr ⟨hc,b,?_⟩)⟩
 .rw[JV,Bm6];show ((Cn N w l (l.If.n:Int) (l.Out.n:Int)).bind _)=_;rw[g1,Bm6];exact VH L _ _ (by show 0+_<=_;omega) (by show 0+_<=_;omega)
 rcases Ax1 L Sh Sk g2 fun i m=>Pm m (Bp1 i)with h|⟨h1,x,h3⟩
 .exact .inl h
 exact .inr ⟨h1,by have x:_<=0+L.length:=x;omega,h3⟩
end Go.AM
namespace Go.AM
variable {N:Nat}
open IntKind (wrap)
open Go.Proofs
def apE (N:Nat)(l:Law)(w:Sl Sm)(r:Sl Sm×Int):Prop:=(r.2=17/\¬chkAll N l) \/ (chkAll N l/\ZO w r.2/\r.2≠0) \/ (chkAll N l/\wOk w/\(r.2=11 \/ (r.2=0/\wOk r.1)))
def Kb (o:3000000<=N){l l' : Law}(hl:OF l)(hle:LE l l'){w w' : Sl Sm}(b:SE w w')(hw:∀i,i<w.n->okS (w.g i)) :∃r r',T0 N l w=some r/\BZ N l' w' = some r' /\ SE r.1 r'.1/\r.2=r'.2/\apE N l w r:=by
 obtain⟨⟨x,y,e⟩,⟨x',y',e'⟩,h1,q,⟨_,hn,hs,m⟩,ht⟩:=Ax3 o hl hle b hw;dsimp only at hn hs m;subst m;have t:=b.1;unfold trE at ht;dsimp only at ht;unfold T0 BZ;rw[h1,q,Bm6,Bm6];dsimp only;by_cases a:e=0
 case neg=>
  rw[Pk (show (e != 0)=true by simpa using a),Pk (show (e != 0)=true by simpa using a)];refine⟨_,_,rfl,rfl,SE.refl _,rfl,?_⟩;rcases ht with h|h|⟨j,c,d⟩
  .exact .inl h
  .exact .inr (.inl h)
  exact .inr (.inr ⟨j,c,.inl (d.resolve_right fun h=>a h.1)⟩)
 rw[Pl (show ¬(e != 0)=true by simp[a]),Pl (show ¬(e != 0)=true by simp[a])];rcases ht with h|h|⟨j,c,d⟩
 .exact Pm (h.1.symm.trans a) (by decide)
 .exact Pm a h.2.2
 rcases d with d|⟨_,h6,u⟩
 .exact Pm (d.symm.trans a) (by decide)
 have v:=c.1;by_cases hy:y.n=0
 .rw[Pl (show ¬decide ((0:Int)<(y.n:Int))=true by simp[hy]),Pk (show ((y'.n:Int)==0)=true by simp[<- hn,hy]),Pk (by show (0+w'.n)*8<=_/\0+w'.n<=_;omega),AY8 (s:=Sj) rfl];unfold B7;rw[Pe];exact⟨_,_,rfl,rfl,b,rfl,.inr (.inr ⟨j,c,.inr ⟨rfl,c⟩⟩)⟩
 have hk:=u (y.n-1) (by omega);have f:=hs (y.n-1) (by omega);have hb:=hk.1;have z:=f.1;have e1:wrap .i64 ((y.n:Int)-1)=((y.n-1:Nat):Int):=wrapP (by omega) (by omega);have e2:wrap .i64 ((y'.n:Int)-1)=((y.n-1:Nat):Int):=by rw[<- hn];exact e1
 rw[e1,e2,Bm2,Pk (show decide ((0:Int)<(y.n:Int))=true by simp;omega),Pe,Pl (show ¬((y'.n:Int)==0)=true by simp;omega),Pk ⟨by omega,by show (0+(y'.g (y.n-1)).n)*8<=_/\0+(y'.g (y.n-1)).n<=_;omega⟩,AY8 (s:=Sj) rfl];exact⟨_,_,rfl,rfl,f,rfl,.inr (.inr ⟨j,c,.inr ⟨rfl,hk⟩⟩)⟩
def VJ {s:Sl Law}(m:s.n<N)(hs:s.n<1000000){f:Law->Option Bool}{b:Nat->Bool}(o:∀i,i<s.n->f (s.g i)=some (b i)) :∃r,E1 N s f=some r/\(r=true ↔ ∃i,i<s.n/\b i=true):=by
 unfold E1 F8
 have:∃y,Q7 N (fun (a:Int->Option Int) (x1:Int)=>
  if (decide (x1<(s.n:Int))) then
   if ((0:Int)<=x1/\x1<(s.n:Int))then
    (f (s.g x1.toNat)).bind fun y3=>
    if y3 then
     some x1
    else
     a (wrap .i64 (x1+1))
   else none
  else
   some (-1)) 0=some y/\(0<=y ↔ ∃i,i<s.n/\b i=true):=by
  refine X5 (fun i x1=>x1=(i:Int)/\∀j,j<i->b j=false) s.n _ m ⟨rfl,fun j c=>Pm c (by omega)⟩ ?_;rintro l i x1 q ⟨rfl,h⟩ d;by_cases hl:i<s.n
  .refine An (Am (B3 (by rw[Bm2];exact o i hl) ?_));cases hb:b i
   .refine Oj (d hl _ ⟨Pd,fun j c=>?_⟩);by_cases e:j=i
    .subst e;exact hb
    exact h j (by omega)
   exact ifT rfl ⟨i,rfl,fun _=>⟨i,hl,hb⟩,fun _=>by omega⟩
  refine Oi ⟨-1,rfl,fun h=>Pm h (by decide),?_⟩;rintro⟨j,c,hb⟩;rw[h j (by omega)]at hb;cases hb
 obtain⟨y,e,hy⟩:=this;exact B3 e ⟨_,rfl,by rw[Pp];exact hy⟩
def Mg (N:Nat)(laws:Sl Law)(e:Int):Prop:=(64<laws.n/\e=12) \/ (laws.n<=64/\(∃i,i<laws.n/\¬chkAll N (laws.g i))/\e=17) \/ ((laws.n<=64/\∀i,i<laws.n->chkAll N (laws.g i))/\e=0)
def Hx {laws:Sl Law}{e e' : Int}(h:Mg N laws e)(h' : Mg N laws e'):e=e':=by rcases h with⟨h,rfl⟩ | ⟨h,⟨i,b,a⟩,rfl⟩ | ⟨⟨h,a⟩,rfl⟩<;>rcases h' with⟨g,rfl⟩ | ⟨g,⟨j,c,g2⟩,rfl⟩ | ⟨⟨g,g2⟩,rfl⟩<;>first|rfl|(exfalso;omega)|exact Pm (g2 i b) a|exact Pm (a j c) g2
def LS (s t:Sl Law):Prop:=s.n=t.n/\∀i,i<s.n->LE (s.g i) (t.g i)
def LS.refl (s:Sl Law):LS s s:=⟨rfl,fun _ _=>LE.refl _⟩
def Ax4 {laws laws' : Sl Law}(h:LS laws laws'){e:Int}(hw:Mg N laws e):Mg N laws' e:=by
 have hn:=h.1;rcases hw with⟨h1,a⟩ | ⟨h1,⟨i,c,a⟩,b⟩ | ⟨⟨h1,a⟩,b⟩
 .exact .inl ⟨by omega,a⟩
 .exact .inr (.inl ⟨by omega,⟨i,by omega,fun g=>a ((GY (h.2 i c)).2 g)⟩,b⟩)
 exact .inr (.inr ⟨⟨by omega,fun i c=>(GY (h.2 i (by omega))).1 (a i (by omega))⟩,b⟩)
def GZ (laws:Sl Law):Prop:=∀i,i<laws.n->OF (laws.g i)
def AK2 {laws laws' : Sl Law}(h:LS laws laws')(hl:GZ laws):GZ laws':=fun i a=>by exact Mo (h.2 i (by rw[h.1];exact a)) (hl i (by rw[h.1];exact a))
def QZ (o:3000000<=N){laws:Sl Law}(hl:GZ laws):∃e,W8 N laws=some e/\BX N laws=some e/\Mg N laws e:=by
 have h1:∃e,W8 N laws=some e/\Mg N laws e:=by
  unfold W8;by_cases hn:64<laws.n
  .exact An ⟨12,rfl,.inl ⟨hn,rfl⟩⟩
  refine Oi ?_;have u:∀i,∃b,i<laws.n->R4 N (laws.g i)=some b/\(b=true ↔ ¬chkAll N (laws.g i)):=by
   intro i;by_cases a:i<laws.n
   .obtain⟨e,e1,_,d⟩:=Fe o (hl i a);refine⟨e != 0,fun _=>⟨by unfold R4;rw[e1];rfl,?_⟩⟩;rcases d with⟨rfl,h⟩ | ⟨rfl,h⟩
    .exact⟨fun h=>Pm h (by decide),fun g=>Pm h g⟩
    exact⟨fun _=>h,fun _=>by decide⟩
   exact⟨false,fun h=>Pm h a⟩
  obtain⟨f,l⟩:=Bv0 u;obtain⟨r,e1,h1⟩:=VJ (N:=N) (s:=laws) (by omega) (by omega) (f:=fun u1=>R4 N u1) (fun i a=>(l i a).1);refine B3 e1 ?_;cases q:r
  .refine Oj ⟨0,rfl,.inr (.inr ⟨⟨by omega,fun i a=>Bn7 fun hn=>?_⟩,rfl⟩)⟩
   have:=h1.2 ⟨i,a,(l i a).2.2 hn⟩
   rw[q]at this;cases this
  obtain⟨i,a,hb⟩:=h1.1 q;exact ifT rfl ⟨17,rfl,.inr (.inl ⟨by omega,⟨i,a,(l i a).2.1 hb⟩,rfl⟩)⟩
 have v:∃e,BX N laws=some e/\Mg N laws e:=by
  unfold BX;by_cases hn:64<laws.n
  .exact An ⟨12,rfl,.inl ⟨hn,rfl⟩⟩
  refine Oi ?_;refine X5 (fun i x1=>x1=(i:Int)/\∀j,j<i->chkAll N (laws.g j)) laws.n _ (by omega) ⟨rfl,fun j m=>Pm m (by omega)⟩ ?_;rintro t i x1 a ⟨rfl,h⟩ hs;by_cases c:i<laws.n
  .obtain⟨e,_,e1,d⟩:=Fe o (hl i c);refine An (Am (B3 (by rw[Bm2];exact e1) ?_));rcases d with⟨rfl,hc⟩ | ⟨rfl,hc⟩
   .refine P6 (hs c _ ⟨Pd,fun j m=>?_⟩);by_cases e:j=i
    .subst e;exact hc
    exact h j (by omega)
   exact Ge ⟨17,rfl,.inr (.inl ⟨by omega,⟨i,c,hc⟩,rfl⟩)⟩
  exact Oi ⟨0,rfl,.inr (.inr ⟨⟨by omega,fun j m=>h j (by omega)⟩,rfl⟩)⟩
 obtain⟨e,e1,g1⟩:=h1;obtain⟨e',e2,g2⟩:=v;obtain rfl:=Hx g1 g2;exact⟨_,e1,e2,g1⟩
def AP2 (l:Sl (Sl Sm))(e:Int):Prop:=(e=0/\∀i,i<l.n->wOk (l.g i)) \/ (∃i,i<l.n/\(∀j,j<i->wOk (l.g j))/\ZO (l.g i) e/\e≠0)
def Ak1 (o:3000000<=N){l:Sl (Sl Sm)}(hn:l.n<2000000)(hw:∀i,i<l.n->∀j,j<(l.g i).n->okS ((l.g i).g j)) :∃e,Q7 N (fun (a:Int->Option Int) (x1:Int)=>
  if (decide (x1<(l.n:Int))) then
   if ((0:Int)<=x1/\x1<(l.n:Int))then
    (P4 N (l.g x1.toNat)).bind fun y4=>
    if (y4 != 0) then
     some y4
    else
     a (wrap .i64 (x1+1))
   else none
  else
   some 0
  ) 0=some e/\AP2 l e:=by
 refine X5 (fun i x1=>x1=(i:Int)/\∀j,j<i->wOk (l.g j)) l.n _ (by omega) ⟨rfl,fun j d=>Pm d (by omega)⟩ ?_;rintro f i x1 q ⟨rfl,h⟩ hs;by_cases b:i<l.n
 .obtain⟨e,e1,m⟩:=JY (N:=N) (by omega) (hw i b);refine An (Am (B3 (by rw[Bm2];exact e1) ?_));by_cases c:e=0
  .refine ifF (by simp[c]) (hs b _ ⟨Pd,fun j d=>?_⟩);by_cases e:j=i
   .subst e;exact (CH m).1 c
   exact h j (by omega)
  exact ifT (by simpa using c) ⟨e,rfl,.inr ⟨i,b,h,m,c⟩⟩
 exact Oi ⟨0,rfl,.inl ⟨rfl,fun j d=>h j (by omega)⟩⟩
def AZ5 {w:Sl Sm}{e:Int}(h:AP2 (Sl.of [w]:Sl (Sl Sm)) e):ZO w e:=by
 rcases h with⟨rfl,h⟩ | ⟨i,a,_,h,_⟩
 .exact .inr (.inr ⟨h 0 (by show 0<1;omega),rfl⟩)
 match i,a with
 |0,_=>exact h
def OI (b:3000000<=N){laws:Sl Law}(hl:GZ laws){w:Sl Sm}(hw:∀i,i<w.n->okS (w.g i)) :∃e,Bb N laws (Sl.of [w]:Sl (Sl Sm))=some e/\((Mg N laws e/\e≠0) \/ (Mg N laws 0/\ZO w e)):=by
 unfold Bb;obtain⟨e,e1,_,h1⟩:=QZ b hl;refine B3 e1 ?_;by_cases a:e=0
 case neg=>exact ifT (by simpa using a) ⟨e,rfl,.inl ⟨h1,a⟩⟩
 refine ifF (by simp[a]) (ifF (by show ¬decide ((256:Int)<((1:Nat):Int))=true;decide) ?_);obtain⟨e2,e3,c⟩:=Ak1 (N:=N) b (l:=(Sl.of [w]:Sl (Sl Sm))) (by show 1<_;omega) fun i d=>by
  match i,d with
  |0,_=>exact hw
 exact⟨e2,e3,.inr ⟨a ▸ h1,AZ5 c⟩⟩
def U6 (N:Nat)(c:Int)(q1:Sl Law)(a:Sl Sm->Int->Option VC)(x1:Sl Sm)(x2:Int):Option VC:= if (decide (x2<(q1.n:Int))) then if ((0:Int)<=x2/\x2<(q1.n:Int))then (T0 N (q1.g x2.toNat) x1).bind fun y4=>if (y4.2 != 0) then if y4.2=c then some []else none else Az (wrap .i64 (x2+1),y4.1) (a y4.1 (wrap .i64 (x2+1))) else none else if c=0 then some []else none
def T1 {c:Int}{laws:Sl Law}{a:Sl Sm->Int->Option VC}{w:Sl Sm}{i:Nat}(d:i<laws.n)(b:laws.n<=64){y:Sl Sm×Int}(h:T0 N (laws.g i) w=some y) :U6 N c laws a w (i:Int)=if (y.2 != 0) then (if y.2=c then some []else none)else Az (((i+1:Nat):Int),y.1) (a y.1 ((i+1:Nat):Int)):=by unfold U6;rw[Pk (show decide ((i:Int)<(laws.n:Int))=true by simp;omega),Pe,Bm2,h,Bm6,Pd]
abbrev Bj3:=(Sl (Sl Sm))×Int
def Ha (N:Nat)(a:Sl Law)(b:Sl (Sl Sm)->Int->Option Bj3)(x2:Sl (Sl Sm))(x3:Int):Option Bj3:= if (decide (x3<(a.n:Int))) then if ((((0:Int)<=x3/\x3<(a.n:Int))/\((0:Int)<=x3/\x3<(x2.n:Int)))/\x3.toNat<x2.n)then (BZ N (a.g x3.toNat) (x2.g x3.toNat)).bind fun y7=>if (y7.2 != 0) then some (Sk,y7.2) else if ((x2.n+(Sl.of [y7.1]:Sl (Sl Sm)).n)*24<=140737488355328/\x2.n+(Sl.of [y7.1]:Sl (Sl Sm)).n<=140737488355328)then b (x2.push y7.1) (wrap .i64 (x3+1)) else none else none else some (x2,0)
def Kc:Sl Sm->VC->Sl Sm
 |w,[]=>w
 |_,(_,v)::L=>Kc v L
def Kd:∀(L:VC) (w:Sl Sm),Q5 L (fun (a:Sl Sm->Option (Sl Sm)) (x1:Int×(Sl Sm)) (z1:Sl Sm)=>a x1.2) (fun (z1:Sl Sm)=>some z1) w=some (Kc w L)
 |[],w=>rfl
 |(p,v)::L,w=>Kd L v
def Ih (N:Nat)(laws:Sl Law):Prop:=laws.n<=64/\∀i,i<laws.n->chkAll N (laws.g i)
def Ax5 (x:3000000<=N){laws laws' : Sl Law}(hl:GZ laws)(o:LS laws laws')(q:Ih N laws):∀(m i:Nat) (w w' : Sl Sm),SE w w' -> wOk w->i<=laws.n->laws.n<=i+m ->
 (∃L v',SE (Kc w L) v' /\ wOk (Kc w L)/\(∀M,m<M->S0 M (U6 N 0 laws) w i=some L)/\∀M x2,m<M->x2.n=i+1->x2.g i=w' -> ∃y,S0 M (Ha N laws') x2 i=some (y,0)/\y.n=laws.n+1/\y.g laws.n=v') \/
 ((∃L,∀M,m<M->S0 M (U6 N 0 laws) w i=none/\S0 M (U6 N 11 laws) w i=some L)/\∀M x2,m<M->x2.n=i+1->x2.g i=w' -> S0 M (Ha N laws') x2 i=some (Sk,11)):=by
 have z:=o.1;have b:=q.1;intro m
 induction m with
 |zero=>
  intro i w w' c hw hi hm;refine .inl ⟨[],w',c,hw,fun M d=>?_,fun M x2 d hx f=>⟨x2,?_,by omega,by rw[<- f];congr 1;omega⟩⟩
  .obtain⟨M,rfl⟩:∃K,M=K+1:=⟨M-1,by omega⟩;rw[G0,U6,Ph,Pk rfl]
  obtain⟨M,rfl⟩:∃K,M=K+1:=⟨M-1,by omega⟩;rw[G0,Ha,Ph]
 |succ m ih=>
  intro i w w' c hw hi hm;by_cases a:i<laws.n
  case neg=>
   refine .inl ⟨[],w',c,hw,fun M d=>?_,fun M x2 d hx f=>⟨x2,?_,by omega,by rw[<- f];congr 1;omega⟩⟩
   .obtain⟨M,rfl⟩:∃K,M=K+1:=⟨M-1,by omega⟩;rw[G0,U6,Ph,Pk rfl]
   obtain⟨M,rfl⟩:∃K,M=K+1:=⟨M-1,by omega⟩;rw[G0,Ha,Ph]
  obtain⟨⟨v,e⟩,⟨v',e'⟩,h1,r,s,t,l⟩:=Kb x (hl i a) (o.2 i a) c fun j hj=>(hw.2 j hj).ok;simp only at s t;subst t;rcases l with⟨_,l⟩ | ⟨_,l,h6⟩ | ⟨_,_,l⟩
  .exact Pm (q.2 i a) l
  .exact Pm ((CH l).2 hw) h6
  rcases l with rfl|⟨rfl,hv⟩
  .refine .inr ⟨⟨[],fun M d=>?_⟩,fun M x2 d hx f=>?_⟩
   .obtain⟨M,rfl⟩:∃K,M=K+1:=⟨M-1,by omega⟩;rw[G0,G0,T1 a b h1,T1 a b h1];exact⟨rfl,rfl⟩
   obtain⟨M,rfl⟩:∃K,M=K+1:=⟨M-1,by omega⟩;rw[G0,Ha,Pf,Pe,Bm2,f,r,Bm6,Pk (by simp)]
  rcases ih (i+1) v v' s hv (by omega) (by omega)with⟨L,u,g1,g2,g3,g4⟩ | ⟨⟨L,g1⟩,g2⟩
  .refine .inl ⟨((i+1:Nat),v)::L,u,g1,g2,fun M d=>?_,fun M x2 d hx f=>?_⟩
   .obtain⟨M,rfl⟩:∃K,M=K+1:=⟨M-1,by omega⟩;rw[G0,T1 a b h1,Pj];show Az _ (S0 M (U6 N 0 laws) v _)=_;rw[g3 M (by omega)];rfl
   obtain⟨M,rfl⟩:∃K,M=K+1:=⟨M-1,by omega⟩;rw[G0,Ha,Pf,Pe,Bm2,f,r,Bm6,Pj,Pk (by show (x2.n+1)*24<=_/\x2.n+1<=_;omega),Pd];exact g4 M (x2.push v') (by omega) (by show x2.n+1=_;omega) (by show (if i+1<x2.n then x2.g (i+1)else v')=v';rw[Pg])
  refine .inr ⟨⟨((i+1:Nat),v)::L,fun M d=>?_⟩,fun M x2 d hx f=>?_⟩
  .obtain⟨M,rfl⟩:∃K,M=K+1:=⟨M-1,by omega⟩;obtain⟨a1,a2⟩:=g1 M (by omega);rw[G0,G0,T1 a b h1,T1 a b h1,Pj,Pj];refine⟨?_,?_⟩
   .show Az _ (S0 M (U6 N 0 laws) v _)=_;rw[a1];rfl
   show Az _ (S0 M (U6 N 11 laws) v _)=_;rw[a2];rfl
  obtain⟨M,rfl⟩:∃K,M=K+1:=⟨M-1,by omega⟩;rw[G0,Ha,Pf,Pe,Bm2,f,r,Bm6,Pj,Pk (by show (x2.n+1)*24<=_/\x2.n+1<=_;omega),Pd];exact g2 M (x2.push v') (by omega) (by show x2.n+1=_;omega) (by show (if i+1<x2.n then x2.g (i+1)else v')=v';rw[Pg])
def AK3 {w:Sl Sm}(d:w.n<N)(hs:w.n<10000000):∃y,CY N w=some y/\SE w y:=by
 suffices h:∃y,CY N w=some y/\y=BU w.g w.n by obtain⟨y,h,rfl⟩:=h;exact⟨_,h,(IK _ _).symm,fun i b=>(Yk w.g b).symm⟩
 unfold CY;refine Q0 (fun i x1 x2=>x2=(i:Int)/\x1=BU w.g i) w.n _ d ⟨rfl,rfl⟩ ?_;rintro c i x1 x2 b ⟨rfl,rfl⟩ a;by_cases hl:i<w.n
 .have:=IK w.g i
  refine An (ifT ⟨by omega,by show ((BU w.g i).n+1)*8<=_/\(BU w.g i).n+1<=_;omega⟩ (a hl _ _ ⟨Pd,by rw[Bm2];rfl⟩))
 exact Oi ⟨_,rfl,by congr 1;omega⟩
def deE (N:Nat)(laws:Sl Law)(w:Sl Sm)(r:Sl Sm×Int):Prop:=(Mg N laws r.2/\r.2≠0) \/ (Mg N laws 0/\ZO w r.2/\r.2≠0) \/ (Ih N laws/\wOk w/\(r.2=11 \/ (r.2=0/\wOk r.1)))
def lawsE_zero {laws:Sl Law}:Mg N laws 0↔Ih N laws:=by
 constructor
 .rintro (⟨_,h⟩ | ⟨_,_,h⟩ | ⟨h,_⟩)
  .cases h
  .cases h
  exact h
 exact fun h=>.inr (.inr ⟨h,rfl⟩)
def Ak2 (v:3000000<=N){laws laws' : Sl Law}(hl:GZ laws)(j:LS laws laws'){w w' : Sl Sm}(m:SE w w')(hw:∀i,i<w.n->okS (w.g i)) :∃r r',K3 N laws w=some r/\Bl N laws' w' = some r' /\ SE r.1 r'.1/\r.2=r'.2/\deE N laws w r:=by
 obtain⟨e,e1,h1⟩:=OI v hl hw;obtain⟨a,_,a1,ha⟩:=QZ v (AK2 j hl);unfold K3 Bl Fm;rw[e1,a1,Bm6,Bm6];rcases h1 with⟨h1,u⟩ | ⟨h1,x⟩
 .obtain rfl:=Hx (Ax4 j h1) ha;have d:(e != 0)=true:=by simpa using u
  have o:¬(e==0)=true:=by simpa using u
  rw[Pk d,lt,Pl o];dsimp only;rw[Pk d,Bm6];dsimp only;rw[Pk d];exact⟨_,_,rfl,rfl,SE.refl _,rfl,.inl ⟨h1,u⟩⟩
 obtain rfl:=Hx (Ax4 j h1) ha;rw[lt,Pk (show ((0:Int)==0)=true from rfl)];obtain⟨b,b1,hb⟩:=Hw (N:=N) (by omega) (Bj2 m hw);obtain rfl:=OE (AP1 m x) hb;rw[b1,Bm6];dsimp only;by_cases u:e=0
 case neg=>
  have d:(e != 0)=true:=by simpa using u
  rw[Pk d,Pk d,Bm6];dsimp only;rw[Pk d];exact⟨_,_,rfl,rfl,SE.refl _,rfl,.inr (.inl ⟨h1,x,u⟩)⟩
 have o:¬(e != 0)=true:=by simp[u]
 rw[Pl o,Pl o];have q:=lawsE_zero.1 h1;have s:wOk w:=(CH x).1 u;have a0:=s.1;have a2:=m.1;have a3:=q.1;have a4:=j.1;obtain⟨y4,c1,c2⟩:=AK3 (N:=N) (w:=w') (by omega) (by omega);have t:B7 N w=some w:=by unfold B7;rw[Pe]
 have l:∀c,D5 N c laws w=(Az (0,w) (S0 N (U6 N c laws) w 0)).bind fun L1=>Q5 L1 (fun (f:Sl Sm->Option (Sl Sm)) (x1:Int×(Sl Sm)) (z1:Sl Sm)=>f x1.2) (fun (z1:Sl Sm)=>some z1) Si:=by intro c;unfold D5 Bc W0;rw[Bm6,t,Bm6];rfl
 have z:∀(x2:Sl (Sl Sm)),(S0 N (fun f (x2:Sl (Sl Sm)) (x3:Int)=>Ha N laws' f x2 x3) x2 0)=S0 N (Ha N laws') x2 ((0:Nat):Int):=fun _=>rfl;rw[c1,Bm6];rcases Ax5 v hl j q laws.n 0 w y4 (m.trans c2) s (by omega) (by omega)with⟨L,v',g1,g2,g3,g4⟩ | ⟨⟨L,g1⟩,g2⟩
 .obtain⟨y,d1,d2,d3⟩:=g4 N (Sl.of [y4]:Sl (Sl Sm)) (by omega) rfl rfl
  have:G6 N laws w=some (Kc w L,true):=by
   have e0:D5 N 0 laws w=some (Kc w L):=by rw[l];have g3:S0 N (U6 N 0 laws) w 0=some L:=g3 N (by omega);rw[g3];exact Kd _ _
   unfold G6;rw[e0]
  rw[this,Bm6,Pj];refine⟨_,(v',0),rfl,?_,g1,rfl,.inr (.inr ⟨q,s,.inr ⟨rfl,g2⟩⟩)⟩;show Option.bind (S0 N (Ha N laws') (Sl.of [y4]:Sl (Sl Sm)) ((0:Nat):Int)) _=_;rw[d1,Bm6,Pj];have ew:wrap .i64 ((y.n:Int)-1)=((laws.n:Nat):Int):=by rw[d2,F1 (by omega) (by omega)];omega
  simp only[ew,Bm2];rw[Pe,d3]
 have:G6 N laws w=some (Si,false):=by
  obtain⟨g3,g4⟩:=g1 N (by omega);have g3:S0 N (U6 N 0 laws) w 0=none:=g3;have g4:S0 N (U6 N 11 laws) w 0=some L:=g4;have e0:D5 N 0 laws w=none:=by rw[l,g3];rfl
  have e11:D5 N 11 laws w=some (Kc w L):=by rw[l,g4];exact Kd _ _
  unfold G6;rw[e0,e11];rfl
 rw[this,Bm6,Pk (by simp)];refine⟨_,(Si,11),rfl,?_,SE.refl _,rfl,.inr (.inr ⟨q,s,.inl rfl⟩)⟩;show Option.bind (S0 N (Ha N laws') (Sl.of [y4]:Sl (Sl Sm)) ((0:Nat):Int)) _=_;rw[g2 N (Sl.of [y4]:Sl (Sl Sm)) (by omega) rfl rfl,Bm6,Pk (by decide)]
end Go.AM
namespace Go.AM
variable {N:Nat}
open IntKind (wrap)
open Go.Proofs
def Gv {α : Type}(s:Sl α)(a : α):(s.push a).toList=s.toList++[a]:=by
 show (List.range (s.n+1)).map (fun i=>if i<s.n then s.g i else a)=_;rw[Bu3,Bs4];congr 1
 .exact Bp7 fun i b=>Pk (Bp3.1 b)
 simp
def DU {α : Type}(s:Sl α):s.toList.length=s.n:=by simp[Sl.toList]
def tl_eq {α : Type}{s t:Sl α}:s.toList=t.toList↔SE s t:=by
 constructor
 .intro h;have hn:s.n=t.n:=by rw[<- Bs s,h,Bs]
  refine⟨hn,fun i a=>?_⟩
  have:=congrArg (fun l=>l[i]?) h
  simpa[Sl.toList,a,hn ▸ a]using this
 rintro⟨h1,b⟩;unfold Sl.toList;rw[<- h1];exact Bp7 fun i a=>b i (Bp3.1 a)
def sEq (x y:Sm):((x.Plus==y.Plus)&&(x.Minus==y.Minus))=decide (x=y):=by cases x;cases y;rw[Bq0];simp
def Ax6 {x y:Sl Sm}(l:x.n<N)(hs:x.n<10000000) :∃b,(if ((x.n:Int) != (y.n:Int)) then
 some false
 else
  Q7 N (fun (a:Int->Option Bool) (x1:Int)=>
   if (decide (x1<(x.n:Int))) then
    if (((0:Int)<=x1/\x1<(x.n:Int))/\((0:Int)<=x1/\x1<(y.n:Int)))then
     if ((((x.g x1.toNat).Plus==(y.g x1.toNat).Plus)&&((x.g x1.toNat).Minus==(y.g x1.toNat).Minus)) != true) then
      some false
     else
      a (wrap .i64 (x1+1))
    else none
   else
    some true
   ) 0)=some b/\(b=true↔SE x y):=by
 by_cases hn:x.n=y.n
 case neg=>exact An ⟨false,rfl,by simp,fun h=>Pm h.1 hn⟩
 refine ifF (by simp[hn]) ?_;refine X5 (fun i x1=>x1=(i:Int)/\∀j,j<i->x.g j=y.g j) x.n _ l ⟨rfl,fun j c=>Pm c (by omega)⟩ ?_;rintro f i x1 m ⟨rfl,h⟩ d;by_cases hl:i<x.n
 .refine An (Am ?_);rw[Bm2,sEq];by_cases e:x.g i=y.g i
  .refine ifF (by simp[e]) (d hl _ ⟨Pd,fun j c=>?_⟩);by_cases e2:j=i
   .subst e2;exact e
   exact h j (by omega)
  exact ifT (by simp[e]) ⟨false,rfl,by simp,fun h=>Pm (h.2 i hl) e⟩
 exact Oi ⟨true,rfl,fun _=>⟨hn,fun j c=>h j (by omega)⟩,fun _=>rfl⟩
def AZ6 {x y:Sl Sm}(a:x.n<N)(hs:x.n<10000000):∃b,S2 N x y=some b/\(b=true↔SE x y):=by obtain⟨b,h,hb⟩:=Ax6 (N:=N) (x:=x) (y:=y) a hs;exact⟨b,by unfold S2;rw[show F6 N x y=some b from h];rfl,hb⟩
def AZ7 {x y:Sl Sm}(a:x.n<N)(hs:x.n<10000000):∃b,FG N x y=some b/\(b=true↔SE x y):=Ax6 a hs
abbrev okA (w:Sl Sm):Prop:=∀i,i<w.n->okS (w.g i)
end Go.AM
namespace Go.AM
open Go.Proofs
def dep:Nat->Pat->Prop
 |0,_=>False
 |d+1,p=>p.L.n<=40/\∀i,i<p.L.n->dep d (p.L.g i)
def AP3:∀(d:Nat) (p:Pat),dep d p->∀e,d<=e->dep e p
 |0,_,h,_,_=>h.elim
 |d+1,p,h,0,he=>by omega
 |d+1,p,h,e+1,he=>⟨h.1,fun i a=>AP3 d _ (h.2 i a) e (by omega)⟩
def VK {N:Nat}(o:1000<=N):∀(d:Nat),d<=40->∀(p:Pat) (M:Nat),N+d+2<=M->∃r:Nat,Bk M p ((40-d:Nat):Int)=some (r:Int)/\40-d<r/\r<=41/\(r<=40->dep (d+1) p)
 |d,hd,p,0,hM=>by omega
 |d,hd,p,M+1,hM=>by
  have:∃x,Bk (M+1) p ((40-d:Nat):Int)=some x/\∃r:Nat,x=(r:Int)/\40-d<r/\r<=41/\(r<=40->dep (d+1) p):=by
   show ∃x,BJ (Bk M) M p _=some x/\_;unfold BJ;rw[Pd];refine Q0 (fun i x1 x2=>x2=(i:Int)/\∃k:Nat,x1=(k:Int)/\40-d+1+i<=k/\k<=41/\i<=p.L.n/\(k<=40->∀j,j<i->dep d (p.L.g j))) 41 _ (by omega) ⟨rfl,40-d+1,rfl,by omega,by omega,by omega,fun _ j b=>Pm b (by omega)⟩ ?_;rintro f i x1 x2 q ⟨rfl,k,rfl,h1,c,s,l⟩ hs;by_cases hc:i<p.L.n/\k<=40
   .refine ifT (by simp only[Bm8,Pp];omega) (Am ?_);obtain⟨r,m,r1,r2,r3⟩:=VK o (40-k) (by omega) (p.L.g i) M (by omega);rw[show ((40-(40-k):Nat):Int)=(k:Int) by omega]at m;refine B3 (by rw[Bm2];exact m) (hs (by omega) _ _ ⟨Pd,r,rfl,by omega,r2,by omega,fun a j b=>?_⟩);by_cases e:j=i
    .subst e;exact AP3 _ _ (r3 a) d (by omega)
    exact l hc.2 j (by omega)
   refine ifF (by simp only[Bm8,Pp];omega) ⟨_,rfl,k,rfl,by omega,c,fun hk=>⟨by omega,fun j b=>l hk j (by omega)⟩⟩
  obtain⟨x,h1,r,rfl,c⟩:=this;exact⟨r,h1,c⟩
def ZT {N:Nat}(b:2000<=N)(p:Pat):∃r:Nat,Dg N p=some (r:Int)/\(r<=40->dep 41 p):=by obtain⟨r,h1,_,_,a⟩:=VK (N:=1000) (by omega) 40 (by omega) p N (by omega);exact⟨r,by unfold Dg;rw[show Bk N p 0=some (r:Int) from h1];rfl,a⟩
end Go.AM
namespace Go.AM
variable {N:Nat}
open IntKind (wrap)
open Go.Proofs
def Ff (s:Str):Bool:=(decide (1<=s.length)&&decide (s.length<=24))&&s.all fun c=>SW ((c.toNat:Nat):Int)
def VL {s:Str}(m:s.length<N)(hs:s.length<1000000000){let_:Int->Option Bool}(hl:∀y,let_ y=some (SW y)){fin:Bool}(n:fin=(decide (1<=s.length)&&decide (s.length<=24))) :Q7 N (fun (a:Int->Option Bool) (x1:Int)=>
  if (decide (x1<(s.length:Int))) then
   if ((0:Int)<=x1/\x1<(s.length:Int))then
    (let_ (Aw s x1)).bind fun y3=>
    if (!y3) then
     some false
    else
     a (wrap .i64 (x1+1))
   else none
  else
   some fin
 ) 0=some (Ff s):=by
 suffices h:∃b,Q7 N (fun (a:Int->Option Bool) (x1:Int)=>
  if (decide (x1<(s.length:Int))) then
   if ((0:Int)<=x1/\x1<(s.length:Int))then
    (let_ (Aw s x1)).bind fun y3=>
    if (!y3) then
     some false
    else
     a (wrap .i64 (x1+1))
   else none
  else
   some fin
  ) 0=some b/\b=Ff s by obtain⟨b,h,rfl⟩:=h;exact h
 refine X5 (fun i x1=>x1=(i:Int)/\∀j (h:j<s.length),j<i->SW ((s[j].toNat:Nat):Int)=true) s.length _ m ⟨rfl,fun j _ f=>Pm f (by omega)⟩ ?_;rintro l i x1 q ⟨rfl,h⟩ g;by_cases d:i<s.length
 .have eb:Aw s (i:Int)=((s[i].toNat:Nat):Int):=by simp[Aw,d]
  refine An (Am (B3 (hl _) ?_));rw[eb];cases hb:SW ((s[i].toNat:Nat):Int)
  .refine ifT rfl ⟨false,rfl,?_⟩;symm;unfold Ff;rw[BE9]
   right
   rw[List.all_eq_false];exact⟨s[i],BE0 d,by rw[hb];simp⟩
  refine Oj (g d _ ⟨Pd,fun j f o=>?_⟩);by_cases e:j=i
  .subst e;exact hb
  exact h j f (by omega)
 refine Oi ⟨_,rfl,?_⟩;unfold Ff;rw[n]
 have:(s.all fun c=>SW ((c.toNat:Nat):Int))=true:=Bo3.2 fun c hc=>by obtain⟨j,f,rfl⟩:=BB0 hc;exact h j f (by omega)
 rw[this,BA9]
def Ax7 {s:Str}(a:s.length<N)(hs:s.length<1000000000):CC N s=some (Ff s):=by unfold CC;exact VL a hs (fun y=>rfl) (by rw[Bq0];simp;omega)
def SY {s:Str}(a:s.length<N)(hs:s.length<1000000000):Ca N s=some (Ff s):=by unfold Ca;exact VL a hs (fun y=>rfl) (by rw[Bq0];simp;omega)
def AZ8 (t:Sl J4)(v:Nat):Prop:=(v=0->(t.g 0).Parent = -1)/\(0<v->0<=(t.g v).Parent/\(t.g v).Parent<v)/\Ff (t.g v).Name=true/\∀u,u<v->(t.g u).Name≠(t.g v).Name
def W3 (t:Sl J4):Prop:=1<=t.n/\t.n<=63/\∀v,v<t.n->AZ8 t v
def Ak3 (t:Sl J4)(e:Int):Prop:=(e=0/\W3 t) \/ (e=16/\¬W3 t)
def Ak4 {t:Sl J4}{e e' : Int}(h:Ak3 t e)(h' : Ak3 t e'):e=e':=by
 rcases h with⟨rfl,h⟩ | ⟨rfl,h⟩<;>rcases h' with⟨rfl,h'⟩ | ⟨rfl,h'⟩
 .rfl
 .exact Pm h h'
 .exact Pm h' h
 rfl
def Hb (t:Sl J4):Prop:=∀v,v<t.n->(t.g v).Name.length<1100000
def Ax8 (y:3000000<=N){t:Sl J4}(ht:Hb t):∃e,Y5 N t=some e/\Ak3 t e:=by
 unfold Y5;by_cases z:t.n<1
 .exact ifT (fun h=>Pm h (by simp;omega)) (An ⟨16,rfl,.inr ⟨rfl,fun h=>by have:=h.1;omega⟩⟩)
 refine ifT (fun _ _=>by omega) ?_;by_cases h1:63<t.n
 .exact An ⟨16,rfl,.inr ⟨rfl,fun h=>by have:=h.2.1;omega⟩⟩
 by_cases m:(t.g 0).Parent = -1
 case neg=>exact ifT (by simp[m]) ⟨16,rfl,.inr ⟨rfl,fun h=>m ((h.2.2 0 (by omega)).1 rfl)⟩⟩
 refine ifF (by simp[m];omega) ?_;refine X5 (fun i x1=>x1=(i:Int)/\∀j,j<i->AZ8 t j) t.n _ (by omega) ⟨rfl,fun j x=>Pm x (by omega)⟩ ?_;rintro f i x1 hi ⟨rfl,h⟩ hs;by_cases a:i<t.n
 case neg=>exact Oi ⟨0,rfl,.inl ⟨rfl,by omega,by omega,fun v hv=>h v (by omega)⟩⟩
 refine An (ltX ?_);have b:=SY (N:=N) (s:=(t.g i).Name) (by have:=ht i a;omega) (by have:=ht i a;omega);have rest:(0<i->0<=(t.g i).Parent/\(t.g i).Parent<i)->∃r,(if (!Ff (t.g i).Name) then some 16 else
  Q7 N (fun (d:Int->Option Int) (x7:Int)=>
   if (decide (x7<(i:Int))) then
    if (((0:Int)<=x7/\x7<(t.n:Int))/\((0:Int)<=(i:Int)/\(i:Int)<(t.n:Int)))then
     if (((t.g x7.toNat).Name==(t.g (i:Int).toNat).Name) != false) then
      some 16
     else
      d (wrap .i64 (x7+1))
    else none
   else
    f (wrap .i64 ((i:Int)+1))
   ) 0)=some r/\Ak3 t r:=by
  intro hp;cases hb:Ff (t.g i).Name
  .exact ifT rfl ⟨16,rfl,.inr ⟨rfl,fun h=>by have:=(h.2.2 i a).2.2.1;rw[hb]at this;cases this⟩⟩
  refine Oj ?_;refine X5 (fun k x7=>x7=(k:Int)/\∀u,u<k->(t.g u).Name≠(t.g i).Name) i _ (by omega) ⟨rfl,fun u o=>Pm o (by omega)⟩ ?_;rintro q k x7 hk ⟨rfl,h'⟩ w;by_cases l:k<i
  .refine An (Am ?_);rw[Bm2,Bm2];by_cases e:(t.g k).Name=(t.g i).Name
   .exact ifT (by simp[e]) ⟨16,rfl,.inr ⟨rfl,fun h=>(h.2.2 i a).2.2.2 k l e⟩⟩
   refine ifF (by simp[e]) (w l _ ⟨Pd,fun u o=>?_⟩);by_cases e2:u=k
   .subst e2;exact e
   exact h' u (by omega)
  refine Oi (hs a _ ⟨Pd,fun j x=>?_⟩);by_cases e:j=i
  .subst e;exact⟨fun e=>by subst e;exact m,hp,hb,fun u o=>h' u (by omega)⟩
  exact h j (by omega)
 by_cases c:0<i
 .refine An (Am ?_);rw[Bm2];by_cases g1:(t.g i).Parent<0
  .exact ifT (by simpa using g1) (ifT rfl ⟨16,rfl,.inr ⟨rfl,fun h=>by have:=((h.2.2 i a).2.1 c).1;omega⟩⟩)
  refine ifF (by simpa using g1) (Am ?_);by_cases g2:(i:Int)<=(t.g i).Parent
  .exact ifT (by simpa using g2) (ifT rfl ⟨16,rfl,.inr ⟨rfl,fun h=>by have:=((h.2.2 i a).2.1 c).2;omega⟩⟩)
  exact ifF (by simpa using g2) (Am (B3 b (rest fun _=>⟨by omega,by omega⟩)))
 exact Oi (Am (B3 (by rw[Bm2];exact b) (rest fun h=>Pm h c)))
def KW {ν : Type}{k s:Str}{v : ν}:∀es:List (Str × ν),X1 eqS s (HF eqS k v es)=if s=k then some v else X1 eqS s es
 |[]=>by simp only[HF,X1];by_cases h:s=k<;>simp[eqS,h]
 |(a,x)::es=>by
  simp only[HF];by_cases h:k=a
  .subst h;rw[Pk (by simp[eqS])];simp only[X1];by_cases b:s=k<;>simp[eqS,b]
  rw[Pl (by simp[eqS,h])];simp only[X1];rw[KW es];by_cases b:s=k
  .subst b;simp[eqS,h]
  simp[b]
def ZU {ν : Type}{k:Str}{v : ν}:∀{es:List (Str × ν)},X1 eqS k es=none->(HF eqS k v es).length=es.length+1
 |[],_=>rfl
 |(a,x)::es,h=>by
  simp only[X1]at h;simp only[HF];by_cases e:eqS k a=true
  .rw[Pk e]at h;cases h
  rw[Pl e]at h;rw[Pl e,Br0,ZU h];rfl
def ZV {ν : Type}{k:Str}{v x : ν}:∀{es:List (Str × ν)},X1 eqS k es=some x->(HF eqS k v es).length=es.length
 |[],h=>by cases h
 |(a,y)::es,h=>by
  simp only[X1]at h;simp only[HF];by_cases e:eqS k a=true
  .rw[Pk e];rfl
  rw[Pl e]at h;rw[Pl e,Br0,ZV h];rfl
def Ax9 (m:3000000<=N){t:Sl J4}(ht:Hb t):∃e,S4 N t=some e/\Ak3 t e:=by
 unfold S4;by_cases o:t.n=0 \/ 63<t.n
 .exact An ⟨16,rfl,.inr ⟨rfl,fun h=>by have g1:=h.1;have g2:=h.2.1;omega⟩⟩
 refine Oi ?_;refine Q0 (fun i (x2:List (Str×Bool)) x3=>x3=(i:Int)/\(∀j,j<i->AZ8 t j)/\∀s,(X1 eqS s x2=some true/\∃u,u<i/\(t.g u).Name=s) \/ (X1 eqS s x2=none/\∀u,u<i->(t.g u).Name≠s)) t.n _ (by omega) ⟨rfl,fun j f=>Pm f (by omega),fun s=>.inr ⟨rfl,fun u c=>Pm c (by omega)⟩⟩ ?_;rintro l i x2 x3 q ⟨rfl,h,hm⟩ hs;by_cases a:i<t.n
 case neg=>exact Oi ⟨0,rfl,.inl ⟨rfl,by omega,by omega,fun v r=>h v (by omega)⟩⟩
 refine An (Am (ltX ?_));rw[Bm2];have b:=Ax7 (N:=N) (s:=(t.g i).Name) (by have:=ht i a;omega) (by have:=ht i a;omega);have e1:(if 0<wrap .i64 ((i:Int)-1)then (0:Int)else wrap .i64 ((i:Int)-1))=if i=0 then -1 else 0:=by rw[F1 (by omega) (by omega)];split<;>split<;>omega
 rw[e1];by_cases g1:(i:Int)<=(t.g i).Parent
 .refine ifT (by simpa using g1) (ifT rfl ⟨16,rfl,.inr ⟨rfl,fun h=>?_⟩⟩);have hk:=h.2.2 i a;by_cases d:i=0
  .subst d;have:=hk.1 rfl;omega
  have:=(hk.2.1 (by omega)).2;omega
 refine ifF (by simpa using g1) ?_;by_cases g2:(t.g i).Parent<if i=0 then -1 else 0
 .refine ifT (by simpa using g2) (ifT rfl ⟨16,rfl,.inr ⟨rfl,fun h=>?_⟩⟩);have hk:=h.2.2 i a;by_cases d:i=0
  .subst d;have:=hk.1 rfl;simp at g2;omega
  have:=(hk.2.1 (by omega)).1;simp[d]at g2;omega
 refine ifF (by simpa using g2) (B3 b ?_);cases hb:Ff (t.g i).Name
 .exact ifT rfl (ifT rfl ⟨16,rfl,.inr ⟨rfl,fun h=>by have:=(h.2.2 i a).2.2.1;rw[hb]at this;cases this⟩⟩)
 refine Oj ?_;rcases hm (t.g i).Name with⟨e,u,c,hn⟩ | ⟨e,hn⟩
 .rw[e];exact⟨16,rfl,.inr ⟨rfl,fun h=>(h.2.2 i a).2.2.2 u c hn⟩⟩
 rw[e,NF];refine ifF (show ¬false=true by simp) (hs a _ _ ⟨Pd,fun j f=>?_,fun s=>?_⟩)
 .by_cases e:j=i
  .subst e;refine⟨fun e=>?_,fun hp=>?_,hb,hn⟩
   .subst e;simp at g2;omega
   have:¬j=0:=by omega
   simp[this]at g2;omega
  exact h j (by omega)
 rw[KW];by_cases e:s=(t.g i).Name
 .exact .inl ⟨by rw[Pk e],i,by omega,e.symm⟩
 rw[Pl e];rcases hm s with⟨g,u,c,hn⟩ | ⟨g,hn⟩
 .exact .inl ⟨g,u,by omega,hn⟩
 refine .inr ⟨g,fun u c=>?_⟩;by_cases e2:u=i
 .subst e2;exact fun h=>e h.symm
 exact hn u (by omega)
def Hy (a:3000000<=N){t:Sl J4}(ht:Hb t):∃e,S4 N t=some e/\Y5 N t=some e/\Ak3 t e:=by obtain⟨e,h1,b⟩:=Ax9 a ht;obtain⟨e',c,d⟩:=Ax8 a ht;obtain rfl:=Ak4 b d;exact⟨_,h1,c,b⟩
end Go.AM
namespace Go.AM
open IntKind (wrap)
open Go.Proofs
structure U4 (h:A6):Prop where
 laws:GZ h.Laws
 tree:Hb h.Tree
 on:h.On.n<1100000
 len:∀v,v<h.On.n->(h.On.g v).n<1100000
def Ez (h:A6)(v:Nat):Sl Int:= if hp:0<=(h.Tree.g v).Parent/\(h.Tree.g v).Parent<v then (Ez h (h.Tree.g v).Parent.toNat).app (h.On.g v)else Sh.app (h.On.g v)
termination_by v
decreasing_by omega
def Fg {h:A6}{v:Nat}(a:(h.Tree.g v).Parent<0):Ez h v=Sh.app (h.On.g v):=by rw[Ez,dif_neg (by omega)]
def Ke {h:A6}{v p:Nat}(a:(h.Tree.g v).Parent=(p:Int))(hp:p<v):Ez h v=(Ez h p).app (h.On.g v):=by rw[Ez,dif_pos (by omega),a,Bm2]
def Ac {t:Sl J4}(ht:W3 t){v:Nat}(a:v<t.n):(v=0/\(t.g v).Parent = -1) \/ ∃p:Nat,p<v/\(t.g v).Parent=(p:Int):=by
 have hk:=ht.2.2 v a;by_cases b:v=0
 .subst b;exact .inl ⟨rfl,hk.1 rfl⟩
 obtain⟨g1,g2⟩:=hk.2.1 (by omega);exact .inr ⟨(t.g v).Parent.toNat,by omega,by omega⟩
def Yq {h:A6}(a:U4 h)(ht:W3 h.Tree)(hn:h.On.n=h.Tree.n):∀(m v:Nat),v<=m->v<h.Tree.n->(Ez h v).n<=(v+1)*1100000
 |m,v,hm,hv=>by
  have hl:=a.len v (by omega);rcases Ac ht hv with⟨_,e⟩ | ⟨p,hp,e⟩
  .rw[Fg (by omega)];show 0+(h.On.g v).n<=_;omega
  rw[Ke e hp]
  match m with
  |0=>omega
  |m+1=>
   have:=Yq a ht hn m p (by omega) (by omega)
   show (Ez h p).n+(h.On.g v).n<=_;have b:(p+1)*1100000+1100000<=(v+1)*1100000:=by omega
   omega
def VM {h:A6}(a:U4 h)(ht:W3 h.Tree)(hn:h.On.n=h.Tree.n):∀(M v:Nat),v+2<=M->v<h.Tree.n->Cb M h (v:Int)=some (Ez h v)
 |0,v,hM,_=>by omega
 |M+1,v,hM,hv=>by
  have b:=ht.2.1;show Y6 (Cb M) M h (v:Int)=_;unfold Y6;rw[Pj,Pe,Bm2];have hl:=a.len v (by omega);rcases Ac ht hv with⟨c,e⟩ | ⟨p,hp,e⟩
  .rw[e,Fg (by omega)]
   have:Cb M h (-1)=some Sh:=by obtain⟨K,rfl⟩:∃K,M=K+1:=⟨M-1,by omega⟩;show Y6 (Cb K) K h (-1)=_;unfold Y6;rw[Pk (by decide)]
   rw[this,Bm6,Pk ⟨by omega,by show (0+(h.On.g v).n)*8<=_/\0+(h.On.g v).n<=_;omega⟩]
  have hb:=Yq a ht hn p p (Bm9 _) (by omega);rw[e,VM a ht hn M p (by omega) (by omega),Bm6,Ke e hp,Pk ⟨by omega,by omega⟩]
def Yr (h:A6):Prop:=∃v,v<h.On.n/\64<(Ez h v).n
def AZ9 (h:A6)(v:Nat):Prop:=∃k,k<(h.On.g v).n/\((h.On.g v).g k<0 \/ (h.Laws.n:Int)<=(h.On.g v).g k)
def Ay0 (h:A6)(e:Int):Prop:=(Yr h/\e=2) \/ (¬Yr h/\(∃v,v<h.On.n/\AZ9 h v)/\e=3) \/ (¬Yr h/\(∀v,v<h.On.n->¬AZ9 h v)/\e=0)
def Ay1 {N:Nat}(hN:3000000<=N){h:A6}(hi:U4 h)(ht:W3 h.Tree)(hn:h.On.n=h.Tree.n):∃e,Z8 N h=some e/\Ay0 h e:=by
 have h63:=ht.2.1;unfold Z8;refine Am ?_;refine TP (fun i (x4:Sl Int) (x5:Bool) x6=>x6=(i:Int)/\x4.n=h.On.n/\(∀v,v<i->x4.g v=((Ez h v).n:Int)/\(Ez h v).n<=64)/\(x5=true ↔ ∃v,v<i/\AZ9 h v)) h.On.n _ (by omega) ⟨rfl,by show ((h.On.n:Nat):Int).toNat=_;omega,fun v b=>Pm b (by omega),⟨fun g=>(by cases g),fun⟨v,b,_⟩=>Pm b (by omega)⟩⟩ ?_;rintro m i x4 x5 x6 hle ⟨rfl,hx,hp,hb⟩ hs;by_cases o:i<h.On.n
 case neg=>
  refine Oi ?_;have hl:¬Yr h:=fun⟨v,b,hl⟩=>by have:=(hp v (by omega)).2;omega
  cases x5
  .exact Oj ⟨0,rfl,.inr (.inr ⟨hl,fun v b g=>(by have:=hb.2 ⟨v,by omega,g⟩;cases this),rfl⟩)⟩
  obtain⟨v,b,g⟩:=hb.1 rfl;exact ifT rfl ⟨3,rfl,.inr (.inl ⟨hl,⟨v,by omega,g⟩,rfl⟩)⟩
 refine An (ifT (by rw[Bm2];omega) (Am (ltX ?_)));rw[Bm2];have hl:=hi.len i (by omega);have hlb:=Yq hi ht hn i i (Bm9 _) (by omega);have rest:∀z:Sl Int,z.n=h.On.n->(∀v,v<i->z.g v=x4.g v)->z.g i=((Ez h i).n:Int)->∃r,(if (((0:Int)<=(i:Int)/\(i:Int)<(z.n:Int))/\i<z.n)then
  if (decide (64<(z.g i))) then
   some 2
  else
   S0 N (fun (d:Bool->Int->Option Int) (c:Bool) (a:Int)=>
    if (decide (a<((h.On.g i).n:Int))) then
     if ((0:Int)<=a/\a<((h.On.g i).n:Int))then
      d ((c||(decide (((h.On.g i).g a.toNat)<0)))||(decide ((h.Laws.n:Int)<=((h.On.g i).g a.toNat)))) (wrap .i64 (a+1))
     else none
    else
     m z c (wrap .i64 ((i:Int)+1))
    ) x5 0
  else none)=some r/\Ay0 h r:=by
  intro z hz u q;refine Am ?_;rw[q];by_cases w:64<(Ez h i).n
  .exact An ⟨2,rfl,.inl ⟨⟨i,o,w⟩,rfl⟩⟩
  refine Oi ?_;refine Q0 (fun k (c:Bool) a=>a=(k:Int)/\(c=true↔(∃v,v<i/\AZ9 h v) \/ ∃j,j<k/\j<(h.On.g i).n/\((h.On.g i).g j<0 \/ (h.Laws.n:Int)<=(h.On.g i).g j))) (h.On.g i).n _ (by omega) ⟨rfl,hb.trans ⟨fun g=>.inl g,fun g=>g.resolve_right fun⟨j,f,_⟩=>Pm f (by omega)⟩⟩ ?_;rintro x k c a hk ⟨rfl,s⟩ y;by_cases l:k<(h.On.g i).n
  .refine An (Am (y l _ _ ⟨Pd,?_⟩));rw[Bm2,Bp2,Bp2,s,Pp,Pp];constructor
   .rintro (((g|⟨j,f,g⟩)|g)|g)
    .exact .inl g
    .exact .inr ⟨j,by omega,g⟩
    .exact .inr ⟨k,by omega,l,.inl g⟩
    exact .inr ⟨k,by omega,l,.inr g⟩
   rintro (g|⟨j,f,a0,g⟩)
   .exact .inl (.inl (.inl g))
   by_cases e:j=k
   .subst e;rcases g with g|g
    .exact .inl (.inr g)
    exact .inr g
   exact .inl (.inl (.inr ⟨j,by omega,a0,g⟩))
  refine Oi (hs o _ _ _ ⟨Pd,hz,fun v b=>?_,s.trans ?_⟩)
  .by_cases e:v=i
   .subst e;exact⟨q,by omega⟩
   rw[u v (by omega)];exact hp v (by omega)
  constructor
  .rintro (⟨v,b,g⟩ | ⟨j,_,f,g⟩)
   .exact⟨v,by omega,g⟩
   exact⟨i,by omega,j,f,g⟩
  rintro⟨v,b,g⟩;by_cases e:v=i
  .subst e;obtain⟨j,f,g⟩:=g;exact .inr ⟨j,by omega,f,g⟩
  exact .inl ⟨v,by omega,g⟩
 rcases Ac ht (v:=i) (by omega)with⟨_,e⟩ | ⟨p,t,e⟩
 .rw[e];refine P6 (rest _ hx (fun v b=>?_) ?_)
  .show (if v=i then _ else x4.g v)=_;rw[Pg]
  show (if i=i then ((h.On.g i).n:Int)else _)=_;rw[Pk rfl,Fg (by omega)];show _=((0+(h.On.g i).n:Nat):Int);omega
 have a1:=hp p t;rw[e];refine Gc (ifT ?_ ?_)
 .show ((((((0:Int)<=(i:Int)/\(i:Int)<(x4.n:Int))/\i<x4.n)/\(0:Int)<=(p:Int)/\(p:Int)<(x4.n:Int))/\(p:Int).toNat<x4.n)/\(0:Int)<=(i:Int)/\(i:Int)<(x4.n:Int))/\i<x4.n;omega
 rw[Bm2];refine rest _ hx (fun v b=>?_) ?_
 .show (if v=i then _ else if v=i then _ else x4.g v)=_;rw[Pg,Pg]
 show (if i=i then wrap .i64 ((if i=i then ((h.On.g i).n:Int)else _)+(if p=i then _ else x4.g p))else _)=_;rw[Pk rfl,Pk rfl,Pg,a1.1,Ke e t,F1 (by omega) (by omega)];show _=(((Ez h p).n+(h.On.g i).n:Nat):Int);omega
end Go.AM
namespace Go.AM
variable {N:Nat}
open Go.Proofs
def Bc3 (h:A6)(i:Nat):Prop:=∃u v,u<v/\v<i/\(h.Laws.g u).Name=(h.Laws.g v).Name
open Classical in
noncomputable def hres (N:Nat) (h:A6):Int:= if ¬W3 h.Tree then 16 else if 64<h.Laws.n then 12 else if ∃i,i<h.Laws.n/\¬chkAll N (h.Laws.g i)then 17 else if Bc3 h h.Laws.n then 6 else if h.On.n≠h.Tree.n then 2 else if Yr h then 2 else if ∃v,v<h.On.n/\AZ9 h v then 3 else 0
structure CS (N:Nat) (h:A6):Prop where
 tree:W3 h.Tree
 laws:Ih N h.Laws
 dup:¬Bc3 h h.Laws.n
 on:h.On.n=h.Tree.n
 long:¬Yr h
 bad:∀v,v<h.On.n->¬AZ9 h v
def hres_zero {h:A6}:hres N h=0↔CS N h:=by
 unfold hres;constructor
 .intro g;split at g
  .cases g
  split at g
  .cases g
  split at g
  .cases g
  split at g
  .cases g
  split at g
  .cases g
  split at g
  .cases g
  split at g
  .cases g
  rename_i h1 n c d f j l;exact⟨BC9.1 h1,⟨by omega,fun i a=>Bn7 fun hn=>c ⟨i,a,hn⟩⟩,d,BC9.1 f,j,fun v b hb=>l ⟨v,b,hb⟩⟩
 intro g;have m:=g.laws.1;rw[Pl (fun k=>k g.tree),Pg,Pl (fun⟨i,a,hn⟩=>hn (g.laws.2 i a)),Pl g.dup,Pl (fun k=>k g.on),Pl g.long,Pl (fun⟨v,b,hb⟩=>g.bad v b hb)]
def Fh {h:A6}(h1:W3 h.Tree)(a:Ih N h.Laws)(b:¬Bc3 h h.Laws.n)(c:h.On.n=h.Tree.n){e:Int}(d:Ay0 h e):e=hres N h:=by
 have f:=a.1;unfold hres;rw[Pl (fun k=>k h1),Pg,Pl (fun⟨i,j,hn⟩=>hn (a.2 i j)),Pl b,Pl (fun k=>k c)];rcases d with⟨g,rfl⟩ | ⟨g,g2,rfl⟩ | ⟨g,g2,rfl⟩
 .rw[Pk g]
 .rw[Pl g,Pk g2]
 rw[Pl g,Pl (fun⟨v,l,hb⟩=>g2 v l hb)]
def Ak5 (z:3000000<=N){h:A6}(o:U4 h):Q4 N h=some (hres N h):=by
 suffices g:∃r,Q4 N h=some r/\r=hres N h by obtain⟨r,g,rfl⟩:=g;exact g
 obtain⟨e,e1,_,he⟩:=Hy z o.tree;unfold Q4;refine B3 e1 ?_;rcases he with⟨rfl,ht⟩ | ⟨rfl,ht⟩
 case inr=>exact Ge ⟨16,rfl,by unfold hres;rw[Pk ht]⟩
 refine P6 ?_;by_cases c:64<h.Laws.n
 .exact An ⟨12,rfl,by unfold hres;rw[Pl (fun k=>k ht),Pk c]⟩
 refine Oi ?_;refine Q0 (fun i (x1:List (Str×Int)) x2=>x2=(i:Int)/\(∀j,j<i->chkAll N (h.Laws.g j))/\(∀s,(X1 eqS s x1=none/\∀u,u<i->(h.Laws.g u).Name≠s) \/ (∃v,X1 eqS s x1=some v)/\∃u,u<i/\(h.Laws.g u).Name=s)/\((Bc3 h i/\x1.length<i) \/ (¬Bc3 h i/\x1.length=i))) h.Laws.n _ (by omega)
  ⟨rfl,fun j hj=>Pm hj (by omega),fun s=>.inl ⟨rfl,fun u q=>Pm q (by omega)⟩,.inr ⟨fun⟨u,v,_,hv,_⟩=>Pm hv (by omega),rfl⟩⟩ ?_
 rintro self i x1 x2 hle ⟨rfl,hc,hm,hl⟩ hs;by_cases d:i<h.Laws.n
 .obtain⟨y,y1,_,hy⟩:=Fe z (o.laws i d);refine An (Am (B3 (by rw[Bm2];exact y1) ?_));rcases hy with⟨rfl,hy⟩ | ⟨rfl,hy⟩
  case inr=>exact Ge ⟨17,rfl,by unfold hres;rw[Pl (fun k=>k ht),Pl c,Pk ⟨i,d,hy⟩]⟩
  refine P6 ?_;rw[Bm2];have t : ∀j,j<i+1->chkAll N (h.Laws.g j):=fun j hj=>by
   by_cases e:j=i
   .subst e;exact hy
   exact hc j (by omega)
  have look:∀(v:Int) (s:Str),(X1 eqS s (HF eqS (h.Laws.g i).Name v x1)=none/\∀u,u<i+1->(h.Laws.g u).Name≠s) \/ (∃w,X1 eqS s (HF eqS (h.Laws.g i).Name v x1)=some w)/\∃u,u<i+1/\(h.Laws.g u).Name=s:=by
   intro v s;rw[KW];by_cases e:s=(h.Laws.g i).Name
   .exact .inr ⟨⟨v,by rw[Pk e]⟩,i,by omega,e.symm⟩
   rw[Pl e];rcases hm s with⟨g,g2⟩ | ⟨g,u,q,g2⟩
   .refine .inl ⟨g,fun u q=>?_⟩;by_cases e2:u=i
    .subst e2;exact fun k=>e k.symm
    exact g2 u (by omega)
   exact .inr ⟨g,u,by omega,g2⟩
  rcases hm (h.Laws.g i).Name with⟨g,g2⟩ | ⟨⟨v,g⟩,u,q,g2⟩
  .rw[g,NF];refine hs d _ _ ⟨Pd,t,look _,?_⟩;rw[ZU g];rcases hl with⟨⟨a,b,f,hb,hn⟩,hl⟩ | ⟨m,hl⟩
   .exact .inl ⟨⟨a,b,f,by omega,hn⟩,by omega⟩
   refine .inr ⟨fun⟨a,b,f,hb,hn⟩=>?_,by omega⟩;by_cases e:b=i
   .subst e;exact g2 a f hn
   exact m ⟨a,b,f,by omega,hn⟩
  rw[g,As0];refine hs d _ _ ⟨Pd,t,look _,?_⟩;rw[ZV g];refine .inl ⟨⟨u,i,q,by omega,g2⟩,?_⟩;rcases hl with⟨_,hl⟩ | ⟨_,hl⟩<;>omega
 obtain rfl:i=h.Laws.n:=by omega
 have hok:Ih N h.Laws:=⟨by omega,hc⟩;have x:¬ ∃i,i<h.Laws.n/\¬chkAll N (h.Laws.g i):=fun⟨i,o,hn⟩=>hn (hc i o);refine Oj ?_;rw[Xm];rcases hl with⟨m,hl⟩ | ⟨m,hl⟩
 .exact An ⟨6,rfl,by unfold hres;rw[Pl (fun k=>k ht),Pl c,Pl x,Pk m]⟩
 refine Oi ?_;by_cases l:h.On.n=h.Tree.n
 case neg=>exact An ⟨2,rfl,by unfold hres;rw[Pl (fun k=>k ht),Pl c,Pl x,Pl m,Pk l]⟩
 refine ifF (by simp[l]) ?_;obtain⟨e,e1,he⟩:=Ay1 z o ht l;exact B3 e1 ⟨e,rfl,Fh ht hok m l he⟩
def Ay2 (hN:3000000<=N){h:A6}(q:U4 h):Cc N h=some (hres N h):=by
 suffices g:∃r,Cc N h=some r/\r=hres N h by obtain⟨r,g,rfl⟩:=g;exact g
 obtain⟨e,_,e1,he⟩:=Hy hN q.tree;unfold Cc;refine B3 e1 ?_;rcases he with⟨rfl,ht⟩ | ⟨rfl,ht⟩
 case inr=>exact Ge ⟨16,rfl,by unfold hres;rw[Pk ht]⟩
 refine P6 ?_;by_cases f:64<h.Laws.n
 .exact An ⟨12,rfl,by unfold hres;rw[Pl (fun k=>k ht),Pk f]⟩
 refine Oi ?_;refine X5 (fun i x1=>x1=(i:Int)/\∀j,j<i->chkAll N (h.Laws.g j)) h.Laws.n _ (by omega) ⟨rfl,fun j s=>Pm s (by omega)⟩ ?_;rintro self i x1 hle ⟨rfl,hc⟩ hs;by_cases a:i<h.Laws.n
 .obtain⟨y,_,y1,hy⟩:=Fe hN (q.laws i a);refine An (Am (B3 (by rw[Bm2];exact y1) ?_));rcases hy with⟨rfl,hy⟩ | ⟨rfl,hy⟩
  case inr=>exact Ge ⟨17,rfl,by unfold hres;rw[Pl (fun k=>k ht),Pl f,Pk ⟨i,a,hy⟩]⟩
  refine P6 (hs a _ ⟨Pd,fun j s=>?_⟩);by_cases e:j=i
  .subst e;exact hy
  exact hc j (by omega)
 obtain rfl:i=h.Laws.n:=by omega
 have l:Ih N h.Laws:=⟨by omega,hc⟩;have w:¬ ∃i,i<h.Laws.n/\¬chkAll N (h.Laws.g i):=fun⟨i,q,hn⟩=>hn (hc i q);refine Oj ?_;refine X5 (fun i x1=>x1=(i:Int)/\¬Bc3 h i) h.Laws.n _ (by omega) ⟨rfl,fun⟨u,v,_,d,_⟩=>Pm d (by omega)⟩ ?_;rintro a3 i x1 hle2 ⟨rfl,t⟩ a4;by_cases a:i<h.Laws.n
 .refine An ?_;refine X5 (fun k x5=>x5=(k:Int)/\∀u,u<k->(h.Laws.g u).Name≠(h.Laws.g i).Name) i _ (by omega) ⟨rfl,fun u hu=>Pm hu (by omega)⟩ ?_;rintro a5 k x5 hk ⟨rfl,x⟩ a6;by_cases z:k<i
  .refine An (Am ?_);rw[Bm2,Bm2];by_cases e:(h.Laws.g k).Name=(h.Laws.g i).Name
   .exact ifT (by simp[e]) ⟨6,rfl,by unfold hres;rw[Pl (fun k=>k ht),Pl f,Pl w,Pk ⟨k,i,z,a,e⟩]⟩
   refine ifF (by simp;exact fun g=>e g.symm) (a6 z _ ⟨Pd,fun u hu=>?_⟩);by_cases e2:u=k
   .subst e2;exact e
   exact x u (by omega)
  refine Oi (a4 a _ ⟨Pd,fun⟨u,v,a7,d,hn⟩=>?_⟩);by_cases e:v=i
  .subst e;exact x u (by omega) hn
  exact t ⟨u,v,a7,by omega,hn⟩
 obtain rfl:i=h.Laws.n:=by omega
 refine Oj ?_;by_cases b:h.On.n=h.Tree.n
 case neg=>exact An ⟨2,rfl,by unfold hres;rw[Pl (fun k=>k ht),Pl f,Pl w,Pl t,Pk b]⟩
 refine ifF (by simp[b]) ?_;have h63:=ht.2.1;refine X5 (fun i x1=>x1=(i:Int)/\∀v,v<i->¬ 64<(Ez h v).n) h.On.n _ (by omega) ⟨rfl,fun v d=>Pm d (by omega)⟩ ?_;rintro a8 i x1 hle3 ⟨rfl,a0⟩ a9;by_cases a:i<h.On.n
 .refine An (B3 (VM q ht b N i (by omega) (by omega)) ?_);by_cases hg:64<(Ez h i).n
  .exact An ⟨2,rfl,Fh ht l t b (.inl ⟨⟨i,a,hg⟩,rfl⟩)⟩
  refine Oi (a9 a _ ⟨Pd,fun v d=>?_⟩);by_cases e:v=i
  .subst e;exact hg
  exact a0 v (by omega)
 refine Oi ?_;have m:¬Yr h:=fun⟨v,d,g⟩=>a0 v (by omega) g;refine X5 (fun i x1=>x1=(i:Int)/\∀v,v<i->¬AZ9 h v) h.On.n _ (by omega) ⟨rfl,fun v d=>Pm d (by omega)⟩ ?_;rintro b0 i x1 hle4 ⟨rfl,a1⟩ b1;by_cases c:i<h.On.n
 .have hl:=q.len i c;refine An ?_;refine X5 (fun k x1=>x1=(k:Int)/\∀j,j<k->¬((h.On.g i).g j<0 \/ (h.Laws.n:Int)<=(h.On.g i).g j)) (h.On.g i).n _ (by omega) ⟨rfl,fun j s=>Pm s (by omega)⟩ ?_;rintro b2 k x1 hk ⟨rfl,a2⟩ b3;refine Am ?_;rw[Bm2,Bm2];by_cases o:k<(h.On.g i).n
  .refine An (Am ?_);by_cases g1:(h.On.g i).g k<0
   .exact ifT (by simpa using g1) ⟨3,rfl,Fh ht l t b (.inr (.inl ⟨m,⟨i,c,k,o,.inl g1⟩,rfl⟩))⟩
   refine ifF (by simpa using g1) (Am ?_);by_cases g2:(h.Laws.n:Int)<=(h.On.g i).g k
   .exact ifT (by simpa using g2) ⟨3,rfl,Fh ht l t b (.inr (.inl ⟨m,⟨i,c,k,o,.inr g2⟩,rfl⟩))⟩
   refine ifF (by simpa using g2) (b3 o _ ⟨Pd,fun j s=>?_⟩);by_cases e:j=k
   .subst e;exact fun g=>g.elim g1 g2
   exact a2 j (by omega)
  refine Oi (b1 c _ ⟨Pd,fun v d=>?_⟩);by_cases e:v=i
  .subst e;exact fun⟨j,s,g⟩=>a2 j (by omega) g
  exact a1 v (by omega)
 exact Oi ⟨0,rfl,Fh ht l t b (.inr (.inr ⟨m,fun v d=>a1 v (by omega),rfl⟩))⟩
end Go.AM
namespace Go.AM
open Go.Proofs
def Kf (t:Sl J4)(v:Nat):List Nat:= if hp:0<=(t.g v).Parent/\(t.g v).Parent<v then Kf t (t.g v).Parent.toNat++[v]else [v]
termination_by v
decreasing_by omega
def Hc {t:Sl J4}{v:Nat}(a:(t.g v).Parent<0):Kf t v=[v]:=by rw[Kf,dif_neg (by omega)]
def OJ {t:Sl J4}{v p:Nat}(a:(t.g v).Parent=(p:Int))(hp:p<v):Kf t v=Kf t p++[v]:=by rw[Kf,dif_pos (by omega),a,Bm2]
def Ys {t:Sl J4}(ht:W3 t):∀(m v:Nat),v<=m->v<t.n->∀x∈Kf t v,x<=v
 |m,v,hm,hv,x,hx=>by
  rcases Ac ht hv with⟨_,e⟩ | ⟨p,hp,e⟩
  .rw[Hc (by omega)]at hx;simp at hx;omega
  rw[OJ e hp]at hx;rcases List.mem_append.1 hx with hx|hx
  .match m with
   |0=>omega
   |m+1=>have:=Ys ht m p (by omega) (by omega) x hx;omega
  simp at hx;omega
def ZW {t:Sl J4}(ht:W3 t):∀(m v:Nat),v<=m->v<t.n->(Kf t v).length<=v+1
 |m,v,hm,hv=>by
  rcases Ac ht hv with⟨_,e⟩ | ⟨p,hp,e⟩
  .rw[Hc (by omega)];simp
  rw[OJ e hp]
  match m with
  |0=>omega
  |m+1=>have:=ZW ht m p (by omega) (by omega);simp;omega
def Ay3 (h:A6)(l:Sl Int):Sl Law:=⟨l.n,fun i=>h.Laws.g (l.g i).toNat⟩
end Go.AM
namespace Go.AM
variable {N:Nat}
open Go.Proofs
def Yt (N:Nat)(l:Law)(w:Sl Sm):Option (Sl Sm):=(T0 N l w).bind fun y=>if y.2=0 then some y.1 else none
def KX (N:Nat):List Law->Sl Sm->Option (Sl Sm)
 |[],w=>some w
 |l::L,w=>(Yt N l w).bind (KX N L)
def Ay4 (N:Nat)(l:Law):Prop:=OF l/\chkAll N l
def AK4 {l l' : Law}(h:LE l l')(g:Ay4 N l):Ay4 N l':=⟨Mo h g.1,(GY h).1 g.2⟩
def OR (o o' : Option (Sl Sm)):Prop:=(o=none/\o' = none) \/ ∃v v',o=some v/\o' = some v' /\ SE v v' /\ wOk v
def Yu (a:3000000<=N){l:Law}(hl:Ay4 N l){w:Sl Sm}(hw:wOk w):(∃v,T0 N l w=some (v,0)/\Yt N l w=some v/\wOk v) \/ (∃v,T0 N l w=some (v,11)/\Yt N l w=none):=by
 obtain⟨⟨v,e⟩,_,h1,_,_,_,b⟩:=Kb a hl.1 (LE.refl l) (SE.refl w) fun i c=>(hw.2 i c).ok;rcases b with⟨_,h⟩ | ⟨_,h,h'⟩ | ⟨_,_,h|⟨h,h'⟩⟩
 .exact Pm hl.2 h
 .exact Pm ((CH h).2 hw) h'
 .dsimp only at h;subst h;exact .inr ⟨v,h1,by unfold Yt;rw[h1];rfl⟩
 dsimp only at h h';subst h;exact .inl ⟨v,h1,by unfold Yt;rw[h1];rfl,h'⟩
def Bj4 (c:3000000<=N){l l' : Law}(hl:Ay4 N l)(hle:LE l l'){w w' : Sl Sm}(hw:wOk w)(a:SE w w'):OR (Yt N l w) (Yt N l' w'):=by
 have b:=a.wOk hw;obtain⟨r,r',h1,g,j,f,_⟩:=Kb c hl.1 hle a fun i d=>(hw.2 i d).ok;obtain⟨q,q',k1,k2,k3,k4,_⟩:=Kb c (Mo hle hl.1) (LE.refl l') (SE.refl w') fun i d=>(b.2 i d).ok;obtain rfl:=Bn8 (g.symm.trans k2);rcases Yu c hl hw with⟨v,g1,g2,g3⟩ | ⟨v,g1,g2⟩<;>rcases Yu c (AK4 hle hl) b with⟨u,p1,p2,p3⟩ | ⟨u,p1,p2⟩
 .obtain rfl:=Bn8 (g1.symm.trans h1);obtain rfl:=Bn8 (p1.symm.trans k1);exact .inr ⟨v,u,g2,p2,j.trans k3.symm,g3⟩
 .obtain rfl:=Bn8 (g1.symm.trans h1);obtain rfl:=Bn8 (p1.symm.trans k1);exact Pm (f.trans k4.symm) (by show ¬((0:Int)=11);decide)
 .obtain rfl:=Bn8 (g1.symm.trans h1);obtain rfl:=Bn8 (p1.symm.trans k1);exact Pm (f.trans k4.symm) (by show ¬((11:Int)=0);decide)
 exact .inl ⟨g2,p2⟩
def LEs:List Law->List Law->Prop
 |[],[]=>True
 |p::l,q::m=>LE p q/\LEs l m
 |_,_=>False
def AP4 {N:Nat}(a:3000000<=N):∀(L L' : List Law) (w w' : Sl Sm),(∀l∈L,Ay4 N l)->LEs L L' -> wOk w->SE w w' -> OR (KX N L w) (KX N L' w')
 |[],[],w,w',_,_,hw,hse=>.inr ⟨w,w',rfl,rfl,hse,hw⟩
 |l::L,l' :: L',w,w',hg,⟨h1,h2⟩,hw,hse=>by
  unfold KX;rcases Bj4 a (hg l (by simp)) h1 hw hse with⟨e1,e2⟩ | ⟨v,v',e1,e2,e3,e4⟩
  .rw[e1,e2];exact .inl ⟨rfl,rfl⟩
  rw[e1,e2];exact AP4 a L L' v v' (fun x hx=>hg x (by simp[hx])) h2 e4 e3
 |[],_::_,_,_,_,h,_,_=>h.elim
 |_::_,[],_,_,_,h,_,_=>h.elim
def Yv (f:3000000<=N){laws:Sl Law}(hl:GZ laws)(c:Ih N laws):∀(m i:Nat) (w:Sl Sm),wOk w->i<=laws.n->laws.n<=i+m ->
 (∃L,(∀M,m<M->S0 M (U6 N 0 laws) w i=some L)/\KX N (laws.toList.drop i) w=some (Kc w L)/\wOk (Kc w L)) \/
 ((∃L,∀M,m<M->S0 M (U6 N 0 laws) w i=none/\S0 M (U6 N 11 laws) w i=some L)/\KX N (laws.toList.drop i) w=none):=by
 have b:=c.1;have fin:∀(m i:Nat) (w:Sl Sm),wOk w->i=laws.n->∃L,(∀M,m<M->S0 M (U6 N 0 laws) w i=some L)/\KX N (laws.toList.drop i) w=some (Kc w L)/\wOk (Kc w L):=by rintro m i w hw rfl;refine⟨[],fun M d=>?_,by rw[DO];rfl,hw⟩;obtain⟨M,rfl⟩:∃K,M=K+1:=⟨M-1,by omega⟩;rw[G0,U6,Pj,Pk rfl]
 intro m
 induction m with
 |zero=>exact fun i w hw g hm=>.inl (fin 0 i w hw (by omega))
 |succ m ih=>
  intro i w hw g hm;by_cases a:i<laws.n
  case neg=>exact .inl (fin _ i w hw (by omega))
  rw[FO _ a];rcases Yu f ⟨hl i a,c.2 i a⟩ hw with⟨v,g1,g2,g3⟩ | ⟨v,g1,g2⟩
  .rcases ih (i+1) v g3 (by omega) (by omega)with⟨L,a1,a2,a3⟩ | ⟨⟨L,a1⟩,a2⟩
   .refine .inl ⟨((i+1:Nat),v)::L,fun M d=>?_,by unfold KX;rw[g2];exact a2,a3⟩;obtain⟨M,rfl⟩:∃K,M=K+1:=⟨M-1,by omega⟩;rw[G0,T1 a b g1,Pj];show Az _ (S0 M (U6 N 0 laws) v _)=_;rw[a1 M (by omega)];rfl
   refine .inr ⟨⟨((i+1:Nat),v)::L,fun M d=>?_⟩,by unfold KX;rw[g2];exact a2⟩;obtain⟨M,rfl⟩:∃K,M=K+1:=⟨M-1,by omega⟩;obtain⟨b1,b2⟩:=a1 M (by omega);rw[G0,G0,T1 a b g1,T1 a b g1,Pj,Pj];refine⟨?_,?_⟩
   .show Az _ (S0 M (U6 N 0 laws) v _)=_;rw[b1];rfl
   show Az _ (S0 M (U6 N 11 laws) v _)=_;rw[b2];rfl
  refine .inr ⟨⟨[],fun M d=>?_⟩,by unfold KX;rw[g2];rfl⟩;obtain⟨M,rfl⟩:∃K,M=K+1:=⟨M-1,by omega⟩;rw[G0,G0,T1 a b g1,T1 a b g1];exact⟨rfl,rfl⟩
def Yw (g:3000000<=N){laws:Sl Law}(hl:GZ laws)(d:Ih N laws){w:Sl Sm}(hw:wOk w) :(∃v,KX N laws.toList w=some v/\K3 N laws w=some (v,0)/\wOk v) \/ (KX N laws.toList w=none/\K3 N laws w=some (Si,11)):=by
 have j:=d.1;have l:=hw.1;obtain⟨e,e1,m⟩:=OI g hl (w:=w) fun i o=>(hw.2 i o).ok
 have:e=0:=by
  rcases m with⟨h,h'⟩ | ⟨_,h⟩
  .exact Hx h (lawsE_zero.2 d)
  exact (CH h).2 hw
 subst this;have b:B7 N w=some w:=by unfold B7;rw[Pe]
 have a:∀c,D5 N c laws w=(Az (0,w) (S0 N (U6 N c laws) w 0)).bind fun L1=>Q5 L1 (fun (f:Sl Sm->Option (Sl Sm)) (x1:Int×(Sl Sm)) (z1:Sl Sm)=>f x1.2) (fun (z1:Sl Sm)=>some z1) Si:=by intro c;unfold D5 Bc W0;rw[Bm6,b,Bm6];rfl
 unfold K3;rw[e1,Bm6,Pl (by decide)];rcases Yv g hl d laws.n 0 w hw (by omega) (by omega)with⟨L,g1,g2,g3⟩ | ⟨⟨L,g1⟩,g2⟩
 .have g1:S0 N (U6 N 0 laws) w 0=some L:=g1 N (by omega)
  have:G6 N laws w=some (Kc w L,true):=by
   have e0:D5 N 0 laws w=some (Kc w L):=by rw[a,g1];exact Kd _ _
   unfold G6;rw[e0]
  rw[this];exact .inl ⟨_,g2,rfl,g3⟩
 obtain⟨g3,g4⟩:=g1 N (by omega);have g3:S0 N (U6 N 0 laws) w 0=none:=g3;have g4:S0 N (U6 N 11 laws) w 0=some L:=g4
 have:G6 N laws w=some (Si,false):=by
  have e0:D5 N 0 laws w=none:=by rw[a,g3];rfl
  have e11:D5 N 11 laws w=some (Kc w L):=by rw[a,g4];exact Kd _ _
  unfold G6;rw[e0,e11];rfl
 rw[this];exact .inr ⟨g2,rfl⟩
def AP5 {α : Type}(s t:Sl α):(s.app t).toList=s.toList++t.toList:=by
 show (List.range (s.n+t.n)).map (fun i=>if i<s.n then s.g i else t.g (i-s.n))=_;rw[List.range_add,Bs4,Bt3];congr 1
 .exact Bp7 fun i a=>Pk (Bp3.1 a)
 refine Bp7 fun i a=>?_;show (if s.n+i<s.n then _ else t.g (s.n+i-s.n))=_;rw[Pg];congr 1;omega
def SZ (h:A6)(l:Sl Int):(Ay3 h l).toList=l.toList.map fun (i:Int)=>h.Laws.g i.toNat:=by unfold Ay3 Sl.toList;rw[Bt3];rfl
def Ay5 (h:A6)(L:List Nat):List Law:=L.flatMap fun x=>(Ay3 h (h.On.g x)).toList
def VN {h:A6}(ht:W3 h.Tree):∀(m v:Nat),v<=m->v<h.Tree.n->Ay5 h (Kf h.Tree v)=(Ay3 h (Ez h v)).toList
 |m,v,hm,hv=>by
  rcases Ac ht hv with⟨_,e⟩ | ⟨p,hp,e⟩
  .rw[Hc (by omega),Fg (by omega),AY8 rfl];simp[Ay5]
  rw[OJ e hp,Ke e hp,SZ,AP5,Bs4,<- SZ,<- SZ]
  match m with
  |0=>omega
  |m+1=>rw[<- VN ht m p (by omega) (by omega)];simp[Ay5]
def Ba0 {h:A6}(a:CS N h){x:Nat}(hx:x<h.Tree.n):(h.On.g x).n<=64/\∀i,i<(h.On.g x).n->0<=(h.On.g x).g i/\(h.On.g x).g i<h.Laws.n:=by
 have c:=a.on;refine⟨?_,fun j b=>?_⟩
 .have hl:(Ez h x).n<=64:=BA2 fun g=>a.long ⟨x,by omega,g⟩;rcases Ac a.tree hx with⟨_,e⟩ | ⟨p,hp,e⟩
  .rw[Fg (by omega)]at hl;have hl:0+(h.On.g x).n<=64:=hl;omega
  rw[Ke e hp]at hl;have hl:(Ez h p).n+(h.On.g x).n<=64:=hl;omega
 have:=a.bad x (by omega)
 constructor
 .exact Int.not_lt.1 fun g=>this ⟨j,b,.inl g⟩
 exact Int.not_le.1 fun g=>this ⟨j,b,.inr g⟩
end Go.AM
namespace Go.AM
variable {N:Nat}
open IntKind (wrap)
open Go.Proofs
def eqR {R:Type}{x:Option R}{y:R}(h:∃r,x=some r/\r=y):x=some y:=by obtain⟨r,h,rfl⟩:=h;exact h
def Tb (t:Sl J4)(v:Nat):Prop:=∀u,0<u->u<t.n->(t.g u).Parent≠(v:Int)
open Classical in
noncomputable def G8 (t:Sl J4):Nat->Sl Int
 |0=>Sh
 |i+1=>if Tb t i then (G8 t i).push (i:Int)else G8 t i
def OK {t:Sl J4}{i:Nat}(h:Tb t i):G8 t (i+1)=(G8 t i).push (i:Int):=Pk h
def Tc {t:Sl J4}{i:Nat}(h:¬Tb t i):G8 t (i+1)=G8 t i:=Pl h
def Td (t:Sl J4):∀i,(G8 t i).n<=i
 |0=>Bm9 0
 |i+1=>by
  have:=Td t i
  by_cases h:Tb t i
  .rw[OK h];show (G8 t i).n+1<=i+1;omega
  rw[Tc h];omega
def OL (t:Sl J4):∀i k,k<(G8 t i).n->∃v:Nat,v<i/\(G8 t i).g k=(v:Int)
 |0,k,hk=>Pm hk (Bp1 k)
 |i+1,k,hk=>by
  by_cases h:Tb t i
  .rw[OK h]at hk⊢;have hk:k<(G8 t i).n+1:=hk;show ∃v:Nat,v<i+1/\(if k<(G8 t i).n then (G8 t i).g k else (i:Int))=(v:Int);by_cases a:k<(G8 t i).n
   .rw[Pk a];obtain⟨v,h1,b⟩:=OL t i k a;exact⟨v,by omega,b⟩
   rw[Pl a];exact⟨i,by omega,rfl⟩
  rw[Tc h]at hk⊢;obtain⟨v,h1,b⟩:=OL t i k hk;exact⟨v,by omega,b⟩
def AK5 (s:3000000<=N){t:Sl J4}(ht:W3 t):∃X,Z9 N t=some X/\(X.n=t.n/\∀v,v<t.n->((X.g v).n=0↔Tb t v)):=by
 have o:=ht.2.1;unfold Z9;refine Am (Q0 (fun i x (X:Sl (Sl Int))=>x=(i:Int)/\X.n=t.n/\∀v,v<t.n->(((X.g v).n=0 ↔ ∀u,0<u->u<i->(t.g u).Parent≠(v:Int))/\(X.g v).n<=i)) t.n _ (by omega)
  ⟨rfl,rfl,fun v b=>⟨⟨fun _ u h1 a=>Pm a (Bp1 u),fun _=>rfl⟩,Bm9 0⟩⟩ ?_)
 rintro l i x X hle ⟨rfl,c,f⟩ hs;by_cases hl:i<t.n
 case neg=>
  obtain rfl:i=t.n:=by omega
  exact Oj ⟨X,rfl,c,fun v b=>(f v b).1⟩
 refine ifT (by simpa using hl) (Am ?_);rw[Bm2,Pd];rcases Ac ht hl with⟨q,h1⟩ | ⟨p,hp,e⟩
 .subst q;rw[h1];refine ifT (by show Int.toNat (-1)<X.n;rw[c];exact hl) (ltX (Oj (hs hl _ _ ⟨rfl,c,fun v b=>?_⟩)));have e:(X.upd (Int.toNat (-1)) (X.g (Int.toNat (-1)))).g v=X.g v:=by
   show (if v=_ then X.g (Int.toNat (-1))else X.g v)=X.g v;split
   .rename_i e;rw[e]
   rfl
  rw[e];obtain⟨g1,g2⟩:=f v b;exact⟨g1.trans ⟨fun _ u h1 a=>Pm a (by omega),fun _ u h1 a=>Pm a (by omega)⟩,by omega⟩
 rw[e,Bm2];have j:p<t.n:=by omega
 have m:=(f p j).2;refine Am (ltX (An (ifT ⟨⟨by omega,by rw[c];omega⟩,by omega,by omega⟩ (hs hl _ _ ⟨rfl,c,fun v b=>?_⟩))));show ((if v=p then (X.g p).push (i:Int)else X.g v).n=0↔_)/\(if v=p then (X.g p).push (i:Int)else X.g v).n<=i+1;by_cases d:v=p
 .subst d;rw[Pk rfl];refine⟨⟨fun h=>Pm h (Nat.succ_ne_zero _),fun h=>Pm e (h i (by omega) (by omega))⟩,?_⟩;show (X.g v).n+1<=i+1;omega
 rw[Pl d];obtain⟨g1,g2⟩:=f v b;refine⟨g1.trans ⟨fun h u h1 a=>?_,fun h u h1 a=>h u h1 (by omega)⟩,by omega⟩;by_cases r:u=i
 .subst r;rw[e];omega
 exact h u h1 (by omega)
def Bj5 {R:Type}{Q:R->Prop}{a:Sl Int->Int->Option R}{t:Sl J4}{i:Nat}(c:i<1000){b:Bool}(hb:b=true↔Tb t i)(h:∃r,a (G8 t (i+1)) ((i+1:Nat):Int)=some r/\Q r) :∃r,(if b then
  if (((G8 t i).n+(Sl.of [(i:Int)]:Sl Int).n)*8<=140737488355328/\(G8 t i).n+(Sl.of [(i:Int)]:Sl Int).n<=140737488355328)then
   a ((G8 t i).push (i:Int)) (wrap .i64 ((i:Int)+1))
  else none
  else a (G8 t i) (wrap .i64 ((i:Int)+1)))=some r/\Q r:=by
 have hn:=Td t i;rw[Pd];by_cases hk:Tb t i
 .rw[OK hk]at h;exact ifT (hb.2 hk) (ifT ⟨by show ((G8 t i).n+1)*8<=_;omega,by show (G8 t i).n+1<=_;omega⟩ h)
 rw[Tc hk]at h;exact ifF (fun g=>hk (hb.1 g)) h
def Yx (c:3000000<=N){t:Sl J4}(ht:W3 t):∃r,BO N t=some r/\r=G8 t t.n:=by
 have d:=ht.2.1;unfold BO;obtain⟨X,e,a,hk⟩:=AK5 c ht;refine B3 e (Q0 (fun i x1 x2=>x2=(i:Int)/\x1=G8 t i) t.n _ (by omega) ⟨rfl,rfl⟩ ?_);rintro b i x1 x2 hle ⟨rfl,rfl⟩ hs;by_cases hl:i<t.n
 .refine ifT (by rw[a];simpa using hl) (Am ?_);rw[Bm2];exact Bj5 (by omega) (by rw[<- hk i hl];simp) (hs hl _ _ ⟨rfl,rfl⟩)
 obtain rfl:i=t.n:=by omega
 exact ifF (by rw[a];simp) ⟨_,rfl,rfl⟩
def AK6 (l:3000000<=N){t:Sl J4}(ht:W3 t){v:Nat}(m:v<t.n):∃r,AL N t (v:Int)=some r/\(r.n=0↔Tb t v):=by
 have f:=ht.2.1;unfold AL;refine Q0 (fun i (x1:Sl Int) x2=>x2=(i:Int)/\x1.n<=i/\(x1.n=0 ↔ ∀u,0<u->u<i->(t.g u).Parent≠(v:Int))) t.n _ (by omega) ⟨rfl,Bm9 0,fun _ u h1 a=>Pm a (Bp1 u),fun _=>rfl⟩ ?_;rintro b i x1 x2 hle ⟨rfl,hn,c⟩ hs;by_cases hl:i<t.n
 .refine ifT (by simpa using hl) (Am ?_);rw[Bm2,Pd];by_cases hp:(t.g i).Parent=(v:Int)
  .have d:0<i:=by
    rcases Ac ht hl with⟨d,h1⟩ | ⟨p,hp,e⟩
    .rw[h1]at hp;omega
    omega
   refine ifT (by simpa using hp) (ifT ⟨by show (x1.n+1)*8<=_;omega,by show x1.n+1<=_;omega⟩ (hs hl _ _ ⟨rfl,by show x1.n+1<=i+1;omega,fun h=>Pm h (Nat.succ_ne_zero _),fun h=>Pm hp (h i d (by omega))⟩))
  refine ifF (by simpa using hp) (hs hl _ _ ⟨rfl,by omega,c.trans ⟨fun h u h1 a=>?_,fun h u h1 a=>h u h1 (by omega)⟩⟩);by_cases j:u=i
  .subst j;exact hp
  exact h u h1 (by omega)
 obtain rfl:i=t.n:=by omega
 exact Oj ⟨_,rfl,c⟩
def KY (a:3000000<=N){t:Sl J4}(c:Hb t):∃s e,J9 N t=some (s,e)/\R8 N t=some (s,e)/\((W3 t/\e=0/\s=G8 t t.n) \/ (¬W3 t/\e=16/\s=Sh)):=by
 obtain⟨e,e1,e2,d⟩:=Hy a c;unfold J9 R8;rw[e1,e2,Bm6,Bm6];rcases d with⟨rfl,ht⟩ | ⟨rfl,ht⟩
 .have f:=ht.2.1;rw[Pl (by decide),Pl (by decide)];obtain⟨r,g1,rfl⟩:=Yx a ht;refine⟨_,0,by rw[g1];rfl,eqR (Q0 (fun i x1 x2=>x2=(i:Int)/\x1=G8 t i) t.n _ (by omega) ⟨rfl,rfl⟩ ?_),.inl ⟨ht,rfl,rfl⟩⟩;rintro b i x1 x2 hle ⟨rfl,rfl⟩ hs;by_cases hl:i<t.n
  .refine ifT (by simpa using hl) ?_;obtain⟨r,k1,k2⟩:=AK6 a ht hl;exact B3 k1 (Bj5 (by omega) (by rw[<- k2];simp) (hs hl _ _ ⟨rfl,rfl⟩))
  obtain rfl:i=t.n:=by omega
  exact Oj ⟨_,rfl,rfl⟩
 exact⟨_,16,Pk (by decide),Pk (by decide),.inr ⟨ht,rfl,rfl⟩⟩
end Go.AM
namespace Go.AM
open Go.Proofs
def outR (o:Option (Sl Sm))(y:Sl Sm)(e:Int):Prop:=(∃x,o=some x/\e=0/\SE y x/\wOk y) \/ (o=none/\e=11/\y.n=0)
end Go.AM
namespace Go.AM
variable {N:Nat}
open Go.Proofs
def VO {t:Sl J4}(ht:W3 t):∀(M v:Nat),v+1<=M->v<t.n->∃s,EG M t (v:Int)=some s/\s.toList=(Kf t v).map (fun (x:Nat)=>(x:Int))/\s.n<=v+1
 |0,v,hM,_=>by omega
 |M+1,v,hM,hv=>by
  have b:=ht.2.1;show ∃s,CD (EG M) M t (v:Int)=some s/\_;unfold CD;by_cases a:v=0
  .subst a;refine ifT rfl ⟨_,rfl,?_,Bm9 1⟩;rw[Hc (by have:=(ht.2.2 0 hv).1 rfl;omega)];rfl
  refine Oi (Am ?_);rw[Bm2];rcases Ac ht hv with⟨h1,_⟩ | ⟨p,hp,e⟩
  .exact Pm h1 a
  obtain⟨s,g1,g2,g3⟩:=VO ht M p (by omega) (by omega);rw[e];refine B3 g1 (ifT ⟨by show (s.n+1)*8<=_;omega,by show s.n+1<=_;omega⟩ ⟨_,rfl,?_,by show s.n+1<=_;omega⟩);rw[OJ e hp,Bs4,<- g2,Gv];rfl
def Ay6 (a:3000000<=N){t:Sl J4}(b:Hb t)(ht:W3 t){v:Nat}(c:v<t.n):∃s,EH N t (v:Int)=some (s,0)/\s.toList=(Kf t v).map (fun (x:Nat)=>(x:Int))/\s.n<=64:=by
 have d:=ht.2.1;obtain⟨e,_,e1,f⟩:=Hy a b
 have:e=0:=by
  rcases f with⟨h,_⟩ | ⟨_,h⟩
  .exact h
  exact Pm ht h
 subst this;obtain⟨s,g1,g2,g3⟩:=VO ht N v (by omega) c;refine⟨s,?_,g2,by omega⟩;unfold EH Hh;rw[e1,Bm6,Ph,Bm6,Pj,g1];rfl
def AP6 {t:Sl J4}(ht:W3 t):∀(M v:Nat),v+2<=M->v<t.n->Q7 M (fun (a:Int->Option (List Int)) (x1:Int)=>
 if (decide (0<=x1)) then
  Az x1 (
   if ((0:Int)<=x1/\x1<(t.n:Int))then
    a (t.g x1.toNat).Parent
   else none
   )
 else
  some []) (v:Int)=some ((Kf t v).map (fun (x:Nat)=>(x:Int))).reverse
 |0,v,hM,_=>by omega
 |M+1,v,hM,hv=>by
  rw[T9,Pk (by simp),Pe,Bm2];rcases Ac ht hv with⟨_,e⟩ | ⟨p,hp,e⟩
  .obtain⟨M,rfl⟩:∃K,M=K+1:=⟨M-1,by omega⟩;rw[e,T9,Pl (by decide),Hc (by omega)];rfl
  rw[e,AP6 ht M p (by omega) (by omega),OJ e hp,Bs4,By3];rfl
def ZX:∀(L:List Int) (z:Sl Int),z.n+L.length<=100000->∃s,Q5 L (fun (a:Sl Int->Option (Sl Int)) (x1:Int) (z1:Sl Int)=>
 if ((z1.n+(Sl.of [x1]:Sl Int).n)*8<=140737488355328/\z1.n+(Sl.of [x1]:Sl Int).n<=140737488355328)then
  a (z1.push x1)
 else none
 ) (fun (z1:Sl Int)=>some z1) z=some s/\s.toList=z.toList++L
 |[],z,_=>⟨z,rfl,by simp⟩
 |x::L,z,h=>by obtain⟨s,s1,s2⟩:=ZX L (z.push x) (by show z.n+1+L.length<=_;simp at h;omega);refine⟨s,?_,by rw[s2,Gv];simp⟩;show (if _ then _ else _)=_;rw[Pk (by show (z.n+1)*8<=_/\z.n+1<=_;simp at h;omega)];exact s1
def Ba1 {x:Sl Int}(hn:x.n<100000)(d:x.n<N):∃s,H8 N x=some s/\(s.n=x.n/\∀j,j<x.n->s.g j=x.g (x.n-1-j)):=by
 unfold H8;refine TP (fun i (x1:Sl Int) x2 x3=>x2=(i:Int)/\x3=(x.n:Int)-1-(i:Int)/\x1.n=x.n/\i<=x.n-i/\∀j,j<x.n->x1.g j=if j<i \/ x.n<=j+i then x.g (x.n-1-j)else x.g j) x.n _ d ⟨rfl,(F1 (by omega) (by omega)).trans (by omega),rfl,by omega,fun j b=>by rw[Pg]⟩ ?_;rintro c i x1 x2 x3 f ⟨rfl,rfl,hx,hle,b⟩ hs;by_cases hl:(i:Int)<(x.n:Int)-1-(i:Int)
 .have e3:((x.n:Int)-1-(i:Int)).toNat=x.n-1-i:=by omega
  refine ifT (by simpa using hl) (ifT (by rw[Sl.upd];dsimp only;omega) ?_);rw[Bm2,e3];refine hs (by omega) _ _ _ ⟨Pd,by rw[F1 (by omega) (by omega)];omega,hx,by omega,fun j a=>?_⟩;show (if j=x.n-1-i then x1.g i else if j=i then x1.g (x.n-1-i)else x1.g j)=_;by_cases e1:j=x.n-1-i
  .rw[Pk e1,b i (by omega),Pg,Pe];congr 1;omega
  rw[Pl e1];by_cases e2:j=i
  .rw[Pk e2,b _ (by omega),Pg,Pe];congr 1;omega
  rw[Pl e2,b j a];by_cases e4:j<i \/ x.n<=j+i
  .rw[Pk e4,Pe]
  rw[Pl e4,Pg]
 refine ifF (by simpa using hl) ⟨_,rfl,hx,fun j a=>?_⟩;rw[b j a];by_cases e4:j<i \/ x.n<=j+i
 .rw[Pk e4]
 rw[Pl e4];congr 1;omega
def Bj6 {x s:Sl Int}(hn:s.n=x.n)(h:∀j,j<x.n->s.g j=x.g (x.n-1-j)):s.toList=x.toList.reverse:=by refine List.ext_getElem (by rw[DU,List.length_reverse,DU,hn]) fun i h1 a=>?_;rw[DU]at h1;rw[List.getElem_reverse];simp only[Sl.toList,List.getElem_map,BG7,Bq3,BC6];exact h i (by omega)
def Ay7 (f:3000000<=N){t:Sl J4}(a:Hb t)(ht:W3 t){v:Nat}(b:v<t.n):∃s,DN N t (v:Int)=some (s,0)/\s.toList=(Kf t v).map (fun (x:Nat)=>(x:Int))/\s.n<=64:=by
 have g:=ht.2.1;have c:=ZW ht v v (Bm9 _) b;obtain⟨e,e1,_,j⟩:=Hy f a
 have:e=0:=by
  rcases j with⟨h,_⟩ | ⟨_,h⟩
  .exact h
  exact Pm ht h
 subst this;have hc:CE N t (Sl.of [(v:Int)]:Sl Int)=some 0:=by
  unfold CE;rw[e1,Bm6,Pl (by decide)];refine eqR ?_;refine X5 (fun i x=>x=(i:Int)) 1 _ (by omega) rfl ?_;rintro d i x a rfl hs;by_cases hl:i<1
  .obtain rfl:i=0:=by omega
   exact Gc (Gc (Oi (hs hl _ (Pd))))
  exact Oi ⟨_,rfl,rfl⟩
 have l:Co N (v:Int) t=some ((Kf t v).map (fun (x:Nat)=>(x:Int))).reverse:=by unfold Co;exact AP6 ht N v (by omega) b
 obtain⟨z,z1,z2⟩:=ZX ((Kf t v).map (fun (x:Nat)=>(x:Int))).reverse Sh (by simp;omega);have zn:z.n=(Kf t v).length:=by
  have:=congrArg List.length z2
  rw[DU]at this;simpa[Sl.toList]using this
 obtain⟨s,s1,s2,s3⟩:=Ba1 (N:=N) (x:=z) (by omega) (by omega);refine⟨s,?_,?_,by omega⟩
 .unfold DN;rw[hc,Bm6,Pl (by decide),JW,Bm6];show (Co N (v:Int) t).bind _=_;rw[l,Bm6];unfold S5 I5;rw[z1,Bm6,Bm6,s1];rfl
 rw[Bj6 s2 s3,z2];simp[Sl.toList]
end Go.AM
namespace Go.AM
open Go.Proofs
def Al5 (h:A6)(l:Sl Int)(x:Int):List Law:=(l.toList.filter fun i=>i != x).map fun i=>h.Laws.g i.toNat
def Kg (h:A6)(L:List Nat)(x:Int):List Law:=L.flatMap fun v=>Al5 h (h.On.g v) x
def Te (h:A6)(s:Sl Int)(x:Int):List Law:=s.toList.flatMap fun v=>Al5 h (h.On.g v.toNat) x
def Mp {α : Type}(s:Sl α)(q:Nat):(s.take (q+1)).toList=(s.take q).toList++[s.g q]:=by show (List.range (q+1)).map s.g=(List.range q).map s.g++[s.g q];rw[Bu3,Bs4];rfl
def AP7 (h:A6)(l:Sl Int)(x:Int)(q:Nat):Al5 h (l.take (q+1)) x=Al5 h (l.take q) x++(if (l.g q != x) then [h.Laws.g (l.g q).toNat]else []):=by
 unfold Al5;rw[Mp,BC1,Bs4];by_cases e:(l.g q != x)=true
 .rw[Pk e];simp[e]
 rw[Pl e];simp[e]
def Ay8 (h:A6)(s:Sl Int)(x:Int)(m:Nat):Te h (s.take (m+1)) x=Te h (s.take m) x++Al5 h (h.On.g (s.g m).toNat) x:=by unfold Te;rw[Mp,BB4];simp
def Ay9 {h:A6}{s:Sl Int}{W:List Nat}{x:Int}(e:s.toList=W.map fun (v:Nat)=>(v:Int)):Te h s x=Kg h W x:=by unfold Te Kg;rw[e,List.flatMap_map];rfl
structure wayE (t:Sl J4) (v:Nat) (s:Sl Int):Prop where
 tl:s.toList=(Kf t v).map fun (x:Nat)=>(x:Int)
 n:s.n<=64
 lt:∀m,m<s.n->∃u:Nat,u<t.n/\s.g m=(u:Int)
def Az0 {t:Sl J4}(ht:W3 t){v:Nat}(b:v<t.n){s:Sl Int}(h1:s.toList=(Kf t v).map fun (x:Nat)=>(x:Int))(c:s.n<=64):wayE t v s:=⟨h1,c,fun m hm=>by have a:s.g m∈s.toList:=Bp0.2 ⟨m,Bp3.2 hm,rfl⟩;rw[h1]at a;obtain⟨u,u1,u2⟩:=Bp0.1 a;exact⟨u,by have:=Ys ht v v (Bm9 _) b u u1;omega,u2.symm⟩⟩
def Yy {N:Nat}(hN:3000000<=N){h:A6}(hi:U4 h)(b:CS N h)(x:Int) :∃X,J0 N h x=some X/\(X.n=(G8 h.Tree h.Tree.n).n/\∀k,k<X.n->(X.g k).toList=Kg h (Kf h.Tree ((G8 h.Tree h.Tree.n).g k).toNat) x/\(X.g k).n<=4096):=by
 have h63:=b.tree.2.1;have hon:=b.on;obtain⟨s,e,l1,_,l3⟩:=KY hN hi.tree;rcases l3 with⟨_,rfl,rfl⟩ | ⟨l3,_⟩
 case inr=>exact Pm b.tree l3
 have a6:=Td h.Tree h.Tree.n;have r:∀k,k<(G8 h.Tree h.Tree.n).n->∃u:Nat,u<h.Tree.n/\(G8 h.Tree h.Tree.n).g k=(u:Int):=fun k hk=>OL h.Tree h.Tree.n k hk;generalize G8 h.Tree h.Tree.n=s at l1 a6 r;unfold J0;refine B3 l1 (ifT (by dsimp only;omega) (ifT (by dsimp only;omega) ?_));dsimp only;refine TP (fun i (K:Nat) (X:Sl (Sl Law)) y=>i=K/\y=(i:Int)/\X.n=s.n/\(∀k,k<i->(X.g k).toList=Kg h (Kf h.Tree (s.g k).toNat) x/\(X.g k).n<=4096)/\∀k,i<=k->(X.g k).n=0) s.n _ (by omega) ⟨rfl,rfl,rfl,fun k hk=>Pm hk (by omega),fun k _=>rfl⟩ ?_;rintro self i K X y hle ⟨rfl,rfl,hX,t,j⟩ hs;by_cases hl:i<s.n
 case neg=>
  obtain rfl:i=s.n:=by omega
  exact Oj (ifT ⟨rfl,hX⟩ ⟨_,rfl,hX,fun k hk=>t k (by omega)⟩)
 obtain⟨u,hu,a0⟩:=r i hl;obtain⟨w,w1,w2,w3⟩:=Ay7 hN hi.tree b.tree hu;have hw:=Az0 b.tree hu w2 w3;refine An (Am ?_);rw[Bm2,a0];refine B3 w1 ?_;dsimp only;refine Q0 (fun m (X' : Sl (Sl Law)) z=>z=(m:Int)/\X'.n=s.n/\(∀k,k≠i->X'.g k=X.g k)/\(X'.g i).toList=Te h (w.take m) x/\(X'.g i).n<=m*64) w.n _ (by omega) ⟨rfl,hX,fun _ _=>rfl,by
  have:=j i (Bm9 _)
  unfold Sl.toList;rw[this];rfl,by rw[j i (Bm9 _)];omega⟩ ?_
 rintro self2 m X' z hm ⟨rfl,a1,l,a2,hlen⟩ hs2;by_cases a3:m<w.n
 case neg=>
  obtain rfl:m=w.n:=by omega
  refine Oj (ifT ⟨rfl,hl⟩ (hs hl _ _ _ ⟨rfl,Pd,a1,fun k hk=>?_,fun k hk=>by rw[l k (by omega)];exact j k (by omega)⟩));by_cases e:k=i
  .subst e;refine⟨?_,by omega⟩;rw[a2,a0,Bm2,<- Ay9 hw.tl]
  rw[l k e];exact t k (by omega)
 obtain⟨v,hv,a4⟩:=hw.lt m a3;obtain⟨o1,o2⟩:=Ba0 b hv;refine An ?_;rw[Bm2,a4,Bm2];refine Am ?_;refine Q0 (fun q (X'' : Sl (Sl Law)) z=>z=(q:Int)/\X''.n=s.n/\(∀k,k≠i->X''.g k=X.g k)/\(X''.g i).toList=Te h (w.take m) x++Al5 h ((h.On.g v).take q) x/\(X''.g i).n<=m*64+q) (h.On.g v).n _ (by omega) ⟨rfl,a1,l,by rw[a2];simp[Al5,Sl.toList],by omega⟩ ?_;rintro self3 q X'' z hq ⟨rfl,c,d,f,hlen'⟩ a5;by_cases o:q<(h.On.g v).n
 case neg=>
  obtain rfl:q=(h.On.g v).n:=by omega
  refine Oj (hs2 a3 _ _ ⟨Pd,c,d, ?_,by omega⟩);rw[f,Ay8,a4,Bm2]
 have hvq:=o2 q o;refine An (Am ?_);rw[Bm2];have a:=AP7 h (h.On.g v) x q;by_cases e:((h.On.g v).g q != x)=true
 .rw[Pk e]at a;refine ifT e (Am (Am (Am (a5 o _ _ ⟨Pd,c,fun k hk=>?_,?_,?_⟩))))
  .show (if k=i then _ else X''.g k)=_;rw[Pl hk];exact d k hk
  .show (if i=i then _ else X''.g i).toList=_;rw[Pk rfl,Gv,f,a,Bt5]
  show (if i=i then _ else X''.g i).n<=_;rw[Pk rfl];show (X''.g i).n+1<=_;omega
 rw[Pl e,Br5]at a;exact ifF e (a5 o _ _ ⟨Pd,c,d,by rw[f,a],by omega⟩)
def Az1 {N:Nat}(hN:3000000<=N){h:A6}(hi:U4 h)(b:CS N h){u:Nat}(hu:u<h.Tree.n)(x:Int) :∃s,EI N h (u:Int) x=some s/\(s.toList=Kg h (Kf h.Tree u) x/\s.n<=4096):=by
 have h63:=b.tree.2.1;have hon:=b.on;obtain⟨w,w1,w2,w3⟩:=Ay6 hN hi.tree b.tree hu;have hw:=Az0 b.tree hu w2 w3;unfold EI;refine B3 w1 ?_;dsimp only;refine Q0 (fun m (s:Sl Law) z=>z=(m:Int)/\s.toList=Te h (w.take m) x/\s.n<=m*64) w.n _ (by omega) ⟨rfl,rfl,by show 0<=_;omega⟩ ?_;rintro o m s z hm ⟨rfl,f,hlen⟩ r;by_cases i:m<w.n
 case neg=>
  obtain rfl:m=w.n:=by omega
  exact Oj ⟨_,rfl,by rw[f,<- Ay9 hw.tl];first|done|rfl,by omega⟩
 obtain⟨v,hv,j⟩:=hw.lt m i;obtain⟨o1,o2⟩:=Ba0 b hv;refine An ?_;rw[Bm2,j,Bm2];refine Am ?_;refine Q0 (fun q (s:Sl Law) z=>z=(q:Int)/\s.toList=Te h (w.take m) x++Al5 h ((h.On.g v).take q) x/\s.n<=m*64+q) (h.On.g v).n _ (by omega) ⟨rfl,by rw[f];simp[Al5,Sl.toList],by omega⟩ ?_;rintro t q s' z hq ⟨rfl,c,y⟩ l;by_cases d:q<(h.On.g v).n
 case neg=>
  obtain rfl:q=(h.On.g v).n:=by omega
  refine Oj (r i _ _ ⟨Pd,?_,by omega⟩);rw[c,Ay8,j,Bm2]
 have hvq:=o2 q d;refine An (Am ?_);rw[Bm2];have a:=AP7 h (h.On.g v) x q;by_cases e:((h.On.g v).g q != x)=true
 .rw[Pk e]at a;refine ifT e (Am (ifT (by show (s'.n+1)*200<=_/\s'.n+1<=_;omega) (l d _ _ ⟨Pd,?_,by show s'.n+1<=_;omega⟩)));rw[Gv,c,a,Bt5]
 rw[Pl e,Br5]at a;exact ifF e (l d _ _ ⟨Pd,by rw[c,a],by omega⟩)
end Go.AM
namespace Go.AM
open IntKind (wrap)
open Go.Proofs
def Az2 (n:Nat):IntKind.u8.wrap (n:Int)=((n % 256:Nat):Int):=by
 have h1:((n:Int) % (2 ^ 8:Int))=((n % 256:Nat):Int):=by omega
 unfold wrap;simp only[IntKind.bits,IntKind.signed,h1,Bv7,Bn1,Po]
def Yz (p k:Nat):UInt8:=UInt8.ofNat (p / 2 ^ k % 256)
def Ak6 (p:Int):List UInt8:=[Yz p.toNat 0,Yz p.toNat 8,Yz p.toNat 16]
def AA8 (s:Sm):List UInt8:=Ak6 s.Plus++Ak6 s.Minus
def Bc4 (w:Sl Sm):Str:=w.toList.flatMap AA8
def Tf {p q k:Nat}(h:Yz p k=Yz q k):p / 2 ^ k % 256=q / 2 ^ k % 256:=by
 have:=congrArg UInt8.toNat h
 unfold Yz at this;rw[BH0,BH0]at this;omega
def ZY {p q:Nat}(hp:p<16777216)(c:q<16777216)(h:Ak6 (p:Int)=Ak6 (q:Int)):p=q:=by simp only[Ak6,Bt8,and_true,Bm2]at h;obtain⟨a,h1,b⟩:=h;have a:=Tf a;have h1:=Tf h1;have b:=Tf b;simp only[Nat.reducePow]at a h1 b;omega
def AK7 {s t:Sm}(hs:vS s)(ht:vS t)(h:AA8 s=AA8 t):s=t:=by obtain⟨p,m,rfl,b⟩:=hs;obtain⟨p',m',rfl,a⟩:=ht;obtain⟨_,a1,a2⟩:=(Au6 p m).1 b;obtain⟨_,b1,b2⟩:=(Au6 p' m').1 a;have hl:(Ak6 (sOf p m).Plus).length=(Ak6 (sOf p' m').Plus).length:=rfl;obtain⟨h1,c⟩:=List.append_inj h hl;have e1:=ZY a1 b1 h1;have e2:=ZY a2 b2 c;rw[Bq2 e1,Bq2 e2]
def ZZ:∀(L M:List Sm),(∀s∈L,vS s)->(∀s∈M,vS s)->L.flatMap AA8=M.flatMap AA8->L=M
 |[],[],_,_,_=>rfl
 |[],b::M,_,_,h=>by
  have:=congrArg List.length h
  simp[Bu0,AA8,Ak6]at this
 |a::L,[],_,_,h=>by
  have:=congrArg List.length h
  simp[Bu0,AA8,Ak6]at this
 |a::L,b::M,hL,hM,h=>by rw[Bu0,Bu0]at h;obtain⟨h1,c⟩:=List.append_inj h rfl;rw[AK7 (hL a (by simp)) (hM b (by simp)) h1,ZZ L M (fun s hs=>hL s (by simp[hs])) (fun s hs=>hM s (by simp[hs])) c]
def Ba2 {w w' : Sl Sm}(hw:wOk w)(a : wOk w')(h:Bc4 w=Bc4 w'):SE w w':=by
 have hm:∀{w:Sl Sm},wOk w->∀s∈w.toList,vS s:=fun hw s hs=>by obtain⟨i,b,rfl⟩:=Bp0.1 hs;exact hw.2 i (Bp3.1 b)
 exact tl_eq.1 (ZZ _ _ (hm hw) (hm a) h)
def Az3 (p:BitVec 32)(k:Nat)(hk:k<=32):wrap .u8 (shI .shr .u32 (p.toNat:Int) (k:Int))=((p.toNat / 2 ^ k % 256:Nat):Int):=by rw[Ar6,Az2,Bw4,Bv8]
def Tg (s:Sl Int):Xl s=s.toList.map fun i=>UInt8.ofNat i.toNat:=by show _=((List.range s.n).map s.g).map _;rw[Bt3];rfl
def VP (s t:Sl Int):Xl (s.app t)=Xl s++Xl t:=by rw[Tg,Tg,Tg,AP5,Bs4]
def str3 (p:BitVec 32):Xl (Sl.of [wrap .u8 (p.toNat:Int),wrap .u8 (shI .shr .u32 (p.toNat:Int) 8),wrap .u8 (shI .shr .u32 (p.toNat:Int) 16)]:Sl Int)=Ak6 (p.toNat:Int):=by have e8:=Az3 p 8 (by omega);have e16:=Az3 p 16 (by omega);have e0:=Az2 p.toNat;show [UInt8.ofNat (wrap .u8 (p.toNat:Int)).toNat,UInt8.ofNat (wrap .u8 (shI .shr .u32 (p.toNat:Int) 8)).toNat,UInt8.ofNat (wrap .u8 (shI .shr .u32 (p.toNat:Int) 16)).toNat]=_;rw[e0,show wrap .u8 (shI .shr .u32 (p.toNat:Int) 8)=_ from e8,show wrap .u8 (shI .shr .u32 (p.toNat:Int) 16)=_ from e16];simp only[Bm2,Ak6,Yz,Nat.pow_zero,Nat.div_one]
def Ba3 {N:Nat}(c:3000000<=N){w:Sl Sm}(hw:wOk w):CG N w=some (Bc4 w):=by
 have b:=hw.1;refine eqR ?_;unfold CG;refine Q0 (fun m (x1:Sl Int) x2=>x2=(m:Int)/\Xl x1=(w.take m).toList.flatMap AA8/\x1.n=6*m) w.n _ (by omega) ⟨rfl,rfl,rfl⟩ ?_;rintro a m x1 x2 hm ⟨rfl,h1,d⟩ hs;by_cases hl:m<w.n
 .refine An (Am ?_);rw[Bm2];obtain⟨p,q,e,_⟩:=hw.2 m hl;have e1:(w.g m).Plus=(p.toNat:Int):=congrArg Sm.Plus e;have e2:(w.g m).Minus=(q.toNat:Int):=congrArg Sm.Minus e;rw[e1,e2];refine ifT (by show (x1.n+3)*1<=_/\x1.n+3<=_;omega) (ifT (by show (x1.n+3+3)*1<=_/\x1.n+3+3<=_;omega) (hs hl _ _ ⟨Pd,?_,by show x1.n+3+3=_;omega⟩));rw[VP,VP,str3,str3,h1,Mp,BB4,Bt5];congr 1;show Ak6 _++Ak6 _=[w.g m].flatMap AA8;rw[Bu0,List.flatMap_nil,Br5,AA8,e1,e2]
 obtain rfl:m=w.n:=by omega
 exact Oj ⟨_,rfl,h1⟩
end Go.AM
namespace Go.AM
variable {N:Nat}
open Go.Proofs
def DX (N:Nat)(h:A6)(u:Nat)(x:Int)(w:Sl Sm):Option (Sl Sm):=KX N (Kg h (Kf h.Tree u) x) w
def VQ {h:A6}{N:Nat}(a:CS N h){u:Nat}(d:u<h.Tree.n){x:Int}{l:Law}(hl:l∈Kg h (Kf h.Tree u) x):∃i,i<h.Laws.n/\l=h.Laws.g i:=by
 obtain⟨v,f,b⟩:=BA3.1 hl;obtain⟨i,c,rfl⟩:=Bp0.1 b;have c:=(Bw3.1 c).1;obtain⟨j,m,rfl⟩:=Bp0.1 c;have o:=Ys a.tree u u (Bm9 _) d v f
 have:=(Ba0 a (x:=v) (by omega)).2 j (Bp3.1 m)
 exact⟨((h.On.g v).g j).toNat,by omega,rfl⟩
def Aa0 (h:A6)(x:Int):∀L:List Nat,(Kg h L x).length<=(Ay5 h L).length
 |[]=>Bm9 _
 |v::L=>by
  have ih:=Aa0 h x L;have h1:(Al5 h (h.On.g v) x).length<=(Ay3 h (h.On.g v)).toList.length:=by unfold Al5;rw[Bq3,DU];exact Bq1 (BA0 _ _) (by rw[DU];exact Bm9 _)
  unfold Kg Ay5 at ih⊢;rw[Bu0,Bu0,Bo8,Bo8];omega
def Az4 {h:A6}{N:Nat}(a:CS N h){u:Nat}(b:u<h.Tree.n){x:Int}:(Kg h (Kf h.Tree u) x).length<=64:=by have h1:=Aa0 h x (Kf h.Tree u);rw[VN a.tree u u (Bm9 _) b,DU]at h1;have c:(Ez h u).n<=64:=BA2 fun f=>a.long ⟨u,by rw[a.on];exact b,f⟩;exact Bq1 h1 c
def Ra {h:A6}{N:Nat}(c:U4 h)(a:CS N h){u:Nat}(f:u<h.Tree.n){x:Int}{s:Sl Law}(hs:s.toList=Kg h (Kf h.Tree u) x):GZ s/\Ih N s:=by
 have hn:s.n<=64:=by
  have:=Az4 (N:=N) a f (x:=x)
  rw[<- hs,DU]at this;exact this
 have key:∀i,i<s.n->∃j,j<h.Laws.n/\s.g i=h.Laws.g j:=fun i c=>by refine VQ (N:=N) a f (x:=x) ?_;rw[<- hs];exact Bp0.2 ⟨i,Bp3.2 c,rfl⟩
 refine⟨fun i b=>?_,hn,fun i b=>?_⟩
 .obtain⟨j,d,e⟩:=key i b;rw[e];exact c.laws j d
 obtain⟨j,d,e⟩:=key i b;rw[e];exact a.laws.2 j d
def Aa1:∀L:List Law,LEs L L
 |[]=>trivial
 |l::L=>⟨LE.refl l,Aa1 L⟩
def DX_S (d:3000000<=N){h:A6}(f:U4 h)(a:CS N h){u:Nat}(g:u<h.Tree.n){x:Int}{w w' : Sl Sm}(hw:wOk w)(b:SE w w'):OR (DX N h u x w) (DX N h u x w'):=by refine AP4 d _ _ w w' (fun l hl=>?_) (Aa1 _) hw b;obtain⟨j,c,e⟩:=VQ (N:=N) a g hl;rw[e];exact⟨f.laws j c,a.laws.2 j c⟩
def AP8 (b:3000000<=N){h:A6}(c:U4 h)(a:CS N h){u:Nat}(d:u<h.Tree.n){x:Int}{s:Sl Law}(hs:s.toList=Kg h (Kf h.Tree u) x){w:Sl Sm}(hw:wOk w) :∃r,K3 N s w=some r/\outR (DX N h u x w) r.1 r.2:=by
 obtain⟨g1,g2⟩:=Ra c a d hs;rcases Yw b g1 g2 hw with⟨v,d1,d2,d3⟩ | ⟨d1,d2⟩
 .rw[hs]at d1;exact⟨_,d2,.inl ⟨v,d1,rfl,SE.refl _,d3⟩⟩
 rw[hs]at d1;exact⟨_,d2,.inr ⟨d1,rfl,rfl⟩⟩
def Ba4 (c:3000000<=N){h:A6}(b:U4 h)(a:CS N h){u:Nat}(d:u<h.Tree.n){x:Int}{s:Sl Law}(hs:s.toList=Kg h (Kf h.Tree u) x){w:Sl Sm}(hw:wOk w) :∃r,Bl N s w=some r/\outR (DX N h u x w) r.1 r.2:=by
 obtain⟨g1,g2⟩:=Ra b a d hs;obtain⟨r,r1,r2⟩:=AP8 c b a d hs hw;obtain⟨q,q',a1,a2,a3,a4,_⟩:=Ak2 c g1 (LS.refl s) (SE.refl w) fun i b=>(hw.2 i b).ok;obtain rfl:=Bn8 (r1.symm.trans a1);refine⟨q',a2,?_⟩;rcases r2 with⟨y,b1,b2,b3,b4⟩ | ⟨b1,b2,b3⟩
 .exact .inl ⟨y,b1,a4.symm.trans b2,a3.symm.trans b3,a3.wOk b4⟩
 exact .inr ⟨b1,a4.symm.trans b2,by rw[<- a3.1];exact b3⟩
def outF (o:Option (Sl Sm))(f:F0):Prop:=(∃y,o=some y/\f.Has=true/\SE f.W y/\wOk f.W) \/ (o=none/\f.Has=false)
def Bj7 {o o' : Option (Sl Sm)}(h:OR o o'){f:F0}(b:outF o f):outF o' f:=by
 rcases b with⟨y,h1,a,c,d⟩ | ⟨h1,a⟩
 .rcases h with⟨g1,_⟩ | ⟨v,v',g1,g2,g3,_⟩
  .rw[g1]at h1;cases h1
  rw[g1]at h1;obtain rfl:=Bn8 h1;exact .inl ⟨v',g2,a,c.trans g3,d⟩
 rcases h with⟨_,g1⟩ | ⟨v,v',g1,_⟩
 .exact .inr ⟨g1,a⟩
 rw[g1]at h1;cases h1
def DF (N:Nat)(h:A6)(u:Nat)(x:Int)(p:F0):Option (Sl Sm):=if p.Has then DX N h u x p.W else none
structure VR (N:Nat) (h:A6) (x:Int) (s:Sl Int) (M:Sl (List (Str×F0))):Prop where
 n:M.n=s.n
 ok:∀k,k<s.n->∀a f,(a,f)∈M.g k->∃w,wOk w/\Bc4 w=a/\outF (DX N h (s.g k).toNat x w) f
def memo0 (N:Nat)(h:A6)(x:Int)(s:Sl Int):VR N h x s ⟨s.n,fun _=>[]⟩:=⟨rfl,fun k _ a f hm=>by cases hm⟩
def VT {k:Str}{v:F0}:∀{es:List (Str×F0)},X1 eqS k es=some v->(k,v)∈es
 |[],h=>by cases h
 |(a,x)::es,h=>by
  unfold X1 at h;by_cases e:eqS k a=true
  .rw[Pk e]at h;obtain rfl:=Bn8 h
   have:k=a:=by simpa[eqS]using e
   subst this;simp
  rw[Pl e]at h;exact Bo0 _ (VT h)
def Aa2 {k a:Str}{v f:F0}:∀{es:List (Str×F0)},(a,f)∈HF eqS k v es->(a,f)∈es \/ (a=k/\f=v)
 |[],h=>by simp only[HF,Bu6,Bn4]at h;exact .inr h
 |(b,x)::es,h=>by
  unfold HF at h;by_cases e:eqS k b=true
  .rw[Pk e]at h;rcases Bp9.1 h with h|h
   .simp only[Bn4]at h;exact .inr h
   exact .inl (Bo0 _ h)
  rw[Pl e]at h;rcases Bp9.1 h with h|h
  .exact .inl (by rw[h];simp)
  rcases Aa2 h with h|h
  .exact .inl (Bo0 _ h)
  exact .inr h
structure derX (N:Nat) (h:A6) (x:Int) (s:Sl Int) (X:Sl (Sl Law)):Prop where
 leaf:s=G8 h.Tree h.Tree.n
 n:X.n=s.n
 g:∀k,k<s.n->(X.g k).toList=Kg h (Kf h.Tree (s.g k).toNat) x
def Ba5 {h:A6}{k:Nat}(hk:k<(G8 h.Tree h.Tree.n).n):((G8 h.Tree h.Tree.n).g k).toNat<h.Tree.n:=by obtain⟨u,u1,u2⟩:=OL h.Tree h.Tree.n k hk;rw[u2,Bm2];exact u1
def AK8 (i:3000000<=N){h:A6}(o:U4 h)(c:CS N h){x:Int}{s:Sl Int}{X:Sl (Sl Law)}(j:derX N h x s X){p:F0}(hp:p.Has=true->wOk p.W){k:Nat}(hk:k<s.n){M:Sl (List (Str×F0))}(b:VR N h x s M) :∃r,H1 N p (k:Int) M X=some r/\VR N h x s r.2.2/\outF (DF N h (s.g k).toNat x p) ⟨r.2.1,r.1⟩:=by
 have z:=j.n;have l:=b.n;have t:(s.g k).toNat<h.Tree.n:=by
  have:=j.leaf;subst this;exact Ba5 hk
 unfold H1;by_cases d:p.Has=true
 case neg=>refine ifT (by simpa using d) ⟨_,rfl,b,.inr ⟨by unfold DF;rw[Pl d],rfl⟩⟩
 have hw:=hp d;have m:DF N h (s.g k).toNat x p=DX N h (s.g k).toNat x p.W:=by unfold DF;rw[Pk d]
 rw[m];refine ifF (by simp[d]) ?_;rw[Bm2];refine Am (Am (B3 (Ba3 i hw) ?_));cases ha:X1 eqS (Bc4 p.W) (M.g k)with
 |some v=>refine⟨_,rfl,b,?_⟩;obtain⟨w0,b1,b2,b3⟩:=b.ok k hk _ _ (VT ha);exact Bj7 (DX_S i o c t b1 (Ba2 b1 hw b2)) b3
 |none=>
  obtain⟨r,r1,r2⟩:=AP8 i o c t (j.g k hk) hw;rw[NF];refine Am (B3 r1 ⟨_,rfl,?_⟩);have u:outF (DX N h (s.g k).toNat x p.W) ⟨r.2==0,r.1⟩:=by
   rcases r2 with⟨y,b1,b2,b3,b4⟩ | ⟨b1,b2,b3⟩
   .exact .inl ⟨y,b1,by simp[b2],b3,b4⟩
   exact .inr ⟨b1,by simp[b2]⟩
  refine⟨⟨l,fun q w a f hm=>?_⟩,u⟩;replace hm:(a,f)∈(if q=k then HF eqS (Bc4 p.W) (⟨r.2==0,r.1⟩:F0) (M.g k)else M.g q):=hm;by_cases e:q=k
  .subst e;rw[Pk rfl]at hm;rcases Aa2 hm with hm|⟨rfl,rfl⟩
   .exact b.ok q w a f hm
   exact⟨p.W,hw,rfl,u⟩
  rw[Pl e]at hm;exact b.ok q w a f hm
def LN (d:3000000<=N){h:A6}(i:U4 h)(a:CS N h){x:Int}{p:F0}(hp:p.Has=true->wOk p.W){k:Nat}(hk:k<(G8 h.Tree h.Tree.n).n) :∃f,Ae N h p (k:Int) x=some f/\outF (DF N h ((G8 h.Tree h.Tree.n).g k).toNat x p) f:=by
 obtain⟨u,l,b⟩:=OL h.Tree h.Tree.n k hk;obtain⟨s,e,_,l2,l3⟩:=KY d i.tree;rcases l3 with⟨_,rfl,rfl⟩ | ⟨l3,_⟩
 case inr=>exact Pm a.tree l3
 unfold Ae;by_cases c:p.Has=true
 case neg=>exact ifT (by simpa using c) ⟨_,rfl,.inr ⟨by unfold DF;rw[Pl c],rfl⟩⟩
 have hw:=hp c;have j:DF N h ((G8 h.Tree h.Tree.n).g k).toNat x p=DX N h u x p.W:=by unfold DF;rw[Pk c,b,Bm2]
 rw[j];obtain⟨z,z1,z2,_⟩:=Az1 d i a l x;obtain⟨r,r1,r2⟩:=Ba4 d i a l z2 hw;refine ifF (by simp[c]) (B3 l2 (ifT (by dsimp only;omega) ?_));dsimp only;rw[Bm2,b];refine B3 z1 (B3 r1 ?_);rcases r2 with⟨y,b1,b2,b3,b4⟩ | ⟨b1,b2,b3⟩
 .exact ifF (by simp[b2]) ⟨_,rfl,.inl ⟨y,b1,rfl,b3,b4⟩⟩
 exact ifT (by simp[b2]) ⟨_,rfl,.inr ⟨b1,rfl⟩⟩
def AB1 (N:Nat)(h:A6)(u:Nat)(x:Int)(p f:F0):Prop:=∃y,DF N h u x p=some y/\SE y f.W
def VU (i:3000000<=N){h:A6}(j:U4 h)(a:CS N h){x:Int}{p f:F0}(hp:p.Has=true->wOk p.W){k:Nat}(hk:k<(G8 h.Tree h.Tree.n).n) :∃b,Bw N h p (k:Int) f x=some b/\(b=true↔AB1 N h ((G8 h.Tree h.Tree.n).g k).toNat x p f):=by
 obtain⟨d,d1,d2⟩:=LN i j a (x:=x) hp hk;unfold Bw;refine B3 d1 (ltX ?_);rcases d2 with⟨y,b1,b2,b3,b4⟩ | ⟨b1,b2⟩
 .obtain⟨e,e1,e2⟩:=AZ7 (N:=N) (x:=d.W) (y:=f.W) (by have:=b4.1;omega) (by have:=b4.1;omega);refine ifT b2 (B3 e1 ⟨_,rfl,e2.trans ⟨fun c=>⟨y,b1,b3.symm.trans c⟩,?_⟩⟩);rintro⟨z,z1,z2⟩;rw[b1]at z1;obtain rfl:=Bn8 z1;exact b3.trans z2
 refine ifF (by simp[b2]) ⟨_,rfl,fun h=>(by cases h),?_⟩;rintro⟨z,z1,_⟩;rw[b1]at z1;cases z1
end Go.AM
namespace Go.AM
variable {N:Nat}
open IntKind (wrap)
open Go.Proofs
def Ii (f:Nat->Int):Nat->Int
 |0=>0
 |k+1=>if Ii f k≠0 then Ii f k else f k
def OM {f:Nat->Int}{k:Nat}(h:Ii f k=0):Ii f (k+1)=f k:=Pl (fun g=>g h)
def Kh {f:Nat->Int}{i:Nat}(h:Ii f i≠0):∀n,i<=n->Ii f n=Ii f i
 |0,hn=>by rw[show i=0 by omega]
 |n+1,hn=>by
  by_cases e:i=n+1
  .rw[e]
  have hp:=Kh h n (by omega);show (if Ii f n≠0 then Ii f n else f n)=_;rw[hp,Pk h]
def BQ {f:Nat->Int}:∀{n:Nat},Ii f n=0->∀i,i<n->f i=0
 |0,_,i,hi=>Pm hi (Bp1 i)
 |n+1,h,i,hi=>by
  have hp:Ii f n=0:=Bn7 fun g=>g (by rw[<- Kh g (n+1) (by omega)];exact h);by_cases e:i=n
  .subst e;rw[<- OM hp];exact h
  exact BQ hp i (by omega)
def orE (a b:Int):Int:=if a≠0 then a else b
def PD {a b:Int}(h:a≠0):orE a b=a:=Pk h
def Ki {a b:Int}(h:a=0):orE a b=b:=Pl (fun g=>g h)
def Mq {a b:Int}(h:orE a b=0):a=0/\b=0:=by
 by_cases g:a=0
 .exact⟨g,by rw[<- h,Ki g]⟩
 rw[PD g]at h;exact Pm h g
def Bj8 {N n:Nat}{f:Nat->Int}{body:(Int->Option Int)->Int->Option Int}{re:Int}(m:n<N)(b:∀a i,i<n->f i≠0->body a (i:Int)=some (f i))
 (l:∀a i,i<n->f i=0->body a (i:Int)=a ((i+1:Nat):Int)) (c:∀a,Ii f n=0->body a (n:Int)=some re):Q7 N body 0=some (orE (Ii f n) re):=by
 refine eqR (X5 (fun i x=>x=(i:Int)/\Ii f i=0) n _ m ⟨rfl,rfl⟩ ?_);rintro a i x hle ⟨rfl,g⟩ hs;by_cases hl:i<n
 .by_cases j:f i=0
  .rw[l a i hl j];exact hs hl _ ⟨rfl,by rw[OM g];exact j⟩
  rw[b a i hl j];have e:Ii f (i+1)=f i:=OM g;have d:Ii f (i+1)≠0:=by rw[e];exact j
  exact⟨_,rfl,by rw[Kh d n hl,PD d,e]⟩
 obtain rfl:i=n:=by omega
 exact⟨_,c a g,(Ki g).symm⟩
def Az5 {N n:Nat}{f:Nat->Int}{body:(Int->Option Int)->Int->Option Int}{re:Int}(g:n<N)(b:∀a i,i<n->f i≠0->body a (i:Int)=some (f i))
 (d:∀a i,i<n->f i=0->body a (i:Int)=a ((i+1:Nat):Int)) (c:∀a,body a (n:Int)=some re):Q7 N body 0=some (orE (Ii f n) re):=Bj8 g b d fun a _=>c a
def Bx (s:Sl F0):Prop:=∀i,i<s.n->okA (s.g i).W
def EJ (l:Sl Entry):Prop:=∀i,i<l.n->Bx (l.g i).Forms/\(l.g i).Gloss.length<1100000
def emp (s:Sl F0):Prop:=∃i,i<s.n/\(s.g i).Has=false/\0<(s.g i).W.n
noncomputable def Ba6 (s:Sl F0):Bool:=@decide (¬emp s) (Classical.propDecidable _)
def VV {s:Sl F0}(h:¬emp s):Ba6 s=true:=@decide_eq_true _ (Classical.propDecidable _) h
def VW {s:Sl F0}(h:emp s):Ba6 s=false:=@decide_eq_false _ (Classical.propDecidable _) (fun g=>g h)
def AK9 (f:F0):((!f.Has)&&(decide (0<(f.W.n:Int))))=true↔f.Has=false/\0<f.W.n:=by simp
def VX (f:1000<=N){s:Sl F0}(hs:s.n<900):W9 N s=some (Ba6 s):=by
 have h1:∃r,E2 N s (fun (u1:F0)=>Bf N u1)=some r/\(0<=r↔emp s):=by
  unfold E2;refine X5 (fun i x=>x=(i:Int)/\∀j,j<i->¬((s.g j).Has=false/\0<(s.g j).W.n)) s.n _ (by omega) ⟨rfl,fun j a=>Pm a (Bp1 j)⟩ ?_;rintro c i x hle ⟨rfl,h⟩ b;by_cases hl:i<s.n
  .refine ifT (by simpa using hl) (Am (B3 rfl ?_));rw[Bm2,Pd];by_cases hb:(s.g i).Has=false/\0<(s.g i).W.n
   .exact ifT ((AK9 _).2 hb) ⟨_,rfl,fun _=>⟨i,hl,hb⟩,fun _=>by omega⟩
   refine ifF (fun g=>hb ((AK9 _).1 g)) (b hl _ ⟨rfl,fun j a=>?_⟩);by_cases e:j=i
   .subst e;exact hb
   exact h j (by omega)
  exact ifF (by simpa using hl) ⟨_,rfl,fun g=>Pm g (by decide),fun⟨j,a,hb⟩=>Pm hb (h j (by omega))⟩
 obtain⟨r,e,d⟩:=h1;unfold W9 E6;rw[e,Bm6,Bm6];congr 1;by_cases h:emp s
 .rw[VW h];simp[d.2 h]
 rw[VV h];simp;exact Int.not_le.1 fun g=>h (d.1 g)
def Rb (d:1000<=N){s:Sl F0}(hs:s.n<900):Bi N s=some (Ba6 s):=by
 unfold Bi;refine eqR (X5 (fun i x=>x=(i:Int)/\∀j,j<i->¬((s.g j).Has=false/\0<(s.g j).W.n)) s.n _ (by omega) ⟨rfl,fun j a=>Pm a (Bp1 j)⟩ ?_);rintro c i x hle ⟨rfl,h⟩ b;by_cases hl:i<s.n
 .refine ifT (by simpa using hl) (Am (ifT (fun _=>by omega) ?_));rw[Bm2,Pd];by_cases hb:(s.g i).Has=false/\0<(s.g i).W.n
  .exact ifT ((AK9 _).2 hb) ⟨_,rfl,(VW ⟨i,hl,hb⟩).symm⟩
  refine ifF (fun g=>hb ((AK9 _).1 g)) (b hl _ ⟨rfl,fun j a=>?_⟩);by_cases e:j=i
  .subst e;exact hb
  exact h j (by omega)
 exact ifF (by simpa using hl) ⟨_,rfl,(VV (fun⟨j,a,hb⟩=>h j (by omega) hb)).symm⟩
def wE (N:Nat)(w:Sl Sm):Int:=(P4 N w).getD 0
def Aa3 (a:1000<=N){w:Sl Sm}(hw:okA w):P4 N w=some (wE N w)/\Y1 N w=some (wE N w):=by
 obtain⟨e,h1,b⟩:=JY a hw;obtain⟨e',g1,g2⟩:=Hw a hw;obtain rfl:=OE b g2
 have:wE N w=e:=by unfold wE;rw[h1];rfl
 rw[this];exact⟨h1,g1⟩
def wsE (N:Nat)(s:Sl F0):Int:=Ii (fun i=>wE N (s.g i).W) s.n
def Hd (c:1000<=N){s:Sl F0}(hs:s.n<900)(d:Bx s):N5 N s=some (wsE N s)/\Y7 N s=some (wsE N s):=by
 have e0:wsE N s=orE (wsE N s) 0:=by
  by_cases h:wsE N s=0
  .rw[Ki h,h]
  rw[PD h]
 rw[e0];unfold N5 Y7;constructor<;>refine Az5 (f:=fun i=>wE N (s.g i).W) (by omega) ?_ ?_ ?_
 .intro a i hl b;rw[Pk (by simpa using hl),Pe,Bm2,(Aa3 c (d i hl)).1,Bm6,Pk (by simpa using b)]
 .intro a i hl b;rw[Pk (by simpa using hl),Pe,Bm2,(Aa3 c (d i hl)).1,Bm6,Pl (by simpa using b),Pd]
 .intro a;rw[Pj]
 .intro a i hl b;rw[Pk (by simpa using hl),Pe,Bm2,(Aa3 c (d i hl)).2,Bm6,Pk (by simpa using b)]
 .intro a i hl b;rw[Pk (by simpa using hl),Pe,Bm2,(Aa3 c (d i hl)).2,Bm6,Pl (by simpa using b),Pd]
 intro a;rw[Pj]
def Rc (b:3000000<=N){s:Str}(hs:s.length<1100000):Bd N s=some (Ff s):=by
 obtain⟨e,e1,_,c⟩:=Hy (t:=(Sl.of [(⟨-1,s⟩:J4)]:Sl J4)) b (fun v a=>by
  have a:v<1:=a;obtain rfl:v=0:=by omega
  exact hs)
 unfold Bd;rw[e1,Bm6];have key:W3 (Sl.of [(⟨-1,s⟩:J4)]:Sl J4)↔Ff s=true:=by
  constructor
  .intro h;exact (h.2.2 0 (by show 0<1;omega)).2.2.1
  intro h;refine⟨by show 1<=1;omega,by show 1<=63;omega,fun v a=>?_⟩;have a:v<1:=a;obtain rfl:v=0:=by omega
  exact⟨fun _=>rfl,fun h=>Pm h (Nat.lt_irrefl 0),h,fun u d=>Pm d (Bp1 u)⟩
 congr 1;rcases c with⟨rfl,h⟩ | ⟨rfl,h⟩
 .rw[key.1 h];rfl
 cases hb:Ff s
 .rfl
 exact Pm (key.2 hb) h
open Classical in
noncomputable def e2 (l:Sl Entry) (k:Nat) (i:Nat):Int:=if (l.g i).Forms.n≠k \/ emp (l.g i).Forms then 2 else 0
def e15 (l:Sl Entry)(i:Nat):Int:=if Ff (l.g i).Gloss then 0 else 15
def Az6 {l:Sl Entry}{k i:Nat}(h:e2 l k i=0):(l.g i).Forms.n=k/\¬emp (l.g i).Forms:=by
 unfold e2 at h;split at h
 .cases h
 rename_i g;exact⟨Bn7 fun e=>g (.inl e),fun e=>g (.inr e)⟩
def AP9 {l:Sl Entry}{k i:Nat}(h:(l.g i).Forms.n≠k \/ emp (l.g i).Forms):e2 l k i=2:=Pk h
def AQ0 {l:Sl Entry}{k i:Nat}(h:¬((l.g i).Forms.n≠k \/ emp (l.g i).Forms)):e2 l k i=0:=Pl h
def Aa4 {l:Sl Entry}{k i:Nat}{E:Option Bool}(hk:k<900)(b:(l.g i).Forms.n=k->E=some (Ba6 (l.g i).Forms))(a:Option Int) :(lt (fun (z3:Bool)=>if z3 then some 2 else a) fun k3=>
  if (((l.g i).Forms.n:Int) != (k:Int)) then
   k3 true
  else
   E.bind fun y6=>
   k3 (!y6))=if e2 l k i≠0 then some (e2 l k i)else a:=by
 by_cases h:(l.g i).Forms.n=k
 .rw[b h];have hc:¬(((l.g i).Forms.n:Int) != (k:Int))=true:=by simp[h]
  by_cases hp:emp (l.g i).Forms
  .rw[AP9 (.inr hp)];show (if (((l.g i).Forms.n:Int) != (k:Int)) then _ else if (!(Ba6 (l.g i).Forms)) then some (2:Int)else a)=some 2;rw[Pl hc,Pk (by rw[VW hp];rfl)]
  rw[AQ0 (fun g=>g.elim (fun e=>e h) hp)];show (if (((l.g i).Forms.n:Int) != (k:Int)) then _ else if (!(Ba6 (l.g i).Forms)) then some (2:Int)else a)=a;rw[Pl hc,Pl (by rw[VV hp];decide)]
 rw[AP9 (.inl h)];exact Pf
def YA (c:3000000<=N){l:Sl Entry}{k:Nat}(hk:k<900)(hn:l.n<900)(d:EJ l):K5 N l (k:Int)=some (orE (Ii (e2 l k) l.n) (orE (Ii (e15 l) l.n) 0)):=by
 unfold K5;have step:=fun (a:Option Int) (i:Nat)=>Aa4 (l:=l) (i:=i) hk (fun h=>VX (N:=N) (s:=(l.g i).Forms) (by omega) (by omega)) a;refine Az5 (by omega) ?_ ?_ ?_
 .intro a i hl b;rw[Pk (by simpa using hl),Pe,Bm2,step,Pk b]
 .intro a i hl b;rw[Pk (by simpa using hl),Pe,Bm2,step,Pl (fun g=>g b),Pd]
 intro a;rw[Pj];refine Az5 (by omega) ?_ ?_ ?_
 .intro a i hl b;rw[Pk (by simpa using hl),Pe,Bm2,Rc c (d i hl).2,Bm6];unfold e15 at b⊢;by_cases h:Ff (l.g i).Gloss=true
  .exact Pm (Pk h) b
  rw[Pk (by simpa using h),Pl h]
 .intro a i hl b;rw[Pk (by simpa using hl),Pe,Bm2,Rc c (d i hl).2,Bm6];unfold e15 at b;by_cases h:Ff (l.g i).Gloss=true
  .rw[Pl (by simp[h]),Pd]
  rw[Pl h]at b;cases b
 intro a;rw[Pj]
noncomputable def Bj9 (N:Nat) (p:Sl F0) (l:Sl Entry) (k:Nat):Int:= orE (Ii (e2 l k) l.n) (orE (Ii (e15 l) l.n) (orE (wsE N p) (Ii (fun i=>wsE N (l.g i).Forms) l.n)))
def AL0 (m:3000000<=N){l:Sl Entry}(hn:l.n<900)(W:Nat->Int)(j:∀i,i<l.n->Y7 N (l.g i).Forms=some (W i))(w0:Int) :S0 N (fun (a:Int->Int->Option Int) (x7:Int) (x8:Int)=>
  if ((decide (x8<(l.n:Int)))&&(x7==0)) then
   if ((0:Int)<=x8/\x8<(l.n:Int))then
    (Y7 N (l.g x8.toNat).Forms).bind fun d=>
    a d (wrap .i64 (x8+1))
   else none
  else
   some x7
  ) w0 0=some (orE w0 (Ii W l.n)):=by
 refine eqR (Q0 (fun i x7 x8=>x8=(i:Int)/\((x7=0/\w0=0/\Ii W i=0) \/ (x7≠0/\x7=orE w0 (Ii W l.n)))) l.n _ (by omega) ⟨rfl,?_⟩ ?_)
 .by_cases h:w0=0
  .exact .inl ⟨h,h,rfl⟩
  exact .inr ⟨h,(PD h).symm⟩
 rintro f i x7 x8 hle ⟨rfl,h⟩ hs;rcases h with⟨rfl,b,h1⟩ | ⟨b,h1⟩
 .by_cases hl:i<l.n
  .refine ifT (by simpa using hl) (Am ?_);rw[Bm2,Pd];refine B3 (j i hl) (hs hl _ _ ⟨rfl,?_⟩);have e:=OM h1;by_cases c:W i=0
   .exact .inl ⟨c,b,by rw[e];exact c⟩
   exact .inr ⟨c,by rw[Ki b,Kh (i:=i+1) (by rw[e];exact c) l.n hl,e]⟩
  obtain rfl:i=l.n:=by omega
  exact Oj ⟨_,rfl,by rw[Ki b,h1]⟩
 exact ifF (by simp[b]) ⟨_,rfl,h1⟩
end Go.AM
namespace Go.AM
variable {N:Nat}
open IntKind (wrap)
open Go.Proofs
def Kt {t:Sl J4}(ht:W3 t):(G8 t t.n).n<=63:=by have:=Td t t.n;have:=ht.2.1;omega
def Gu (a:3000000<=N){t:Sl J4}(b:Hb t)(ht:W3 t):J9 N t=some (G8 t t.n,0)/\R8 N t=some (G8 t t.n,0):=by
 obtain⟨s,e,h1,c,d⟩:=KY a b;rcases d with⟨_,rfl,rfl⟩ | ⟨g,_⟩
 .exact⟨h1,c⟩
 exact Pm ht g
open Classical in
noncomputable def Al6 (N:Nat) (h:A6) (p:Sl F0) (l:Sl Entry):Int:= if hres N h≠0 then hres N h else if 256<l.n then 12 else if p.n≠l.n \/ emp p then 2 else Bj9 N p l (G8 h.Tree h.Tree.n).n
def Hj (r:3000000<=N){h:A6}(t:U4 h){p:Sl F0}{l:Sl Entry}(hp:Bx p)(hl:EJ l):S9 N h p l=some (Al6 N h p l):=by
 unfold S9 Al6;rw[Ak5 r t,Bm6];by_cases m:hres N h=0
 case neg=>rw[Pk (show (hres N h != 0)=true by simpa using m),Pk m]
 rw[Pl (show ¬(hres N h != 0)=true by simp[m]),Pl (show ¬hres N h≠0 from fun g=>g m)];have o:=hres_zero.1 m;have u:=Kt o.tree;rw[(Gu r t.tree o.tree).1,Bm6];by_cases d:256<l.n
 .rw[Pk (show (decide (256<(l.n:Int)))=true by simp;omega),Pk d]
 rw[Pl (show ¬(decide (256<(l.n:Int)))=true by simp;omega),Pl d];have rest:(lt (fun (z1:Bool)=>
  if z1 then
   some (2:Int)
  else
   (K5 N l (((G8 h.Tree h.Tree.n).n:Nat):Int)).bind fun y5=>
   if (y5 != 0) then
    some y5
   else
    (N5 N p).bind fun y6=>
    if (y6 != 0) then
     some y6
    else
     Q7 N (fun j (x2:Int)=>
      if (decide (x2<(l.n:Int))) then
       if ((0:Int)<=x2/\x2<(l.n:Int))then
        (N5 N (l.g x2.toNat).Forms).bind fun y9=>
        if (y9 != 0) then
         some y9
        else
         j (wrap .i64 (x2+1))
       else none
      else
       some 0
      ) 0
  ) fun k1=>k1 false)=(if p.n=l.n then some (Bj9 N p l (G8 h.Tree h.Tree.n).n)else some 0) \/ p.n≠l.n:=by
  by_cases c:p.n=l.n
  case neg=>exact .inr c
  refine .inl ?_;rw[Pk c];show (K5 N l (((G8 h.Tree h.Tree.n).n:Nat):Int)).bind _=_;rw[YA r (by omega) (by omega) hl,Bm6];unfold Bj9;by_cases g1:Ii (e2 l (G8 h.Tree h.Tree.n).n) l.n=0
  case neg=>rw[PD g1,PD g1,Pk (by simpa using g1)]
  rw[Ki g1,Ki g1];by_cases g2:Ii (e15 l) l.n=0
  case neg=>rw[PD g2,PD g2,Pk (by simpa using g2)]
  rw[Ki g2,Ki g2,Pl (by decide),(Hd (by omega) (by omega) hp).1,Bm6];by_cases g3:wsE N p=0
  case neg=>rw[PD g3,Pk (by simpa using g3)]
  rw[Ki g3,Pl (by simp[g3])];have e0:∀a:Int,a=orE a 0:=fun a=>by
   by_cases h:a=0
   .rw[Ki h,h]
   rw[PD h]
  rw[e0 (Ii (fun i=>wsE N (l.g i).Forms) l.n)];have hk:∀i,i<l.n->(l.g i).Forms.n<900:=fun i b=>by
   have:=(Az6 (BQ g1 i b)).1;omega
  refine Az5 (by omega) ?_ ?_ ?_
  .intro f i b s;rw[Pk (by simpa using b),Pe,Bm2,(Hd (by omega) (hk i b) (hl i b).1).1,Bm6,Pk (by simpa using s)]
  .intro f i b s;rw[Pk (by simpa using b),Pe,Bm2,(Hd (by omega) (hk i b) (hl i b).1).1,Bm6,Pl (by simpa using s),Pd]
  intro f;rw[Pj]
 by_cases c:p.n=l.n
 case neg=>rw[Pk (.inl c)];exact Pf
 have hc:¬((p.n:Int) != (l.n:Int))=true:=by simp[c]
 rw[VX (by omega) (by omega)];by_cases q:emp p
 .rw[Pk (.inr q),VW q];exact Pl hc
 rw[Pl (fun g=>g.elim (fun e=>e c) q),VV q];rcases rest with g|g
 .rw[Pk c]at g;exact (Pl hc).trans g
 exact Pm c g
def IM (q:3000000<=N){h:A6}(t:U4 h){p:Sl F0}{l:Sl Entry}(hp:Bx p)(hl:EJ l):Dn N h p l=some (Al6 N h p l):=by
 unfold Dn Al6;rw[Ay2 q t,Bm6];by_cases j:hres N h=0
 case neg=>rw[Pk (show (hres N h != 0)=true by simpa using j),Pk j]
 rw[Pl (show ¬(hres N h != 0)=true by simp[j]),Pl (show ¬hres N h≠0 from fun g=>g j)];have m:=hres_zero.1 j;have u:=Kt m.tree;by_cases d:256<l.n
 .rw[Pk (show (decide (256<(l.n:Int)))=true by simp;omega),Pk d]
 rw[Pl (show ¬(decide (256<(l.n:Int)))=true by simp;omega),Pl d,(Gu q t.tree m.tree).2,Bm6];by_cases f:p.n=l.n
 case neg=>rw[Pk (.inl f)];exact Pf
 have hc:¬((p.n:Int) != (l.n:Int))=true:=by simp[f]
 rw[Rb (by omega) (by omega)];by_cases o:emp p
 .rw[Pk (.inr o),VW o];exact Pl hc
 rw[Pl (fun g=>g.elim (fun e=>e f) o),VV o];refine (Pl hc).trans ?_;rw[Bm6];refine (Pl (by decide)).trans ?_;unfold Bj9;have step:=fun (a:Option Int) (i:Nat)=>Aa4 (l:=l) (i:=i) (show (G8 h.Tree h.Tree.n).n<900 by omega) (fun h=>Rb (N:=N) (s:=(l.g i).Forms) (by omega) (by omega)) a;have ent:∀(i:Nat) (a:Int->Option Int),i<l.n->(lt (fun (z4:Bool)=>
  if z4 then
   some (2:Int)
  else
   a (wrap .i64 ((i:Int)+1))
  ) fun k4=>
  if (((l.g i).Forms.n:Int) != (((G8 h.Tree h.Tree.n).n:Nat):Int)) then
   k4 true
  else
   if ((0:Int)<=(i:Int)/\(i:Int)<(l.n:Int))then
    (Bi N (l.g i).Forms).bind fun r=>
    k4 (!r)
   else none)=if e2 l (G8 h.Tree h.Tree.n).n i≠0 then some (e2 l (G8 h.Tree h.Tree.n).n i)else a (wrap .i64 ((i:Int)+1)):=fun i a b=>by
  rw[<- step];unfold lt;dsimp only;rw[Pk (show (0:Int)<=(i:Int)/\(i:Int)<(l.n:Int) by omega)]
 refine Bj8 (by omega) ?_ ?_ ?_
 .intro a i b c;rw[Pk (by simpa using b),Pe,Bm2,ent i a b,Pk c]
 .intro a i b c;rw[Pk (by simpa using b),Pe,Bm2,ent i a b,Pl (fun g=>g c),Pd]
 intro a g1;rw[Pj];refine Az5 (by omega) ?_ ?_ ?_
 .intro a i b c;rw[Pk (by simpa using b),Pe,Bm2,SY (by have:=(hl i b).2;omega) (by have:=(hl i b).2;omega),Bm6];unfold e15 at c⊢;by_cases h:Ff (l.g i).Gloss=true
  .exact Pm (Pk h) c
  rw[Pk (by simpa using h),Pl h]
 .intro a i b c;rw[Pk (by simpa using b),Pe,Bm2,SY (by have:=(hl i b).2;omega) (by have:=(hl i b).2;omega),Bm6];unfold e15 at c;by_cases h:Ff (l.g i).Gloss=true
  .rw[Pl (by simp[h]),Pd]
  rw[Pl h]at c;cases c
 intro a;rw[Pj,(Hd (by omega) (by omega) hp).2,Bm6];exact AL0 q (by omega) (fun i=>wsE N (l.g i).Forms) (fun i b=>(Hd (by omega) (by have:=(Az6 (BQ g1 i b)).1;omega) (hl i b).1).2) (wsE N p)
def Bk0 {h:A6}{p:Sl F0}{l:Sl Entry}(g:Al6 N h p l=0):CS N h/\l.n<=256/\p.n=l.n/\∀i,i<l.n->(l.g i).Forms.n=(G8 h.Tree h.Tree.n).n:=by
 unfold Al6 at g;by_cases a:hres N h≠0
 .rw[Pk a]at g;exact Pm g a
 rw[Pl a]at g;by_cases h1:256<l.n
 .rw[Pk h1]at g;cases g
 rw[Pl h1]at g;by_cases b:p.n≠l.n \/ emp p
 .rw[Pk b]at g;cases g
 rw[Pl b]at g;exact⟨hres_zero.1 (BC9.1 a),by omega,Bn7 fun e=>b (.inl e),fun i c=>(Az6 (BQ (Mq g).1 i c)).1⟩
structure attOk (N:Nat) (h:A6) (p:Sl F0) (l:Sl Entry):Prop where
 hist:CS N h
 n:l.n<=256
 pn:p.n=l.n
 pe:¬emp p
 fn:∀i,i<l.n->(l.g i).Forms.n=(G8 h.Tree h.Tree.n).n
 fe:∀i,i<l.n->¬emp (l.g i).Forms
 nm:∀i,i<l.n->Ff (l.g i).Gloss=true
 pw:∀i,i<p.n->wOk (p.g i).W
 fw:∀i,i<l.n->∀k,k<(l.g i).Forms.n->wOk ((l.g i).Forms.g k).W
def Th (a:1000<=N){w:Sl Sm}(hw:okA w):wE N w=0↔wOk w:=by
 obtain⟨e,h1,b⟩:=JY a hw
 have:wE N w=e:=by unfold wE;rw[h1];rfl
 rw[this];exact CH b
def Hz {f:Nat->Int}:∀{n:Nat},(∀i,i<n->f i=0)->Ii f n=0
 |0,_=>rfl
 |n+1,h=>by rw[OM (Hz fun i a=>h i (by omega))];exact h n (by omega)
def Kr (b:1000<=N){h:A6}{p:Sl F0}{l:Sl Entry}(hp:Bx p)(hl:EJ l):Al6 N h p l=0↔attOk N h p l:=by
 unfold Al6;constructor
 .intro g;split at g
  .rename_i g1;exact Pm g g1
  rename_i g1;split at g
  .cases g
  rename_i g2;split at g
  .cases g
  rename_i g3;obtain⟨d1,g⟩:=Mq g;obtain⟨d2,g⟩:=Mq g;obtain⟨d3,d4⟩:=Mq g;have d1:=BQ d1;have d2:=BQ d2;have d3:=BQ d3;have d4:=BQ d4;refine⟨hres_zero.1 (Bn7 g1),by omega,Bn7 fun e=>g3 (.inl e),fun e=>g3 (.inr e),fun i a=>(Az6 (d1 i a)).1,fun i a=>(Az6 (d1 i a)).2,fun i a=>?_,fun i a=>(Th b (hp i a)).1 (d3 i a),fun i a k hk=>(Th b ((hl i a).1 k hk)).1 (BQ (d4 i a) k hk)⟩
  have:=d2 i a
  unfold e15 at this;by_cases e:Ff (l.g i).Gloss=true
  .exact e
  rw[Pl e]at this;cases this
 rintro⟨a1,a2,a3,a4,a5,a6,a7,a8,a9⟩;rw[Pl (fun g=>g (hres_zero.2 a1)),Pg,Pl (fun g=>g.elim (fun e=>e a3) a4)];unfold Bj9;have b1:Ii (e2 l (G8 h.Tree h.Tree.n).n) l.n=0:=Hz fun i a=>AQ0 fun g=>g.elim (fun e=>e (a5 i a)) (a6 i a);have b2:Ii (e15 l) l.n=0:=Hz fun i a=>Pk (a7 i a);have b3:wsE N p=0:=Hz fun i a=>(Th b (hp i a)).2 (a8 i a);rw[Ki b1,Ki b2,Ki b3];exact Hz fun i a=>Hz fun k hk=>(Th b ((hl i a).1 k hk)).2 (a9 i a k hk)
end Go.AM
namespace Go.AM
open IntKind (wrap)
open Go.Proofs
def attR (l:Sl Entry)(i k:Nat):List (Nat×Nat):=((List.range k).filter fun k=>((l.g i).Forms.g k).Has).map fun k=>(i,k)
def Ae4 (l:Sl Entry)(i:Nat):List (Nat×Nat):=(List.range i).flatMap fun i=>attR l i (l.g i).Forms.n
def YG (l:Sl Entry):List (Nat×Nat):=Ae4 l l.n
def Bk1 (l:Sl Entry)(i k:Nat):attR l i (k+1)=attR l i k++(if ((l.g i).Forms.g k).Has then [(i,k)]else []):=by
 unfold attR;rw[Bu3,BC1,Bs4];by_cases h:((l.g i).Forms.g k).Has=true
 .rw[Pk h];simp[h]
 rw[Pl h];simp[h]
def Az7 (l:Sl Entry)(i:Nat):Ae4 l (i+1)=Ae4 l i++attR l i (l.g i).Forms.n:=by unfold Ae4;rw[Bu3,BB4];simp
def Aa5 (l:Sl Entry)(i k:Nat):(attR l i k).length<=k:=by unfold attR;rw[Bq3];exact Bq1 (BA0 _ _) (by rw[BC6];exact Bm9 _)
def Ti {l:Sl Entry}{m:Nat}:∀i,(∀j,j<i->(l.g j).Forms.n<=m)->(Ae4 l i).length<=i*m
 |0,_=>Bu8 _
 |i+1,h=>by
  have:=Ti i (fun j a=>h j (by omega))
  have h1:=Aa5 l i (l.g i).Forms.n;have b:=h i (by omega);rw[Az7,Bo8,By4];omega
def YH {l:Sl Entry}{q:Nat×Nat}(a:q∈YG l):q.1<l.n/\q.2<(l.g q.1).Forms.n/\((l.g q.1).Forms.g q.2).Has=true:=by obtain⟨i,b,c⟩:=BA3.1 a;obtain⟨k,hk,rfl⟩:=Bp0.1 c;obtain⟨h1,d⟩:=Bw3.1 hk;exact⟨Bp3.1 b,Bp3.1 h1,d⟩
def Bk2 (l:Sl Entry)(q:Nat×Nat):J5×Sl Sm:=(⟨(q.1:Int),(q.2:Int)⟩,((l.g q.1).Forms.g q.2).W)
def Bk3 (l:Sl Entry)(i k m:Nat):List (Nat×Nat):=((List.range' k m).filter fun k=>((l.g i).Forms.g k).Has).map fun k=>(i,k)
def Bm0 (l:Sl Entry)(i m:Nat):List (Nat×Nat):=(List.range' i m).flatMap fun i=>Bk3 l i 0 (l.g i).Forms.n
def Ba7 (l:Sl Entry)(i m:Nat):Bk3 l i 0 m=attR l i m:=by unfold Bk3 attR;rw[BA7]
def Ba8 (l:Sl Entry):Bm0 l 0 l.n=YG l:=by unfold Bm0 YG Ae4;rw[BA7];congr 1;funext i;exact Ba7 l i _
def AQ1 {l:Sl Entry}{i:Nat}{R:List (J5×Sl Sm)}{rest:Option (List (J5×Sl Sm))}(b:rest=some R)(hn:(l.g i).Forms.n<100000):∀(m M k:Nat),k+m=(l.g i).Forms.n->m<M->Q7 M (fun (a:Int->Option (List (J5×Sl Sm))) (x4:Int)=>
 if (decide (x4<((l.g i).Forms.n:Int))) then
  if ((0:Int)<=x4/\x4<((l.g i).Forms.n:Int))then
   if ((l.g i).Forms.g x4.toNat).Has then
    Az ((⟨(i:Int),x4⟩:J5),((l.g i).Forms.g x4.toNat).W) (
     a (wrap .i64 (x4+1))
     )
   else
    a (wrap .i64 (x4+1))
  else none
 else
  rest) (k:Int)=some ((Bk3 l i k m).map (Bk2 l)++R)
 |0,M,k,hk,hM=>by obtain⟨M,rfl⟩:∃K,M=K+1:=⟨M-1,by omega⟩;rw[T9,Ph,b];rfl
 |m+1,M,k,hk,hM=>by
  obtain⟨M,rfl⟩:∃K,M=K+1:=⟨M-1,by omega⟩;have ih:=AQ1 b hn m M (k+1) (by omega) (by omega);rw[T9,Pf,Pe,Bm2,Pd,ih];unfold Bk3;rw[Bv5];by_cases h:((l.g i).Forms.g k).Has=true
  .rw[Pk h];simp only[BE1,h,Pn];rfl
  rw[Pl h];simp only[BE1,h,Po,Bn1]
def Ba9 {N:Nat}{l:Sl Entry}(o:1000000<=N)(hn:l.n<100000)(d:∀i,i<l.n->(l.g i).Forms.n<100000):G3 N l=some ((YG l).map (Bk2 l)):=by
 have key:∀(m M i:Nat),i+m=l.n->m<M->Q7 M (fun (b:Int->Option (List (J5×Sl Sm))) (x2:Int)=>
  if (decide (x2<(l.n:Int))) then
   if ((0:Int)<=x2/\x2<(l.n:Int))then
    Q7 N (fun a (x4:Int)=>
     if (decide (x4<((l.g x2.toNat).Forms.n:Int))) then
      if ((0:Int)<=x4/\x4<((l.g x2.toNat).Forms.n:Int))then
       if ((l.g x2.toNat).Forms.g x4.toNat).Has then
        Az ((⟨x2,x4⟩:J5),((l.g x2.toNat).Forms.g x4.toNat).W) (
         a (wrap .i64 (x4+1))
         )
       else
        a (wrap .i64 (x4+1))
      else none
     else
      b (wrap .i64 (x2+1))
     ) 0
   else none
  else
   some []) (i:Int)=some ((Bm0 l i m).map (Bk2 l)):=by
  intro m
  induction m with
  |zero=>intro M i f j;obtain⟨M,rfl⟩:∃K,M=K+1:=⟨M-1,by omega⟩;rw[T9,Ph];rfl
  |succ m ih=>
   intro M i f j;obtain⟨M,rfl⟩:∃K,M=K+1:=⟨M-1,by omega⟩;have c:=d i (by omega);rw[T9,Pf,Pe,Bm2,Pd]
   have:=AQ1 (l:=l) (i:=i) (ih M (i+1) (by omega) (by omega)) c (l.g i).Forms.n N 0 (by omega) (by omega)
   refine this.trans ?_;unfold Bm0;rw[Bv5,Bu0,Bs4]
 unfold G3;rw[<- Ba8];exact key l.n N 0 (by omega) (by omega)
end Go.AM
namespace Go.AM
variable {N:Nat}
open IntKind (wrap)
open Go.Proofs
noncomputable def HD (h:A6) (k:Nat):Nat:=((G8 h.Tree h.Tree.n).g k).toNat
open Classical in
noncomputable def exc (N:Nat) (h:A6) (p:Sl F0) (l:Sl Entry) (c:Int) (q:Nat×Nat):Option A1:= if AB1 N h (HD h q.2) (-1) (p.g q.1) ((l.g q.1).Forms.g q.2)then none else some ⟨(q.1:Int),(q.2:Int),if DF N h (HD h q.2) (-1) (p.g q.1)=none then 2 else 1,c⟩
def Ks {h:A6}{p:Sl F0}{l:Sl Entry}{c:Int}{q:Nat×Nat}(a:AB1 N h (HD h q.2) (-1) (p.g q.1) ((l.g q.1).Forms.g q.2)):exc N h p l c q=none:=Pk a
def Qb {h:A6}{p:Sl F0}{l:Sl Entry}{c:Int}{q:Nat×Nat}(a:¬AB1 N h (HD h q.2) (-1) (p.g q.1) ((l.g q.1).Forms.g q.2))(b:DF N h (HD h q.2) (-1) (p.g q.1)≠none):exc N h p l c q=some ⟨(q.1:Int),(q.2:Int),1,c⟩:=by unfold exc;rw[Pl a,Pl b]
def Hk {h:A6}{p:Sl F0}{l:Sl Entry}{c:Int}{q:Nat×Nat}(a:DF N h (HD h q.2) (-1) (p.g q.1)=none):exc N h p l c q=some ⟨(q.1:Int),(q.2:Int),2,c⟩:=by
 have b:¬AB1 N h (HD h q.2) (-1) (p.g q.1) ((l.g q.1).Forms.g q.2):=by rintro⟨y,y1,_⟩;rw[a]at y1;cases y1
 unfold exc;rw[Pl b,Pk a]
noncomputable def Lh (N:Nat) (h:A6) (p:Sl F0) (l:Sl Entry) (c:Int):List A1:=(YG l).filterMap (exc N h p l c)
def attOk.len {N:Nat}{h:A6}{p:Sl F0}{l:Sl Entry}(ha:attOk N h p l):(YG l).length<=16128:=by
 have a:=Kt ha.hist.tree
 have:=Ti (l:=l) (m:=63) l.n fun j b=>by rw[ha.fn j b];exact a
 have:=ha.n
 show (Ae4 l l.n).length<=_;omega
def Bk4 (b:3000000<=N){h:A6}(c:U4 h)(a:CS N h)(x:Int):∃X,J0 N h x=some X/\derX N h x (G8 h.Tree h.Tree.n) X:=by obtain⟨X,x1,x2,x3⟩:=Yy b c a x;exact⟨X,x1,rfl,x2,fun k hk=>(x3 k (by omega)).1⟩
def Bk5 (c:3000000<=N){h:A6}{p:Sl F0}{l:Sl Entry}(ha:attOk N h p l):G3 N l=some ((YG l).map (Bk2 l)):=by have a:=Kt ha.hist.tree;exact Ba9 (by omega) (by have:=ha.n;omega) fun i b=>by rw[ha.fn i b];omega
def cmpF (d:3000000<=N){o:Option (Sl Sm)}{w:Sl Sm}{b:Bool}(c:outF o ⟨b,w⟩)(W:Sl Sm)(hb:b=true):∃e,S2 N w W=some e/\(e=true ↔ ∃y,o=some y/\SE y W):=by
 rcases c with⟨y,b1,b2,b3,b4⟩ | ⟨b1,b2⟩
 .obtain⟨e,e1,e2⟩:=AZ6 (N:=N) (x:=w) (y:=W) (by have:w.n<=32:=b4.1;omega) (by have:w.n<=32:=b4.1;omega);refine⟨e,e1,e2.trans ⟨fun a=>⟨y,b1,b3.symm.trans a⟩,?_⟩⟩;rintro⟨z,z1,z2⟩;rw[b1]at z1;obtain rfl:=Bn8 z1;exact b3.trans z2
 rw[hb]at b2;cases b2
def outF.yes {o:Option (Sl Sm)}{w:Sl Sm}(a:outF o ⟨true,w⟩):o≠none:=by
 rcases a with⟨y,b1,_⟩ | ⟨_,b2⟩
 .rw[b1];exact fun e=>by cases e
 cases b2
def outF.no {o:Option (Sl Sm)}{w:Sl Sm}(a:outF o ⟨false,w⟩):o=none:=by
 rcases a with⟨y,_,b2,_⟩ | ⟨b1,_⟩
 .cases b2
 exact b1
def YB {h:A6}{p:Sl F0}{l:Sl Entry}{c:Int}{done:List (Nat×Nat)}{q:Nat×Nat}{z:Sl A1}{e:A1}(a:z.toList=done.filterMap (exc N h p l c))(b:exc N h p l c q=some e):(z.push e).toList=(done++[q]).filterMap (exc N h p l c):=by rw[Gv,a,BF1];simp[b]
def Az8 {h:A6}{p:Sl F0}{l:Sl Entry}{c:Int}{done:List (Nat×Nat)}{q:Nat×Nat}{z:Sl A1}(a:z.toList=done.filterMap (exc N h p l c))(b:exc N h p l c q=none):z.toList=(done++[q]).filterMap (exc N h p l c):=by rw[a,BF1];simp[b]
def YJ (f:3000000<=N){h:A6}(u:U4 h){p:Sl F0}{l:Sl Entry}(hp:Bx p)(hl:EJ l)(ha:attOk N h p l){c:Int}(hc:0<=c/\c<=1073741824) :∃b,I2 N h p l c=some (b,0)/\b.toList=Lh N h p l c:=by
 suffices ∃r,I2 N h p l c=some r/\(r.2=0/\r.1.toList=Lh N h p l c) by obtain⟨⟨b,e⟩,r1,r2,r3⟩:=this;obtain rfl:e=0:=r2;exact⟨b,r1,r3⟩
 have w:=ha.len;obtain⟨X,x1,x2⟩:=Bk4 f u ha.hist (-1);unfold I2;refine B3 (Hj f u hp hl) ?_;rw[(Kr (by omega) hp hl).2 ha];refine P6 (Oi (B3 x1 (B3 rfl (B3 (Bk5 f ha) ?_))));have v:VR N h (-1) (G8 h.Tree h.Tree.n) (⟨X.n,fun _=>[]⟩:Sl (List (Str×F0))):=by rw[x2.n];exact memo0 N h (-1) _
 refine Av2 (fun L a=>∃done todo,YG l=done++todo/\L=todo.map (Bk2 l)/\VR N h (-1) (G8 h.Tree h.Tree.n) a.1/\a.2.toList=done.filterMap (exc N h p l c)/\a.2.n<=done.length) ?_ ?_ _ _ ⟨[],YG l,rfl,rfl,v,rfl,Bm9 _⟩
 .rintro a ⟨done,todo,h1,o,x,i,s⟩
  have:todo=[]:=by simpa using o.symm
  subst this;rw[Br5]at h1;exact⟨_,rfl,rfl,by rw[i,Lh,h1]⟩
 rintro t L ⟨M,z⟩ j ⟨done,todo,h1,o,x,i,s⟩ hs;cases todo with
 |nil=>cases o
 |cons q todo=>
  obtain⟨rfl,rfl⟩:=List.cons.inj o;have m:q∈YG l:=by rw[h1];simp
  obtain⟨q1,q2,q3⟩:=YH m;have a0:=ha.pn;have hk:q.2<(G8 h.Tree h.Tree.n).n:=by rw[<- ha.fn q.1 q1];exact q2
  have hd:done.length<=16128:=by
   have:=congrArg List.length h1
   rw[Bo8]at this;omega
  obtain⟨r,r1,r2,r3⟩:=AK8 f u ha.hist x2 (p:=p.g q.1) (fun _=>ha.pw q.1 (by omega)) hk x;replace s:z.n<=done.length:=s;have hz:z.n<=16128:=Bq1 s hd;have d:∀z' : Sl A1,z'.toList=(done++[q]).filterMap (exc N h p l c)->z'.n<=(done++[q]).length->∃y,j (r.2.2,z')=some y/\(y.2=0/\y.1.toList=Lh N h p l c):=fun z' e1 e2=>
   hs _ ⟨done++[q],todo,by rw[h1,Bt5];rfl,rfl,r2,e1,e2⟩
  have hl1:(done++[q]).length=done.length+1:=by simp
  refine ifT (by show (0:Int)<=(q.1:Int)/\(q.1:Int)<(p.n:Int);omega) ?_;show ∃y,(H1 N (p.g (q.1:Int).toNat) (q.2:Int) M X).bind _=some y/\_;rw[Bm2];refine B3 r1 ?_;cases hb:r.2.1 with
  |false=>rw[hb]at r3;refine Ge (ifT (by show (z.n+1)*32<=_/\z.n+1<=_;omega) (d _ (YB i (Hk r3.no)) (by show z.n+1<=_;omega)))
  |true=>
   obtain⟨e,e1,e2⟩:=cmpF f r3 ((l.g q.1).Forms.g q.2).W hb;rw[hb]at r3;refine P6 (B3 e1 ?_);cases e with
   |false=>exact ifT rfl (ifT (by show (z.n+1)*32<=_/\z.n+1<=_;omega) (d _ (YB i (Qb (fun hr=>by have:=e2.2 hr;cases this) r3.yes)) (by show z.n+1<=_;omega)))
   |true=>exact P6 (d _ (Az8 i (Ks (e2.1 rfl))) (by show z.n<=_;omega))
def Az9 (hN:3000000<=N){h:A6}(hi:U4 h){p:Sl F0}{l:Sl Entry}(hp:Bx p)(hl:EJ l)(ha:attOk N h p l){c:Int}(hc:0<=c/\c<=1073741824) :∃b,AN N h p l c=some (b,0)/\b.toList=Lh N h p l c:=by
 suffices ∃r,AN N h p l c=some r/\(r.2=0/\r.1.toList=Lh N h p l c) by obtain⟨⟨b,e⟩,r1,r2,r3⟩:=this;obtain rfl:e=0:=r2;exact⟨b,r1,r3⟩
 have hlen:=ha.len;have h63:=Kt ha.hist.tree;have hln:=ha.n;have hpn:=ha.pn;unfold AN;refine B3 (IM hN hi hp hl) ?_;rw[(Kr (by omega) hp hl).2 ha];refine P6 (Oi ?_);refine Q0 (fun i (z:Sl A1) x=>x=(i:Int)/\z.toList=(Ae4 l i).filterMap (exc N h p l c)/\z.n<=(Ae4 l i).length) l.n _ (by omega) ⟨rfl,rfl,Bm9 _⟩ ?_;rintro self i z x hii ⟨rfl,o,q⟩ hs;by_cases v:i<l.n
 case neg=>
  obtain rfl:i=l.n:=by omega
  exact Oj ⟨_,rfl,rfl,o⟩
 have hfi:=ha.fn i v;have hU:(Ae4 l i).length<=i*63:=Ti i fun j hj=>by rw[ha.fn j (by omega)];exact h63
 refine An ?_;refine Q0 (fun k (z:Sl A1) x=>x=(k:Int)/\z.toList=(Ae4 l i++attR l i k).filterMap (exc N h p l c)/\z.n<=(Ae4 l i).length+(attR l i k).length) (l.g i).Forms.n _ (by omega) ⟨rfl,by rw[o];simp[attR],by show z.n<=_+0;omega⟩ ?_;rintro a k z x hk ⟨rfl,o,q⟩ s;have hR:=Aa5 l i k;refine Am ?_;rw[Bm2];by_cases t:k<(l.g i).Forms.n
 case neg=>
  obtain rfl:k=(l.g i).Forms.n:=by omega
  refine Oj (hs v _ _ ⟨Pd,by rw[Az7];exact o,by rw[Az7,Bo8];exact q⟩)
 refine An (Am ?_);rw[Bm2];have e:=Bk1 l i k;by_cases hh:((l.g i).Forms.g k).Has=true
 case neg=>rw[Pl hh,Br5]at e;exact ifT (by simpa using hh) (s t _ _ ⟨Pd,by rw[e];exact o,by rw[e];exact q⟩)
 rw[Pk hh]at e;have w:k<(G8 h.Tree h.Tree.n).n:=by omega
 obtain⟨b,b1,b2⟩:=VU hN hi ha.hist (x:=-1) (p:=p.g i) (f:=(l.g i).Forms.g k) (fun _=>ha.pw i (by omega)) w;have u:exc N h p l c (i,k)=none->∃y,a z (wrap .i64 ((k:Int)+1))=some y/\(y.2=0/\y.1.toList=Lh N h p l c):=fun he=>
  s t _ _ ⟨Pd,by rw[e,<- Bt5];exact Az8 o he,by rw[e,Bo8];omega⟩
 have m:∀x,exc N h p l c (i,k)=some x->∃y,a (z.push x) (wrap .i64 ((k:Int)+1))=some y/\(y.2=0/\y.1.toList=Lh N h p l c):=fun x he=>
  s t _ _ ⟨Pd,by rw[e,<- Bt5];exact YB o he,by rw[e,Bo8];show z.n+1<=_+(_+1);omega⟩
 refine ifF (by simp[hh]) (Am (B3 b1 ?_));cases b with
 |true=>exact ifT rfl (u (Ks (b2.1 rfl)))
 |false=>
  obtain⟨d,d1,d2⟩:=LN hN hi ha.hist (x:=-1) (p:=p.g i) (fun _=>ha.pw i (by omega)) w;refine P6 (Am (B3 d1 ?_));have hb:(z.n+1)*32<=140737488355328/\z.n+1<=140737488355328:=by omega
  rcases d2 with⟨y,g1,g2,_⟩ | ⟨g1,g2⟩
  .refine ifF (by simp[g2]) (ifT hb (m _ (Qb (fun hr=>by have:=b2.2 hr;cases this) ?_)));show DF N h (HD h k) (-1) (p.g i)≠none;unfold HD;rw[g1];exact fun e=>by cases e
  exact ifT (by simp[g2]) (ifT hb (m _ (Hk g1)))
def AA0 (a:3000000<=N){h:A6}(d:U4 h){p:Sl F0}{l:Sl Entry}(hp:Bx p)(hl:EJ l)(c:Int) :∃r r',I2 N h p l c=some r/\AN N h p l c=some r' /\ r.2=r'.2/\r.1.toList=r'.1.toList/\(r.2=0↔(attOk N h p l/\0<=c/\c<=1073741824))/\(r.2=0->r.1.toList=Lh N h p l c)/\(r.2≠0->r.1.n=0):=by
 by_cases ha:attOk N h p l
 .by_cases hc:0<=c/\c<=1073741824
  .obtain⟨b,b1,b2⟩:=YJ a d hp hl ha hc;obtain⟨b',b1',b2'⟩:=Az9 a d hp hl ha hc;exact⟨_,_,b1,b1',rfl,b2.trans b2'.symm,⟨fun _=>⟨ha,hc⟩,fun _=>rfl⟩,fun _=>b2,fun f=>Pm rfl f⟩
  have hb:((decide (c<0))||(decide (1073741824<c)))=true:=by simp;omega
  refine⟨((Sl.nil:Sl A1),2),((Sl.nil:Sl A1),2),?_,?_,rfl,rfl,⟨fun f=>(by cases f),fun f=>Pm f.2 hc⟩,fun f=>(by cases f),fun _=>rfl⟩
  .unfold I2;rw[Hj a d hp hl,(Kr (by omega) hp hl).2 ha,Bm6,Pl (by decide),Pk hb]
  unfold AN;rw[IM a d hp hl,(Kr (by omega) hp hl).2 ha,Bm6,Pl (by decide),Pk hb]
 have i:Al6 N h p l≠0:=fun e=>ha ((Kr (by omega) hp hl).1 e);have g:(Al6 N h p l != 0)=true:=by simpa using i
 refine⟨((Sl.nil:Sl A1),Al6 N h p l),((Sl.nil:Sl A1),Al6 N h p l),?_,?_,rfl,rfl,⟨fun f=>Pm f i,fun f=>Pm f.1 ha⟩,fun f=>Pm f i,fun _=>rfl⟩
 .unfold I2;rw[Hj a d hp hl,Bm6,Pk g]
 unfold AN;rw[IM a d hp hl,Bm6,Pk g]
end Go.AM
namespace Go.AM
open Go.Proofs
def Jc {N:Nat}{h:A6}{p:Sl F0}{l:Sl Entry}{c:Int}:(Lh N h p l c).length<=(YG l).length:=List.length_filterMap_le _ _
end Go.AM
namespace Go.AM
open Go.Proofs
def TH {N:Nat}(o:3000000<=N)(h:A6):∃b,Cd N h=some b/\True:=by
 unfold Cd;by_cases hb:((decide (63<(h.Tree.n:Int)))||(decide (64<(h.Laws.n:Int))))=true
 .exact ifT hb ⟨_,rfl,trivial⟩
 refine ifF hb ?_;have hl:h.Laws.n<=64:=by simp at hb;omega
 refine Q0 (fun i x1 x2=>x2=(i:Int)) h.Laws.n _ (by omega) rfl ?_;rintro l i x1 x2 q rfl hs;by_cases c:i<h.Laws.n/\i<=6
 .refine An (Am ?_);rw[Bm2];obtain⟨a,ha,_⟩:=ZT (N:=N) (by omega) (h.Laws.g i).Left;obtain⟨b,d,_⟩:=ZT (N:=N) (by omega) (h.Laws.g i).Right;exact B3 ha (Am (B3 d (hs c.1 _ _ (Pd))))
 refine Oi ?_;refine Q0 (fun i x3 x4=>x4=(i:Int)) 201 _ (by omega) rfl ?_;rintro f k x3 x4 hk rfl j;by_cases m:k<h.On.n/\k<=200
 .exact An (Am (j (by omega) _ _ (Pd)))
 exact Oi ⟨_,rfl,trivial⟩
def TI {N:Nat}(y:3000000<=N)(p:Sl F0)(l:Sl Entry):∃b,Ce N p l=some b/\True:=by
 unfold Ce;by_cases hb:((((decide (6<(l.n:Int)))&&(decide ((l.n:Int)<=256)))||(decide (400<(l.n:Int))))||(decide (400<(p.n:Int))))=true
 .exact ifT hb ⟨_,rfl,trivial⟩
 refine ifF hb ?_;have v:l.n<=400/\p.n<=400:=by simp at hb;omega
 refine X5 (fun i x=>x=(i:Int)) p.n _ (by omega) rfl ?_;rintro s i x z rfl hs;by_cases a:i<p.n
 .refine An (Am ?_);by_cases t:(decide (100<((p.g (i:Int).toNat).W.n:Int)))=true
  .exact ifT t ⟨_,rfl,trivial⟩
  exact ifF t (hs a _ (Pd))
 refine Oi ?_;refine X5 (fun i x=>x=(i:Int)) l.n _ (by omega) rfl ?_;rintro c k x hk rfl d;by_cases f:k<l.n
 .refine An (Am ?_);rw[Bm2];by_cases m:(decide (20<((l.g k).Forms.n:Int)))=true
  .exact ifT m ⟨_,rfl,trivial⟩
  have w:(l.g k).Forms.n<=20:=by simp at m;omega
  refine ifF m (X5 (fun i x=>x=(i:Int)) (l.g k).Forms.n _ (by omega) rfl ?_);rintro o j x hj rfl q;refine Am ?_;by_cases r:j<(l.g k).Forms.n
  .refine An (Am ?_);by_cases u:(decide (100<(((l.g k).Forms.g (j:Int).toNat).W.n:Int)))=true
   .exact ifT u ⟨_,rfl,trivial⟩
   exact ifF u (q r _ (Pd))
  exact Oi (d f _ (Pd))
 exact Oi ⟨_,rfl,trivial⟩
end Go.AM
namespace Go.AM
open Go.Proofs
def MV {N:Nat}{a b:Sl Int}(f:a.n<N)(hs:a.n<1000000000)(h:SE a b):U8 N a b=some true:=by
 obtain⟨h1,g⟩:=h;refine eqR ?_;unfold U8;refine ifF (by simp[h1]) ?_;refine X5 (fun i x=>x=(i:Int)) a.n _ f rfl ?_;rintro d i x j rfl c;by_cases hl:i<a.n
 .refine An (Am ?_);rw[Bm2,g i hl];exact Oj (c hl _ (Pd))
 exact Oi ⟨_,rfl,rfl⟩
end Go.AM
namespace Go.AM
open Go.Proofs
end Go.AM
namespace Go.AM
open Go.Proofs
end Go.AM
namespace Go.AM
open Go.Proofs
end Go.AM
namespace Go.AM
open Go.Proofs
end Go.AM
namespace Go.AM
variable {N:Nat}
open Go.Proofs
def Dq (L:List A1)(x:Int):List Int:=(L.filter fun e=>e.Leaf==x).map fun e=>e.Entry
def Hl {s:Sl A1}{i:Nat}(x:Int):Dq (s.take (i+1)).toList x=Dq (s.take i).toList x++(if (s.g i).Leaf==x then [(s.g i).Entry]else []):=by
 unfold Dq;rw[Mp,BC1,Bs4];by_cases h:(s.g i).Leaf==x
 .rw[Bz0 (p:=fun e:A1=>e.Leaf==x) h,Pk h];rfl
 rw[Bz1 (p:=fun e:A1=>e.Leaf==x) h,Pl h];rfl
def Rm (u:3000000<=N){h:A6}(v:U4 h){p:Sl F0}{l:Sl Entry}(hp:Bx p)(hl:EJ l)(x:Int) :∃r r',N4 N h p l x=some r/\Bm N h p l x=some r' /\ r.2=r'.2/\SE r.1 r'.1/\r.1.n<=16128/\(r.2=0↔attOk N h p l/\0<=x/\x<((G8 h.Tree h.Tree.n).n:Int))/\(r.2=0->r.1.toList=Dq (Lh N h p l 0) x)/\(r.2≠0->r.1.n=0)/\(attOk N h p l->¬(0<=x/\x<((G8 h.Tree h.Tree.n).n:Int))->r.2=3):=by
 obtain⟨b,b',b1,b1',b2,b3,b4,b5,b6⟩:=AA0 u v hp hl 0;by_cases a:b.2=0
 case neg=>
  have j:¬attOk N h p l:=fun g=>a (b4.2 ⟨g,by omega,by omega⟩);refine⟨(Sh,b.2),(Sh,b'.2),?_,?_,b2,SE.refl _,Bu8 _,⟨fun g=>Pm g a,fun g=>Pm g.1 j⟩,fun g=>Pm g a,fun _=>rfl,fun g=>Pm g j⟩
  .unfold N4;rw[b1,Bm6,Pk (by simpa using a)]
  unfold Bm;rw[b1',Bm6,Pk (by rw[<- b2];simpa using a)]
 have ha:=(b4.1 a).1;have q:=ha.hist;have f:=ha.len;have m : b'.2=0:=by rw[<- b2];exact a
 have hn:b.1.n<=16128:=by rw[<- DU b.1,b5 a];exact Bq1 Jc f
 have w : b'.1.n<=16128:=by rw[<- DU b'.1,<- b3,b5 a];exact Bq1 Jc f
 obtain⟨v1,v2⟩:=Gu u v.tree q.tree;by_cases hx:((decide (x<0))||(decide (((G8 h.Tree h.Tree.n).n:Int)<=x)))=true
 .have d:¬(0<=x/\x<((G8 h.Tree h.Tree.n).n:Int)):=by simp at hx;omega
  refine⟨(Sh,3),(Sh,3),?_,?_,rfl,SE.refl _,Bu8 _,⟨fun g=>(by cases g),fun g=>Pm g.2 d⟩,fun g=>(by cases g),fun _=>rfl,fun _ _=>rfl⟩
  .unfold N4;rw[b1,Bm6,Pl (by simp[a]),v1,Bm6,Pk hx]
  unfold Bm;rw[b1',Bm6,Pl (by simp[m]),v2,Bm6,Pk hx]
 have d:0<=x/\x<((G8 h.Tree h.Tree.n).n:Int):=by simp at hx;omega
 have w1:∃r,N4 N h p l x=some r/\(r.2=0/\r.1.n<=16128/\r.1.toList=Dq b.1.toList x):=by
  unfold N4;refine B3 b1 (ifF (by simp[a]) (B3 v1 (ifF hx ?_)));refine Q0 (fun i (s:Sl Int) y=>y=(i:Int)/\s.n<=i/\s.toList=Dq (b.1.take i).toList x) b.1.n _ (by omega) ⟨rfl,Bm9 _,rfl⟩ ?_;rintro o i s y hle ⟨rfl,t,hs⟩ hk;by_cases c:i<b.1.n
  .refine An (Am ?_);rw[Bm2];by_cases e:((b.1.g i).Leaf==x)=true
   .exact ifT e (An (hk c _ _ ⟨Pd,by show s.n+1<=_;omega,by rw[Gv,hs,Hl,Pk e]⟩))
   exact ifF e (hk c _ _ ⟨Pd,by omega,by rw[hs,Hl,Pl e,Br5]⟩)
  obtain rfl:i=b.1.n:=by omega
  exact Oj ⟨_,rfl,rfl,by show s.n<=_;omega,hs⟩
 have w2:∃r,Bm N h p l x=some r/\(r.2=0/\r.1.n<=16128/\r.1.toList=Dq b'.1.toList x):=by
  unfold Bm;refine B3 b1' (ifF (by simp[m]) (B3 v2 (ifF hx ?_)));refine Q0 (fun i (s:Sl Int) y=>y=(i:Int)/\s.n<=i/\s.toList=Dq (b'.1.take i).toList x) b'.1.n _ (by omega) ⟨rfl,Bm9 _,rfl⟩ ?_;rintro o i s y hle ⟨rfl,t,hs⟩ hk;by_cases c:i<b'.1.n
  .refine An (Am ?_);rw[Bm2];by_cases e:((b'.1.g i).Leaf==x)=true
   .exact ifT e (ifT ⟨by omega,by simp;omega⟩ (hk c _ _ ⟨Pd,by show s.n+1<=_;omega,by rw[Gv,hs,Hl,Pk e]⟩))
   exact ifF e (hk c _ _ ⟨Pd,by omega,by rw[hs,Hl,Pl e,Br5]⟩)
  obtain rfl:i=b'.1.n:=by omega
  exact Oj ⟨_,rfl,rfl,by show s.n<=_;omega,hs⟩
 obtain⟨r,r1,r2,r3,r4⟩:=w1;obtain⟨r',r1',r2',r3',r4'⟩:=w2;exact⟨r,r',r1,r1',by rw[r2,r2'],tl_eq.1 (by rw[r4,r4',b3]),r3,⟨fun _=>⟨ha,d⟩,fun _=>r2⟩,fun _=>by rw[r4,b5 a],fun g=>Pm r2 g,fun _ g=>Pm d g⟩
def OV (l:Sl Entry)(n:Nat)(x:A1):Prop:=x.Entry<0 \/ (l.n:Int)<=x.Entry \/ x.Leaf<0 \/ (n:Int)<=x.Leaf
def Fi (bad:Sl A1)(i:Nat)(x:A1):Prop:=∃t,t<i/\(bad.g t).Entry=x.Entry/\(bad.g t).Leaf=x.Leaf
def Bk6 (l:Sl Entry)(n:Nat)(bad:Sl A1)(L:List A1)(r:Bool×Int):Prop:= (r.2=3/\r.1=false/\∃i,i<bad.n/\OV l n (bad.g i)) \/ (r.2=0/\(∀i,i<bad.n->¬OV l n (bad.g i))/\(r.1=true ↔ ∀x∈L,Fi bad bad.n x))
def AA1 {l:Sl Entry}{n:Nat}{bad:Sl A1}{L:List A1}{r r' : Bool×Int}(h:Bk6 l n bad L r)(h' : Bk6 l n bad L r'):r.1=r'.1/\r.2=r'.2:=by
 rcases h with⟨a1,a2,i,i1,i2⟩ | ⟨a1,a2,a3⟩<;>rcases h' with⟨c1,c2,j,j1,j2⟩ | ⟨c1,c2,c3⟩
 .exact⟨by rw[a2,c2],by rw[a1,c1]⟩
 .exact Pm i2 (c2 i i1)
 .exact Pm j2 (a2 j j1)
 exact⟨Bq0.2 (a3.trans c3.symm),by rw[a1,c1]⟩
def exOut_dec {l:Sl Entry}{n:Nat}{x:A1}:((((decide (x.Entry<0))||(decide ((l.n:Int)<=x.Entry)))||(decide (x.Leaf<0)))||(decide ((n:Int)<=x.Leaf)))=true↔OV l n x:=by simp[OV,or_assoc]
def pl_eq {a b:J5}:V5 a b=true↔a=b:=by cases a;cases b;simp[V5]
def Tj {ν : Type}{k s:J5}{v : ν}:∀es:List (J5 × ν),X1 V5 s (HF V5 k v es)=if s=k then some v else X1 V5 s es
 |[]=>by
  simp only[HF,X1];by_cases h:s=k
  .subst h;rw[Pk (pl_eq.2 rfl),Pk rfl]
  rw[Pl (fun g=>h (pl_eq.1 g)),Pl h]
 |(a,x)::es=>by
  simp only[HF];by_cases h:k=a
  .subst h;rw[Pk (pl_eq.2 rfl)];simp only[X1];by_cases b:s=k
   .subst b;rw[Pk (pl_eq.2 rfl),Pk rfl]
   rw[Pl (fun g=>b (pl_eq.1 g)),Pl b,Pl (fun g=>b (pl_eq.1 g))]
  rw[Pl (fun g=>h (pl_eq.1 g))];simp only[X1];rw[Tj es];by_cases b:s=k
  .subst b;rw[Pl (fun g=>h (pl_eq.1 g)),Pk rfl,Pk rfl]
  rw[Pl b,Pl b]
structure AA2 (bad:Sl A1) (i:Nat) (es:List (J5×Bool)):Prop where
 yes:∀x:A1,Fi bad i x->X1 V5 (⟨x.Entry,x.Leaf⟩:J5) es=some true
 no:∀x:A1,¬Fi bad i x->X1 V5 (⟨x.Entry,x.Leaf⟩:J5) es=none
def exSame_S {bad:Sl A1}{i:Nat}{x:A1}:Fi bad (i+1) x↔Fi bad i x \/ ((bad.g i).Entry=x.Entry/\(bad.g i).Leaf=x.Leaf):=by
 constructor
 .rintro⟨t,t1,t2⟩;by_cases e:t=i
  .subst e;exact .inr t2
  exact .inl ⟨t,by omega,t2⟩
 rintro (⟨t,t1,t2⟩ | g)
 .exact⟨t,by omega,t2⟩
 exact⟨i,by omega,g⟩
def Bb0 {bad:Sl A1}{i:Nat}{es:List (J5×Bool)}(h:AA2 bad i es):AA2 bad (i+1) (HF V5 (⟨(bad.g i).Entry,(bad.g i).Leaf⟩:J5) true es) where
 yes:=fun x hx=>by
  rw[Tj];by_cases e:(⟨x.Entry,x.Leaf⟩:J5)=⟨(bad.g i).Entry,(bad.g i).Leaf⟩
  .rw[Pk e]
  rw[Pl e];rcases exSame_S.1 hx with g|⟨g1,g2⟩
  .exact h.yes x g
  exact Pm (by rw[g1,g2]) e
 no:=fun x hx=>by
  rw[Tj,Pl]
  .exact h.no x fun g=>hx (exSame_S.2 (.inl g))
  intro e;injection e with e1 e2;exact hx (exSame_S.2 (.inr ⟨e1.symm,e2.symm⟩))
def AL1 {bad:Sl A1}{i:Nat}{es:List (J5×Bool)}(h:AA2 bad i es)(x:A1):∃b,J2 N x es=some b/\(b=true ↔ ¬Fi bad i x):=by
 unfold J2;by_cases g:Fi bad i x
 .exact⟨false,by rw[h.yes x g];rfl,⟨fun f=>(by cases f),fun f=>Pm g f⟩⟩
 exact⟨true,by rw[h.no x g];rfl,⟨fun _=>g,fun _=>rfl⟩⟩
def AL2 {s:Sl A1}(f:s.n<N)(hs:s.n<1000000000){bad:Sl A1}{i:Nat}{es:List (J5×Bool)}(h:AA2 bad i es):∃b,W2 N s es=some b/\(b=true ↔ ∃j,j<s.n/\¬Fi bad i (s.g j)):=by
 have key:∃r,C9 N s (fun x=>J2 N x es)=some r/\(0<=r ↔ ∃j,j<s.n/\¬Fi bad i (s.g j)):=by
  unfold C9;refine X5 (fun j y=>y=(j:Int)/\∀t,t<j->Fi bad i (s.g t)) s.n _ f ⟨rfl,fun t ht=>Pm ht (Bp1 _)⟩ ?_;rintro d j y l ⟨rfl,a⟩ hk;by_cases c:j<s.n
  .obtain⟨b,b1,b2⟩:=AL1 (N:=N) h (s.g j);refine An (Am ?_);rw[Bm2];refine B3 b1 ?_;cases b with
   |true=>exact ifT rfl ⟨_,rfl,⟨fun _=>⟨j,c,b2.1 rfl⟩,fun _=>by omega⟩⟩
   |false=>
    refine P6 (hk c _ ⟨Pd,fun t ht=>?_⟩);by_cases e:t=j
    .subst e;exact Bn7 fun g=>by cases b2.2 g
    exact a t (by omega)
  obtain rfl:j=s.n:=by omega
  refine Oj ⟨_,rfl,⟨fun g=>Pm g (by decide),?_⟩⟩;rintro⟨t,t1,t2⟩;exact Pm (a t t1) t2
 obtain⟨r,r1,r2⟩:=key;unfold W2;rw[r1];exact⟨_,rfl,by rw[Pp];exact r2⟩
def DS (hN:3000000<=N){h:A6}(hi:U4 h){p:Sl F0}{l:Sl Entry}(hp:Bx p)(hl:EJ l){bad:Sl A1}(hb:bad.n<2000000) :∃r r',G7 N h p l bad=some r/\S8 N h p l bad=some r' /\ r.1=r'.1/\r.2=r'.2/\(attOk N h p l->Bk6 l (G8 h.Tree h.Tree.n).n bad (Lh N h p l 0) r)/\(¬attOk N h p l->r.1=false/\r.2≠0):=by
 obtain⟨b,b',b1,b1',b2,b3,b4,b5,b6⟩:=AA0 hN hi hp hl 0;by_cases m:b.2=0
 case neg=>
  have hna:¬attOk N h p l:=fun g=>m (b4.2 ⟨g,by omega,by omega⟩);refine⟨(false,b.2),(false,b'.2),?_,?_,rfl,b2,fun g=>Pm g hna,fun _=>⟨rfl,m⟩⟩
  .unfold G7;rw[b1,Bm6,Pk (by simpa using m)]
  unfold S8;rw[b1',Bm6,Pk (by rw[<- b2];simpa using m)]
 have ha:=(b4.1 m).1;have hok:=ha.hist;have o:=ha.len;have h0' : b'.2=0:=by rw[<- b2];exact m
 have hn:b.1.n<=16128:=by rw[<- DU b.1,b5 m];exact Bq1 Jc o
 have hn' : b'.1.n<=16128:=by rw[<- DU b'.1,<- b3,b5 m];exact Bq1 Jc o
 obtain⟨v1,v2⟩:=Gu hN hi.tree hok.tree;have w1:∃r,G7 N h p l bad=some r/\Bk6 l (G8 h.Tree h.Tree.n).n bad b.1.toList r:=by
  unfold G7;refine B3 b1 (ifF (by simp[m]) (B3 v1 ?_));refine Q0 (fun i es y=>y=(i:Int)/\AA2 bad i es/\∀t,t<i->¬OV l (G8 h.Tree h.Tree.n).n (bad.g t)) bad.n _ (by omega) ⟨rfl,⟨fun x ⟨t,t1,_⟩=>Pm t1 (Bp1 _),fun x _=>rfl⟩,fun t ht=>Pm ht (Bp1 _)⟩ ?_;rintro z i es y hle ⟨rfl,hm,a⟩ hk;by_cases d:i<bad.n
  .refine An (Am ?_);rw[Bm2];by_cases e:OV l (G8 h.Tree h.Tree.n).n (bad.g i)
   .exact ifT (exOut_dec.2 e) ⟨_,rfl,.inl ⟨rfl,rfl,i,d,e⟩⟩
   refine ifF (fun g=>e (exOut_dec.1 g)) (hk d _ _ ⟨Pd,Bb0 hm,fun t ht=>?_⟩);by_cases et:t=i
   .subst et;exact e
   exact a t (by omega)
  obtain rfl:i=bad.n:=by omega
  obtain⟨c,c1,c2⟩:=AL2 (N:=N) (s:=b.1) (by omega) (by omega) hm;refine Oj (B3 c1 ⟨_,rfl,.inr ⟨rfl,a,?_⟩⟩);show (!c)=true↔_;constructor
  .intro g x hx;obtain⟨t,t1,rfl⟩:=Bp0.1 hx;exact Bn7 fun q=>by
    have:=c2.2 ⟨t,Bp3.1 t1,q⟩
    subst this;cases g
  intro g;cases c with
  |false=>rfl
  |true=>obtain⟨t,t1,t2⟩:=c2.1 rfl;exact Pm (g _ (Bp0.2 ⟨t,Bp3.2 t1,rfl⟩)) t2
 have w2:∃r,S8 N h p l bad=some r/\Bk6 l (G8 h.Tree h.Tree.n).n bad b'.1.toList r:=by
  unfold S8;refine B3 b1' (ifF (by simp[h0']) (B3 v2 ?_));refine X5 (fun i y=>y=(i:Int)/\∀t,t<i->¬OV l (G8 h.Tree h.Tree.n).n (bad.g t)) bad.n _ (by omega) ⟨rfl,fun t ht=>Pm ht (Bp1 _)⟩ ?_;rintro z i y hle ⟨rfl,a⟩ hk;by_cases d:i<bad.n
  .refine An (Am (ifT ⟨⟨fun _=>by omega,fun _ _=>by omega⟩,fun _ _ _=>by omega⟩ ?_));rw[Bm2];by_cases e:OV l (G8 h.Tree h.Tree.n).n (bad.g i)
   .exact ifT (exOut_dec.2 e) ⟨_,rfl,.inl ⟨rfl,rfl,i,d,e⟩⟩
   refine ifF (fun g=>e (exOut_dec.1 g)) (hk d _ ⟨Pd,fun t ht=>?_⟩);by_cases et:t=i
   .subst et;exact e
   exact a t (by omega)
  obtain rfl:i=bad.n:=by omega
  refine Oj ?_;refine X5 (fun j y=>y=(j:Int)/\∀t,t<j->Fi bad bad.n (b'.1.g t)) b'.1.n _ (by omega) ⟨rfl,fun t ht=>Pm ht (Bp1 _)⟩ ?_;rintro self4 j y hj ⟨rfl,a0⟩ hk4;by_cases a1:j<b'.1.n
  .refine An ?_;refine Q0 (fun t f y=>y=(t:Int)/\(f=true↔Fi bad t (b'.1.g j))) bad.n _ (by omega) ⟨rfl,⟨fun f=>(by cases f),fun⟨q,q1,_⟩=>Pm q1 (Bp1 _)⟩⟩ ?_;rintro self5 t f y ht ⟨rfl,hf⟩ v;by_cases w:t<bad.n
   .refine An ?_;cases f with
    |true=>exact ifT rfl (v w _ _ ⟨Pd,⟨fun _=>exSame_S.2 (.inl (hf.1 rfl)),fun _=>rfl⟩⟩)
    |false=>
     have u:¬Fi bad t (b'.1.g j):=fun g=>by cases hf.2 g
     refine P6 (Am ?_);rw[Bm2,Bm2];by_cases e:(bad.g t).Entry=(b'.1.g j).Entry
     .refine ifT (by simp[e]) (Am (v w _ _ ⟨Pd,?_⟩));rw[beq_iff_eq,exSame_S];exact⟨fun q=>.inr ⟨e,q⟩,fun q=>q.elim (fun q=>Pm q u) (fun q=>q.2)⟩
     refine ifF (by simpa using e) (v w _ _ ⟨Pd,⟨fun q=>(by cases q),fun q=>?_⟩⟩);rcases exSame_S.1 q with q|q
     .exact Pm q u
     exact Pm q.1 e
   obtain rfl:t=bad.n:=by omega
   refine Oj ?_;cases f with
   |false=>exact ifT rfl ⟨_,rfl,.inr ⟨rfl,a,⟨fun g=>(by cases g),fun g=>by cases hf.2 (g _ (Bp0.2 ⟨j,Bp3.2 a1,rfl⟩))⟩⟩⟩
   |true=>
    refine P6 (hk4 a1 _ ⟨Pd,fun q hq=>?_⟩);by_cases eq:q=j
    .subst eq;exact hf.1 rfl
    exact a0 q (by omega)
  obtain rfl:j=b'.1.n:=by omega
  refine Oj ⟨_,rfl,.inr ⟨rfl,a,⟨fun _ x hx=>?_,fun _=>rfl⟩⟩⟩;obtain⟨t,t1,rfl⟩:=Bp0.1 hx;exact a0 t (Bp3.1 t1)
 obtain⟨r,r1,r2⟩:=w1;obtain⟨r',r1',r2'⟩:=w2;rw[<- b3]at r2';obtain⟨u1,u2⟩:=AA1 r2 r2';rw[b5 m]at r2;exact⟨r,r',r1,r1',u1,u2,fun _=>r2,fun g=>Pm ha g⟩
end Go.AM
namespace Go.AM
open Go.Proofs
end Go.AM
